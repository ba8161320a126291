import PyProof.Rows.All
import Wide.All
import OpenK.AllK
import Wide.FinOn
import HandS.ForMost
import HandS.Walk
import HandS.Zip
import HandS.TupAny
import HandS.Deep
import HandS.IsInst
import HandS.Flow
import HandS.Star
import HandS.Exc
import HandS.ExcOwn
import HandS.TryOnly
import HandS.WordsExc
import HandS.Strs
import HandS.SetFor
import HandS.TupMul
import HandS.SortInts
import KE.OsSort
import PyProof.LongRange
import HandS.Conv
import KE.SortCalls
import HandS.Ends
import HandS.EndBits
import PySem.Challenge.RW_jumpfingers_k39_whole_lassos_counted_at
section
set_option Elab.async false
set_option linter.all false
set_option maxRecDepth 100000
set_option maxHeartbeats 2000000
/-! DLA: data, their places in memory, the monad of mirrors, the judgements over data -/
namespace DL
open PySem PySem.Spec PyProof.Rows L2

abbrev Tin := Int × Int × Int
/-- what stands still: the program, the world, the written part -/
structure Kc where
  P : Program
  w : World
  K : PySem.W.Frag
abbrev kc (X : Cx) : Kc := ⟨X.prog, X.w, X.K⟩
/-- data -/
inductive D where
  | non | bl (b : Bool) | int (i : Int) | str (x : Str) | tup (xs : List D) | lst (xs : List D) | scr (ns : List Int) | tin
/-- how a piece of code ends: a value, an own exception by its class's name, or outside of what is told -/
inductive R (α : Type) where
  | ok (a : α) (τ : Tin) | exc (e : Str) (τ : Tin) | no
def M (α : Type) : Type := Tin → R α
namespace M
variable {α β γ : Type}
def pure (a : α) : M α := fun τ => .ok a τ
def bind (x : M α) (f : α → M β) : M β := fun τ => match x τ with
  | .ok a τ1 => f a τ1
  | .exc e τ1 => .exc e τ1
  | .no => .no
def no : M α := fun _ => .no
def exc (e : Str) : M α := fun τ => .exc e τ
def lift : Option α → M α
  | some a => pure a
  | none => no
theorem pure_bind (a : α) (f : α → M β) : bind (pure a) f = f a := rfl
theorem bind_assoc (x : M α) (f : α → M β) (g : β → M γ) : bind (bind x f) g = bind x fun a => bind (f a) g := by
  funext τ
  unfold bind
  cases x τ <;> rfl
theorem bind_pure (x : M α) : bind x pure = x := by
  funext τ
  unfold bind pure
  cases x τ <;> rfl
theorem bind_ok {x : M α} {f : α → M β} {τ τ1 : Tin} {a : α} (h : x τ = .ok a τ1) : bind x f τ = f a τ1 := by
  unfold bind
  rw [h]
theorem no_bind (f : α → M β) : bind no f = no := rfl
theorem lift_some (a : α) : lift (some a) = pure a := rfl
theorem lift_none : lift (none : Option α) = no := rfl
end M

def wpR {α : Type} (r : R α) (P : α → Tin → Prop) (E : Str → Tin → Prop) : Prop := match r with
  | .ok a τ => P a τ
  | .exc e τ => E e τ
  | .no => False
section
variable {α β : Type} {P Q : α → Tin → Prop} {E F : Str → Tin → Prop} {τ : Tin}
theorem wpR_bind {x : M α} {f : α → M β} {P : β → Tin → Prop} (h : wpR (M.bind x f τ) P E) : wpR (x τ) (fun a τ1 => wpR (f a τ1) P E) E := by
  unfold M.bind at h
  cases e : x τ with
  | ok a τ1 => rw [e] at h; exact h
  | exc c τ1 => rw [e] at h; exact h
  | no => rw [e] at h; exact h
theorem wpR_mono {r : R α} (h : wpR r P E) (hp : ∀ a τ, P a τ → Q a τ) (he : ∀ e τ, E e τ → F e τ) : wpR r Q F := by
  cases r with
  | ok a τ1 => exact hp _ _ h
  | exc c τ1 => exact he _ _ h
  | no => exact h
theorem wpR_lift {o : Option α} (h : wpR (M.lift o τ) P E) : ∃ a, o = some a ∧ P a τ := by
  cases o with
  | none => exact h.elim
  | some a => exact ⟨a, rfl, h⟩
end

/-! ### how data lie -/
mutual
/-- d at v, by the part F of the heap that stays; T: where the drawing list stands -/
inductive Rep (κ : Kc) (T : Option Addr) (F : Hp) : V → D → Prop
  | non : Rep κ T F .non .non
  | bl (b : Bool) : Rep κ T F (.bl b) (.bl b)
  | int (i : Int) : Rep κ T F (.int i) (.int i)
  | str (x : Str) : Rep κ T F (.str x) (.str x)
  | tup {a : Addr} {vs : List V} {ds : List D} : SqT κ.K F a vs → RepAll κ T F vs ds → Rep κ T F (.ref a) (.tup ds)
  | lst {a : Addr} {vs : List V} {ds : List D} : F a = some (.lst vs) → RepAll κ T F vs ds → Rep κ T F (.ref a) (.lst ds)
  | scr {a : Addr} {ns : List Int} : SqL κ.K F a (ns.map V.int) → Rep κ T F (.ref a) (.scr ns)
  | tin {a : Addr} : T = some a → Rep κ T F (.ref a) .tin
inductive RepAll (κ : Kc) (T : Option Addr) (F : Hp) : List V → List D → Prop
  | nil : RepAll κ T F [] []
  | cons {v : V} {vs : List V} {d : D} {ds : List D} : Rep κ T F v d → RepAll κ T F vs ds → RepAll κ T F (v :: vs) (d :: ds)
end
section
variable {κ : Kc} {T : Option Addr} {F F' H H' : Hp} {a : Addr} {v : V} {vs : List V} {d : D} {ds : List D}
theorem seqT (e : Same H H') (h : SqT κ.K H a vs) : SqT κ.K H' a vs := by
  rcases h with (h | ⟨o, h⟩) | h
  · exact .inl (.inl (e _ _ h))
  · exact .inl (.inr ⟨o, e _ _ h⟩)
  · exact .inr h
mutual
theorem Rep.mono (h : Same F F') : ∀ {v : V} {d : D}, Rep κ T F v d → Rep κ T F' v d
  | _, _, .non => .non
  | _, _, .bl b => .bl b
  | _, _, .int i => .int i
  | _, _, .str x => .str x
  | _, _, .tup s r => .tup (seqT h s) (RepAll.mono h r)
  | _, _, .lst s r => .lst (h _ _ s) (RepAll.mono h r)
  | _, _, .scr s => .scr (h.seq s)
  | _, _, .tin e => .tin e
theorem RepAll.mono (h : Same F F') : ∀ {vs : List V} {ds : List D}, RepAll κ T F vs ds → RepAll κ T F' vs ds
  | _, _, .nil => .nil
  | _, _, .cons r t => .cons (Rep.mono h r) (RepAll.mono h t)
end
theorem RepAll.length : ∀ {vs : List V} {ds : List D}, RepAll κ T F vs ds → vs.length = ds.length
  | _, _, .nil => rfl
  | _, _, .cons _ t => by rw [List.length_cons, List.length_cons, RepAll.length t]
theorem RepAll.get : ∀ {vs : List V} {ds : List D} {i : Nat} {d : D}, RepAll κ T F vs ds → ds[i]? = some d → ∃ v, vs[i]? = some v ∧ Rep κ T F v d
  | _, _, _, _, .nil, e => by simp at e
  | _, _, 0, _, .cons r _, e => by simp at e; subst e; exact ⟨_, rfl, r⟩
  | _, _, i + 1, _, .cons _ t, e => by
    obtain ⟨v, h1, h2⟩ := RepAll.get (i := i) t (by simpa using e)
    exact ⟨v, by simpa using h1, h2⟩
theorem RepAll.get' : ∀ {vs : List V} {ds : List D} {i : Nat} {v : V}, RepAll κ T F vs ds → vs[i]? = some v → ∃ d, ds[i]? = some d ∧ Rep κ T F v d
  | _, _, _, _, .nil, e => by simp at e
  | _, _, 0, _, .cons r _, e => by simp at e; subst e; exact ⟨_, rfl, r⟩
  | _, _, i + 1, _, .cons _ t, e => by
    obtain ⟨v, h1, h2⟩ := RepAll.get' (i := i) t (by simpa using e)
    exact ⟨v, by simpa using h1, h2⟩
theorem RepAll.append : ∀ {vs ws : List V} {ds es : List D}, RepAll κ T F vs ds → RepAll κ T F ws es → RepAll κ T F (vs ++ ws) (ds ++ es)
  | _, _, _, _, .nil, s => s
  | _, _, _, _, .cons r t, s => .cons r (RepAll.append t s)
theorem RepAll.take : ∀ {vs : List V} {ds : List D} (n : Nat), RepAll κ T F vs ds → RepAll κ T F (vs.take n) (ds.take n)
  | _, _, 0, _ => by simp only [List.take_zero]; exact .nil
  | _, _, _ + 1, .nil => .nil
  | _, _, n + 1, .cons r t => .cons r (RepAll.take n t)
theorem RepAll.drop : ∀ {vs : List V} {ds : List D} (n : Nat), RepAll κ T F vs ds → RepAll κ T F (vs.drop n) (ds.drop n)
  | _, _, 0, r => by simpa using r
  | _, _, _ + 1, .nil => .nil
  | _, _, n + 1, .cons _ t => RepAll.drop n t
theorem RepAll.set : ∀ {vs : List V} {ds : List D} (i : Nat) {v : V} {d : D}, RepAll κ T F vs ds → Rep κ T F v d → RepAll κ T F (vs.set i v) (ds.set i d)
  | _, _, _, _, _, .nil, _ => .nil
  | _, _, 0, _, _, .cons _ t, q => .cons q t
  | _, _, i + 1, _, _, .cons r t, q => .cons r (RepAll.set i t q)
theorem RepAll.reverse : ∀ {vs : List V} {ds : List D}, RepAll κ T F vs ds → RepAll κ T F vs.reverse ds.reverse
  | _, _, .nil => .nil
  | _, _, .cons r t => by
    rw [List.reverse_cons, List.reverse_cons]
    exact RepAll.append (RepAll.reverse t) (.cons r .nil)
theorem RepAll.ints : ∀ {vs : List V} {ns : List Int}, RepAll κ T F vs (ns.map D.int) → vs = ns.map V.int
  | _, [], .nil => rfl
  | _, n :: ns, .cons r t => by
    cases r
    rw [List.map_cons, RepAll.ints t]
theorem repAll_ints : ∀ ns : List Int, RepAll κ T F (ns.map V.int) (ns.map D.int)
  | [] => .nil
  | n :: ns => .cons (.int n) (repAll_ints ns)
theorem RepAll.bls : ∀ {vs : List V} {bs : List Bool}, RepAll κ T F vs (bs.map D.bl) → vs = bs.map V.bl
  | _, [], .nil => rfl
  | _, n :: ns, .cons r t => by
    cases r
    rw [List.map_cons, RepAll.bls t]
end

/-- at the base: what stays is there, the drawing list is elsewhere -/
structure Bs (T : Option Addr) (F H : Hp) (τ : Tin) : Prop where
  le : Same F H
  tn : ∀ a, T = some a → F a = none ∧ H a = some (.lst [.int τ.1, .int τ.2.1, .int τ.2.2])
/-- what a piece of code does: all stays but the drawing list -/
structure Ext (T : Option Addr) (F H F' H' : Hp) (τ' : Tin) : Prop where
  keep : ∀ a o, H a = some o → T ≠ some a → H' a = some o
  le : Same F F'
  sub : Same F' H'
  new : ∀ a o, F' a = some o → F a = some o ∨ H a = none
  tn : ∀ a, T = some a → F' a = none ∧ H' a = some (.lst [.int τ'.1, .int τ'.2.1, .int τ'.2.2])
section
variable {κ : Kc} {T : Option Addr} {F H F' H' F1 H1 F2 H2 : Hp} {τ τ' τ1 τ2 : Tin}
theorem Bs.refl (b : Bs T F H τ) : Ext T F H F H τ := ⟨fun _ _ e _ => e, Same.refl F, b.le, fun _ _ e => .inl e, b.tn⟩
theorem Ext.bs (e : Ext T F H F' H' τ') : Bs T F' H' τ' := ⟨e.sub, e.tn⟩
theorem Ext.trans (a : Ext T F H F1 H1 τ1) (b : Ext T F1 H1 F2 H2 τ2) : Ext T F H F2 H2 τ2 where
  keep := fun c o q n => b.keep c o (a.keep c o q n) n
  le := a.le.trans b.le
  sub := b.sub
  new := fun c o q => by
    rcases b.new c o q with h | h
    · exact a.new c o h
    · refine .inr ?_
      cases e : H c with
      | none => rfl
      | some u =>
        by_cases ht : T = some c
        · rw [(a.tn c ht).2] at h; cases h
        · rw [a.keep c u e ht] at h; cases h
  tn := b.tn
/-- a new object p of what stays -/
theorem Bs.push (b : Bs T F H τ) {p : Addr} {o : HO} (hp : H p = none) : Ext T F H (upd F p o) (upd H p o) τ := by
  have hF : F p = none := Same.free b.le hp
  refine ⟨fun c u q _ => ?_, fun c u q => ?_, fun c u q => ?_, fun c u q => ?_, fun c q => ?_⟩
  · rw [upd_ne (ne_of_none q hp)]; exact q
  · rw [upd_ne (ne_of_none q hF)]; exact q
  · by_cases h : c = p
    · subst h; rw [upd_same] at q ⊢; exact q
    · rw [upd_ne h] at q ⊢; exact b.le _ _ q
  · by_cases h : c = p
    · subst h; exact .inr hp
    · rw [upd_ne h] at q; exact .inl q
  · obtain ⟨h1, h2⟩ := b.tn c q
    have h : c ≠ p := ne_of_none h2 hp
    exact ⟨by rw [upd_ne h]; exact h1, by rw [upd_ne h]; exact h2⟩
/-- a new object p that is not (yet) of what stays -/
theorem Bs.aside (b : Bs T F H τ) {p : Addr} {o : HO} (hp : H p = none) : Ext T F H F (upd H p o) τ := by
  refine ⟨fun c u q _ => ?_, Same.refl F, fun c u q => ?_, fun c u q => .inl q, fun c q => ?_⟩
  · rw [upd_ne (ne_of_none q hp)]; exact q
  · rw [upd_ne (ne_of_none (b.le _ _ q) hp)]; exact b.le _ _ q
  · obtain ⟨h1, h2⟩ := b.tn c q
    exact ⟨h1, by rw [upd_ne (ne_of_none h2 hp)]; exact h2⟩
end

/-- .. or a list that is not of what stays, with items that are -/
def RepTop (κ : Kc) (T : Option Addr) (F H : Hp) (v : V) (d : D) : Prop :=
  Rep κ T F v d ∨ ∃ (a : Addr) (vs : List V) (ds : List D), v = .ref a ∧ d = .lst ds ∧ H a = some (.lst vs) ∧ T ≠ some a ∧ RepAll κ T F vs ds
def RepM (m : Bool) (κ : Kc) (T : Option Addr) (F H : Hp) (v : V) (d : D) : Prop := match m with
  | false => Rep κ T F v d
  | true => RepTop κ T F H v d
inductive RepMs (m : Bool) (κ : Kc) (T : Option Addr) (F H : Hp) : List V → List D → Prop
  | nil : RepMs m κ T F H [] []
  | cons {v : V} {vs : List V} {d : D} {ds : List D} : RepM m κ T F H v d → RepMs m κ T F H vs ds → RepMs m κ T F H (v :: vs) (d :: ds)
section
variable {m : Bool} {κ : Kc} {T : Option Addr} {F H F' H' : Hp} {τ τ' : Tin} {v : V} {vs : List V} {d : D} {ds : List D}
theorem RepTop.ext (r : RepTop κ T F H v d) (e : Ext T F H F' H' τ') : RepTop κ T F' H' v d := by
  rcases r with r | ⟨a, vs, ds, h1, h2, h3, h4, h5⟩
  · exact .inl (r.mono e.le)
  · exact .inr ⟨a, vs, ds, h1, h2, e.keep _ _ h3 h4, h4, h5.mono e.le⟩
theorem RepM.ext (r : RepM m κ T F H v d) (e : Ext T F H F' H' τ') : RepM m κ T F' H' v d := by
  cases m with
  | false => exact Rep.mono e.le r
  | true => exact RepTop.ext r e
theorem RepMs.ext (e : Ext T F H F' H' τ') : ∀ {vs : List V} {ds : List D}, RepMs m κ T F H vs ds → RepMs m κ T F' H' vs ds
  | _, _, .nil => .nil
  | _, _, .cons r t => .cons (r.ext e) (RepMs.ext e t)
theorem repM (r : Rep κ T F v d) : RepM m κ T F H v d := by
  cases m with
  | false => exact r
  | true => exact .inl r
theorem RepM.top (r : RepM m κ T F H v d) : RepTop κ T F H v d := by
  cases m with
  | false => exact .inl r
  | true => exact r
theorem RepMs.all : ∀ {vs : List V} {ds : List D}, RepMs false κ T F H vs ds → RepAll κ T F vs ds
  | _, _, .nil => .nil
  | _, _, .cons r t => .cons r (RepMs.all t)
theorem RepMs.length : ∀ {vs : List V} {ds : List D}, RepMs m κ T F H vs ds → vs.length = ds.length
  | _, _, .nil => rfl
  | _, _, .cons _ t => by rw [List.length_cons, List.length_cons, RepMs.length t]
/-- in the whole heap -/
theorem RepTop.inH (r : RepTop κ T F H v d) (h : Same F H) : Rep κ T H v d := by
  rcases r with r | ⟨a, vs, ds, rfl, rfl, h3, h4, h5⟩
  · exact r.mono h
  · exact .lst h3 (h5.mono h)
theorem RepTop.lst (r : RepTop κ T F H v (.lst ds)) (h : Same F H) : ∃ (a : Addr) (vs : List V), v = .ref a ∧ H a = some (.lst vs) ∧ RepAll κ T F vs ds := by
  rcases r with r | ⟨a, vs, es, h1, h2, h3, h4, h5⟩
  · cases r with
    | lst h1 h2 => exact ⟨_, _, rfl, h _ _ h1, h2⟩
  · cases h2
    exact ⟨a, vs, h1, h3, h5⟩
theorem RepTop.tup (r : RepTop κ T F H v (.tup ds)) : ∃ (a : Addr) (vs : List V), v = .ref a ∧ SqT κ.K F a vs ∧ RepAll κ T F vs ds := by
  rcases r with r | ⟨a, vs, es, h1, h2, h3, h4, h5⟩
  · cases r with
    | tup h1 h2 => exact ⟨_, _, rfl, h1, h2⟩
  · cases h2
theorem RepTop.int {i : Int} (r : RepTop κ T F H v (.int i)) : v = .int i := by
  rcases r with r | ⟨a, vs, es, h1, h2, h3, h4, h5⟩
  · cases r; rfl
  · cases h2
theorem RepTop.bl {i : Bool} (r : RepTop κ T F H v (.bl i)) : v = .bl i := by
  rcases r with r | ⟨a, vs, es, h1, h2, h3, h4, h5⟩
  · cases r; rfl
  · cases h2
theorem RepTop.str {i : Str} (r : RepTop κ T F H v (.str i)) : v = .str i := by
  rcases r with r | ⟨a, vs, es, h1, h2, h3, h4, h5⟩
  · cases r; rfl
  · cases h2
theorem RepTop.non (r : RepTop κ T F H v .non) : v = .non := by
  rcases r with r | ⟨a, vs, es, h1, h2, h3, h4, h5⟩
  · cases r; rfl
  · cases h2
theorem RepTop.scr {ns : List Int} (r : RepTop κ T F H v (.scr ns)) : ∃ a, v = .ref a ∧ SqL κ.K F a (ns.map V.int) := by
  rcases r with r | ⟨a, vs, es, h1, h2, h3, h4, h5⟩
  · cases r with
    | scr h => exact ⟨_, rfl, h⟩
  · cases h2
end

/-! ### slots -/
inductive S where
  | un | d (d : D) | own (xs : List D)
abbrev Env := List S
def SlotOk (κ : Kc) (T : Option Addr) (F H : Hp) (v : Option V) : S → Prop
  | .un => True
  | .d d => ∃ x, v = some x ∧ Rep κ T F x d
  | .own ds => ∃ (a : Addr) (vs : List V), v = some (.ref a) ∧ H a = some (.lst vs) ∧ F a = none ∧ T ≠ some a ∧ RepAll κ T F vs ds
structure SR (κ : Kc) (T : Option Addr) (F H : Hp) (σ : L2.St) (ρ : Env) (τ : Tin) : Prop where
  bs : Bs T F H τ
  len : σ.length = ρ.length
  slot : ∀ (i : Nat) (s : S), ρ[i]? = some s → ∃ v, σ[i]? = some v ∧ SlotOk κ T F H v s
  apart : ∀ (i j : Nat) (xs ys : List D) (a : Addr), ρ[i]? = some (.own xs) → ρ[j]? = some (.own ys) → σ[i]? = some (some (.ref a)) → σ[j]? = some (some (.ref a)) → i = j
section
variable {κ : Kc} {T : Option Addr} {F H F' H' : Hp} {σ : L2.St} {ρ : Env} {τ τ' : Tin}
theorem SR.ext (s : SR κ T F H σ ρ τ) (e : Ext T F H F' H' τ') : SR κ T F' H' σ ρ τ' := by
  refine ⟨e.bs, s.len, fun i x h => ?_, s.apart⟩
  obtain ⟨v, hv, q⟩ := s.slot i x h
  refine ⟨v, hv, ?_⟩
  cases x with
  | un => trivial
  | d d => obtain ⟨x, h1, h2⟩ := q; exact ⟨x, h1, h2.mono e.le⟩
  | own ds =>
    obtain ⟨a, vs, h1, h2, h3, h4, h5⟩ := q
    refine ⟨a, vs, h1, e.keep _ _ h2 h4, ?_, h4, h5.mono e.le⟩
    cases q : F' a with
    | none => rfl
    | some o =>
      rcases e.new a o q with z | z
      · rw [h3] at z; cases z
      · rw [h2] at z; cases z
end

/-! ### judgements -/
/-- the exception of the class named e, as the wish W has it -/
def wX (mg : Str → Option Value) (W : WX) (T : Option Addr) (F H : Hp) (σ : L2.St) (e : Str) (τ' : Tin) : Prop :=
  ∀ F' H' cl, Ext T F H F' H' τ' → mg e = some cl → W cl none σ H'
def tD (κ : Kc) (mg : Str → Option Value) (W : WX) (m : Bool) (f : Env → M D) : TE := fun σ H Q => ∃ T F ρ τ, SR κ T F H σ ρ τ ∧
  wpR (f ρ τ) (fun d τ' => ∀ v F' H', Ext T F H F' H' τ' → RepM m κ T F' H' v d → Q v H') (wX mg W T F H σ)
def tDs (κ : Kc) (mg : Str → Option Value) (W : WX) (m : Bool) (f : Env → M (List D)) : TA := fun σ H Q => ∃ T F ρ τ, SR κ T F H σ ρ τ ∧
  wpR (f ρ τ) (fun ds τ' => ∀ vs F' H', Ext T F H F' H' τ' → RepMs m κ T F' H' vs ds → Q vs H') (wX mg W T F H σ)
def tDT (κ : Kc) (mg : Str → Option Value) (W : WX) (f : Env → M Bool) : TT := fun σ H Q => ∃ T F ρ τ, SR κ T F H σ ρ τ ∧
  wpR (f ρ τ) (fun b τ' => ∀ F' H', Ext T F H F' H' τ' → Q b H') (wX mg W T F H σ)
abbrev DE (X : Cx) (W : WX) (m : Bool) (e : Expr) (f : Env → M D) : Prop := PE X e (tD (kc X) X.mg W m f)
abbrev DA (X : Cx) (W : WX) (m : Bool) (es : List Expr) (f : Env → M (List D)) : Prop := PA X es (tDs (kc X) X.mg W m f)
abbrev DT (X : Cx) (W : WX) (e : Expr) (f : Env → M Bool) : Prop := PT X e (tDT (kc X) X.mg W f)
abbrev DW (X : Cx) (W : WX) (e : Expr) (f : Env → M Bool) : Prop := PW X e (tDT (kc X) X.mg W f)
theorem impPE {X : Cx} {e : Expr} {t t' : TE} (h : PE X e t) (i : ∀ σ H Q, t' σ H Q → t σ H Q) : PE X e t' := ⟨fun pins s σ H Q I q => h.run pins s σ H Q I (i σ H Q q)⟩
theorem impPT {X : Cx} {e : Expr} {t t' : TT} (h : PT X e t) (i : ∀ σ H Q, t' σ H Q → t σ H Q) : PT X e t' := ⟨fun pins s σ H Q I q => h.run pins s σ H Q I (i σ H Q q)⟩
theorem impPW {X : Cx} {e : Expr} {t t' : TT} (h : PW X e t) (i : ∀ σ H Q, t' σ H Q → t σ H Q) : PW X e t' := ⟨fun wh pins s σ H Q I q => h.run wh pins s σ H Q I (i σ H Q q)⟩
theorem impPA {X : Cx} {es : List Expr} {t t' : TA} (h : PA X es t) (i : ∀ σ H Q, t' σ H Q → t σ H Q) : PA X es t' := ⟨fun p pins s σ H Q I q => h.run p pins s σ H Q I (i σ H Q q)⟩
theorem impPS {X : Cx} {st : Stmt} {t t' : TS} (h : PS X st t) (i : ∀ D σ H, t' D σ H → t D σ H) : PS X st t' := ⟨fun pins s σ H D I q => h.run pins s σ H D I (i D σ H q)⟩
theorem impPSs {X : Cx} {st : List Stmt} {t t' : TS} (h : PSs X st t) (i : ∀ D σ H, t' D σ H → t D σ H) : PSs X st t' := ⟨fun pins s σ H D I q => h.run pins s σ H D I (i D σ H q)⟩
theorem impOpR {X : Cx} {f : Value → Value → Sem Value} {r r' : R2} (h : OpR X f r) (i : ∀ x y H Q, r' x y H Q → r x y H Q) : OpR X f r' := fun pins s σ H x y v u Q I rx ry q => h pins s σ H x y v u Q I rx ry (i x y H Q q)
theorem impCallR {X : Cx} {f : Value} {r r' : List V → Hp → VK → Prop} (h : CallR X f r) (i : ∀ xs H Q, r' xs H Q → r xs H Q) : CallR X f r' := fun pins s σ H xs us Q I rx q => h pins s σ H xs us Q I rx (i xs H Q q)
/-- an exception further on -/
theorem wX.ext {mg : Str → Option Value} {W : WX} {T : Option Addr} {F H F1 H1 : Hp} {σ : L2.St} {e : Str} {τ1 τ' : Tin} (x : Ext T F H F1 H1 τ1) (h : wX mg W T F H σ e τ') : wX mg W T F1 H1 σ e τ' :=
  fun F' H' cl y m => h F' H' cl (x.trans y) m
section
variable {X : Cx} {W : WX} {m : Bool} {e : Expr} {es : List Expr} {f : Env → M D}
theorem topD (h : DE X W m e f) : DE X W true e f := impPE h fun σ H Q ⟨T, F, ρ, τ, s, q⟩ =>
  ⟨T, F, ρ, τ, s, wpR_mono q (fun d τ' q v F' H' x r => q v F' H' x r.top) fun _ _ z => z⟩
end
end DL
end

section
set_option Elab.async false
set_option linter.all false
set_option maxRecDepth 100000
set_option maxHeartbeats 2000000
/-! DLB: expressions over data -/
namespace DL
open PySem PySem.Spec PyProof.Rows L2
section
variable {κ : Kc} {mg : Str → Option Value} {W : WX} {m : Bool} {T : Option Addr} {F H F1 H1 : Hp} {σ : L2.St} {ρ : Env} {τ τ1 : Tin} {α : Type}
theorem tD_mono {f : Env → M D} {Q Q' : VK} (h : tD κ mg W m f σ H Q) (i : ∀ v H, Q v H → Q' v H) : tD κ mg W m f σ H Q' := by
  obtain ⟨T, F, ρ, τ, s, q⟩ := h
  exact ⟨T, F, ρ, τ, s, wpR_mono q (fun d τ' q v F' H' x r => i _ _ (q v F' H' x r)) fun _ _ z => z⟩
theorem tDs_mono {f : Env → M (List D)} {Q Q' : List V → Hp → Prop} (h : tDs κ mg W m f σ H Q) (i : ∀ v H, Q v H → Q' v H) : tDs κ mg W m f σ H Q' := by
  obtain ⟨T, F, ρ, τ, s, q⟩ := h
  exact ⟨T, F, ρ, τ, s, wpR_mono q (fun d τ' q v F' H' x r => i _ _ (q v F' H' x r)) fun _ _ z => z⟩
theorem tDT_mono {f : Env → M Bool} {Q Q' : Bool → Hp → Prop} (h : tDT κ mg W f σ H Q) (i : ∀ v H, Q v H → Q' v H) : tDT κ mg W f σ H Q' := by
  obtain ⟨T, F, ρ, τ, s, q⟩ := h
  exact ⟨T, F, ρ, τ, s, wpR_mono q (fun d τ' q F' H' x => i _ _ (q F' H' x)) fun _ _ z => z⟩
/-- the first of two pieces runs; what is left of the second -/
theorem tD_of {f : Env → M D} {k : D → M α} {P : α → Tin → Prop} (s : SR κ T F1 H1 σ ρ τ1) (x : Ext T F H F1 H1 τ1) (h : wpR (M.bind (f ρ) k τ1) P (wX mg W T F H σ)) :
    tD κ mg W m f σ H1 (fun v H2 => ∃ F2 τ2 d, Ext T F H F2 H2 τ2 ∧ Ext T F1 H1 F2 H2 τ2 ∧ SR κ T F2 H2 σ ρ τ2 ∧ RepM m κ T F2 H2 v d ∧ wpR (k d τ2) P (wX mg W T F H σ)) :=
  ⟨T, F1, ρ, τ1, s, wpR_mono (wpR_bind h) (fun d τ2 q v F2 H2 y r => ⟨F2, τ2, d, x.trans y, y, s.ext y, r, q⟩) fun _ _ z => z.ext x⟩
theorem tDs_of {f : Env → M (List D)} {k : List D → M α} {P : α → Tin → Prop} (s : SR κ T F1 H1 σ ρ τ1) (x : Ext T F H F1 H1 τ1) (h : wpR (M.bind (f ρ) k τ1) P (wX mg W T F H σ)) :
    tDs κ mg W m f σ H1 (fun v H2 => ∃ F2 τ2 d, Ext T F H F2 H2 τ2 ∧ Ext T F1 H1 F2 H2 τ2 ∧ SR κ T F2 H2 σ ρ τ2 ∧ RepMs m κ T F2 H2 v d ∧ wpR (k d τ2) P (wX mg W T F H σ)) :=
  ⟨T, F1, ρ, τ1, s, wpR_mono (wpR_bind h) (fun d τ2 q v F2 H2 y r => ⟨F2, τ2, d, x.trans y, y, s.ext y, r, q⟩) fun _ _ z => z.ext x⟩
theorem tDT_of {f : Env → M Bool} {k : Bool → M α} {P : α → Tin → Prop} (s : SR κ T F1 H1 σ ρ τ1) (x : Ext T F H F1 H1 τ1) (h : wpR (M.bind (f ρ) k τ1) P (wX mg W T F H σ)) :
    tDT κ mg W f σ H1 (fun b H2 => ∃ F2 τ2, Ext T F H F2 H2 τ2 ∧ Ext T F1 H1 F2 H2 τ2 ∧ SR κ T F2 H2 σ ρ τ2 ∧ wpR (k b τ2) P (wX mg W T F H σ)) :=
  ⟨T, F1, ρ, τ1, s, wpR_mono (wpR_bind h) (fun b τ2 q F2 H2 y => ⟨F2, τ2, x.trans y, y, s.ext y, q⟩) fun _ _ z => z.ext x⟩
/-- the last piece: its end is the whole's end -/
theorem tD_fin {f : Env → M D} {Q : VK} (s : SR κ T F1 H1 σ ρ τ1) (x : Ext T F H F1 H1 τ1)
    (h : wpR (f ρ τ1) (fun d τ' => ∀ v F' H', Ext T F H F' H' τ' → RepM m κ T F' H' v d → Q v H') (wX mg W T F H σ)) : tD κ mg W m f σ H1 Q :=
  ⟨T, F1, ρ, τ1, s, wpR_mono h (fun d τ2 q v F2 H2 y r => q v F2 H2 (x.trans y) r) fun _ _ z => z.ext x⟩
theorem tDs_fin {f : Env → M (List D)} {Q : List V → Hp → Prop} (s : SR κ T F1 H1 σ ρ τ1) (x : Ext T F H F1 H1 τ1)
    (h : wpR (f ρ τ1) (fun d τ' => ∀ v F' H', Ext T F H F' H' τ' → RepMs m κ T F' H' v d → Q v H') (wX mg W T F H σ)) : tDs κ mg W m f σ H1 Q :=
  ⟨T, F1, ρ, τ1, s, wpR_mono h (fun d τ2 q v F2 H2 y r => q v F2 H2 (x.trans y) r) fun _ _ z => z.ext x⟩
theorem tDT_fin {f : Env → M Bool} {Q : Bool → Hp → Prop} (s : SR κ T F1 H1 σ ρ τ1) (x : Ext T F H F1 H1 τ1)
    (h : wpR (f ρ τ1) (fun b τ' => ∀ F' H', Ext T F H F' H' τ' → Q b H') (wX mg W T F H σ)) : tDT κ mg W f σ H1 Q :=
  ⟨T, F1, ρ, τ1, s, wpR_mono h (fun d τ2 q F2 H2 y => q F2 H2 (x.trans y)) fun _ _ z => z.ext x⟩
end

/-! ### names, constants -/
def dVar (i : Nat) : Env → M D := fun ρ => match ρ[i]? with
  | some (.d d) => M.pure d
  | _ => M.no
def dTop (i : Nat) : Env → M D := fun ρ => match ρ[i]? with
  | some (.d d) => M.pure d
  | some (.own xs) => M.pure (.lst xs)
  | _ => M.no
def dC (d : D) : Env → M D := fun _ => M.pure d
section
variable {X : Cx} {W : WX} {m : Bool} {a b c e : Expr} {es rest : List Expr} {fa fb fc : Env → M D} {fs gs : Env → M (List D)} {ft fu : Env → M Bool} {pos : Pos}
theorem de_of_c {d : D} {v : V} (h : PE X e (tC v)) (r : ∀ T F, Rep (kc X) T F v d) : DE X W m e (dC d) := impPE h fun σ H Q ⟨T, F, ρ, τ, s, q⟩ => by
  have q : ∀ v F' H', Ext T F H F' H' τ → RepM m (kc X) T F' H' v d → Q v H' := q
  exact q v F H s.bs.refl (repM (r T F))
theorem de_int {i : Int} {j} : DE X W m (.Constant (.int i) j pos) (dC (.int i)) := de_of_c pe_int fun _ _ => .int i
theorem de_bl {i : Bool} {j} : DE X W m (.Constant (.bool i) j pos) (dC (.bl i)) := de_of_c pe_bl fun _ _ => .bl i
theorem de_non {j} : DE X W m (.Constant .none j pos) (dC .non) := de_of_c pe_non fun _ _ => .non
theorem de_str {x : Str} {j} : DE X W m (.Constant (.str x) j pos) (dC (.str x)) := de_of_c pe_str fun _ _ => .str x
theorem de_glob {x : Str} {v : V} {d : D} {u : Value} (hg : Gl X x) (hm : X.mg x = some u) (r : RelV v u) (q : ∀ T F, Rep (kc X) T F v d) (hd : (x == ("__debug__" : Str)) = false := by decide) : DE X W m (.Name x pos) (dC d) :=
  de_of_c (pe_glob hg hm r hd) q
theorem de_var (i : Nat) {x : Str} (hN : X.N[i]? = some x := by rfl) (hv : Vis X.env.scope x := by first | exact Or.inl rfl | exact Or.inr (Or.inl rfl) | exact Or.inr (Or.inr rfl)) (hd : (x == ("__debug__" : Str)) = false := by decide)
    (hcd : (x == ("__classdict__" : Str)) = false := by decide) : DE X W m (.Name x pos) (dVar i) := impPE (pe_var hN hv hd hcd) fun σ H Q ⟨T, F, ρ, τ, s, q⟩ => by
  unfold dVar at q
  cases hs : ρ[i]? with
  | none => rw [hs] at q; exact q.elim
  | some u =>
    rw [hs] at q
    cases u with
    | d d =>
      obtain ⟨v, hv, x, rfl, r⟩ := s.slot i _ hs
      exact ⟨x, hv, q x F H s.bs.refl (repM r)⟩
    | _ => exact q.elim
theorem de_top (i : Nat) {x : Str} (hN : X.N[i]? = some x := by rfl) (hv : Vis X.env.scope x := by first | exact Or.inl rfl | exact Or.inr (Or.inl rfl) | exact Or.inr (Or.inr rfl)) (hd : (x == ("__debug__" : Str)) = false := by decide)
    (hcd : (x == ("__classdict__" : Str)) = false := by decide) : DE X W true (.Name x pos) (dTop i) := impPE (pe_var hN hv hd hcd) fun σ H Q ⟨T, F, ρ, τ, s, q⟩ => by
  unfold dTop at q
  cases hs : ρ[i]? with
  | none => rw [hs] at q; exact q.elim
  | some u =>
    rw [hs] at q
    cases u with
    | d d =>
      obtain ⟨v, hv, x, rfl, r⟩ := s.slot i _ hs
      exact ⟨x, hv, q x F H s.bs.refl (repM r)⟩
    | own ds =>
      obtain ⟨v, hv, a, vs, rfl, h2, h3, h4, h5⟩ := s.slot i _ hs
      exact ⟨_, hv, q _ F H s.bs.refl (.inr ⟨a, vs, ds, rfl, rfl, h2, h4, h5⟩)⟩
    | un => exact q.elim

/-! ### operators -/
/-- an operator on data -/
def rD2 (κ : Kc) (g : D → D → Option D) : R2 := fun x y H Q => ∃ T F τ d e, Bs T F H τ ∧ RepTop κ T F H x d ∧ RepTop κ T F H y e ∧
  ∃ r, g d e = some r ∧ ∀ v F' H', Ext T F H F' H' τ → Rep κ T F' v r → Q v H'
def dOp (g : D → D → Option D) (fa fb : Env → M D) : Env → M D := fun ρ => M.bind (fa ρ) fun x => M.bind (fb ρ) fun y => M.lift (g x y)
theorem tOp_of {g : D → D → Option D} {σ : L2.St} {H : Hp} {Q : VK} (q : tD (kc X) X.mg W m (dOp g fa fb) σ H Q) :
    tOp (rD2 (kc X) g) (tD (kc X) X.mg W true fa) (tD (kc X) X.mg W true fb) σ H Q := by
  obtain ⟨T, F, ρ, τ, s, q⟩ := q
  refine tD_mono (tD_of s s.bs.refl q) fun x H1 ⟨F1, τ1, d, x1, y1, s1, r1, q1⟩ => ?_
  refine tD_mono (tD_of s1 x1 q1) fun y H2 ⟨F2, τ2, e, x2, y2, s2, r2, q2⟩ => ?_
  obtain ⟨r, e1, q3⟩ := wpR_lift q2
  exact ⟨T, F2, τ2, d, e, s2.bs, r1.top.ext y2, r2.top, r, e1, fun v F' H' x3 rv => q3 v F' H' (x2.trans x3) (repM rv)⟩
theorem de_op {op : Operator} {g : D → D → Option D} (ho : OpR X (binaryOp op) (rD2 (kc X) g)) (ha : DE X W true a fa) (hb : DE X W true b fb) : DE X W m (.BinOp a op b pos) (dOp g fa fb) :=
  impPE (pe_op ho ha hb) fun σ H Q q => tOp_of q
theorem de_cmp {op : CmpOp} {g : D → D → Option D} (ho : OpR X (compareOp op) (rD2 (kc X) g)) (ha : DE X W true a fa) (hb : DE X W true b fb) (hm : behindInMarks op b = false) : DE X W m (.Compare a [op] [b] pos) (dOp g fa fb) :=
  impPE (pe_cmpR ho ha hb hm) fun σ H Q q => tOp_of q
def toB : D → M Bool
  | .bl b => M.pure b
  | _ => M.no
def dB (f : Env → M D) : Env → M Bool := fun ρ => M.bind (f ρ) toB
theorem dB_of {f : Env → M D} {σ : L2.St} {H : Hp} {Q : Bool → Hp → Prop} (q : tDT (kc X) X.mg W (dB f) σ H Q) : tD (kc X) X.mg W false f σ H fun x H' => ∃ k, x = .bl k ∧ Q k H' := by
  obtain ⟨T, F, ρ, τ, s, q⟩ := q
  refine tD_mono (tD_of (m := false) s s.bs.refl q) fun x H1 ⟨F1, τ1, d, x1, y1, s1, r1, q1⟩ => ?_
  cases r1 with
  | bl b => exact ⟨b, rfl, q1 F1 H1 x1⟩
  | _ => exact q1.elim
theorem dt_cmp {op : CmpOp} {g : D → D → Option D} (ho : OpR X (compareOp op) (rD2 (kc X) g)) (ha : DE X W true a fa) (hb : DE X W true b fb) (hm : behindInMarks op b = false) : DT X W (.Compare a [op] [b] pos) (dB (dOp g fa fb)) :=
  impPT (pt_cmpR ho ha hb hm) fun σ H Q q => tOp_of (dB_of q)
theorem dt_val (h : DE X W false e fa) (he : ∀ whole, isTrue e X.env whole = (do let v ← whole; standAt e.pos; holding [v] (truthy v)) := by intro _; rfl) : DT X W e (dB fa) :=
  impPT (pt_val h he) fun σ H Q q => dB_of q
def dChain (g g' : D → D → Option D) (fa fb fc : Env → M D) : Env → M D := fun ρ => M.bind (fa ρ) fun x => M.bind (fb ρ) fun y => M.bind (M.lift (g x y)) fun r => M.bind (toB r) fun k =>
  if k = true then M.bind (fc ρ) fun z => M.lift (g' y z) else M.pure (.bl false)
theorem tChain_of {g g' : D → D → Option D} {σ : L2.St} {H : Hp} {Q : VK} (q : tD (kc X) X.mg W m (dChain g g' fa fb fc) σ H Q) :
    tChain (rD2 (kc X) g) (rD2 (kc X) g') (tD (kc X) X.mg W true fa) (tD (kc X) X.mg W true fb) (tD (kc X) X.mg W true fc) σ H Q := by
  obtain ⟨T, F, ρ, τ, s, q⟩ := q
  refine tD_mono (tD_of s s.bs.refl q) fun x H1 ⟨F1, τ1, d, x1, y1, s1, r1, q1⟩ => ?_
  refine tD_mono (tD_of s1 x1 q1) fun y H2 ⟨F2, τ2, e, x2, y2, s2, r2, q2⟩ => ?_
  obtain ⟨r, e1, q3⟩ := wpR_lift (wpR_bind q2)
  refine ⟨T, F2, τ2, d, e, s2.bs, r1.top.ext y2, r2.top, r, e1, fun v F3 H3 x3 rv => ?_⟩
  have q4 := wpR_bind q3
  cases rv with
  | bl k =>
    have q5 : wpR ((if k = true then M.bind (fc ρ) fun z => M.lift (g' e z) else M.pure (.bl false)) τ2) _ _ := q4
    refine ⟨k, rfl, ?_⟩
    cases k with
    | false =>
      exact q5 _ F3 H3 (x2.trans x3) (repM (.bl false))
    | true =>
      refine tD_mono (tD_of (s2.ext x3) (x2.trans x3) q5) fun z H4 ⟨F4, τ4, d4, x4, y4, s4, r4, q6⟩ => ?_
      obtain ⟨r5, e5, q7⟩ := wpR_lift q6
      exact ⟨T, F4, τ4, e, d4, s4.bs, (r2.top.ext x3).ext y4, r4.top, r5, e5, fun v F' H' x5 rv => q7 v F' H' (x4.trans x5) (repM rv)⟩
  | _ => exact q4.elim
theorem de_chain {op op' : CmpOp} {g g' : D → D → Option D} (ho : OpR X (compareOp op) (rD2 (kc X) g)) (ho' : OpR X (compareOp op') (rD2 (kc X) g')) (ha : DE X W true a fa) (hb : DE X W true b fb) (hc : DE X W true c fc)
    (hm : lastMarks [op, op'] [b, c] = false := by with_unfolding_all rfl) : DE X W m (.Compare a [op, op'] [b, c] pos) (dChain g g' fa fb fc) :=
  impPE (pe_chain ho ho' ha hb hc hm) fun σ H Q q => tChain_of q
theorem dt_chain {op op' : CmpOp} {g g' : D → D → Option D} (ho : OpR X (compareOp op) (rD2 (kc X) g)) (ho' : OpR X (compareOp op') (rD2 (kc X) g')) (ha : DE X W true a fa) (hb : DE X W true b fb) (hc : DE X W true c fc)
    (hm : lastMarks [op, op'] [b, c] = false := by with_unfolding_all rfl) : DT X W (.Compare a [op, op'] [b, c] pos) (dB (dChain g g' fa fb fc)) :=
  impPT (pt_chain ho ho' ha hb hc hm) fun σ H Q q => tChain_of (dB_of q)

/-! ### and, or, not, if -/
def bAnd (ft fu : Env → M Bool) : Env → M Bool := fun ρ => M.bind (ft ρ) fun c => if c = true then fu ρ else M.pure false
def bOr (ft fu : Env → M Bool) : Env → M Bool := fun ρ => M.bind (ft ρ) fun c => if c = true then M.pure true else fu ρ
def bNot (ft : Env → M Bool) : Env → M Bool := fun ρ => M.bind (ft ρ) fun c => M.pure (!c)
theorem dw_and1 (ha : DT X W a ft) : DW X W (.BoolOp .And [a] pos) ft := pw_and1 ha
theorem dw_or1 (ha : DT X W a ft) : DW X W (.BoolOp .Or [a] pos) ft := pw_or1 ha
theorem dw_and (ha : DT X W a ft) (hb : DW X W (.BoolOp .And (b :: rest) pos) fu) : DW X W (.BoolOp .And (a :: b :: rest) pos) (bAnd ft fu) :=
  impPW (pw_and ha hb) fun σ H Q ⟨T, F, ρ, τ, s, q⟩ => by
    refine tDT_mono (tDT_of s s.bs.refl q) fun c H1 ⟨F1, τ1, x1, y1, s1, q1⟩ => ?_
    cases c with
    | true => exact tDT_fin s1 x1 q1
    | false => exact q1 F1 H1 x1
theorem dw_or (ha : DT X W a ft) (hb : DW X W (.BoolOp .Or (b :: rest) pos) fu) : DW X W (.BoolOp .Or (a :: b :: rest) pos) (bOr ft fu) :=
  impPW (pw_or ha hb) fun σ H Q ⟨T, F, ρ, τ, s, q⟩ => by
    refine tDT_mono (tDT_of s s.bs.refl q) fun c H1 ⟨F1, τ1, x1, y1, s1, q1⟩ => ?_
    cases c with
    | false => exact tDT_fin s1 x1 q1
    | true => exact q1 F1 H1 x1
theorem dt_not (ha : DT X W a ft) : DT X W (.UnaryOp .Not a pos) (bNot ft) :=
  impPT (pt_not ha) fun σ H Q ⟨T, F, ρ, τ, s, q⟩ => tDT_mono (tDT_of s s.bs.refl q) fun c H1 ⟨F1, τ1, x1, y1, s1, q1⟩ => q1 F1 H1 x1
def dAnd (fa fb : Env → M D) : Env → M D := fun ρ => M.bind (fa ρ) fun x => M.bind (toB x) fun c => if c = true then fb ρ else M.pure (.bl false)
def dOr (fa fb : Env → M D) : Env → M D := fun ρ => M.bind (fa ρ) fun x => M.bind (toB x) fun c => if c = true then M.pure (.bl true) else fb ρ
def dNot (fa : Env → M D) : Env → M D := fun ρ => M.bind (fa ρ) fun x => M.bind (toB x) fun c => M.pure (.bl (!c))
theorem de_one {op} (h : DE X W m a fa) : DE X W m (.BoolOp op [a] pos) fa := pe_one h
theorem de_and (ha : DE X W false a fa) (hb : DE X W m (.BoolOp .And (b :: rest) pos) fb) : DE X W m (.BoolOp .And (a :: b :: rest) pos) (dAnd fa fb) :=
  impPE (pe_and ha hb) fun σ H Q ⟨T, F, ρ, τ, s, q⟩ => by
    refine tD_mono (tD_of (m := false) s s.bs.refl q) fun x H1 ⟨F1, τ1, d, x1, y1, s1, r1, q1⟩ => ?_
    cases r1 with
    | bl c =>
      refine ⟨c, rfl, ?_⟩
      cases c with
      | true => exact tD_fin s1 x1 q1
      | false => exact q1 _ F1 H1 x1 (repM (.bl false))
    | _ => exact q1.elim
theorem de_or (ha : DE X W false a fa) (hb : DE X W m (.BoolOp .Or (b :: rest) pos) fb) : DE X W m (.BoolOp .Or (a :: b :: rest) pos) (dOr fa fb) :=
  impPE (pe_or ha hb) fun σ H Q ⟨T, F, ρ, τ, s, q⟩ => by
    refine tD_mono (tD_of (m := false) s s.bs.refl q) fun x H1 ⟨F1, τ1, d, x1, y1, s1, r1, q1⟩ => ?_
    cases r1 with
    | bl c =>
      refine ⟨c, rfl, ?_⟩
      cases c with
      | false => exact tD_fin s1 x1 q1
      | true => exact q1 _ F1 H1 x1 (repM (.bl true))
    | _ => exact q1.elim
theorem de_not (ha : DE X W false a fa) : DE X W m (.UnaryOp .Not a pos) (dNot fa) :=
  impPE (pe_not ha) fun σ H Q ⟨T, F, ρ, τ, s, q⟩ => by
    refine tD_mono (tD_of (m := false) s s.bs.refl q) fun x H1 ⟨F1, τ1, d, x1, y1, s1, r1, q1⟩ => ?_
    cases r1 with
    | bl c => exact ⟨c, rfl, q1 _ F1 H1 x1 (repM (.bl _))⟩
    | _ => exact q1.elim
def dIf (ft : Env → M Bool) (fa fb : Env → M D) : Env → M D := fun ρ => M.bind (ft ρ) fun c => if c = true then fa ρ else fb ρ
theorem de_if (hc : DT X W c ft) (ha : DE X W m a fa) (hb : DE X W m b fb) : DE X W m (.IfExp c a b pos) (dIf ft fa fb) :=
  impPE (pe_ifExp hc ha hb) fun σ H Q ⟨T, F, ρ, τ, s, q⟩ => by
    refine tDT_mono (tDT_of s s.bs.refl q) fun c H1 ⟨F1, τ1, x1, y1, s1, q1⟩ => ?_
    cases c with
    | true => exact tD_fin s1 x1 q1
    | false => exact tD_fin s1 x1 q1

/-! ### argument lists, displays -/
def aNil : Env → M (List D) := fun _ => M.pure []
def aCons (fa : Env → M D) (fs : Env → M (List D)) : Env → M (List D) := fun ρ => M.bind (fa ρ) fun x => M.bind (fs ρ) fun xs => M.pure (x :: xs)
def itemsD : D → Option (List D)
  | .tup xs => some xs
  | .lst xs => some xs
  | _ => none
def aStar (fa : Env → M D) (fs : Env → M (List D)) : Env → M (List D) := fun ρ => M.bind (fa ρ) fun x => M.bind (M.lift (itemsD x)) fun ys => M.bind (fs ρ) fun xs => M.pure (ys ++ xs)
theorem da_nil : DA X W m [] aNil := impPA pa_nil fun σ H Q ⟨T, F, ρ, τ, s, q⟩ => by
  have q : ∀ vs F' H', Ext T F H F' H' τ → RepMs m (kc X) T F' H' vs [] → Q vs H' := q
  exact q [] F H s.bs.refl .nil
theorem da_cons (ha : DE X W m e fa) (hr : DA X W m es fs) (hs : starEach (e :: es) X.env = (false, eval e X.env) :: starEach es X.env := by rfl) : DA X W m (e :: es) (aCons fa fs) :=
  impPA (pa_cons ha hr hs) fun σ H Q ⟨T, F, ρ, τ, s, q⟩ => by
    refine tD_mono (tD_of s s.bs.refl q) fun x H1 ⟨F1, τ1, d, x1, y1, s1, r1, q1⟩ => ?_
    refine tDs_mono (tDs_of s1 x1 q1) fun xs H2 ⟨F2, τ2, ds, x2, y2, s2, r2, q2⟩ => ?_
    exact q2 _ F2 H2 x2 (.cons (r1.ext y2) r2)
theorem RepMs.append {κ : Kc} {T : Option Addr} {F H : Hp} {m : Bool} : ∀ {vs ws : List V} {ds es : List D}, RepAll κ T F vs ds → RepMs m κ T F H ws es → RepMs m κ T F H (vs ++ ws) (ds ++ es)
  | _, _, _, _, .nil, s => s
  | _, _, _, _, .cons r t, s => .cons (repM r) (RepMs.append t s)
theorem da_star {p : Pos} (ha : DE X W true e fa) (hr : DA X W m es fs) (hs : starEach (.Starred e p :: es) X.env = (true, eval e X.env) :: starEach es X.env := by rfl) : DA X W m (.Starred e p :: es) (aStar fa fs) :=
  impPA (StX.pa_star ha hr hs) fun σ H Q ⟨T, F, ρ, τ, s, q⟩ => by
    refine tD_mono (tD_of (m := true) s s.bs.refl q) fun x H1 ⟨F1, τ1, d, x1, y1, s1, r1, q1⟩ => ?_
    obtain ⟨ys, e1, q2⟩ := wpR_lift (wpR_bind q1)
    have go : ∀ (a : Addr) (vs : List V), SqT X.K H1 a vs ∨ SqL X.K H1 a vs → RepAll (kc X) T F1 vs ys → x = .ref a →
        ∃ (a : Addr) (xs : List V), x = V.ref a ∧ (SqT X.K H1 a xs ∨ SqL X.K H1 a xs) ∧ tDs (kc X) X.mg W m fs σ H1 fun vs H2 => Q (xs ++ vs) H2 := fun a vs hq rv ex => by
      refine ⟨a, vs, ex, hq, tDs_mono (tDs_of s1 x1 q2) fun xs H2 ⟨F2, τ2, ds, x2, y2, s2, r2, q3⟩ => ?_⟩
      exact q3 _ F2 H2 x2 (RepMs.append (rv.mono y2.le) r2)
    cases d with
    | tup ds =>
      cases e1
      obtain ⟨a, vs, ex, hq, rv⟩ := RepTop.tup r1
      exact go a vs (.inl (seqT s1.bs.le hq)) rv ex
    | lst ds =>
      cases e1
      obtain ⟨a, vs, ex, hq, rv⟩ := RepTop.lst r1 s1.bs.le
      exact go a vs (.inr (SqL.of hq)) rv ex
    | _ => cases e1
def fits (xs : List D) : Bool := decide (xs.length ≤ sizeLine)
def dTup (fs : Env → M (List D)) : Env → M D := fun ρ => M.bind (fs ρ) fun xs => if fits xs = true then M.pure (.tup xs) else M.no
def dLst (fs : Env → M (List D)) : Env → M D := fun ρ => M.bind (fs ρ) fun xs => if fits xs = true then M.pure (.lst xs) else M.no
theorem fits_le {xs : List D} (h : fits xs = true) : xs.length ≤ sizeLine := of_decide_eq_true h
theorem de_tup {k} (h : DA X W false es fs) : DE X W m (.Tuple es k pos) (dTup fs) :=
  impPE (pe_tup h) fun σ H Q ⟨T, F, ρ, τ, s, q⟩ => by
    refine tDs_mono (tDs_of (m := false) s s.bs.refl q) fun xs H1 ⟨F1, τ1, ds, x1, y1, s1, r1, q1⟩ => ?_
    split at q1
    · rename_i hf
      refine ⟨by rw [r1.length]; exact fits_le hf, fun p hp => ?_⟩
      have x2 := s1.bs.push (o := .tup xs) hp
      exact q1 _ _ _ (x1.trans x2) (repM (.tup (SqT.of upd_same) (r1.all.mono x2.le)))
    · exact q1.elim
theorem de_lst (h : DA X W false es fs) : DE X W m (.List es pos) (dLst fs) :=
  impPE (pe_lst h) fun σ H Q ⟨T, F, ρ, τ, s, q⟩ => by
    refine tDs_mono (tDs_of (m := false) s s.bs.refl q) fun xs H1 ⟨F1, τ1, ds, x1, y1, s1, r1, q1⟩ => ?_
    split at q1
    · rename_i hf
      refine ⟨by rw [r1.length]; exact fits_le hf, fun p hp => ?_⟩
      have x2 := s1.bs.push (o := .lst xs) hp
      exact q1 _ _ _ (x1.trans x2) (repM (.lst upd_same (r1.all.mono x2.le)))
    · exact q1.elim
end
end DL
end

section
set_option Elab.async false
set_option linter.all false
set_option maxRecDepth 100000
set_option maxHeartbeats 2000000
/-! DLC: operators on data -/
namespace DL
open PySem PySem.Spec PyProof.Rows L2
mutual
def toP : D → Option PyData
  | .non => some .none
  | .bl b => some (.bool b)
  | .int i => some (.int i)
  | .str x => some (.str x)
  | .tup xs => (toPs xs).map .tuple
  | .lst xs => (toPs xs).map .list
  | .scr _ => none
  | .tin => none
def toPs : List D → Option (List PyData)
  | [] => some []
  | x :: xs => match toP x, toPs xs with
    | some p, some ps => some (p :: ps)
    | _, _ => none
end
section
variable {κ : Kc} {T : Option Addr} {F : Hp}
mutual
theorem Rep.dp : ∀ {v : V} {d : D} {p : PyData}, Rep κ T F v d → toP d = some p → Dp κ.K F v p
  | _, _, _, .non, h => by cases h; exact .non
  | _, _, _, .bl b, h => by cases h; exact .bl b
  | _, _, _, .int b, h => by cases h; exact .int b
  | _, _, _, .str b, h => by cases h; exact .str b
  | _, .tup ds, p, .tup s r, h => by
    rw [toP] at h
    cases e : toPs ds with
    | none => rw [e] at h; cases h
    | some ps => rw [e] at h; cases h; exact .tup s (RepAll.dp r e)
  | _, .lst ds, p, .lst s r, h => by
    rw [toP] at h
    cases e : toPs ds with
    | none => rw [e] at h; cases h
    | some ps => rw [e] at h; cases h; exact .lst (SqL.of s) (RepAll.dp r e)
  | _, _, _, .scr s, h => by rw [toP] at h; cases h
  | _, _, _, .tin s, h => by rw [toP] at h; cases h
theorem RepAll.dp : ∀ {vs : List V} {ds : List D} {ps : List PyData}, RepAll κ T F vs ds → toPs ds = some ps → DpAll κ.K F vs ps
  | _, _, _, .nil, h => by cases h; exact .nil
  | _, d :: ds, ps, .cons r t, h => by
    rw [toPs] at h
    cases e : toP d with
    | none => rw [e] at h; cases h
    | some p =>
      cases e2 : toPs ds with
      | none => rw [e, e2] at h; cases h
      | some qs => rw [e, e2] at h; cases h; exact .cons (Rep.dp r e) (RepAll.dp t e2)
end
end
/-- how deep two data may lie to be compared -/
def deepest : Nat := 150
def okP (p q : PyData) : Bool := p.canLay0 && q.canLay0 && decide (min p.depth q.depth ≤ deepest)
def eqB (d e : D) : Option Bool := match toP d, toP e with
  | some p, some q => if okP p q = true then some (PyData.eqv p q) else none
  | _, _ => none
def eqD (d e : D) : Option D := (eqB d e).map .bl
def neD (d e : D) : Option D := (eqB d e).map fun b => .bl (!b)
def okIn (xs : List PyData) (d : PyData) : Bool := PyData.canLayAll0 xs && d.canLay0 && decide (min (PyData.depthAll xs) d.depth ≤ deepest)
def inL (d : D) (es : List D) : Option Bool := match toP d, toPs es with
  | some p, some ps => if okIn ps p = true then some (ps.any fun y => PyData.eqv y p) else none
  | _, _ => none
def inB (d : D) (e : D) : Option Bool := match itemsD e with
  | some es => inL d es
  | none => none
def inD (d e : D) : Option D := (inB d e).map .bl
def ninD (d e : D) : Option D := (inB d e).map fun b => .bl (!b)

section
variable {X : Cx} {T : Option Addr} {F H : Hp} {τ : Tin} {x y : V} {d e : D} {Q : VK}
theorem eqB_of {b : Bool} (h : eqB d e = some b) : ∃ p q, toP d = some p ∧ toP e = some q ∧ p.canLay0 = true ∧ q.canLay0 = true ∧ min p.depth q.depth ≤ deepest ∧ b = PyData.eqv p q := by
  unfold eqB at h
  cases e1 : toP d with
  | none => rw [e1] at h; cases h
  | some p =>
    cases e2 : toP e with
    | none => rw [e1, e2] at h; cases h
    | some q =>
      rw [e1, e2] at h
      have h : (if okP p q = true then some (PyData.eqv p q) else none) = some b := h
      split at h
      · rename_i hk
        unfold okP at hk
        simp only [Bool.and_eq_true, decide_eq_true_eq] at hk
        cases h
        exact ⟨p, q, rfl, rfl, hk.1.1, hk.1.2, hk.2, rfl⟩
      · cases h
theorem inB_of {b : Bool} (h : inB d e = some b) : ∃ es p ps, itemsD e = some es ∧ toP d = some p ∧ toPs es = some ps ∧ PyData.canLayAll0 ps = true ∧ p.canLay0 = true ∧ min (PyData.depthAll ps) p.depth ≤ deepest ∧ b = ps.any fun y => PyData.eqv y p := by
  unfold inB at h
  cases e0 : itemsD e with
  | none => rw [e0] at h; cases h
  | some es =>
    rw [e0] at h
    have h : inL d es = some b := h
    unfold inL at h
    cases e1 : toP d with
    | none => rw [e1] at h; cases h
    | some p =>
      cases e2 : toPs es with
      | none => rw [e1, e2] at h; cases h
      | some ps =>
        rw [e1, e2] at h
        have h : (if okIn ps p = true then some (ps.any fun y => PyData.eqv y p) else none) = some b := h
        split at h
        · rename_i hk
          unfold okIn at hk
          simp only [Bool.and_eq_true, decide_eq_true_eq] at hk
          cases h
          exact ⟨es, p, ps, rfl, rfl, e2, hk.1.1, hk.1.2, hk.2, rfl⟩
        · cases h
theorem deepest_eq : deepest = 150 := rfl
theorem op_eqQ (hu : X.A.units + 200 < cLine) : OpR X (compareOp .Eq) (rD2 (kc X) eqD) := by
  intro pins s σ H x y v u Q I rx ry ⟨T, F, τ, d, e, b, rd, re, r, hr, k⟩
  unfold eqD at hr
  cases hb : eqB d e with
  | none => rw [hb] at hr; cases hr
  | some c =>
    rw [hb] at hr
    cases hr
    obtain ⟨p, q, e1, e2, c1, c2, dp, rfl⟩ := eqB_of hb
    obtain ⟨as, r1⟩ := Dp.reads I p x v ((rd.inH b.le).dp e1) rx
    obtain ⟨bs, r2⟩ := Dp.reads I q y u ((re.inH b.le).dp e2) ry
    rw [deepest_eq] at dp
    exact SeqAt.compareEq_reads r1 r2 c1 c2 (by omega) ⟨.bl _, H, I, rfl, k _ F H b.refl (.bl _)⟩
theorem op_neQ (hu : X.A.units + 200 < cLine) : OpR X (compareOp .NotEq) (rD2 (kc X) neD) := by
  intro pins s σ H x y v u Q I rx ry ⟨T, F, τ, d, e, b, rd, re, r, hr, k⟩
  unfold neD at hr
  cases hb : eqB d e with
  | none => rw [hb] at hr; cases hr
  | some c =>
    rw [hb] at hr
    cases hr
    obtain ⟨p, q, e1, e2, c1, c2, dp, rfl⟩ := eqB_of hb
    obtain ⟨as, r1⟩ := Dp.reads I p x v ((rd.inH b.le).dp e1) rx
    obtain ⟨bs, r2⟩ := Dp.reads I q y u ((re.inH b.le).dp e2) ry
    rw [deepest_eq] at dp
    exact SeqAt.compareNe_reads r1 r2 c1 c2 (by omega) ⟨.bl _, H, I, rfl, k _ F H b.refl (.bl _)⟩
/-- the list or tuple asked, read -/
theorem items_dp {es : List D} {ps : List PyData} (re : RepTop (kc X) T F H y e) (le : Same F H) (hi : itemsD e = some es) (hp : toPs es = some ps) : Dp X.K H y (.list ps) ∨ Dp X.K H y (.tuple ps) := by
  cases e with
  | tup ds =>
    cases hi
    refine .inr ((re.inH le).dp ?_)
    rw [toP, hp]; rfl
  | lst ds =>
    cases hi
    refine .inl ((re.inH le).dp ?_)
    rw [toP, hp]; rfl
  | _ => cases hi
theorem op_inQ (hu : X.A.units + 200 < cLine) : OpR X (compareOp .In) (rD2 (kc X) inD) := by
  intro pins s σ H x y v u Q I rx ry ⟨T, F, τ, d, e, b, rd, re, r, hr, k⟩
  unfold inD at hr
  cases hb : inB d e with
  | none => rw [hb] at hr; cases hr
  | some c =>
    rw [hb] at hr
    cases hr
    obtain ⟨es, p, ps, e0, e1, e2, c1, c2, dp, rfl⟩ := inB_of hb
    obtain ⟨as, r1⟩ := Dp.reads I p x v ((rd.inH b.le).dp e1) rx
    rw [deepest_eq] at dp
    rcases items_dp re b.le e0 e2 with q | q
    · obtain ⟨bs, r2⟩ := Dp.reads I _ y u q ry
      exact SeqAt.in_list_reads r2 r1 c1 c2 (by omega) ⟨.bl _, H, I, rfl, k _ F H b.refl (.bl _)⟩
    · obtain ⟨bs, r2⟩ := Dp.reads I _ y u q ry
      exact SeqAt.in_tuple_reads r2 r1 c1 c2 (by omega) ⟨.bl _, H, I, rfl, k _ F H b.refl (.bl _)⟩
theorem op_ninQ (hu : X.A.units + 200 < cLine) : OpR X (compareOp .NotIn) (rD2 (kc X) ninD) := by
  intro pins s σ H x y v u Q I rx ry ⟨T, F, τ, d, e, b, rd, re, r, hr, k⟩
  unfold ninD at hr
  cases hb : inB d e with
  | none => rw [hb] at hr; cases hr
  | some c =>
    rw [hb] at hr
    cases hr
    obtain ⟨es, p, ps, e0, e1, e2, c1, c2, dp, rfl⟩ := inB_of hb
    obtain ⟨as, r1⟩ := Dp.reads I p x v ((rd.inH b.le).dp e1) rx
    rw [deepest_eq] at dp
    rcases items_dp re b.le e0 e2 with q | q
    · obtain ⟨bs, r2⟩ := Dp.reads I _ y u q ry
      exact SeqAt.notIn_list_reads r2 r1 c1 c2 (by omega) ⟨.bl _, H, I, rfl, k _ F H b.refl (.bl _)⟩
    · obtain ⟨bs, r2⟩ := Dp.reads I _ y u q ry
      exact SeqAt.notIn_tuple_reads r2 r1 c1 c2 (by omega) ⟨.bl _, H, I, rfl, k _ F H b.refl (.bl _)⟩
end

/-! ### is None -/
def nonB : D → Bool
  | .non => true
  | _ => false
def isND (d e : D) : Option D := match e with
  | .non => some (.bl (nonB d))
  | _ => none
def isnND (d e : D) : Option D := match e with
  | .non => some (.bl (!nonB d))
  | _ => none
section
variable {X : Cx}
theorem rep_non {κ : Kc} {T : Option Addr} {F H : Hp} {x : V} {d : D} (r : RepTop κ T F H x d) : decide (x = .non) = nonB d := by
  rcases r with r | ⟨a, vs, ds, rfl, rfl, _⟩
  · cases r <;> rfl
  · rfl
theorem op_isQ : OpR X (compareOp .Is) (rD2 (kc X) isND) := impOpR op_isN fun x y H Q ⟨T, F, τ, d, e, b, rd, re, r, hr, k⟩ => by
  cases e with
  | non =>
    cases hr
    refine ⟨re.non, ?_⟩
    rw [rep_non rd]
    exact k _ F H b.refl (.bl _)
  | _ => cases hr
theorem op_isnQ : OpR X (compareOp .IsNot) (rD2 (kc X) isnND) := impOpR op_notN fun x y H Q ⟨T, F, τ, d, e, b, rd, re, r, hr, k⟩ => by
  cases e with
  | non =>
    cases hr
    refine ⟨re.non, ?_⟩
    rw [rep_non rd]
    exact k _ F H b.refl (.bl _)
  | _ => cases hr
end

/-! ### numbers -/
def iD (C : Int → Int → Bool) (g : Int → Int → D) : D → D → Option D
  | .int i, .int j => if C i j = true then some (g i j) else none
  | _, _ => none
def ltD : D → D → Option D := iD (fun _ _ => true) fun i j => .bl (decide (i < j))
def leD : D → D → Option D := iD (fun _ _ => true) fun i j => .bl (decide (i ≤ j))
def gtD : D → D → Option D := iD (fun _ _ => true) fun i j => .bl (decide (j < i))
def geD : D → D → Option D := iD (fun _ _ => true) fun i j => .bl (decide (j ≤ i))
def subD : D → D → Option D := iD (fun _ _ => true) fun i j => .int (i - j)
def small64 (i : Int) : Bool := decide (-(2 ^ 64) < i) && decide (i < 2 ^ 64)
def fdivD : D → D → Option D := iD (fun _ j => decide (0 < j) && decide (j < 1073741824)) fun i j => .int (i / j)
def modD : D → D → Option D := iD (fun _ j => decide (0 < j)) fun i j => .int (i % j)
def powD : D → D → Option D := iD (fun i j => decide (0 ≤ j) && decide (j ≤ 1000000) && decide (i.natAbs < 2 ^ 64)) fun i j => .int (i ^ j.toNat)
section
variable {X : Cx}
theorem iD_of {C : Int → Int → Bool} {g : Int → Int → D} {d e r : D} (h : iD C g d e = some r) : ∃ i j, d = .int i ∧ e = .int j ∧ C i j = true ∧ r = g i j := by
  unfold iD at h
  cases d with
  | int i =>
    cases e with
    | int j =>
      have h : (if C i j = true then some (g i j) else none) = some r := h
      split at h
      · rename_i hc
        cases h
        exact ⟨i, j, rfl, rfl, hc, rfl⟩
      · cases h
    | _ => cases h
  | _ => cases h
theorem op_i {f : Value → Value → Sem Value} {P : Int → Int → Prop} {C : Int → Int → Bool} {gV : Int → Int → V} {g : Int → Int → D} (h : OpR X f (rI P gV)) (hc : ∀ i j, C i j = true → P i j) (hg : ∀ T F i j, Rep (kc X) T F (gV i j) (g i j)) :
    OpR X f (rD2 (kc X) (iD C g)) := impOpR h fun x y H Q ⟨T, F, τ, d, e, b, rd, re, r, hr, k⟩ => by
  obtain ⟨i, j, rfl, rfl, c, rfl⟩ := iD_of hr
  exact ⟨i, j, rd.int, re.int, hc i j c, k _ F H b.refl (hg T F i j)⟩
theorem op_i0 {f : Value → Value → Sem Value} {gV : Int → Int → V} {g : Int → Int → D} (h : OpR X f (rI0 gV)) (hg : ∀ T F i j, Rep (kc X) T F (gV i j) (g i j)) :
    OpR X f (rD2 (kc X) (iD (fun _ _ => true) g)) := impOpR h fun x y H Q ⟨T, F, τ, d, e, b, rd, re, r, hr, k⟩ => by
  obtain ⟨i, j, rfl, rfl, c, rfl⟩ := iD_of hr
  exact ⟨i, j, rd.int, re.int, k _ F H b.refl (hg T F i j)⟩
theorem op_ltQ : OpR X (compareOp .Lt) (rD2 (kc X) ltD) := op_i0 op_lt fun _ _ _ _ => .bl _
theorem op_leQ : OpR X (compareOp .LtE) (rD2 (kc X) leD) := op_i0 op_le fun _ _ _ _ => .bl _
theorem op_gtQ : OpR X (compareOp .Gt) (rD2 (kc X) gtD) := op_i0 op_gt fun _ _ _ _ => .bl _
theorem op_geQ : OpR X (compareOp .GtE) (rD2 (kc X) geD) := op_i0 op_ge fun _ _ _ _ => .bl _
theorem op_subQ : OpR X (binaryOp .Sub) (rD2 (kc X) subD) := op_i0 op_sub fun _ _ _ _ => .int _
theorem op_fdivQ : OpR X (binaryOp .FloorDiv) (rD2 (kc X) fdivD) := op_i op_fdiv (fun i j h => by simpa [CDiv] using h) fun _ _ _ _ => .int _
theorem op_modQ : OpR X (binaryOp .Mod) (rD2 (kc X) modD) := op_i op_mod (fun i j h => by simpa using h) fun _ _ _ _ => .int _
theorem op_powQ : OpR X (binaryOp .Pow) (rD2 (kc X) powD) := op_i op_pow (fun i j h => by simp only [Bool.and_eq_true, decide_eq_true_eq] at h; exact ⟨h.1.1, h.1.2, h.2⟩) fun _ _ _ _ => .int _
end

/-! ### + and * -/
def addD : D → D → Option D
  | .int i, .int j => some (.int (i + j))
  | .str x, .str y => if x.length + y.length ≤ sizeLine then some (.str (x ++ y)) else none
  | .tup xs, .tup ys => if xs.length + ys.length ≤ sizeLine then some (.tup (xs ++ ys)) else none
  | .lst xs, .lst ys => if xs.length + ys.length ≤ sizeLine then some (.lst (xs ++ ys)) else none
  | _, _ => none
section
variable {X : Cx}
theorem op_addQ : OpR X (binaryOp .Add) (rD2 (kc X) addD) := impOpR (OpR.or op_add (OpR.or op_add_str (OpR.or op_catA op_cat))) fun x y H Q ⟨T, F, τ, d, e, b, rd, re, r, hr, k⟩ => by
  cases d with
  | int i =>
    cases e with
    | int j => cases hr; exact .inl ⟨i, j, rd.int, re.int, k _ F H b.refl (.int _)⟩
    | _ => cases hr
  | str i =>
    cases e with
    | str j =>
      rw [addD] at hr
      split at hr
      · rename_i hl
        cases hr
        exact .inr (.inl ⟨i, j, rd.str, re.str, hl, k _ F H b.refl (.str _)⟩)
      · cases hr
    | _ => cases hr
  | tup xs =>
    cases e with
    | tup ys =>
      rw [addD] at hr
      split at hr
      · rename_i hl
        cases hr
        obtain ⟨p, vs, rfl, hp, rp⟩ := rd.tup
        obtain ⟨q, ws, rfl, hq, rq⟩ := re.tup
        refine .inr (.inr (.inl ⟨p, q, vs, ws, rfl, rfl, seqT b.le hp, seqT b.le hq, by rw [rp.length, rq.length]; exact hl, fun e1 => ?_, fun _ e1 => ?_, fun _ _ a ha => ?_⟩))
        · subst e1
          cases rp
          exact k _ F H b.refl (.tup hq rq)
        · subst e1
          cases rq
          refine k _ F H b.refl ?_
          rw [List.append_nil]
          exact .tup hp rp
        · have x1 := b.push (o := .tup (vs ++ ws)) ha
          exact k _ _ _ x1 (.tup (SqT.of upd_same) ((rp.append rq).mono x1.le))
      · cases hr
    | _ => cases hr
  | lst xs =>
    cases e with
    | lst ys =>
      rw [addD] at hr
      split at hr
      · rename_i hl
        cases hr
        obtain ⟨p, vs, rfl, hp, rp⟩ := rd.lst b.le
        obtain ⟨q, ws, rfl, hq, rq⟩ := re.lst b.le
        refine .inr (.inr (.inr ⟨p, q, vs, ws, rfl, rfl, hp, hq, by rw [rp.length, rq.length]; exact hl, fun a ha => ?_⟩))
        have x1 := b.push (o := .lst (vs ++ ws)) ha
        exact k _ _ _ x1 (.lst upd_same ((rp.append rq).mono x1.le))
      · cases hr
    | _ => cases hr
  | _ => cases hr
end
end DL
end

section
set_option Elab.async false
set_option linter.all false
set_option maxRecDepth 100000
set_option maxHeartbeats 2000000
/-! DLE: items, slices, products, built-in functions on data -/
namespace DL
open PySem PySem.Spec PyProof.Rows L2

/-! ### items -/
def ixD : D → D → Option D
  | .tup xs, .int i => atI xs i
  | .lst xs, .int i => atI xs i
  | .scr ns, .int i => (atI ns i).map .int
  | .str z, .int i => if z.length ≤ sizeLine then (atI z.cps.toList i).map fun c => .str ⟨#[c]⟩ else none
  | _, _ => none
section
variable {κ : Kc} {T : Option Addr} {F H : Hp} {vs : List V} {ds : List D} {d : D} {i : Int}
theorem RepAll.atI (r : RepAll κ T F vs ds) (h : L2.atI ds i = some d) : ∃ v, L2.atI vs i = some v ∧ Rep κ T F v d := by
  unfold L2.atI at h ⊢
  rw [r.length]
  cases e : ixN ds.length i with
  | none => rw [e] at h; cases h
  | some j =>
    rw [e] at h
    obtain ⟨v, h1, h2⟩ := RepAll.get r h
    exact ⟨v, h1, h2⟩
theorem atI_ints {ns : List Int} {k : Int} (h : L2.atI ns i = some k) : L2.atI (ns.map V.int) i = some (.int k) := by
  unfold L2.atI at h ⊢
  rw [List.length_map]
  cases e : ixN ns.length i with
  | none => rw [e] at h; cases h
  | some j =>
    rw [e] at h
    have h : ns[j]? = some k := h
    show (ns.map V.int)[j]? = _
    rw [List.getElem?_map, h]
    rfl
end
section
variable {X : Cx} {W : WX} {m : Bool} {a b c e : Expr} {es : List Expr} {fa fb fc : Env → M D} {fs : Env → M (List D)} {pos : Pos}
theorem impIxR {r r' : R2} (h : IxR X r) (i : ∀ x y H Q, r' x y H Q → r x y H Q) : IxR X r' := fun value slice pins s σ H x y v u Q I rx ry q => h value slice pins s σ H x y v u Q I rx ry (i x y H Q q)
theorem ixQ : IxR X (rD2 (kc X) ixD) := impIxR ix_seq fun x y H Q ⟨T, F, τ, d, e, b, rd, re, r, hr, k⟩ => by
  cases e with
  | int i =>
    cases re.int
    cases d with
    | tup xs =>
      obtain ⟨p, vs, rfl, hp, rp⟩ := rd.tup
      obtain ⟨v, h1, h2⟩ := rp.atI hr
      exact .inr (.inl ⟨p, vs, i, v, rfl, rfl, seqT b.le hp, h1, k _ F H b.refl h2⟩)
    | lst xs =>
      obtain ⟨p, vs, rfl, hp, rp⟩ := rd.lst b.le
      obtain ⟨v, h1, h2⟩ := rp.atI hr
      exact .inl ⟨p, vs, i, v, rfl, rfl, SqL.of hp, h1, k _ F H b.refl h2⟩
    | scr ns =>
      obtain ⟨p, rfl, hp⟩ := rd.scr
      rw [ixD] at hr
      cases e : L2.atI ns i with
      | none => rw [e] at hr; cases hr
      | some j =>
        rw [e] at hr
        cases hr
        exact .inl ⟨p, _, i, _, rfl, rfl, b.le.seq hp, atI_ints e, k _ F H b.refl (.int j)⟩
    | str z =>
      rw [ixD] at hr
      split at hr
      · rename_i hz
        cases e : L2.atI z.cps.toList i with
        | none => rw [e] at hr; cases hr
        | some c =>
          rw [e] at hr
          cases hr
          exact .inr (.inr ⟨z, i, c, rd.str, rfl, hz, e, k _ F H b.refl (.str _)⟩)
      · cases hr
    | _ => cases hr
  | _ => cases d <;> cases hr
theorem de_ix (ha : DE X W true a fa) (hb : DE X W true b fb) (hs : PlainIx b := by exact fun _ _ => rfl) : DE X W m (.Subscript a b pos) (dOp ixD fa fb) :=
  impPE (pe_ix ixQ ha hb hs) fun σ H Q q => tOp_of q

/-! ### slices -/
def cutL {α : Type} (xs : List α) (lo hi : Option Int) : List α := (xs.drop (HT.sIx xs.length 0 lo)).take (HT.sIx xs.length xs.length hi - HT.sIx xs.length 0 lo)
theorem cutV_eq (xs : List V) (lo hi : Option Int) : cutV xs lo hi = cutL xs lo hi := rfl
theorem RepAll.cut {κ : Kc} {T : Option Addr} {F : Hp} {vs : List V} {ds : List D} (r : RepAll κ T F vs ds) (lo hi : Option Int) : RepAll κ T F (cutV vs lo hi) (cutL ds lo hi) := by
  rw [cutV_eq]
  unfold cutL
  rw [r.length]
  exact (r.drop _).take _
theorem cutL_map {α β : Type} (f : α → β) (xs : List α) (lo hi : Option Int) : cutL (xs.map f) lo hi = (cutL xs lo hi).map f := by
  unfold cutL
  rw [List.length_map, List.map_take, List.map_drop]
def slD (lo hi : Option Int) : D → Option D
  | .tup xs => some (.tup (cutL xs lo hi))
  | .lst xs => some (.lst (cutL xs lo hi))
  | .scr ns => some (.lst ((cutL ns lo hi).map .int))
  | _ => none
def rSlD (κ : Kc) : V → Option Int → Option Int → Hp → VK → Prop := fun x lo hi H Q => ∃ T F τ d, Bs T F H τ ∧ RepTop κ T F H x d ∧ ∃ r, slD lo hi d = some r ∧ ∀ v F' H', Ext T F H F' H' τ → Rep κ T F' v r → Q v H'
theorem cut_whole {α : Type} {xs : List α} {lo hi : Option Int} (h : HT.sIx xs.length 0 lo = 0 ∧ HT.sIx xs.length xs.length hi = xs.length) : cutL xs lo hi = xs := by
  unfold cutL
  rw [h.1, h.2, List.drop_zero, Nat.sub_zero]
  exact List.take_length
theorem slQ : SlR X (rSlD (kc X)) := by
  intro pins s σ H x v vl vu lo hi sl Q I rx hs pl pu ⟨T, F, τ, d, b, rd, r, hr, k⟩
  cases d with
  | tup xs =>
    obtain ⟨p, vs, rfl, hp, rp⟩ := rd.tup
    cases hr
    refine sl_tupA pins s σ H _ v vl vu lo hi sl Q I rx hs pl pu ⟨p, vs, rfl, seqT b.le hp, fun hw => ?_, fun hw q hq => ?_⟩
    · refine k _ F H b.refl ?_
      rw [cut_whole (by rw [← rp.length]; exact hw)]
      exact .tup hp rp
    · have x1 := b.push (o := .tup (cutV vs lo hi)) hq
      exact k _ _ _ x1 (.tup (SqT.of upd_same) ((rp.cut lo hi).mono x1.le))
  | lst xs =>
    obtain ⟨p, vs, rfl, hp, rp⟩ := rd.lst b.le
    cases hr
    refine sl_list pins s σ H _ v vl vu lo hi sl Q I rx hs pl pu ⟨p, vs, rfl, SqL.of hp, fun q hq => ?_⟩
    have x1 := b.push (o := .lst (cutV vs lo hi)) hq
    exact k _ _ _ x1 (.lst upd_same ((rp.cut lo hi).mono x1.le))
  | scr ns =>
    obtain ⟨p, rfl, hp⟩ := rd.scr
    cases hr
    refine sl_list pins s σ H _ v vl vu lo hi sl Q I rx hs pl pu ⟨p, _, rfl, b.le.seq hp, fun q hq => ?_⟩
    have x1 := b.push (o := .lst (cutV (ns.map V.int) lo hi)) hq
    refine k _ _ _ x1 (.lst upd_same ?_)
    rw [cutV_eq, cutL_map]
    exact repAll_ints _
  | _ => cases hr
/-- a slice's part -/
def tDP (κ : Kc) (mg : Str → Option Value) (W : WX) (f : Env → M (Option Int)) : TO := fun σ H Q => ∃ T F ρ τ, SR κ T F H σ ρ τ ∧
  wpR (f ρ τ) (fun b τ' => ∀ F' H', Ext T F H F' H' τ' → Q b H') (wX mg W T F H σ)
abbrev DP (X : Cx) (W : WX) (e : Option Expr) (f : Env → M (Option Int)) : Prop := PO X e (tDP (kc X) X.mg W f)
theorem impPO {X : Cx} {e : Option Expr} {t t' : TO} (h : PO X e t) (i : ∀ σ H Q, t' σ H Q → t σ H Q) : PO X e t' := ⟨fun pins s σ H Q I q => h.run pins s σ H Q I (i σ H Q q)⟩
def pNone : Env → M (Option Int) := fun _ => M.pure none
def toI : D → M Int
  | .int i => M.pure i
  | _ => M.no
def pSome (f : Env → M D) : Env → M (Option Int) := fun ρ => M.bind (f ρ) fun x => M.bind (toI x) fun i => M.pure (some i)
theorem dp_none : DP X W none pNone := impPO po_none fun σ H Q ⟨T, F, ρ, τ, s, q⟩ => by
  have q : ∀ F' H', Ext T F H F' H' τ → Q none H' := q
  exact q F H s.bs.refl
theorem dp_some (h : DE X W false e fa) : DP X W (some e) (pSome fa) := impPO (po_some h) fun σ H Q ⟨T, F, ρ, τ, s, q⟩ => by
  refine tD_mono (tD_of (m := false) s s.bs.refl q) fun x H1 ⟨F1, τ1, d, x1, y1, s1, r1, q1⟩ => ?_
  cases r1 with
  | int i => exact ⟨i, rfl, q1 F1 H1 x1⟩
  | _ => exact q1.elim
def dSlice (fa : Env → M D) (lo hi : Env → M (Option Int)) : Env → M D := fun ρ => M.bind (fa ρ) fun x => M.bind (lo ρ) fun i => M.bind (hi ρ) fun j => M.lift (slD i j x)
theorem tDP_mono {κ : Kc} {mg : Str → Option Value} {σ : L2.St} {H : Hp} {f : Env → M (Option Int)} {Q Q' : Option Int → Hp → Prop} (h : tDP κ mg W f σ H Q) (i : ∀ v H, Q v H → Q' v H) : tDP κ mg W f σ H Q' := by
  obtain ⟨T, F, ρ, τ, s, q⟩ := h
  exact ⟨T, F, ρ, τ, s, wpR_mono q (fun d τ' q F' H' x => i _ _ (q F' H' x)) fun _ _ z => z⟩
theorem tDP_of {κ : Kc} {mg : Str → Option Value} {T : Option Addr} {F H F1 H1 : Hp} {σ : L2.St} {ρ : Env} {τ1 : Tin} {α : Type} {f : Env → M (Option Int)} {k : Option Int → M α} {P : α → Tin → Prop} (s : SR κ T F1 H1 σ ρ τ1) (x : Ext T F H F1 H1 τ1)
    (h : wpR (M.bind (f ρ) k τ1) P (wX mg W T F H σ)) : tDP κ mg W f σ H1 (fun b H2 => ∃ F2 τ2, Ext T F H F2 H2 τ2 ∧ Ext T F1 H1 F2 H2 τ2 ∧ SR κ T F2 H2 σ ρ τ2 ∧ wpR (k b τ2) P (wX mg W T F H σ)) :=
  ⟨T, F1, ρ, τ1, s, wpR_mono (wpR_bind h) (fun b τ2 q F2 H2 y => ⟨F2, τ2, x.trans y, y, s.ext y, q⟩) fun _ _ z => z.ext x⟩
theorem de_slice {lo hi : Option Expr} {fl fh : Env → M (Option Int)} {p2 : Pos} (ha : DE X W true e fa) (hl : DP X W lo fl) (hh : DP X W hi fh) : DE X W m (.Subscript e (.Slice lo hi none p2) pos) (dSlice fa fl fh) :=
  impPE (pe_slice slQ ha hl hh) fun σ H Q ⟨T, F, ρ, τ, s, q⟩ => by
    refine tD_mono (tD_of (m := true) s s.bs.refl q) fun x H1 ⟨F1, τ1, d, x1, y1, s1, r1, q1⟩ => ?_
    refine tDP_mono (tDP_of s1 x1 q1) fun l H2 ⟨F2, τ2, x2, y2, s2, q2⟩ => ?_
    refine tDP_mono (tDP_of s2 x2 q2) fun u H3 ⟨F3, τ3, x3, y3, s3, q3⟩ => ?_
    obtain ⟨r, e1, q4⟩ := wpR_lift q3
    exact ⟨T, F3, τ3, d, s3.bs, ((r1.top.ext y2).ext y3), r, e1, fun v F' H' x4 rv => q4 v F' H' (x3.trans x4) (repM rv)⟩

/-! ### products -/
theorem tuple_mul1 (l : Addr) (items : Array Value) (n : Nat) (dd : Option Addr) (sl : Array (Option Value)) (u : Tok) :
    Meets (Builtin.«tuple.__mul__» ⟨[.ref l, .int 1 u], []⟩) (fun _ R s => s.heap.get? l = some { cls := .type "tuple", dict := dd, data := .seq items n, slots := sl } ∧
      R (.ok (.ret (Value.ref l))) s) :=
  .of_wp fun prog w A R s h => by
    obtain ⟨hp, g, d, tk, os⟩ := s
    obtain ⟨hl, h⟩ := h
    have f1 := AutoSeq1.idx_int
    wp_walk using wpAny_loadPart' hl
    exact ⟨_, rfl, h⟩
def rRep1 (K : PySem.W.Frag) : R2 := fun x y H Q => ∃ l xs, x = .ref l ∧ y = .int 1 ∧ SqT K H l xs ∧ Q (.ref l) H
theorem op_rep1 : OpR X (binaryOp .Mult) (rRep1 X.K) := by
  intro pins s σ H x y v u Q I rx ry h
  obtain ⟨l, xs, rfl, rfl, hT, q⟩ := h
  cases rx
  obtain ⟨t, rfl⟩ := ry
  obtain ⟨its, r, ⟨⟨cls, dd, data, sl⟩, ho, hc, n, hd⟩, hs⟩ := I.tuple hT
  simp only at hc hd
  subst hc hd
  exact wpAny_binaryOp_repeat_ref (T := "tuple") (U := "int") (by decide) ⟨_, ho, rfl⟩ (fun s' => typeIs_int s' 1 t) noFill_tuple_mul F.fills_int_mul F.slot_int_rmul repeat_tuple F.slot_int_index.lookup
    (call_meets F.slot_int_rmul (typeIs_int s 1 t) F.entry_int_rmul (F.args_int_rmul_2 _ _) (int_rmul_tuple 1 t l its.toArray n dd sl)
      ⟨ho, rfl, ⟨_, ho, rfl⟩, call_meets F.slot_tuple_mul ⟨_, ho, rfl⟩ F.entry_tuple_mul (F.args_tuple_mul_2 _ _) (tuple_mul1 l its.toArray n dd sl t) ⟨ho, ⟨.ref l, H, I, rfl, q⟩⟩⟩)
def repOk (n : Nat) (k : Int) : Bool := decide (k = 1) || (decide (0 < n) && decide (2 ≤ k) && decide (k ≤ 1000) && decide (n ≤ 1000))
def mulD : D → D → Option D
  | .int i, .int j => if (small64 i || small64 j) = true then some (.int (i * j)) else none
  | .tup xs, .int k => if repOk xs.length k = true then some (.tup (List.replicate k.toNat xs).flatten) else none
  | .lst xs, .int k => if (decide (-(2 ^ 63) ≤ k) && decide (k < 2 ^ 63) && decide (xs.length * k.toNat ≤ sizeLine)) = true then some (.lst (List.replicate k.toNat xs).flatten) else none
  | _, _ => none
theorem RepAll.rep {κ : Kc} {T : Option Addr} {F : Hp} {vs : List V} {ds : List D} (r : RepAll κ T F vs ds) : ∀ n : Nat, RepAll κ T F (List.replicate n vs).flatten (List.replicate n ds).flatten
  | 0 => .nil
  | n + 1 => by
    rw [List.replicate_succ, List.replicate_succ, List.flatten_cons, List.flatten_cons]
    exact r.append (r.rep n)
theorem op_mulQ : OpR X (binaryOp .Mult) (rD2 (kc X) mulD) := impOpR (OpR.or op_mul (OpR.or op_rep1 (OpR.or op_repT op_rep))) fun x y H Q ⟨T, F, τ, d, e, b, rd, re, r, hr, k⟩ => by
  cases e with
  | int j =>
    cases re.int
    cases d with
    | int i =>
      rw [mulD] at hr
      split at hr
      · rename_i hc
        cases hr
        refine .inl ⟨i, j, rd.int, rfl, ?_, k _ F H b.refl (.int _)⟩
        simp only [small64, Bool.or_eq_true, Bool.and_eq_true, decide_eq_true_eq] at hc
        exact hc
      · cases hr
    | tup xs =>
      rw [mulD] at hr
      split at hr
      · rename_i hc
        cases hr
        obtain ⟨p, vs, rfl, hp, rp⟩ := rd.tup
        unfold repOk at hc
        simp only [Bool.or_eq_true, Bool.and_eq_true, decide_eq_true_eq] at hc
        by_cases h1 : j = 1
        · subst h1
          refine .inr (.inl ⟨p, vs, rfl, rfl, seqT b.le hp, k _ F H b.refl ?_⟩)
          have e : (List.replicate (1 : Int).toNat xs).flatten = xs := by
            show (List.replicate 1 xs).flatten = xs
            simp
          rw [e]
          exact .tup hp rp
        · rcases hc with hc | ⟨⟨⟨h2, h3⟩, h4⟩, h5⟩
          · exact absurd hc h1
          · refine .inr (.inr (.inl ⟨p, j, vs, rfl, rfl, seqT b.le hp, fun e => ?_, h3, h4, by rw [rp.length]; exact h5, fun q hq => ?_⟩))
            · rw [e] at rp
              rw [← rp.length] at h2
              exact absurd h2 (by simp)
            · have x1 := b.push (o := .tup (List.replicate j.toNat vs).flatten) hq
              exact k _ _ _ x1 (.tup (SqT.of upd_same) ((rp.rep _).mono x1.le))
      · cases hr
    | lst xs =>
      rw [mulD] at hr
      split at hr
      · rename_i hc
        cases hr
        obtain ⟨p, vs, rfl, hp, rp⟩ := rd.lst b.le
        simp only [Bool.and_eq_true, decide_eq_true_eq] at hc
        refine .inr (.inr (.inr ⟨p, j, vs, rfl, rfl, hp, hc.1.1, hc.1.2, by rw [rp.length]; exact hc.2, fun q hq => ?_⟩))
        have x1 := b.push (o := .lst (List.replicate j.toNat vs).flatten) hq
        exact k _ _ _ x1 (.lst upd_same ((rp.rep _).mono x1.le))
      · cases hr
    | _ => cases hr
  | _ => cases d <;> cases hr
end
end DL
end

section
set_option Elab.async false
set_option linter.all false
set_option maxRecDepth 100000
set_option maxHeartbeats 2000000
/-! DLF: built-in functions, isinstance, calls of defs -/
namespace DL
open PySem PySem.Spec PyProof.Rows L2

/-! ### built-in functions -/
def rDn (κ : Kc) (g : List D → Option D) : List V → Hp → VK → Prop := fun xs H Q => ∃ T F τ ds, Bs T F H τ ∧ RepMs true κ T F H xs ds ∧ ∃ r, g ds = some r ∧ ∀ v F' H', Ext T F H F' H' τ → Rep κ T F' v r → Q v H'
def dCB (g : List D → Option D) (fs : Env → M (List D)) : Env → M D := fun ρ => M.bind (fs ρ) fun xs => M.lift (g xs)
section
variable {X : Cx} {W : WX} {m : Bool} {a b c e : Expr} {es : List Expr} {fa fb fc : Env → M D} {fs : Env → M (List D)} {p pos : Pos} {x : Str} {g : List D → Option D}
theorem tCB_of {σ : L2.St} {H : Hp} {Q : VK} (q : tD (kc X) X.mg W m (dCB g fs) σ H Q) : tCB (rDn (kc X) g) (tDs (kc X) X.mg W true fs) σ H Q := by
  obtain ⟨T, F, ρ, τ, s, q⟩ := q
  refine tDs_mono (tDs_of s s.bs.refl q) fun xs H1 ⟨F1, τ1, ds, x1, y1, s1, r1, q1⟩ => ?_
  obtain ⟨r, e1, q2⟩ := wpR_lift q1
  exact ⟨T, F1, τ1, ds, s1.bs, r1, r, e1, fun v F' H' x2 rv => q2 v F' H' (x1.trans x2) (repM rv)⟩
theorem de_callB {id : String} (hc : CallR X (.builtin id) (rDn (kc X) g)) (hg : Gl X x) (hm : X.mg x = none) (hv : bootBuiltins x = some (.builtin id)) (ha : DA X W true (e :: es) fs) (hn : x ≠ "__name__" := by decide) (hdb : (x == ("__debug__" : Str)) = false := by decide)
    (he : starEach (e :: es) X.env = (false, eval e X.env) :: starEach es X.env := by rfl) (hpl : (backTo pos (starEach es X.env)).any (·.1) = false := by rfl) : DE X W m (.Call (.Name x p) (e :: es) [] pos) (dCB g fs) :=
  impPE (pe_callB hc hg hm hv ha hn hdb he hpl) fun σ H Q q => tCB_of q
theorem de_callTy {T : String} (hc : CallR X (.type T) (rDn (kc X) g)) (hg : Gl X x) (hm : X.mg x = none) (hv : bootBuiltins x = some (.type T)) (ha : DA X W true (e :: es) fs) (hn : x ≠ "__name__" := by decide) (hdb : (x == ("__debug__" : Str)) = false := by decide)
    (he : starEach (e :: es) X.env = (false, eval e X.env) :: starEach es X.env := by rfl) (hpl : (backTo pos (starEach es X.env)).any (·.1) = false := by rfl) : DE X W m (.Call (.Name x p) (e :: es) [] pos) (dCB g fs) :=
  impPE (pe_callTy hc hg hm hv ha hn hdb he hpl) fun σ H Q q => tCB_of q

def lenD : List D → Option D
  | [.tup xs] => some (.int xs.length)
  | [.lst xs] => some (.int xs.length)
  | [.scr xs] => some (.int xs.length)
  | [.str z] => if z.length ≤ sizeLine then some (.int z.length) else none
  | _ => none
theorem reps1 {κ : Kc} {T : Option Addr} {F H : Hp} {xs : List V} {d : D} (r : RepMs true κ T F H xs [d]) : ∃ x, xs = [x] ∧ RepTop κ T F H x d := by
  cases r with
  | cons r t => cases t; exact ⟨_, rfl, r⟩
theorem reps2 {κ : Kc} {T : Option Addr} {F H : Hp} {xs : List V} {d e : D} (r : RepMs true κ T F H xs [d, e]) : ∃ x y, xs = [x, y] ∧ RepTop κ T F H x d ∧ RepTop κ T F H y e := by
  cases r with
  | cons r t =>
    cases t with
    | cons r2 t => cases t; exact ⟨_, _, rfl, r, r2⟩
theorem cr_lenQ : CallR X (.builtin "len") (rDn (kc X) lenD) := impCallR (CallR.or call_len_seq call_len_str) fun xs H Q ⟨T, F, τ, ds, b, rs, r, hr, k⟩ => by
  match ds, hr, rs with
  | [.tup ys], hr, rs =>
    obtain ⟨x, rfl, rx⟩ := reps1 rs
    obtain ⟨p, vs, rfl, hp, rp⟩ := rx.tup
    cases hr
    exact .inl ⟨p, vs, rfl, .inr (seqT b.le hp), by rw [rp.length]; exact k _ F H b.refl (.int _)⟩
  | [.lst ys], hr, rs =>
    obtain ⟨x, rfl, rx⟩ := reps1 rs
    obtain ⟨p, vs, rfl, hp, rp⟩ := rx.lst b.le
    cases hr
    exact .inl ⟨p, vs, rfl, .inl (SqL.of hp), by rw [rp.length]; exact k _ F H b.refl (.int _)⟩
  | [.scr ys], hr, rs =>
    obtain ⟨x, rfl, rx⟩ := reps1 rs
    obtain ⟨p, rfl, hp⟩ := rx.scr
    cases hr
    exact .inl ⟨p, _, rfl, .inl (b.le.seq hp), by rw [List.length_map]; exact k _ F H b.refl (.int _)⟩
  | [.str z], hr, rs =>
    obtain ⟨x, rfl, rx⟩ := reps1 rs
    rw [lenD] at hr
    split at hr
    · rename_i hz
      cases hr
      exact .inr ⟨z, by rw [rx.str], hz, k _ F H b.refl (.int _)⟩
    · cases hr
def maxD : List D → Option D
  | [.int i, .int j] => some (.int (if j > i then j else i))
  | _ => none
def minD : List D → Option D
  | [.int i, .int j] => some (.int (if j < i then j else i))
  | _ => none
theorem cr_maxQ (hc : X.calm = true) : CallR X (.builtin "max") (rDn (kc X) maxD) := impCallR (call_max2 hc) fun xs H Q ⟨T, F, τ, ds, b, rs, r, hr, k⟩ => by
  match ds, hr, rs with
  | [.int i, .int j], hr, rs =>
    obtain ⟨x, y, rfl, rx, ry⟩ := reps2 rs
    cases hr
    exact ⟨i, j, by rw [rx.int, ry.int], k _ F H b.refl (.int _)⟩
theorem cr_minQ (hc : X.calm = true) : CallR X (.builtin "min") (rDn (kc X) minD) := impCallR (call_min2 hc) fun xs H Q ⟨T, F, τ, ds, b, rs, r, hr, k⟩ => by
  match ds, hr, rs with
  | [.int i, .int j], hr, rs =>
    obtain ⟨x, y, rfl, rx, ry⟩ := reps2 rs
    cases hr
    exact ⟨i, j, by rw [rx.int, ry.int], k _ F H b.refl (.int _)⟩
def absD : List D → Option D
  | [.int i] => some (.int (if i < 0 then -i else i))
  | _ => none
theorem cr_absQ : CallR X (.builtin "abs") (rDn (kc X) absD) := impCallR call_abs fun xs H Q ⟨T, F, τ, ds, b, rs, r, hr, k⟩ => by
  match ds, hr, rs with
  | [.int i], hr, rs =>
    obtain ⟨x, rfl, rx⟩ := reps1 rs
    cases hr
    exact ⟨i, by rw [rx.int], k _ F H b.refl (.int _)⟩
def intD : List D → Option D
  | [.int i] => some (.int i)
  | [.bl b] => some (.int (if b then 1 else 0))
  | _ => none
theorem cr_intQ : CallR X (.type "int") (rDn (kc X) intD) := impCallR call_int1 fun xs H Q ⟨T, F, τ, ds, b, rs, r, hr, k⟩ => by
  match ds, hr, rs with
  | [.int i], hr, rs =>
    obtain ⟨x, rfl, rx⟩ := reps1 rs
    cases hr
    exact .inl ⟨i, by rw [rx.int], k _ F H b.refl (.int _)⟩
  | [.bl i], hr, rs =>
    obtain ⟨x, rfl, rx⟩ := reps1 rs
    cases hr
    exact .inr ⟨i, by rw [rx.bl], k _ F H b.refl (.int _)⟩
def tupleD : List D → Option D
  | [.tup xs] => some (.tup xs)
  | [.lst xs] => some (.tup xs)
  | _ => none
theorem cr_tupleQ : CallR X (.type "tuple") (rDn (kc X) tupleD) := impCallR call_tuple_of fun xs H Q ⟨T, F, τ, ds, b, rs, r, hr, k⟩ => by
  match ds, hr, rs with
  | [.tup ys], hr, rs =>
    obtain ⟨x, rfl, rx⟩ := reps1 rs
    obtain ⟨p, vs, rfl, hp, rp⟩ := rx.tup
    cases hr
    exact ⟨p, vs, rfl, .inr ⟨seqT b.le hp, k _ F H b.refl (.tup hp rp)⟩⟩
  | [.lst ys], hr, rs =>
    obtain ⟨x, rfl, rx⟩ := reps1 rs
    obtain ⟨p, vs, rfl, hp, rp⟩ := rx.lst b.le
    cases hr
    refine ⟨p, vs, rfl, .inl ⟨SqL.of hp, fun q hq => ?_⟩⟩
    have x1 := b.push (o := .tup vs) hq
    exact k _ _ _ x1 (.tup (SqT.of upd_same) (rp.mono x1.le))
def listD : List D → Option D
  | [.tup xs] => some (.lst xs)
  | [.lst xs] => some (.lst xs)
  | _ => none
theorem cr_listQ : CallR X (.type "list") (rDn (kc X) listD) := impCallR call_list_of fun xs H Q ⟨T, F, τ, ds, b, rs, r, hr, k⟩ => by
  match ds, hr, rs with
  | [.tup ys], hr, rs =>
    obtain ⟨x, rfl, rx⟩ := reps1 rs
    obtain ⟨p, vs, rfl, hp, rp⟩ := rx.tup
    cases hr
    refine ⟨p, vs, rfl, .inr (seqT b.le hp), fun q hq => ?_⟩
    have x1 := b.push (o := .lst vs) hq
    exact k _ _ _ x1 (.lst upd_same (rp.mono x1.le))
  | [.lst ys], hr, rs =>
    obtain ⟨x, rfl, rx⟩ := reps1 rs
    obtain ⟨p, vs, rfl, hp, rp⟩ := rx.lst b.le
    cases hr
    refine ⟨p, vs, rfl, .inl (SqL.of hp), fun q hq => ?_⟩
    have x1 := b.push (o := .lst vs) hq
    exact k _ _ _ x1 (.lst upd_same (rp.mono x1.le))
def blsOf : List D → Option (List Bool)
  | [] => some []
  | .bl b :: r => (blsOf r).map (b :: ·)
  | _ :: _ => none
theorem blsOf_eq : ∀ {ds : List D} {bs : List Bool}, blsOf ds = some bs → ds = bs.map .bl
  | [], bs, h => by cases h; rfl
  | .bl b :: r, bs, h => by
    rw [blsOf] at h
    cases e : blsOf r with
    | none => rw [e] at h; cases h
    | some cs => rw [e] at h; cases h; rw [blsOf_eq e]; rfl
  | .non :: _, _, h => by cases h
  | .int _ :: _, _, h => by cases h
  | .str _ :: _, _, h => by cases h
  | .tup _ :: _, _, h => by cases h
  | .lst _ :: _, _, h => by cases h
  | .scr _ :: _, _, h => by cases h
  | .tin :: _, _, h => by cases h
theorem blsOf_map : ∀ bs : List Bool, blsOf (bs.map .bl) = some bs
  | [] => rfl
  | b :: bs => by rw [List.map_cons, blsOf, blsOf_map bs]; rfl
def allD : List D → Option D
  | [.lst xs] => (blsOf xs).map fun bs => .bl (bs.all id)
  | _ => none
def anyD : List D → Option D
  | [.lst xs] => (blsOf xs).map fun bs => .bl (bs.any id)
  | _ => none
theorem cr_allQ (hc : X.calm = true) : CallR X (.builtin "all") (rDn (kc X) allD) := impCallR (cr_all hc) fun xs H Q ⟨T, F, τ, ds, b, rs, r, hr, k⟩ => by
  match ds, hr, rs with
  | [.lst ys], hr, rs =>
    obtain ⟨x, rfl, rx⟩ := reps1 rs
    obtain ⟨p, vs, rfl, hp, rp⟩ := rx.lst b.le
    rw [allD] at hr
    cases e : blsOf ys with
    | none => rw [e] at hr; cases hr
    | some bs =>
      rw [e] at hr
      cases hr
      rw [blsOf_eq e] at rp
      exact ⟨p, bs, rfl, by rw [← rp.bls]; exact SqL.of hp, k _ F H b.refl (.bl _)⟩
theorem cr_anyQ (hc : X.calm = true) : CallR X (.builtin "any") (rDn (kc X) anyD) := impCallR (cr_any hc) fun xs H Q ⟨T, F, τ, ds, b, rs, r, hr, k⟩ => by
  match ds, hr, rs with
  | [.lst ys], hr, rs =>
    obtain ⟨x, rfl, rx⟩ := reps1 rs
    obtain ⟨p, vs, rfl, hp, rp⟩ := rx.lst b.le
    rw [anyD] at hr
    cases e : blsOf ys with
    | none => rw [e] at hr; cases hr
    | some bs =>
      rw [e] at hr
      cases hr
      rw [blsOf_eq e] at rp
      exact ⟨p, bs, rfl, by rw [← rp.bls]; exact SqL.of hp, k _ F H b.refl (.bl _)⟩

/-! ### isinstance -/
inductive Ty where
  | non | bl | int | str | tup | lst
def Ty.name : Ty → String
  | .non => "NoneType"
  | .bl => "bool"
  | .int => "int"
  | .str => "str"
  | .tup => "tuple"
  | .lst => "list"
def Ty.isa : Ty → Ty → Bool
  | .non, .non => true
  | .bl, .bl => true
  | .bl, .int => true
  | .int, .int => true
  | .str, .str => true
  | .tup, .tup => true
  | .lst, .lst => true
  | _, _ => false
theorem kit_isa (a b : Ty) : kitB a.name b.name = some (a.isa b) := by
  cases a <;> cases b <;> decide +kernel
def tyD : D → Ty
  | .non => .non
  | .bl _ => .bl
  | .int _ => .int
  | .str _ => .str
  | .tup _ => .tup
  | .lst _ => .lst
  | .scr _ => .lst
  | .tin => .lst
theorem tyX_of {T : Option Addr} {F H : Hp} {τ : Tin} {v : V} {d : D} (b : Bs T F H τ) (r : RepTop (kc X) T F H v d) : TyX X.K H v (.type (tyD d).name) := by
  have r := r.inH b.le
  cases r with
  | non => exact .base .non
  | bl b => exact .base (.bl b)
  | int b => exact .base (.int b)
  | str b => exact .base (.str b)
  | tup h _ =>
    rcases h with (h | ⟨o, h⟩) | ⟨o, its, n, h1, h2, _⟩
    · exact .base (.tup h)
    · exact .fTuple h
    · exact .kTuple h1 h2
  | lst h _ => exact .base (.lst h)
  | scr h =>
    rcases h with (h | ⟨o, h⟩) | ⟨o, its, n, h1, h2, _⟩
    · exact .base (.lst h)
    · exact .base (.frz h)
    · exact .kList h1 h2
  | tin h => exact .base (.lst (b.tn _ h).2)
def dIsi (t : Ty) (fa : Env → M D) : Env → M D := fun ρ => M.bind (fa ρ) fun x => M.pure (.bl ((tyD x).isa t))
def dIsi2 (t u : Ty) (fa : Env → M D) : Env → M D := fun ρ => M.bind (fa ρ) fun x => M.pure (.bl ((tyD x).isa t || (tyD x).isa u))
theorem de_isi (t : Ty) (hg : Gl X "isinstance") (hm : X.mg "isinstance" = none) (ha : DE X W true a fa) (hb : PE X b (tC (.ty t.name)))
    (h1 : starEach [a, b] X.env = (false, eval a X.env) :: starEach [b] X.env := by rfl) (h2 : starEach [b] X.env = (false, eval b X.env) :: starEach [] X.env := by rfl) (hpl : (backTo pos (starEach [b] X.env)).any (·.1) = false := by rfl) :
    DE X W m (.Call (.Name "isinstance" p) [a, b] [] pos) (dIsi t fa) :=
  impPE (pe_callB call_isi hg hm (by decide +kernel) (pa_cons ha (pa_cons hb pa_nil h2) h1) (by decide) (by decide) h1 hpl) fun σ H Q ⟨T, F, ρ, τ, s, q⟩ =>
    tD_mono (tD_of (m := true) s s.bs.refl q) fun x H1 ⟨F1, τ1, d, x1, y1, s1, r1, q1⟩ =>
      ⟨x, .ty t.name, _, .type t.name, _, rfl, .ty _, tyX_of s1.bs r1, kit_ty (kit_isa _ _), q1 _ F1 H1 x1 (repM (.bl _))⟩
theorem de_isi2 (t u : Ty) {k : Nat} {p2 : Pos} (hg : Gl X "isinstance") (hm : X.mg "isinstance" = none) (ha : DE X W true a fa) (hb : PE X b (tC (.ty t.name))) (hc : PE X c (tC (.ty u.name)))
    (h1 : starEach [a, .Tuple [b, c] k p2] X.env = (false, eval a X.env) :: starEach [.Tuple [b, c] k p2] X.env := by rfl) (h2 : starEach [.Tuple [b, c] k p2] X.env = (false, eval (.Tuple [b, c] k p2) X.env) :: starEach [] X.env := by rfl)
    (h3 : starEach [b, c] X.env = (false, eval b X.env) :: starEach [c] X.env := by rfl) (h4 : starEach [c] X.env = (false, eval c X.env) :: starEach [] X.env := by rfl)
    (hpl : (backTo pos (starEach [.Tuple [b, c] k p2] X.env)).any (·.1) = false := by rfl) :
    DE X W m (.Call (.Name "isinstance" p) [a, .Tuple [b, c] k p2] [] pos) (dIsi2 t u fa) :=
  impPE (pe_callB call_isiT hg hm (by decide +kernel) (pa_cons ha (pa_cons (pe_tup (pa_cons hb (pa_cons hc pa_nil h4) h3)) pa_nil h2) h1) (by decide) (by decide) h1 hpl) fun σ H Q ⟨T, F, ρ, τ, s, q⟩ =>
    tD_mono (tD_of (m := true) s s.bs.refl q) fun x H1 ⟨F1, τ1, d, x1, y1, s1, r1, q1⟩ => by
      refine ⟨by show 2 ≤ sizeLine; decide, fun tp htp => ?_⟩
      have x2 := s1.bs.aside (o := .tup [.ty t.name, .ty u.name]) htp
      refine ⟨x, tp, _, .type (tyD d).name, [.type t.name, .type u.name], (tyD d).isa t || (tyD d).isa u, rfl, upd_same, .cons (.ty _) (.cons (.ty _) .nil), tyX_of x2.bs (r1.top.ext x2), ?_, q1 _ _ _ (x1.trans x2) (repM (.bl _))⟩
      refine kitAny_cons (kit_ty (kit_isa _ _)) (fun e => ?_) (fun e => by rw [e]; rfl)
      rw [e, Bool.false_or]
      exact kitAny_cons (kit_ty (kit_isa _ _)) (fun e => by rw [e]; exact kitAny_nil) (fun e => e)

/-! ### calls -/
def spD (κ : Kc) (mg : Str → Option Value) (n : Nat) (f : List D → M D) : Sp := fun vs H Q E => vs.length = n ∧ ∃ T F τ ds, Bs T F H τ ∧ RepAll κ T F vs ds ∧
  wpR (f ds τ) (fun d τ' => ∀ v F' H', Ext T F H F' H' τ' → Rep κ T F' v d → Q v H') (fun e τ' => ∀ F' H' cl, Ext T F H F' H' τ' → mg e = some cl → E cl none H')
/-- the def x keeps the promise that it does what f does on data -/
def Fn (P : Program) (w : World) (K : PySem.W.Frag) (mg : Str → Option Value) (base : Heap) (x : Str) (k n : Nat) (f : List D → M D) : Prop :=
  ∃ (a : Addr) (fd : FuncData) (ps : List Str), mg x = some (.ref a) ∧ PySem.W.keepIn K (.ref a) = true ∧ Binds K fd ps [] ∧ FnOk P w K mg base (L2.CX P w) k a fd ps (spD ⟨P, w, K⟩ mg n f)
abbrev FnX (X : Cx) (x : Str) (k n : Nat) (f : List D → M D) : Prop := Fn X.prog X.w X.K X.mg X.base x k n f
def dCall (n : Nat) (f : List D → M D) (fs : Env → M (List D)) : Env → M D := fun ρ => M.bind (fs ρ) fun ds => if ds.length = n then f ds else M.no
theorem spD_of {n : Nat} {f : List D → M D} {T : Option Addr} {F H F1 H1 : Hp} {σ : L2.St} {τ1 : Tin} {xs : List V} {ds : List D} {Q : VK} (b : Bs T F1 H1 τ1) (x : Ext T F H F1 H1 τ1) (r : RepAll (kc X) T F1 xs ds) (hl : xs.length = n)
    (q : wpR (f ds τ1) (fun d τ' => ∀ v F' H', Ext T F H F' H' τ' → RepM m (kc X) T F' H' v d → Q v H') (wX X.mg W T F H σ)) : spD (kc X) X.mg n f xs H1 Q (WE W σ) :=
  ⟨hl, T, F1, τ1, ds, b, r, wpR_mono q (fun d τ' q v F' H' y rv => q v F' H' (x.trans y) (repM rv)) fun e τ' q F' H' cl y hm => q F' H' cl (x.trans y) hm⟩
theorem de_call {k n : Nat} {f : List D → M D} (G : FnX X x k n f) (hr : Room k X.A) (hg : Gl X x) (tk : Takes X W) (ha : DA X W false (e :: es) fs) (hdb : (x == ("__debug__" : Str)) = false := by decide)
    (he : starEach (e :: es) X.env = (false, eval e X.env) :: starEach es X.env := by rfl) (hpl : (backTo pos (starEach es X.env)).any (·.1) = false := by rfl) : DE X W m (.Call (.Name x p) (e :: es) [] pos) (dCall n f fs) := by
  obtain ⟨fa, fd, ps, h1, h2, h3, h4⟩ := G
  refine impPE (pe_callS (E := WE W) h4 hr hg h1 h2 h3 (fun σ => passAt tk σ) ha hdb he hpl) fun σ H Q ⟨T, F, ρ, τ, s, q⟩ => ?_
  refine tDs_mono (tDs_of (m := false) s s.bs.refl q) fun vs H1 ⟨F1, τ1, ds, x1, y1, s1, r1, q1⟩ => ?_
  split at q1
  · rename_i hl
    exact spD_of s1.bs x1 r1.all (r1.length.trans hl) q1
  · exact q1.elim

end

/-! ### lists of one's own handed to a def that gives out no list -/
mutual
def flatD : D → Bool
  | .tup xs => flatDs xs
  | .lst _ => false
  | .scr _ => false
  | .tin => false
  | .non => true
  | .bl _ => true
  | .int _ => true
  | .str _ => true
def flatDs : List D → Bool
  | [] => true
  | x :: xs => flatD x && flatDs xs
end
open Classical in
/-- what stays, and every list there is -/
noncomputable def allL (T : Option Addr) (F H : Hp) : Hp := fun a => if (F a).isSome = true then F a else if (∃ vs, H a = some (.lst vs)) ∧ T ≠ some a then H a else none
theorem allL_F {T : Option Addr} {F H : Hp} {a : Addr} {o : HO} (h : F a = some o) : allL T F H a = some o := by
  unfold allL
  rw [if_pos (by rw [h]; rfl)]
  exact h
theorem allL_L {T : Option Addr} {F H : Hp} {a : Addr} {vs : List V} (le : Same F H) (h : H a = some (.lst vs)) (ht : T ≠ some a) : allL T F H a = some (.lst vs) := by
  unfold allL
  split
  · rename_i hs
    cases e : F a with
    | none => rw [e] at hs; cases hs
    | some o => rw [← h]; exact (le _ _ e).symm
  · rw [if_pos ⟨⟨vs, h⟩, ht⟩, h]
theorem of_allL {T : Option Addr} {F H : Hp} {a : Addr} {o : HO} (h : allL T F H a = some o) : F a = some o ∨ (F a = none ∧ H a = some o ∧ (∃ vs, o = .lst vs) ∧ T ≠ some a) := by
  unfold allL at h
  split at h
  · exact .inl h
  · rename_i hn
    split at h
    · rename_i hc
      obtain ⟨⟨vs, hv⟩, ht⟩ := hc
      refine .inr ⟨?_, h, ⟨vs, ?_⟩, ht⟩
      · cases e : F a with
        | none => rfl
        | some u => rw [e] at hn; exact absurd rfl hn
      · rw [hv] at h; exact (Option.some.inj h).symm
    · cases h
theorem bs_allL {T : Option Addr} {F H : Hp} {τ : Tin} (b : Bs T F H τ) : Bs T (allL T F H) H τ := by
  refine ⟨fun a o h => ?_, fun a h => ⟨?_, (b.tn a h).2⟩⟩
  · rcases of_allL h with h | h
    · exact b.le _ _ h
    · exact h.2.1
  · cases e : allL T F H a with
    | none => rfl
    | some o =>
      rcases of_allL e with z | z
      · rw [(b.tn a h).1] at z; cases z
      · exact absurd h z.2.2.2
theorem RepTop.allL {κ : Kc} {T : Option Addr} {F H : Hp} {v : V} {d : D} (r : RepTop κ T F H v d) (le : Same F H) : Rep κ T (allL T F H) v d := by
  rcases r with r | ⟨a, vs, ds, rfl, rfl, h3, h4, h5⟩
  · exact r.mono fun _ _ h => allL_F h
  · exact .lst (allL_L le h3 h4) (h5.mono fun _ _ h => allL_F h)
theorem RepMs.allL {κ : Kc} {T : Option Addr} {F H : Hp} (le : Same F H) : ∀ {vs : List V} {ds : List D}, RepMs true κ T F H vs ds → RepAll κ T (DL.allL T F H) vs ds
  | _, _, .nil => .nil
  | _, _, .cons r t => .cons (RepTop.allL r le) (RepMs.allL le t)
open Classical in
/-- the new part alone -/
noncomputable def newOf (F H F1 : Hp) : Hp := fun a => if (F a).isSome = true ∨ H a = none then F1 a else none
theorem newOf_yes {F H F1 : Hp} {a : Addr} (h : (F a).isSome = true ∨ H a = none) : newOf F H F1 a = F1 a := by
  unfold newOf
  rw [if_pos h]
theorem of_newOf {F H F1 : Hp} {a : Addr} {o : HO} (h : newOf F H F1 a = some o) : ((F a).isSome = true ∨ H a = none) ∧ F1 a = some o := by
  unfold newOf at h
  split at h
  · rename_i hc
    exact ⟨hc, h⟩
  · cases h
theorem ext_newOf {T : Option Addr} {F H F1 H1 : Hp} {τ1 : Tin} (b : Same F H) (x : Ext T (allL T F H) H F1 H1 τ1) : Ext T F H (newOf F H F1) H1 τ1 := by
  refine ⟨x.keep, fun a o h => ?_, fun a o h => x.sub _ _ (of_newOf h).2, fun a o h => ?_, fun a h => ⟨?_, (x.tn a h).2⟩⟩
  · rw [newOf_yes (.inl (by rw [h]; rfl))]
    exact x.le _ _ (allL_F h)
  · obtain ⟨hc, h1⟩ := of_newOf h
    rcases hc with hc | hc
    · cases e : F a with
      | none => rw [e] at hc; cases hc
      | some u =>
        have := x.le _ _ (allL_F e)
        rw [h1] at this
        exact .inl (this ▸ rfl)
    · exact .inr hc
  · cases e : newOf F H F1 a with
    | none => rfl
    | some o => exact absurd (of_newOf e).2 (by rw [(x.tn a h).1]; intro z; cases z)
section
variable {κ : Kc} {T : Option Addr} {F H F1 H1 : Hp} {τ1 : Tin}
theorem seqT_newOf {a : Addr} {vs : List V} (x : Ext T (allL T F H) H F1 H1 τ1) (h : SqT κ.K F1 a vs) : SqT κ.K (newOf F H F1) a vs := by
  have go : ∀ o, F1 a = some o → (∀ vs, o ≠ .lst vs) → newOf F H F1 a = some o := fun o h hn => by
    refine (newOf_yes ?_).trans h
    rcases x.new a o h with z | z
    · rcases of_allL z with z | z
      · exact .inl (by rw [z]; rfl)
      · obtain ⟨vs, e⟩ := z.2.2.1
        exact absurd e (hn vs)
    · exact .inr z
  rcases h with (h | ⟨o, h⟩) | h
  · exact .inl (.inl (go _ h fun vs e => by cases e))
  · exact .inl (.inr ⟨o, go _ h fun vs e => by cases e⟩)
  · exact .inr h
mutual
theorem Rep.newOf (x : Ext T (DL.allL T F H) H F1 H1 τ1) : ∀ {v : V} {d : D}, Rep κ T F1 v d → flatD d = true → Rep κ T (DL.newOf F H F1) v d
  | _, _, .non, _ => .non
  | _, _, .bl b, _ => .bl b
  | _, _, .int b, _ => .int b
  | _, _, .str b, _ => .str b
  | _, .tup ds, .tup h r, q => by
    rw [flatD] at q
    exact .tup (seqT_newOf x h) (RepAll.newOf x r q)
  | _, _, .lst h r, q => by rw [flatD] at q; cases q
  | _, _, .scr h, q => by rw [flatD] at q; cases q
  | _, _, .tin h, q => by rw [flatD] at q; cases q
theorem RepAll.newOf (x : Ext T (DL.allL T F H) H F1 H1 τ1) : ∀ {vs : List V} {ds : List D}, RepAll κ T F1 vs ds → flatDs ds = true → RepAll κ T (DL.newOf F H F1) vs ds
  | _, _, .nil, _ => .nil
  | _, d :: ds, .cons r t, q => by
    rw [flatDs, Bool.and_eq_true] at q
    exact .cons (Rep.newOf x r q.1) (RepAll.newOf x t q.2)
end
end
def onlyFlat (d : D) : M D := if flatD d = true then M.pure d else M.no
def dCallT (n : Nat) (f : List D → M D) (fs : Env → M (List D)) : Env → M D := fun ρ => M.bind (fs ρ) fun ds => if ds.length = n then M.bind (f ds) onlyFlat else M.no
section
variable {X : Cx} {W : WX} {m : Bool} {e : Expr} {es : List Expr} {fs : Env → M (List D)} {p pos : Pos} {x : Str}
theorem de_callT {k n : Nat} {f : List D → M D} (G : FnX X x k n f) (hr : Room k X.A) (hg : Gl X x) (tk : Takes X W) (ha : DA X W true (e :: es) fs) (hdb : (x == ("__debug__" : Str)) = false := by decide)
    (he : starEach (e :: es) X.env = (false, eval e X.env) :: starEach es X.env := by rfl) (hpl : (backTo pos (starEach es X.env)).any (·.1) = false := by rfl) : DE X W m (.Call (.Name x p) (e :: es) [] pos) (dCallT n f fs) := by
  obtain ⟨fa, fd, ps, h1, h2, h3, h4⟩ := G
  refine impPE (pe_callS (E := WE W) h4 hr hg h1 h2 h3 (fun σ => passAt tk σ) ha hdb he hpl) fun σ H Q ⟨T, F, ρ, τ, s, q⟩ => ?_
  refine tDs_mono (tDs_of (m := true) s s.bs.refl q) fun vs H1 ⟨F1, τ1, ds, x1, y1, s1, r1, q1⟩ => ?_
  split at q1
  · rename_i hl
    refine ⟨r1.length.trans hl, T, allL T F1 H1, τ1, ds, bs_allL s1.bs, r1.allL s1.bs.le, wpR_mono (wpR_bind q1) (fun d τ' q v F' H' y rv => ?_) fun e τ' q F' H' cl y hm => ?_⟩
    · unfold onlyFlat at q
      split at q
      · rename_i hf
        exact q v _ H' (x1.trans (ext_newOf s1.bs.le y)) (repM (rv.newOf y hf))
      · exact q.elim
    · exact q _ H' cl (x1.trans (ext_newOf s1.bs.le y)) hm
  · exact q1.elim
end
end DL
end

section
set_option Elab.async false
set_option linter.all false
set_option maxRecDepth 100000
set_option maxHeartbeats 2000000
/-! DLG: statements over data -/
namespace DL
open PySem PySem.Spec PyProof.Rows L2

/-- how a statement ends -/
inductive O where
  | nx (ρ : Env) (τ : Tin) | rt (d : D) (τ : Tin) | bk (ρ : Env) (τ : Tin) | ct (ρ : Env) (τ : Tin) | exc (e : Str) (ρ : Env) (τ : Tin) | no
abbrev G := Env → Tin → O
/-- a body's state: what stays since its entry, the entry, what stays, the heap, the slots -/
structure Sta (κ : Kc) (T : Option Addr) (Fp F0 H0 F H : Hp) (σ : L2.St) (ρ : Env) (τ : Tin) : Prop where
  sr : SR κ T F H σ ρ τ
  ex : Ext T F0 H0 F H τ
  ow : ∀ (i : Nat) (xs : List D) (a : Addr), ρ[i]? = some (.own xs) → σ[i]? = some (some (.ref a)) → H0 a = none
  pin : Same Fp F
section
variable {κ : Kc} {T : Option Addr} {Fp F0 H0 F H F' H' : Hp} {σ : L2.St} {ρ : Env} {τ τ' : Tin} {v : V} {d : D} {i : Nat} {a : Addr} {vs ws : List V} {ds es : List D}
theorem Sta.ext (s : Sta κ T Fp F0 H0 F H σ ρ τ) (e : Ext T F H F' H' τ') : Sta κ T Fp F0 H0 F' H' σ ρ τ' := ⟨s.sr.ext e, s.ex.trans e, s.ow, s.pin.trans e.le⟩
theorem get_set {α : Type} {l : List α} {i j : Nat} {x y : α} (h : (l.set i x)[j]? = some y) : (i = j ∧ y = x ∧ i < l.length) ∨ (i ≠ j ∧ l[j]? = some y) := by
  by_cases e : i = j
  · subst e
    by_cases hl : i < l.length
    · rw [List.getElem?_set_self hl] at h
      exact .inl ⟨rfl, (Option.some.inj h).symm, hl⟩
    · rw [List.getElem?_eq_none (by rw [List.length_set]; omega)] at h
      cases h
  · rw [List.getElem?_set_ne e] at h
    exact .inr ⟨e, h⟩
/-- a name gets a value -/
theorem Sta.set (s : Sta κ T Fp F0 H0 F H σ ρ τ) (i : Nat) (r : Rep κ T F v d) : Sta κ T Fp F0 H0 F H (σ.set i (some v)) (ρ.set i (.d d)) τ := by
  have own : ∀ (j : Nat) (xs : List D) (a : Addr), (ρ.set i (.d d))[j]? = some (.own xs) → (σ.set i (some v))[j]? = some (some (.ref a)) → ρ[j]? = some (.own xs) ∧ σ[j]? = some (some (.ref a)) := fun j xs a h1 h2 => by
    rcases get_set h1 with ⟨_, e, _⟩ | ⟨ne, h1⟩
    · cases e
    · rw [List.getElem?_set_ne ne] at h2
      exact ⟨h1, h2⟩
  refine ⟨⟨s.sr.bs, by rw [List.length_set, List.length_set, s.sr.len], fun j x h => ?_, fun j k xs ys a h1 h2 h3 h4 => ?_⟩, s.ex, fun j xs a h1 h2 => ?_, s.pin⟩
  · rcases get_set h with ⟨e, e2, hl⟩ | ⟨ne, h⟩
    · subst e e2
      exact ⟨some v, List.getElem?_set_self (by rw [s.sr.len]; exact hl), v, rfl, r⟩
    · rw [List.getElem?_set_ne ne]
      exact s.sr.slot j x h
  · obtain ⟨a1, a2⟩ := own j xs a h1 h3
    obtain ⟨b1, b2⟩ := own k ys a h2 h4
    exact s.sr.apart j k xs ys a a1 b1 a2 b2
  · obtain ⟨a1, a2⟩ := own j xs a h1 h2
    exact s.ow j xs a a1 a2
/-- a name gets a list of its own -/
theorem Sta.own (s : Sta κ T Fp F0 H0 F H σ ρ τ) (i : Nat) (h1 : H a = some (.lst vs)) (h2 : F a = none) (h3 : T ≠ some a) (r : RepAll κ T F vs ds) (h4 : H0 a = none)
    (h5 : ∀ (j : Nat) (ys : List D), j ≠ i → ρ[j]? = some (.own ys) → σ[j]? ≠ some (some (.ref a))) : Sta κ T Fp F0 H0 F H (σ.set i (some (.ref a))) (ρ.set i (.own ds)) τ := by
  refine ⟨⟨s.sr.bs, by rw [List.length_set, List.length_set, s.sr.len], fun j x h => ?_, fun j k xs ys b q1 q2 q3 q4 => ?_⟩, s.ex, fun j xs b q1 q2 => ?_, s.pin⟩
  · rcases get_set h with ⟨e, e2, hl⟩ | ⟨ne, h⟩
    · subst e e2
      exact ⟨_, List.getElem?_set_self (by rw [s.sr.len]; exact hl), a, vs, rfl, h1, h2, h3, r⟩
    · rw [List.getElem?_set_ne ne]
      exact s.sr.slot j x h
  · rcases get_set q1 with ⟨e1, _, hl⟩ | ⟨n1, q1⟩
    · subst e1
      rcases get_set q2 with ⟨e2, _, _⟩ | ⟨n2, q2⟩
      · exact e2
      · rw [List.getElem?_set_self (by rw [s.sr.len]; exact hl)] at q3
        rw [List.getElem?_set_ne n2] at q4
        cases q3
        exact absurd q4 (h5 k ys (Ne.symm n2) q2)
    · rw [List.getElem?_set_ne n1] at q3
      rcases get_set q2 with ⟨e2, _, hl⟩ | ⟨n2, q2⟩
      · subst e2
        rw [List.getElem?_set_self (by rw [s.sr.len]; exact hl)] at q4
        cases q4
        exact absurd q3 (h5 j xs (Ne.symm n1) q1)
      · rw [List.getElem?_set_ne n2] at q4
        exact s.sr.apart j k xs ys b q1 q2 q3 q4
  · rcases get_set q1 with ⟨e1, _, hl⟩ | ⟨n1, q1⟩
    · subst e1
      rw [List.getElem?_set_self (by rw [s.sr.len]; exact hl)] at q2
      cases q2
      exact h4
    · rw [List.getElem?_set_ne n1] at q2
      exact s.ow j xs b q1 q2
/-- a list of one's own is changed -/
theorem Sta.wr (s : Sta κ T Fp F0 H0 F H σ ρ τ) (hi : ρ[i]? = some (.own ds)) (hv : σ[i]? = some (some (.ref a))) (r : RepAll κ T F ws es) :
    Sta κ T Fp F0 H0 F (upd H a (.lst ws)) σ (ρ.set i (.own es)) τ := by
  obtain ⟨x, hx, b, vs, e, h1, h2, h3, h4⟩ := s.sr.slot i _ hi
  rw [hv] at hx
  cases hx
  cases e
  have h0 := s.ow i ds a hi hv
  have hil : i < ρ.length := (List.getElem?_eq_some_iff.mp hi).1
  have bs : Bs T F (upd H a (.lst ws)) τ := ⟨fun c o q => by
    have : c ≠ a := fun z => by subst z; rw [h2] at q; cases q
    rw [upd_ne this]; exact s.sr.bs.le _ _ q, fun c q => ⟨(s.sr.bs.tn c q).1, by
      have : c ≠ a := fun z => by subst z; exact h3 q
      rw [upd_ne this]; exact (s.sr.bs.tn c q).2⟩⟩
  have ownb : ∀ (j : Nat) (xs : List D), (ρ.set i (.own es))[j]? = some (.own xs) → ∃ ys, ρ[j]? = some (.own ys) := fun j xs q => by
    rcases get_set q with ⟨e1, _, _⟩ | ⟨n1, q⟩
    · subst e1; exact ⟨ds, hi⟩
    · exact ⟨xs, q⟩
  refine ⟨⟨bs, by rw [List.length_set, s.sr.len], fun j x h => ?_, fun j k xs ys b q1 q2 q3 q4 => ?_⟩, ⟨fun c o q n => ?_, s.ex.le, bs.le, s.ex.new, bs.tn⟩, fun j xs b q1 q2 => ?_, s.pin⟩
  · rcases get_set h with ⟨e, e2, hl⟩ | ⟨ne, h⟩
    · subst e e2
      exact ⟨_, hv, a, ws, rfl, upd_same, h2, h3, r⟩
    · obtain ⟨u, hu, q⟩ := s.sr.slot j x h
      refine ⟨u, hu, ?_⟩
      cases x with
      | un => trivial
      | d d => exact q
      | own zs =>
        obtain ⟨c, us, e1, e2, e3, e4, e5⟩ := q
        subst e1
        have nc : c ≠ a := fun z => by subst z; exact ne (s.sr.apart i j ds zs c hi h hv hu)
        exact ⟨c, us, rfl, by rw [upd_ne nc]; exact e2, e3, e4, e5⟩
  · obtain ⟨xs', q1'⟩ := ownb j xs q1
    obtain ⟨ys', q2'⟩ := ownb k ys q2
    exact s.sr.apart j k xs' ys' b q1' q2' q3 q4
  · have : c ≠ a := fun z => by subst z; rw [h0] at q; cases q
    rw [upd_ne this]
    exact s.ex.keep c o q n
  · obtain ⟨xs', q1'⟩ := ownb j xs q1
    exact s.ow j xs' b q1' q2
end

/-! ### readings of statements -/
def wpO (κ : Kc) (mg : Str → Option Value) (W : WX) (T : Option Addr) (Fp F0 H0 : Hp) (D : Ends) (o : O) : Prop := match o with
  | .nx ρ' τ' => ∀ F' H' σ', Sta κ T Fp F0 H0 F' H' σ' ρ' τ' → D.nx σ' H'
  | .bk ρ' τ' => ∀ F' H' σ', Sta κ T Fp F0 H0 F' H' σ' ρ' τ' → D.bk σ' H'
  | .ct ρ' τ' => ∀ F' H' σ', Sta κ T Fp F0 H0 F' H' σ' ρ' τ' → D.ct σ' H'
  | .rt d τ' => ∀ F' H' v, Ext T F0 H0 F' H' τ' → Rep κ T F' v d → D.rt v H'
  | .exc e ρ' τ' => ∀ F' H' σ' cl, Sta κ T Fp F0 H0 F' H' σ' ρ' τ' → mg e = some cl → W cl none σ' H'
  | .no => False
def tS (κ : Kc) (mg : Str → Option Value) (W : WX) (g : G) : TS := fun D σ H => ∃ T Fp F0 H0 F ρ τ, Sta κ T Fp F0 H0 F H σ ρ τ ∧ wpO κ mg W T Fp F0 H0 D (g ρ τ)
abbrev DS (X : Cx) (W : WX) (st : Stmt) (g : G) : Prop := PS X st (tS (kc X) X.mg W g)
abbrev DSs (X : Cx) (W : WX) (st : List Stmt) (g : G) : Prop := PSs X st (tS (kc X) X.mg W g)
def bO {α : Type} (x : M α) (ρ : Env) (k : α → Tin → O) : Tin → O := fun τ => match x τ with
  | .ok a τ1 => k a τ1
  | .exc e τ1 => .exc e ρ τ1
  | .no => .no
theorem bO_ok {α : Type} {x : M α} {ρ : Env} {k : α → Tin → O} {τ τ1 : Tin} {a : α} (h : x τ = .ok a τ1) : bO x ρ k τ = k a τ1 := by
  unfold bO
  rw [h]
theorem bO_pure {α : Type} {a : α} {ρ : Env} {k : α → Tin → O} {τ : Tin} : bO (M.pure a) ρ k τ = k a τ := rfl
theorem bO_bind {α β : Type} {x : M α} {f : α → M β} {ρ : Env} {k : β → Tin → O} {τ : Tin} : bO (M.bind x f) ρ k τ = bO x ρ (fun a τ1 => bO (f a) ρ k τ1) τ := by
  unfold bO M.bind
  cases x τ <;> rfl
section
variable {κ : Kc} {mg : Str → Option Value} {W : WX} {m : Bool} {T : Option Addr} {Fp F0 H0 F H : Hp} {σ : L2.St} {ρ : Env} {τ : Tin} {D : Ends}
theorem bD_of {f : Env → M DL.D} {k : DL.D → Tin → O} (s : Sta κ T Fp F0 H0 F H σ ρ τ) (h : wpO κ mg W T Fp F0 H0 D (bO (f ρ) ρ k τ)) :
    tD κ mg W m f σ H fun v H1 => ∃ F1 τ1 d, Ext T F H F1 H1 τ1 ∧ Sta κ T Fp F0 H0 F1 H1 σ ρ τ1 ∧ RepM m κ T F1 H1 v d ∧ wpO κ mg W T Fp F0 H0 D (k d τ1) := by
  refine ⟨T, F, ρ, τ, s.sr, ?_⟩
  unfold bO at h
  cases e : f ρ τ with
  | ok d τ1 =>
    rw [e] at h
    exact fun v F1 H1 x r => ⟨F1, τ1, d, x, s.ext x, r, h⟩
  | exc c τ1 =>
    rw [e] at h
    exact fun F' H' cl x hm => h F' H' σ cl (s.ext x) hm
  | no => rw [e] at h; exact h
theorem bDs_of {f : Env → M (List DL.D)} {k : List DL.D → Tin → O} (s : Sta κ T Fp F0 H0 F H σ ρ τ) (h : wpO κ mg W T Fp F0 H0 D (bO (f ρ) ρ k τ)) :
    tDs κ mg W m f σ H fun v H1 => ∃ F1 τ1 d, Ext T F H F1 H1 τ1 ∧ Sta κ T Fp F0 H0 F1 H1 σ ρ τ1 ∧ RepMs m κ T F1 H1 v d ∧ wpO κ mg W T Fp F0 H0 D (k d τ1) := by
  refine ⟨T, F, ρ, τ, s.sr, ?_⟩
  unfold bO at h
  cases e : f ρ τ with
  | ok d τ1 =>
    rw [e] at h
    exact fun v F1 H1 x r => ⟨F1, τ1, d, x, s.ext x, r, h⟩
  | exc c τ1 =>
    rw [e] at h
    exact fun F' H' cl x hm => h F' H' σ cl (s.ext x) hm
  | no => rw [e] at h; exact h
theorem bDT_of {f : Env → M Bool} {k : Bool → Tin → O} (s : Sta κ T Fp F0 H0 F H σ ρ τ) (h : wpO κ mg W T Fp F0 H0 D (bO (f ρ) ρ k τ)) :
    tDT κ mg W f σ H fun b H1 => ∃ F1 τ1, Ext T F H F1 H1 τ1 ∧ Sta κ T Fp F0 H0 F1 H1 σ ρ τ1 ∧ wpO κ mg W T Fp F0 H0 D (k b τ1) := by
  refine ⟨T, F, ρ, τ, s.sr, ?_⟩
  unfold bO at h
  cases e : f ρ τ with
  | ok d τ1 =>
    rw [e] at h
    exact fun F1 H1 x => ⟨F1, τ1, x, s.ext x, h⟩
  | exc c τ1 =>
    rw [e] at h
    exact fun F' H' cl x hm => h F' H' σ cl (s.ext x) hm
  | no => rw [e] at h; exact h
end

/-! ### blocks, small statements -/
def sNil : G := fun ρ τ => .nx ρ τ
def seqO (o : O) (g : G) : O := match o with
  | .nx ρ τ => g ρ τ
  | o => o
def sSeq (g h : G) : G := fun ρ τ => seqO (g ρ τ) h
def sNo : G := fun _ _ => .no
def sExpr (f : Env → M D) : G := fun ρ τ => bO (f ρ) ρ (fun _ τ1 => .nx ρ τ1) τ
def sRet (f : Env → M D) : G := fun ρ τ => bO (f ρ) ρ (fun d τ1 => .rt d τ1) τ
def sRetN : G := fun _ τ => .rt .non τ
def sIf (t : Env → M Bool) (g h : G) : G := fun ρ τ => bO (t ρ) ρ (fun c τ1 => if c = true then g ρ τ1 else h ρ τ1) τ
def sSet (i : Nat) (f : Env → M D) : G := fun ρ τ => bO (f ρ) ρ (fun d τ1 => .nx (ρ.set i (.d d)) τ1) τ
def sBrk : G := fun ρ τ => .bk ρ τ
def sCt : G := fun ρ τ => .ct ρ τ
/-- a list of one's own is given up (it is not changed any more) -/
def frz (i : Nat) (ρ : Env) : Env := match ρ[i]? with
  | some (.own xs) => ρ.set i (.d (.lst xs))
  | _ => ρ
def sFrz (i : Nat) (g : G) : G := fun ρ τ => g (frz i ρ) τ
section
variable {X : Cx} {W : WX} {st : Stmt} {rest body : List Stmt} {g h : G} {e c : Expr} {f : Env → M D} {t : Env → M Bool} {pos : Pos}
theorem dss_nil : DSs X W [] sNil := impPSs pss_nil fun D σ H ⟨T, Fp, F0, H0, F, ρ, τ, s, q⟩ => q F H σ s
theorem dss_cons (h1 : DS X W st g) (h2 : DSs X W rest h) : DSs X W (st :: rest) (sSeq g h) := impPSs (pss_cons h1 h2) fun D σ H ⟨T, Fp, F0, H0, F, ρ, τ, s, q⟩ => by
  refine ⟨T, Fp, F0, H0, F, ρ, τ, s, ?_⟩
  unfold sSeq seqO at q
  cases e : g ρ τ with
  | nx ρ1 τ1 =>
    rw [e] at q
    exact fun F' H' σ' s' => ⟨T, Fp, F0, H0, F', ρ1, τ1, s', q⟩
  | _ => rw [e] at q; exact q
theorem dss_one (h1 : DS X W st g) : DSs X W [st] g := pss_one h1
theorem ds_pass : DS X W (.Pass pos) sNil := impPS ps_pass fun D σ H ⟨T, Fp, F0, H0, F, ρ, τ, s, q⟩ => q F H σ s
theorem ds_brk : DS X W (.Break pos) sBrk := impPS ps_break fun D σ H ⟨T, Fp, F0, H0, F, ρ, τ, s, q⟩ => q F H σ s
theorem ds_ct : DS X W (.Continue pos) sCt := impPS ps_continue fun D σ H ⟨T, Fp, F0, H0, F, ρ, τ, s, q⟩ => q F H σ s
theorem ds_no : DS X W st sNo := impPS ps_never fun D σ H ⟨T, Fp, F0, H0, F, ρ, τ, s, q⟩ => q.elim
theorem ds_expr (he : DE X W true e f) (hs : swapsWith e none pos.line X.env = pure false := by rfl) : DS X W (.Expr e pos) (sExpr f) := impPS (ps_expr he hs) fun D σ H ⟨T, Fp, F0, H0, F, ρ, τ, s, q⟩ =>
  tD_mono (bD_of s q) fun v H1 ⟨F1, τ1, d, x1, s1, r1, q1⟩ => q1 F1 H1 σ s1
theorem ds_ret (he : DE X W false e f) : DS X W (.Return (some e) pos) (sRet f) := impPS (ps_ret he) fun D σ H ⟨T, Fp, F0, H0, F, ρ, τ, s, q⟩ =>
  tD_mono (bD_of (m := false) s q) fun v H1 ⟨F1, τ1, d, x1, s1, r1, q1⟩ => q1 F1 H1 v s1.ex r1
theorem ds_retN : DS X W (.Return none pos) sRetN := impPS ps_retN fun D σ H ⟨T, Fp, F0, H0, F, ρ, τ, s, q⟩ => q F H _ s.ex .non
theorem ds_if {a b : List Stmt} (hc : DT X W c t) (ha : DSs X W a g) (hb : DSs X W b h) : DS X W (.If c a b pos) (sIf t g h) := impPS (ps_if hc ha hb) fun D σ H ⟨T, Fp, F0, H0, F, ρ, τ, s, q⟩ =>
  tDT_mono (bDT_of s q) fun c H1 ⟨F1, τ1, x1, s1, q1⟩ => by
    cases c with
    | true => exact ⟨T, Fp, F0, H0, F1, ρ, τ1, s1, q1⟩
    | false => exact ⟨T, Fp, F0, H0, F1, ρ, τ1, s1, q1⟩
theorem ds_set {x : Str} {pos' : Pos} (i : Nat) (hN : X.N.Nodup) (he : DE X W false e f) (hi : X.N[i]? = some x := by rfl) (hx : Loc X.env.scope x := by first | exact .inl rfl | exact .inr rfl)
    (hs : swapsWith e (some (.Name x pos')) pos.line X.env = pure false := by rfl) (hf : X.fn x = true ∨ X.env.scope.names.lookup x = some .local := by first | exact .inl rfl | exact .inr rfl | assumption) :
    DS X W (.Assign [.Name x pos'] e pos) (sSet i f) := impPS (ps_set hN hi hx he hs hf) fun D σ H ⟨T, Fp, F0, H0, F, ρ, τ, s, q⟩ =>
  tD_mono (bD_of (m := false) s q) fun v H1 ⟨F1, τ1, d, x1, s1, r1, q1⟩ => q1 F1 H1 _ (s1.set i r1)
theorem Sta.frz {κ : Kc} {T : Option Addr} {Fp F0 H0 F H : Hp} {σ : L2.St} {ρ : Env} {τ : Tin} (s : Sta κ T Fp F0 H0 F H σ ρ τ) (i : Nat) : ∃ F', Sta κ T Fp F0 H0 F' H σ (frz i ρ) τ := by
  unfold DL.frz
  cases hi : ρ[i]? with
  | none => exact ⟨F, s⟩
  | some u =>
    cases u with
    | un => exact ⟨F, s⟩
    | d d => exact ⟨F, s⟩
    | own xs =>
      obtain ⟨v, hv, a, vs, rfl, h1, h2, h3, h4⟩ := s.sr.slot i _ hi
      have h0 := s.ow i xs a hi hv
      have le : Same F (upd F a (.lst vs)) := fun c o q => by rw [upd_ne (ne_of_none q h2)]; exact q
      have bs : Bs T (upd F a (.lst vs)) H τ := ⟨fun c o q => by
        by_cases hc : c = a
        · subst hc; rw [upd_same] at q; rw [h1]; exact q
        · rw [upd_ne hc] at q; exact s.sr.bs.le _ _ q, fun c q => ⟨by
          have : c ≠ a := fun z => by subst z; exact h3 q
          rw [upd_ne this]; exact (s.sr.bs.tn c q).1, (s.sr.bs.tn c q).2⟩⟩
      have own : ∀ (j : Nat) (ys : List D), (ρ.set i (.d (.lst xs)))[j]? = some (.own ys) → i ≠ j ∧ ρ[j]? = some (.own ys) := fun j ys q => by
        rcases get_set q with ⟨_, e, _⟩ | z
        · cases e
        · exact z
      refine ⟨upd F a (.lst vs), ⟨bs, by rw [List.length_set, s.sr.len], fun j x h => ?_, fun j k ys zs b q1 q2 q3 q4 => s.sr.apart j k ys zs b (own j ys q1).2 (own k zs q2).2 q3 q4⟩,
        ⟨s.ex.keep, s.ex.le.trans le, bs.le, fun c o q => ?_, bs.tn⟩, fun j ys b q1 q2 => s.ow j ys b (own j ys q1).2 q2, s.pin.trans le⟩
      · rcases get_set h with ⟨e, e2, hl⟩ | ⟨ne, h⟩
        · subst e e2
          exact ⟨_, hv, _, rfl, .lst upd_same (h4.mono le)⟩
        · obtain ⟨u, hu, q⟩ := s.sr.slot j x h
          refine ⟨u, hu, ?_⟩
          cases x with
          | un => trivial
          | d d => obtain ⟨x, e1, e2⟩ := q; exact ⟨x, e1, e2.mono le⟩
          | own zs =>
            obtain ⟨c, us, e1, e2, e3, e4, e5⟩ := q
            subst e1
            have nc : c ≠ a := fun z => by subst z; exact ne (s.sr.apart i j xs zs c hi h hv hu)
            exact ⟨c, us, rfl, e2, by rw [upd_ne nc]; exact e3, e4, e5.mono le⟩
      · by_cases hc : c = a
        · subst hc; exact .inr h0
        · rw [upd_ne hc] at q; exact s.ex.new c o q
theorem ds_frz (i : Nat) (h1 : DS X W st g) : DS X W st (sFrz i g) := impPS h1 fun D σ H ⟨T, Fp, F0, H0, F, ρ, τ, s, q⟩ =>
  let ⟨F', s'⟩ := s.frz i
  ⟨T, Fp, F0, H0, F', frz i ρ, τ, s', q⟩
theorem dss_frz (i : Nat) (h1 : DSs X W rest g) : DSs X W rest (sFrz i g) := impPSs h1 fun D σ H ⟨T, Fp, F0, H0, F, ρ, τ, s, q⟩ =>
  let ⟨F', s'⟩ := s.frz i
  ⟨T, Fp, F0, H0, F', frz i ρ, τ, s', q⟩
end
end DL
end

section
set_option Elab.async false
set_option linter.all false
set_option maxRecDepth 100000
set_option maxHeartbeats 2000000
/-! DLH: targets, fresh lists, loops, comprehensions over data -/
namespace DL
open PySem PySem.Spec PyProof.Rows L2

/-! ### targets -/
/-- beyond the slots is, all is as it was -/
def Apart (is : List Nat) (σ σ' : L2.St) (ρ ρ' : Env) : Prop := σ'.length = σ.length ∧ ρ'.length = ρ.length ∧ (∀ j, j ∉ is → σ'[j]? = σ[j]? ∧ ρ'[j]? = ρ[j]?) ∧ ∀ (j : Nat) (xs : List D), ρ'[j]? = some (.own xs) → ρ[j]? = some (.own xs) ∧ σ'[j]? = σ[j]?
def tG (κ : Kc) (is : List Nat) (g : D → Env → Option Env) : TG := fun v σ H Q => ∃ T F ρ τ d, SR κ T F H σ ρ τ ∧ Rep κ T F v d ∧ ∃ ρ', g d ρ = some ρ' ∧ ∀ σ', SR κ T F H σ' ρ' τ → Apart is σ σ' ρ ρ' → Q σ' H
def tGs (κ : Kc) (is : List Nat) (g : List D → Env → Option Env) : TGs := fun vs σ H Q => ∃ T F ρ τ ds, SR κ T F H σ ρ τ ∧ RepAll κ T F vs ds ∧ ∃ ρ', g ds ρ = some ρ' ∧ ∀ σ', SR κ T F H σ' ρ' τ → Apart is σ σ' ρ ρ' → Q σ' H
abbrev DG (X : Cx) (is : List Nat) (e : Expr) (g : D → Env → Option Env) : Prop := PG X e (tG (kc X) is g)
abbrev DGs (X : Cx) (is : List Nat) (es : List Expr) (g : List D → Env → Option Env) : Prop := PGs X es (tGs (kc X) is g)
theorem impPG {X : Cx} {e : Expr} {t t' : TG} (h : PG X e t) (i : ∀ v σ H Q, t' v σ H Q → t v σ H Q) : PG X e t' := ⟨fun pins s σ H v u Q I r q => h.run pins s σ H v u Q I r (i v σ H Q q)⟩
theorem impPGs {X : Cx} {es : List Expr} {t t' : TGs} (h : PGs X es t) (i : ∀ v σ H Q, t' v σ H Q → t v σ H Q) : PGs X es t' := ⟨fun pins s σ H v u Q I r q => h.run pins s σ H v u Q I r (i v σ H Q q)⟩
def gN (i : Nat) : D → Env → Option Env := fun d ρ => some (ρ.set i (.d d))
def gT (n : Nat) (g : List D → Env → Option Env) : D → Env → Option Env := fun d ρ => match d with
  | .tup xs => if xs.length = n then g xs ρ else none
  | _ => none
def gsN : List D → Env → Option Env := fun ds ρ => match ds with
  | [] => some ρ
  | _ => none
def gsC (g : D → Env → Option Env) (h : List D → Env → Option Env) : List D → Env → Option Env := fun ds ρ => match ds with
  | [] => none
  | d :: ds => (g d ρ).bind (h ds)
section
variable {κ : Kc} {T : Option Addr} {F H : Hp} {σ : L2.St} {ρ : Env} {τ : Tin} {v : V} {d : D}
theorem SR.set (s : SR κ T F H σ ρ τ) (i : Nat) (r : Rep κ T F v d) : SR κ T F H (σ.set i (some v)) (ρ.set i (.d d)) τ ∧ Apart [i] σ (σ.set i (some v)) ρ (ρ.set i (.d d)) := by
  have own : ∀ (j : Nat) (xs : List D), (ρ.set i (.d d))[j]? = some (.own xs) → i ≠ j ∧ ρ[j]? = some (.own xs) := fun j xs h1 => by
    rcases get_set h1 with ⟨_, e, _⟩ | z
    · cases e
    · exact z
  refine ⟨⟨s.bs, by rw [List.length_set, List.length_set, s.len], fun j x h => ?_, fun j k xs ys a h1 h2 h3 h4 => ?_⟩, List.length_set, List.length_set, fun j hj => ?_, fun j xs h => ?_⟩
  · rcases get_set h with ⟨e, e2, hl⟩ | ⟨ne, h⟩
    · subst e e2
      exact ⟨some v, List.getElem?_set_self (by rw [s.len]; exact hl), v, rfl, r⟩
    · rw [List.getElem?_set_ne ne]
      exact s.slot j x h
  · obtain ⟨n1, a1⟩ := own j xs h1
    obtain ⟨n2, b1⟩ := own k ys h2
    rw [List.getElem?_set_ne n1] at h3
    rw [List.getElem?_set_ne n2] at h4
    exact s.apart j k xs ys a a1 b1 h3 h4
  · have ne : i ≠ j := fun e => hj (by rw [e]; exact List.mem_singleton_self j)
    exact ⟨List.getElem?_set_ne ne, List.getElem?_set_ne ne⟩
  · obtain ⟨n1, a1⟩ := own j xs h
    exact ⟨a1, List.getElem?_set_ne n1⟩
theorem Apart.refl {is : List Nat} {σ : L2.St} {ρ : Env} : Apart is σ σ ρ ρ := ⟨rfl, rfl, fun _ _ => ⟨rfl, rfl⟩, fun _ _ h => ⟨h, rfl⟩⟩
theorem Apart.trans {is js : List Nat} {σ σ1 σ2 : L2.St} {ρ ρ1 ρ2 : Env} (a : Apart is σ σ1 ρ ρ1) (b : Apart js σ1 σ2 ρ1 ρ2) : Apart (is ++ js) σ σ2 ρ ρ2 := by
  refine ⟨b.1.trans a.1, b.2.1.trans a.2.1, fun j hj => ?_, fun j xs h => ?_⟩
  · obtain ⟨h1, h2⟩ := b.2.2.1 j fun z => hj (List.mem_append_right _ z)
    obtain ⟨h3, h4⟩ := a.2.2.1 j fun z => hj (List.mem_append_left _ z)
    exact ⟨h1.trans h3, h2.trans h4⟩
  · obtain ⟨h1, h2⟩ := b.2.2.2 j xs h
    obtain ⟨h3, h4⟩ := a.2.2.2 j xs h1
    exact ⟨h3, h2.trans h4⟩
theorem Sta.apart {Fp F0 H0 : Hp} {σ' : L2.St} {ρ' : Env} {is : List Nat} (s : Sta κ T Fp F0 H0 F H σ ρ τ) (s' : SR κ T F H σ' ρ' τ) (a : Apart is σ σ' ρ ρ') : Sta κ T Fp F0 H0 F H σ' ρ' τ :=
  ⟨s', s.ex, fun i xs b h1 h2 => let ⟨h3, h4⟩ := a.2.2.2 i xs h1; s.ow i xs b h3 (h4.symm.trans h2), s.pin⟩
end
section
variable {X : Cx} {W : WX} {e : Expr} {es : List Expr} {pos : Pos}
theorem dg_name {x : Str} (i : Nat) (hN : X.N.Nodup) (hi : X.N[i]? = some x := by rfl) (hx : Loc X.env.scope x := by first | exact .inl rfl | exact .inr rfl)
    (hf : X.fn x = true ∨ X.env.scope.names.lookup x = some .local := by first | exact .inl rfl | exact .inr rfl | assumption) : DG X [i] (.Name x pos) (gN i) :=
  impPG (pg_name hN hi hx hf) fun v σ H Q ⟨T, F, ρ, τ, d, s, r, ρ', e, q⟩ => by
    cases e
    obtain ⟨s1, a1⟩ := s.set i r
    exact q _ s1 a1
theorem dgs_nil : DGs X [] [] gsN := impPGs pgs_nil fun vs σ H Q ⟨T, F, ρ, τ, ds, s, r, ρ', e, q⟩ => by
  cases r with
  | nil => cases e; exact ⟨rfl, q _ s .refl⟩
  | cons _ _ => cases e
theorem dgs_cons {is js : List Nat} {g : D → Env → Option Env} {h : List D → Env → Option Env} (h1 : DG X is e g) (h2 : DGs X js es h) (hs : (assignEach (e :: es) X.env).map (·.2) = assign e X.env :: (assignEach es X.env).map (·.2) := by rfl) :
    DGs X (is ++ js) (e :: es) (gsC g h) := impPGs (pgs_cons h1 h2 hs) fun vs σ H Q ⟨T, F, ρ, τ, ds, s, r, ρ', e, q⟩ => by
  cases r with
  | nil => cases e
  | @cons v vs d ds r t =>
    have e : (g d ρ).bind (h ds) = some ρ' := e
    cases e1 : g d ρ with
    | none => rw [e1] at e; cases e
    | some ρ1 =>
      rw [e1] at e
      exact ⟨v, vs, rfl, T, F, ρ, τ, d, s, r, ρ1, e1, fun σ1 s1 a1 => ⟨T, F, ρ1, τ, ds, s1, t, ρ', e, fun σ2 s2 a2 => q σ2 s2 (a1.trans a2)⟩⟩
theorem dg_tup {k n : Nat} {is : List Nat} {g : List D → Env → Option Env} (hc : X.calm = true) (h : DGs X is es g) (hn : (assignEach es X.env).length = n := by rfl) (hst : (assignEach es X.env).findIdx? (·.1) = none := by rfl) :
    DG X is (.Tuple es k pos) (gT n g) := impPG (pg_tup hc h hn hst) fun v σ H Q ⟨T, F, ρ, τ, d, s, r, ρ', e, q⟩ => by
  cases r with
  | @tup a vs ds hq hr =>
    have e : (if ds.length = n then g ds ρ else none) = some ρ' := e
    split at e
    · rename_i hl2
      exact ⟨a, vs, rfl, seqT s.bs.le hq, hr.length.trans hl2, T, F, ρ, τ, ds, s, hr, ρ', e, q⟩
    · cases e
  | _ => cases e
def sAsg (f : Env → M D) (g : D → Env → Option Env) : G := fun ρ τ => bO (f ρ) ρ (fun d τ1 => match g d ρ with
  | some ρ1 => .nx ρ1 τ1
  | none => .no) τ
theorem ds_asg {tg : Expr} {f : Env → M D} {is : List Nat} {g : D → Env → Option Env} (he : DE X W false e f) (hg : DG X is tg g) (hs : swapsWithSole [tg] e pos.line X.env = pure false := by rfl) (hw : swappedStores [tg] e X.env = pure none := by rfl)
    (h1 : (assignEach [tg] X.env).map (·.2) = [assign tg X.env] := by rfl) : DS X W (.Assign [tg] e pos) (sAsg f g) := impPS (ps_asg he hg hs hw h1) fun D σ H ⟨T, Fp, F0, H0, F, ρ, τ, s, q⟩ =>
  tD_mono (bD_of (m := false) s q) fun v H1 ⟨F1, τ1, d, x1, s1, r1, q1⟩ => by
    cases e1 : g d ρ with
    | none => rw [e1] at q1; exact q1.elim
    | some ρ1 =>
      rw [e1] at q1
      exact ⟨T, F1, ρ, τ1, d, s1.sr, r1, ρ1, e1, fun σ' s' a' => q1 F1 H1 σ' (s1.apart s' a')⟩
end

/-! ### fresh lists -/
def freshP (κ : Kc) (T : Option Addr) (F H : Hp) (Q : VK) : List D → Tin → Prop := fun ds τ' =>
  ∀ a vs F' H', Ext T F H F' H' τ' → H a = none → F' a = none → H' a = some (.lst vs) → T ≠ some a → RepAll κ T F' vs ds → Q (.ref a) H'
def tF (κ : Kc) (mg : Str → Option Value) (W : WX) (f : Env → M (List D)) : TE := fun σ H Q => ∃ T F ρ τ, SR κ T F H σ ρ τ ∧ wpR (f ρ τ) (freshP κ T F H Q) (wX mg W T F H σ)
abbrev DF (X : Cx) (W : WX) (e : Expr) (f : Env → M (List D)) : Prop := PE X e (tF (kc X) X.mg W f)
def dOf (f : Env → M (List D)) : Env → M D := fun ρ => M.bind (f ρ) fun xs => M.pure (.lst xs)
section
variable {κ : Kc} {T : Option Addr} {F H F' H' : Hp} {τ τ' : Tin} {a : Addr} {vs : List V}
/-- a list that is not of what stays is taken to it -/
theorem Ext.take (x : Ext T F H F' H' τ') (h0 : H a = none) (h1 : F' a = none) (h2 : H' a = some (.lst vs)) (h3 : T ≠ some a) : Ext T F H (upd F' a (.lst vs)) H' τ' ∧ Same F' (upd F' a (.lst vs)) := by
  have le : Same F' (upd F' a (.lst vs)) := fun c o q => by rw [upd_ne (ne_of_none q h1)]; exact q
  refine ⟨⟨x.keep, x.le.trans le, fun c o q => ?_, fun c o q => ?_, fun c q => ⟨?_, (x.tn c q).2⟩⟩, le⟩
  · by_cases hc : c = a
    · subst hc; rw [upd_same] at q; rw [h2]; exact q
    · rw [upd_ne hc] at q; exact x.sub _ _ q
  · by_cases hc : c = a
    · subst hc; exact .inr h0
    · rw [upd_ne hc] at q; exact x.new _ _ q
  · rw [upd_ne (fun z => by subst z; exact h3 q)]
    exact (x.tn c q).1
end
section
variable {X : Cx} {W : WX} {m : Bool} {e : Expr} {es : List Expr} {f fs : Env → M (List D)} {pos : Pos}
/-- a fresh list as a value -/
theorem de_fresh (h : DF X W e f) : DE X W m e (dOf f) := impPE h fun σ H Q ⟨T, F, ρ, τ, s, q⟩ => ⟨T, F, ρ, τ, s, wpR_mono (wpR_bind q) (fun ds τ' q a vs F' H' x h0 h1 h2 h3 r => by
  obtain ⟨x2, le⟩ := x.take h0 h1 h2 h3
  exact q (.ref a) _ H' x2 (repM (.lst upd_same (r.mono le)))) fun _ _ z => z⟩
def fLst (fs : Env → M (List D)) : Env → M (List D) := fun ρ => M.bind (fs ρ) fun xs => if fits xs = true then M.pure xs else M.no
theorem T_ne {T : Option Addr} {F H : Hp} {τ : Tin} {a : Addr} (b : Bs T F H τ) (h : H a = none) : T ≠ some a := fun z => by
  rw [(b.tn a z).2] at h; cases h
theorem df_lst (h : DA X W false es fs) : DF X W (.List es pos) (fLst fs) := impPE (pe_lst h) fun σ H Q ⟨T, F, ρ, τ, s, q⟩ => by
  refine tDs_mono (tDs_of (m := false) s s.bs.refl q) fun xs H1 ⟨F1, τ1, ds, x1, y1, s1, r1, q1⟩ => ?_
  split at q1
  · rename_i hf
    refine ⟨by rw [r1.length]; exact fits_le hf, fun p hp => ?_⟩
    have x2 := s1.bs.aside (o := .lst xs) hp
    have hp0 : H p = none := by
      cases z : H p with
      | none => rfl
      | some o =>
        by_cases ht : T = some p
        · rw [(s1.bs.tn p ht).2] at hp; cases hp
        · rw [x1.keep p o z ht] at hp; cases hp
    exact q1 p xs _ _ (x1.trans x2) hp0 (Same.free s1.bs.le hp) upd_same (T_ne s1.bs hp) r1.all
  · exact q1.elim
/-- list(..) of a list or a tuple -/
def fItems (fa : Env → M D) : Env → M (List D) := fun ρ => M.bind (fa ρ) fun x => M.lift (itemsD x)
theorem was_free {T : Option Addr} {F H F1 H1 : Hp} {τ1 : Tin} {p : Addr} (x1 : Ext T F H F1 H1 τ1) (hp : H1 p = none) : H p = none := by
  cases z : H p with
  | none => rfl
  | some o =>
    by_cases ht : T = some p
    · rw [(x1.tn p ht).2] at hp; cases hp
    · rw [x1.keep p o z ht] at hp; cases hp
theorem df_listOf {fa : Env → M D} {p : Pos} (hg : Gl X "list") (hm : X.mg "list" = none) (ha : DE X W true e fa)
    (he : starEach [e] X.env = (false, eval e X.env) :: starEach [] X.env := by rfl) (hpl : (backTo pos (starEach [] X.env)).any (·.1) = false := by rfl) : DF X W (.Call (.Name "list" p) [e] [] pos) (fItems fa) :=
  impPE (pe_callTy call_list_of hg hm (by decide +kernel) (pa_cons ha pa_nil he) (by decide) (by decide) he hpl) fun σ H Q ⟨T, F, ρ, τ, s, q⟩ =>
    tD_mono (tD_of (m := true) s s.bs.refl q) fun x H1 ⟨F1, τ1, d, x1, y1, s1, r1, q1⟩ => by
      obtain ⟨ds, e1, q2⟩ := wpR_lift q1
      have go : ∀ (p : Addr) (vs : List V), x = .ref p → SqL X.K H1 p vs ∨ SqT X.K H1 p vs → RepAll (kc X) T F1 vs ds → ∃ p ys, [x] = [V.ref p] ∧ (SqL X.K H1 p ys ∨ SqT X.K H1 p ys) ∧ ∀ l, H1 l = none → Q (.ref l) (upd H1 l (.lst ys)) := fun p vs ex hq rv =>
        ⟨p, vs, by rw [ex], hq, fun l hl => q2 l vs _ _ (x1.trans (s1.bs.aside hl)) (was_free x1 hl) (Same.free s1.bs.le hl) upd_same (T_ne s1.bs hl) rv⟩
      cases d with
      | tup ys =>
        cases e1
        obtain ⟨p, vs, ex, hq, rv⟩ := RepTop.tup r1
        exact go p vs ex (.inr (seqT s1.bs.le hq)) rv
      | lst ys =>
        cases e1
        obtain ⟨p, vs, ex, hq, rv⟩ := RepTop.lst r1 s1.bs.le
        exact go p vs ex (.inl (SqL.of hq)) rv
      | _ => cases e1
end

/-! ### what is walked -/
/-- J walks through ds while F1 stays -/
def ItD (κ : Kc) (T : Option Addr) (F1 : Hp) (J : It) (ds : List D) : Prop := ∃ Y, Walk J ds.length (fun H => Same F1 H) Y ∧
  ∀ (i : Nat) (d : D) (H : Hp) (x : V) (H' F : Hp) (τ : Tin), ds[i]? = some d → Y i H x H' → Bs T F H τ → Same F1 F → ∃ F', Ext T F H F' H' τ ∧ Rep κ T F' x d
def tI (κ : Kc) (mg : Str → Option Value) (W : WX) (f : Env → M (List D)) : TI := fun σ H R => ∃ T F ρ τ, SR κ T F H σ ρ τ ∧
  wpR (f ρ τ) (fun ds τ' => ∀ J F' H', Ext T F H F' H' τ' → ItD κ T F' J ds → R J H') (wX mg W T F H σ)
abbrev DI (X : Cx) (W : WX) (tg iter : Expr) (f : Env → M (List D)) : Prop := PI X tg iter (tI (kc X) X.mg W f)
theorem impPI {X : Cx} {tg iter : Expr} {t t' : TI} (h : PI X tg iter t) (i : ∀ σ H R, t' σ H R → t σ H R) : PI X tg iter t' := ⟨fun pins s σ H R I q => h.run pins s σ H R I (i σ H R q)⟩
section
variable {κ : Kc} {T : Option Addr} {F F1 H : Hp} {a b : Addr} {vs ws : List V} {ds es : List D}
theorem yat {xs : List V} (r : RepAll κ T F1 xs ds) : ∀ (i : Nat) (d : D) (H : Hp) (x : V) (H' F : Hp) (τ : Tin), ds[i]? = some d → YAt xs i H x H' → Bs T F H τ → Same F1 F → ∃ F', Ext T F H F' H' τ ∧ Rep κ T F' x d :=
  fun i d H x H' F τ hd ⟨e, hx⟩ b le => by
    subst e
    obtain ⟨v, hv, rv⟩ := r.get hd
    rw [hx] at hv
    cases hv
    exact ⟨F, b.refl, rv.mono le⟩
theorem it_lst (h : F1 a = some (.lst vs)) (r : RepAll κ T F1 vs ds) : ItD κ T F1 (Itl κ.K a) ds :=
  ⟨YAt vs, by rw [← r.length]; exact walk_list.mono (fun H le => SqL.of (le _ _ h)) fun _ _ _ _ _ _ y => y, yat r⟩
theorem it_tup (h : SqT κ.K F1 a vs) (r : RepAll κ T F1 vs ds) : ItD κ T F1 (Itt κ.K a) ds :=
  ⟨YAt vs, by rw [← r.length]; exact walk_tup.mono (fun H le => seqT le h) fun _ _ _ _ _ _ y => y, yat r⟩
def rangeD (lo : Int) (n : Nat) : List D := (List.range n).map fun i => .int (lo + (i : Nat))
theorem it_rng {lo : Int} {n : Nat} : ItD κ T F1 (Itr lo n) (rangeD lo n) := by
  refine ⟨YFn fun i => .int (lo + i), ?_, fun i d H x H' F τ hd ⟨e, hx⟩ b le => ?_⟩
  · have e : (rangeD lo n).length = n := by unfold rangeD; rw [List.length_map, List.length_range]
    rw [e]
    exact walk_range.mono (fun _ _ => trivial) fun _ _ _ _ _ _ y => y
  · subst e hx
    unfold rangeD at hd
    rw [List.getElem?_map] at hd
    cases e : (List.range n)[i]? with
    | none => rw [e] at hd; cases hd
    | some j =>
      rw [e] at hd
      cases hd
      have ej : j = i := by
        obtain ⟨h1, h2⟩ := List.getElem?_eq_some_iff.mp e
        rw [List.getElem_range] at h2
        exact h2.symm
      subst ej
      exact ⟨F, b.refl, .int _⟩
/-- pairs, made as one goes -/
def pairD (ds es : List D) : List D := (ds.zip es).map fun p => .tup [p.1, p.2]
theorem ypair {xs ys : Nat → Option V} (r1 : ∀ i d x, ds[i]? = some d → xs i = some x → Rep κ T F1 x d) (r2 : ∀ i d x, es[i]? = some d → ys i = some x → Rep κ T F1 x d) :
    ∀ (i : Nat) (d : D) (H : Hp) (x : V) (H' F : Hp) (τ : Tin), (pairD ds es)[i]? = some d → YPair xs ys i H x H' → Bs T F H τ → Same F1 F → ∃ F', Ext T F H F' H' τ ∧ Rep κ T F' x d :=
  fun i d H x H' F τ hd ⟨p, u, v, e1, hp, e2, h1, h2⟩ b le => by
    subst e1 e2
    unfold pairD at hd
    rw [List.getElem?_map] at hd
    cases e : (ds.zip es)[i]? with
    | none => rw [e] at hd; cases hd
    | some q =>
      rw [e] at hd
      cases hd
      rw [List.getElem?_zip_eq_some] at e
      have x1 := b.push (o := .tup [u, v]) hp
      exact ⟨_, x1, .tup (SqT.of upd_same) (.cons (((r1 i _ u e.1 h1).mono le).mono x1.le) (.cons (((r2 i _ v e.2 h2).mono le).mono x1.le) .nil))⟩
end
section
variable {X : Cx} {W : WX} {tg l e e2 : Expr} {f fa fb : Env → M D} {fs : Env → M (List D)} {p pos : Pos}
def iSeq (f : Env → M D) : Env → M (List D) := fun ρ => M.bind (f ρ) fun x => M.lift (itemsD x)
theorem di_seq (he : DE X W false l f) : DI X W tg l (iSeq f) := by
  refine ⟨fun pins s0 σ H R I ⟨T, F, ρ, τ, s, q⟩ => ?_⟩
  refine thn (he.run pins s0 σ H _ I (tD_of (m := false) s s.bs.refl q)) fun u s1 ⟨x, H1, I1, ru, F1, τ1, d, x1, y1, sr1, r1, q1⟩ => ?_
  obtain ⟨ds, e1, q2⟩ := wpR_lift q1
  have r1 : Rep (kc X) T F1 x d := r1
  cases r1 with
  | @tup a vs es hq hr =>
    cases e1
    cases ru
    obtain ⟨its, rv, pt, hz⟩ := I1.tuple (seqT sr1.bs.le hq)
    refine wpAny_pyIter_tuple (show s1.heap.IsTuple a its.toArray from pt) ⟨s1.heap.objs.size, [s1.heap.objs.size], _, Itt X.K a, H1, rfl, I1.kept (t' := s1.toks) fun b o z => Heap.get?_push_of_some _ z, turn_tuple a _,
      ⟨_, Heap.get?_push_size _ rfl, rfl, rfl⟩, fun b hb => ?_, q2 _ F1 H1 x1 (it_tup hq hr)⟩
    obtain rfl : b = s1.heap.objs.size := by simpa using hb
    exact I1.fpOk (Nat.le_refl _) (I1.hok.fresh (Nat.le_refl _))
  | @lst a vs es hq hr =>
    cases e1
    cases ru
    obtain ⟨its, rv, pl, hz⟩ := I1.list (SqL.of (sr1.bs.le _ _ hq))
    refine wpAny_pyIter_list pl.isList ⟨s1.heap.objs.size, [s1.heap.objs.size], _, Itl X.K a, H1, rfl, I1.kept (t' := s1.toks) fun b o z => Heap.get?_push_of_some _ z, turn_list a _,
      ⟨_, Heap.get?_push_size _ rfl, rfl, rfl⟩, fun b hb => ?_, q2 _ F1 H1 x1 (it_lst hq hr)⟩
    obtain rfl : b = s1.heap.objs.size := by simpa using hb
    exact I1.fpOk (Nat.le_refl _) (I1.hok.fresh (Nat.le_refl _))
  | _ => cases e1
def inRng (i : Int) : Bool := decide (-(2 ^ 62) ≤ i) && decide (i < 2 ^ 62)
theorem turn_long {P : Program} {w : World} {K : PySem.W.Frag} {tg : Expr} (it : Addr) (lo : Int) (n : Nat) : Turn P w K tg (Itr lo n) [it] it (fun i h => IsLongIter h it (lo + (i : Nat) * 1) ((n : Int) - (i : Nat)) 1) where
  mem := by simp
  obj := fun i h st b hb => by
    have e : b = it := by simpa using hb
    subst e
    exact ⟨_, st, fun v z => by
      have z' : Data.fields _ = Data.cell v := z
      cases z'⟩
  keep := fun i h h' st k => k it (by simp) _ st
  item := by
    intro X hP hw hK hc i pins s σ H E I hf st hg
    subst hP hw hK
    obtain ⟨f0, f1, f2, f3, f4, f5⟩ := hf it (by simp)
    have W := Walks.longrange (prog := X.prog) (w := X.w) (I.ok.hd hc) it lo 1 n
    refine W.item i s _ _ hg st fun v h' tk hv st' kk => ?_
    obtain ⟨t, rfl⟩ := hv
    have I1 : Inv X pins σ H { s with heap := h', toks := tk } := I.turned (fun b o hb e => kk b o (by simpa using hb) e) f0 f1 f3 f4 f5
    refine ⟨_, rfl, go_of (s := { s with heap := h', toks := tk }) (n := "longrange_iterator") st' rfl rfl (by decide) ⟨.int (lo + i), H, I1, ⟨t, ?_⟩, ⟨rfl, rfl⟩, st', fun b hb => (hf b hb).1⟩⟩
    rw [Int.mul_one]
  done := by
    intro X hP hw hK hc i pins s σ H E I hf st hg
    subst hP hw hK
    obtain ⟨f0, f1, f2, f3, f4, f5⟩ := hf it (by simp)
    exact wpAny_pyNext_long_end (I.ok.hd hc) st (by have : n ≤ i := hg; omega) fun h' eb => ⟨rfl, I.turned (t' := s.toks) (fun b o hb e => eb b o hb e) f0 f1 f3 f4 f5⟩
  self := fun _ _ _ _ _ st h => wpAny_pyIter_longiter st h
/-- a range object just made, walked; bounds of any size -/
theorem range_itA {pins : List (Addr × Obj)} {σ : L2.St} {H : Hp} {s : Shared} {R : It → Hp → Prop} {E : Value → Shared → Prop} {lo hi : Int} {t u v : Tok} {tk : Nat} (I : Inv X pins σ H s)
    (q : R (Itr lo (hi - lo).toNat) H) : wpAny (model X.prog X.w) X.A (pyIter (.ref s.heap.objs.size)) (PIE X pins σ tg R) E { s with heap := s.heap.push { cls := .type "range", data := .fields #[.int lo t, .int hi u, .int 1 v] }, toks := tk } := by
  have I1 : Inv X pins σ H { s with heap := s.heap.push { cls := .type "range", data := .fields #[.int lo t, .int hi u, .int 1 v] }, toks := tk } := I.kept fun b o e => Heap.get?_push_of_some _ e
  have e1 : lo + ((0 : Nat) : Int) * 1 = lo := by simp
  have e2 : (((hi - lo).toNat : Nat) : Int) - ((0 : Nat) : Int) = Builtin.Range.rangeSize lo hi 1 := by rw [rangeSize_one]; split <;> omega
  cases hsm : Builtin.Range.small lo hi 1 with
  | true =>
    refine wpAny_pyIter_range (IsRange.new ..) hsm ?_
    refine ⟨(s.heap.push { cls := .type "range", data := .fields #[.int lo t, .int hi u, .int 1 v] }).objs.size, [(s.heap.push { cls := .type "range", data := .fields #[.int lo t, .int hi u, .int 1 v] }).objs.size], _, _, H, rfl,
      I1.kept (t' := tk) fun b o e => Heap.get?_push_of_some _ e, turn_range _ lo (hi - lo).toNat, ?_, fun b hb => ?_, q⟩
    · show IsRangeIter _ _ (lo + ((0 : Nat) : Int) * 1) ((((hi - lo).toNat : Nat) : Int) - ((0 : Nat) : Int)) 1
      rw [e1, e2]
      exact Heap.get?_push_size _ rfl
    · have e : b = (s.heap.push { cls := .type "range", data := .fields #[.int lo t, .int hi u, .int 1 v] }).objs.size := by simpa using hb
      subst e
      exact I1.fpOk (Nat.le_refl _) (I1.hok.fresh (Nat.le_refl _))
  | false =>
    refine wpAny_pyIter_longrange (IsRange.new ..) hsm ?_
    refine ⟨(s.heap.push { cls := .type "range", data := .fields #[.int lo t, .int hi u, .int 1 v] }).objs.size, [(s.heap.push { cls := .type "range", data := .fields #[.int lo t, .int hi u, .int 1 v] }).objs.size], _, _, H, rfl,
      I1.kept (t' := tk) fun b o e => Heap.get?_push_of_some _ e, turn_long _ lo (hi - lo).toNat, ?_, fun b hb => ?_, q⟩
    · show IsLongIter _ _ (lo + ((0 : Nat) : Int) * 1) ((((hi - lo).toNat : Nat) : Int) - ((0 : Nat) : Int)) 1
      rw [e1, e2]
      exact Heap.get?_push_size _ rfl
    · have e : b = (s.heap.push { cls := .type "range", data := .fields #[.int lo t, .int hi u, .int 1 v] }).objs.size := by simpa using hb
      subst e
      exact I1.fpOk (Nat.le_refl _) (I1.hok.fresh (Nat.le_refl _))
def iRngA1 (ta : TA) : TI := fun σ H R => ta σ H fun vs H1 => ∃ j : Int, vs = [.int j] ∧ R (Itr 0 j.toNat) H1
def iRngA2 (ta : TA) : TI := fun σ H R => ta σ H fun vs H1 => ∃ i j : Int, vs = [.int i, .int j] ∧ R (Itr i (j - i).toNat) H1
theorem pi_rangeA1 {a : Expr} {ta : TA} (hg : Gl X "range") (hm : X.mg "range" = none) (ha : PA X [a] ta) (hs : starEach [a] X.env = [(false, eval a X.env)] := by rfl) : PI X tg (.Call (.Name "range" p) [a] [] pos) (iRngA1 ta) := by
  refine ⟨fun pins s σ H R I h => ?_⟩
  refine Call_ (ld_blt I hg hm boot_range (PyProof.Rows.callWith_type1 (thn (ha.run pos pins s σ H _ I h) fun us s1 ⟨vs, H1, I1, r1, q1⟩ => ?_) hs rfl))
  obtain ⟨j, e, q⟩ := q1
  subst e
  cases r1 with
  | cons r rr =>
    cases rr
    obtain ⟨t, rfl⟩ := r
    exact call_range_1 (range_itA I1 (by simpa using q))
theorem pi_rangeA2 {a b : Expr} {ta : TA} (hg : Gl X "range") (hm : X.mg "range" = none) (ha : PA X [a, b] ta) (hs : starEach [a, b] X.env = [(false, eval a X.env), (false, eval b X.env)] := by rfl) (hs2 : starEach [b] X.env = [(false, eval b X.env)] := by rfl) :
    PI X tg (.Call (.Name "range" p) [a, b] [] pos) (iRngA2 ta) := by
  refine ⟨fun pins s σ H R I h => ?_⟩
  refine Call_ (ld_blt I hg hm boot_range (PyProof.Rows.callWith_type1 (thn (ha.run pos pins s σ H _ I h) fun us s1 ⟨vs, H1, I1, r1, q1⟩ => ?_) (by rw [hs, hs2]) (by rw [hs2]; rfl)))
  obtain ⟨i, j, e, q⟩ := q1
  subst e
  cases r1 with
  | cons r rr =>
    cases rr with
    | cons r' rr =>
      cases rr
      obtain ⟨t, rfl⟩ := r
      obtain ⟨t', rfl⟩ := r'
      exact call_range_2 (range_itA I1 q)
def iR1 (fa : Env → M D) : Env → M (List D) := fun ρ => M.bind (fa ρ) fun x => M.bind (toI x) fun i => M.pure (rangeD 0 i.toNat)
def iR2 (fa fb : Env → M D) : Env → M (List D) := fun ρ => M.bind (fa ρ) fun x => M.bind (fb ρ) fun y => M.bind (toI x) fun i => M.bind (toI y) fun j => M.pure (rangeD i (j - i).toNat)
theorem di_range1 (hg : Gl X "range") (hm : X.mg "range" = none) (ha : DE X W false e fa) (hs : starEach [e] X.env = [(false, eval e X.env)] := by rfl) (he : starEach [e] X.env = (false, eval e X.env) :: starEach [] X.env := by rfl) :
    DI X W tg (.Call (.Name "range" p) [e] [] pos) (iR1 fa) := impPI (pi_rangeA1 hg hm (pa_cons ha pa_nil he) hs) fun σ H R ⟨T, F, ρ, τ, s, q⟩ =>
  tD_mono (tD_of (m := false) s s.bs.refl q) fun x H1 ⟨F1, τ1, d, x1, y1, s1, r1, q1⟩ => by
    cases r1 with
    | int i =>
      have q2 : wpR (M.pure (rangeD 0 i.toNat) τ1) _ _ := q1
      exact ⟨i, rfl, q2 _ F1 H1 x1 it_rng⟩
    | _ => exact q1.elim
theorem di_range2 (hg : Gl X "range") (hm : X.mg "range" = none) (ha : DE X W false e fa) (hb : DE X W false e2 fb) (hs : starEach [e, e2] X.env = [(false, eval e X.env), (false, eval e2 X.env)] := by rfl) (hs2 : starEach [e2] X.env = [(false, eval e2 X.env)] := by rfl)
    (he : starEach [e, e2] X.env = (false, eval e X.env) :: starEach [e2] X.env := by rfl) (he2 : starEach [e2] X.env = (false, eval e2 X.env) :: starEach [] X.env := by rfl) :
    DI X W tg (.Call (.Name "range" p) [e, e2] [] pos) (iR2 fa fb) := impPI (pi_rangeA2 hg hm (pa_cons ha (pa_cons hb pa_nil he2) he) hs hs2) fun σ H R ⟨T, F, ρ, τ, s, q⟩ =>
  tD_mono (tD_of (m := false) s s.bs.refl q) fun x H1 ⟨F1, τ1, d, x1, y1, s1, r1, q1⟩ => tD_mono (tD_of (m := false) s1 x1 q1) fun y H2 ⟨F2, τ2, d2, x2, y2, s2, r2, q2⟩ => by
    cases r1 with
    | int i =>
      cases r2 with
      | int j =>
        have q3 : wpR (M.pure (rangeD i (j - i).toNat) τ2) _ _ := q2
        exact ⟨i, j, rfl, q3 _ F2 H2 x2 it_rng⟩
      | _ => exact q2.elim
    | _ => exact q2.elim
end
end DL
end

section
set_option Elab.async false
set_option linter.all false
set_option maxRecDepth 100000
set_option maxHeartbeats 2000000
/-! DLI: loops, comprehensions, stores over data -/
namespace DL
open PySem PySem.Spec PyProof.Rows L2

/-! ### for, while -/
def turnO (o : O) (k : Env → Tin → O) : O := match o with
  | .nx ρ τ => k ρ τ
  | .ct ρ τ => k ρ τ
  | .bk ρ τ => .nx ρ τ
  | o => o
def loopO (g : D → Env → Option Env) (b : G) : List D → Env → Tin → O
  | [], ρ, τ => .nx ρ τ
  | d :: ds, ρ, τ => match g d ρ with
    | none => .no
    | some ρ1 => turnO (b ρ1 τ) (loopO g b ds)
def sFor (f : Env → M (List D)) (g : D → Env → Option Env) (b : G) : G := fun ρ τ => bO (f ρ) ρ (fun ds τ1 => loopO g b ds ρ τ1) τ
def whileO (t : Env → M Bool) (b : G) : Nat → Env → Tin → O
  | 0, _, _ => .no
  | n + 1, ρ, τ => bO (t ρ) ρ (fun c τ1 => if c = true then turnO (b ρ τ1) (whileO t b n) else .nx ρ τ1) τ
def sWhile (n : Nat) (t : Env → M Bool) (b : G) : G := fun ρ τ => whileO t b n ρ τ
section
variable {X : Cx} {W : WX} {tg iter c : Expr} {body : List Stmt} {f : Env → M (List D)} {g : D → Env → Option Env} {b : G} {t : Env → M Bool} {is : List Nat} {pos : Pos}
theorem Sta.rebase {κ : Kc} {T : Option Addr} {Fp Fq F0 H0 F H : Hp} {σ : L2.St} {ρ : Env} {τ : Tin} (s : Sta κ T Fp F0 H0 F H σ ρ τ) (h : Same Fq F) : Sta κ T Fq F0 H0 F H σ ρ τ := ⟨s.sr, s.ex, s.ow, h⟩
theorem ds_for (hp : PassesOwn (model X.prog X.w) X.A X.env X.xe) (hc : X.calm = true) (hi : DI X W tg iter f) (hg : DG X is tg g) (hb : DSs X W body b)
    (hs : ∀ x, foldedSetIterable iter X.env x = pure x := by intro _; rfl) : DS X W (.For tg iter body [] pos) (sFor f g b) := impPS (ps_for hp hc hi hg hb hs) fun D σ H ⟨T, Fp, F0, H0, F, ρ, τ, s, q⟩ => by
  refine ⟨T, F, ρ, τ, s.sr, ?_⟩
  unfold sFor bO at q
  cases e : f ρ τ with
  | no => rw [e] at q; exact q.elim
  | exc c τ1 =>
    rw [e] at q
    exact fun F' H' cl x hm => q F' H' σ cl (s.ext x) hm
  | ok ds τ1 =>
    rw [e] at q
    intro J F1 H1 x1 ⟨Y, wk, yd⟩
    refine for_it wk (fun i σ H => ∃ F ρ τ, Sta (kc X) T F1 F0 H0 F H σ ρ τ ∧ Same Fp F ∧ wpO (kc X) X.mg W T Fp F0 H0 D (loopO g b (ds.drop i) ρ τ)) ⟨F1, ρ, τ1, (s.ext x1).rebase (Same.refl _), (s.ext x1).pin, q⟩
      (fun i σ H _ ⟨F2, ρ2, τ2, s2, _, _⟩ => s2.pin.trans s2.sr.bs.le) (fun i x σ H H' hi ⟨F2, ρ2, τ2, s2, fp2, q2⟩ y => ?_) (fun σ H ⟨F2, ρ2, τ2, s2, fp2, q2⟩ => ?_)
    · have hd : ds[i]? = some ds[i] := List.getElem?_eq_getElem hi
      obtain ⟨F3, x3, r3⟩ := yd i _ H x H' F2 τ2 hd y s2.sr.bs s2.pin
      have s3 := s2.ext x3
      rw [List.drop_eq_getElem_cons hi] at q2
      unfold loopO at q2
      cases eg : g ds[i] ρ2 with
      | none => rw [eg] at q2; exact q2.elim
      | some ρ3 =>
        rw [eg] at q2
        refine ⟨T, F3, ρ2, τ2, ds[i], s3.sr, r3, ρ3, eg, fun σ4 s4 a4 => ?_⟩
        refine ⟨T, F3, F0, H0, F3, ρ3, τ2, (s3.apart s4 a4).rebase (Same.refl _), ?_⟩
        have pin3 : Same F1 F3 := s3.pin
        have fp3 : Same Fp F3 := fp2.trans x3.le
        have q2 : wpO (kc X) X.mg W T Fp F0 H0 D (turnO (b ρ3 τ2) (loopO g b (ds.drop (i + 1)))) := q2
        cases eb : b ρ3 τ2 with
        | nx ρ5 τ5 =>
          rw [eb] at q2
          exact fun F' H' σ' s' => ⟨F', ρ5, τ5, s'.rebase (pin3.trans s'.pin), fp3.trans s'.pin, q2⟩
        | ct ρ5 τ5 =>
          rw [eb] at q2
          exact fun F' H' σ' s' => ⟨F', ρ5, τ5, s'.rebase (pin3.trans s'.pin), fp3.trans s'.pin, q2⟩
        | bk ρ5 τ5 =>
          rw [eb] at q2
          exact fun F' H' σ' s' => q2 F' H' σ' (s'.rebase (fp3.trans s'.pin))
        | rt d τ5 =>
          rw [eb] at q2
          exact q2
        | exc ex ρ5 τ5 =>
          rw [eb] at q2
          exact fun F' H' σ' cl s' hm => q2 F' H' σ' cl (s'.rebase (fp3.trans s'.pin)) hm
        | no => rw [eb] at q2; exact q2.elim
    · rw [List.drop_length] at q2
      exact q2 F2 H σ (s2.rebase fp2)
theorem ds_while (n : Nat) (hp : PassesOwn (model X.prog X.w) X.A X.env X.xe) (hc : DT X W c t) (hb : DSs X W body b) : DS X W (.While c body [] pos) (sWhile n t b) := impPS (ps_while hp hc hb) fun D σ H ⟨T, Fp, F0, H0, F, ρ, τ, s, q⟩ => by
  refine ⟨fun m σ H => ∃ F ρ τ, Sta (kc X) T Fp F0 H0 F H σ ρ τ ∧ wpO (kc X) X.mg W T Fp F0 H0 D (whileO t b m ρ τ), ⟨n, F, ρ, τ, s, q⟩, fun m σ H ⟨F1, ρ1, τ1, s1, q1⟩ => ?_⟩
  cases m with
  | zero => exact q1.elim
  | succ m =>
    refine tDT_mono (bDT_of s1 q1) fun c H2 ⟨F2, τ2, x2, s2, q2⟩ => ?_
    cases c with
    | false => exact q2 F2 H2 σ s2
    | true =>
      refine ⟨fun σ H => ∃ F ρ τ, Sta (kc X) T Fp F0 H0 F H σ ρ τ ∧ wpO (kc X) X.mg W T Fp F0 H0 D (whileO t b m ρ τ), fun σ' H' h => ⟨m, Nat.lt_succ_self m, h⟩, T, Fp, F0, H0, F2, ρ1, τ2, s2, ?_⟩
      have q2 : wpO (kc X) X.mg W T Fp F0 H0 D (turnO (b ρ1 τ2) (whileO t b m)) := q2
      cases eb : b ρ1 τ2 with
      | nx ρ5 τ5 => rw [eb] at q2; exact fun F' H' σ' s' => ⟨F', ρ5, τ5, s', q2⟩
      | ct ρ5 τ5 => rw [eb] at q2; exact fun F' H' σ' s' => ⟨F', ρ5, τ5, s', q2⟩
      | bk ρ5 τ5 => rw [eb] at q2; exact q2
      | rt d τ5 => rw [eb] at q2; exact q2
      | exc ex ρ5 τ5 => rw [eb] at q2; exact q2
      | no => rw [eb] at q2; exact q2.elim
end

/-! ### comprehensions -/
/-- no exception -/
def calm {α : Type} (x : M α) : M α := fun τ => match x τ with
  | .ok a τ1 => .ok a τ1
  | _ => .no
theorem wpR_calm {α : Type} {x : M α} {τ : Tin} {P : α → Tin → Prop} {E E' : Str → Tin → Prop} (h : wpR (calm x τ) P E) : wpR (x τ) P E' := by
  unfold calm at h
  cases e : x τ with
  | ok a τ1 => rw [e] at h; exact h
  | exc c τ1 => rw [e] at h; exact h.elim
  | no => rw [e] at h; exact h.elim
theorem calm_pure {α : Type} (a : α) : calm (M.pure a) = M.pure a := rfl
theorem calm_ok {α : Type} {x : M α} {τ τ1 : Tin} {a : α} (h : x τ = .ok a τ1) : calm x τ = .ok a τ1 := by
  unfold calm
  rw [h]
def compM (g : D → Env → Option Env) (t : Env → M Bool) (f : Env → M D) : List D → Env → M (List D)
  | [], _ => M.pure []
  | d :: ds, ρ => match g d ρ with
    | none => M.no
    | some ρ1 => M.bind (calm (t ρ1)) fun c => if c = true then M.bind (calm (f ρ1)) fun x => M.bind (compM g t f ds ρ) fun xs => M.pure (x :: xs) else compM g t f ds ρ
/-- the slots of the comprehension's own names -/
def wipeS (ρ : Env) : List Nat → Env
  | [] => ρ
  | v :: vs => (wipeS ρ vs).set v .un
def fComp (fi : Env → M (List D)) (own : List Nat) (g : D → Env → Option Env) (t : Env → M Bool) (f : Env → M D) : Env → M (List D) := fun ρ => M.bind (fi ρ) fun ds => if fits ds = true then compM g t f ds (wipeS ρ own) else M.no
def bYes : Env → M Bool := fun _ => M.pure true
def tDTs (κ : Kc) (mg : Str → Option Value) (W : WX) (f : Env → M Bool) : TT := tDT κ mg W f
abbrev noX : WX := fun _ _ _ _ => False
abbrev DTs (X : Cx) (es : List Expr) (f : Env → M Bool) : Prop := PTs X es (tDT (kc X) X.mg noX f)
theorem impPTs {X : Cx} {es : List Expr} {t t' : TT} (h : PTs X es t) (i : ∀ σ H Q, t' σ H Q → t σ H Q) : PTs X es t' := ⟨fun pins s σ H Q I q => h.run pins s σ H Q I (i σ H Q q)⟩
section
variable {κ : Kc} {T : Option Addr} {F H : Hp} {σ σ1 σ2 : L2.St} {ρ : Env} {τ : Tin}
theorem wipeS_own : ∀ (vs : List Nat) {j : Nat} {s : S}, (wipeS ρ vs)[j]? = some s → (s = .un) ∨ (j ∉ vs ∧ ρ[j]? = some s)
  | [], j, s, h => .inr ⟨by simp, h⟩
  | v :: vs, j, s, h => by
    rcases get_set h with ⟨_, e, _⟩ | ⟨ne, h⟩
    · exact .inl e
    · rcases wipeS_own vs h with z | ⟨z, h⟩
      · exact .inl z
      · exact .inr ⟨fun z' => (List.mem_cons.mp z').elim (fun e => ne e.symm) z, h⟩
theorem wipe_out : ∀ (vs : List Nat) {j : Nat}, j ∉ vs → (wipe σ vs)[j]? = σ[j]?
  | [], j, _ => rfl
  | v :: vs, j, h => by
    unfold wipe
    rw [List.getElem?_set_ne (fun e => h (by rw [e]; exact List.mem_cons_self))]
    exact wipe_out vs fun z => h (List.mem_cons_of_mem _ z)
theorem wipe_in : ∀ (vs : List Nat) {j : Nat}, j ∈ vs → j < σ.length → (wipe σ vs)[j]? = some none
  | v :: vs, j, h, hl => by
    unfold wipe
    by_cases e : v = j
    · subst e
      exact List.getElem?_set_self (by rw [wipe_length]; exact hl)
    · rw [List.getElem?_set_ne e]
      exact wipe_in vs ((List.mem_cons.mp h).resolve_left fun z => e z.symm) hl
theorem wipeS_length (vs : List Nat) : (wipeS ρ vs).length = ρ.length := by
  induction vs with
  | nil => rfl
  | cons v vs ih => unfold wipeS; rw [List.length_set]; exact ih
theorem wipe_same (vs : List Nat) (hl : σ1.length = σ2.length) (h : ∀ j, j ∉ vs → σ1[j]? = σ2[j]?) : wipe σ1 vs = wipe σ2 vs := by
  refine List.ext_getElem? fun j => ?_
  by_cases hj : j ∈ vs
  · by_cases hn : j < σ1.length
    · rw [wipe_in vs hj hn, wipe_in vs hj (by rw [← hl]; exact hn)]
    · rw [List.getElem?_eq_none (by rw [wipe_length]; omega), List.getElem?_eq_none (by rw [wipe_length]; omega)]
  · rw [wipe_out vs hj, wipe_out vs hj, h j hj]
theorem SR.wipe (s : SR κ T F H σ ρ τ) (vs : List Nat) : SR κ T F H (wipe σ vs) (wipeS ρ vs) τ := by
  have own : ∀ (j : Nat) (xs : List D) (a : Addr), (wipeS ρ vs)[j]? = some (.own xs) → (L2.wipe σ vs)[j]? = some (some (.ref a)) → ρ[j]? = some (.own xs) ∧ σ[j]? = some (some (.ref a)) := fun j xs a h1 h2 => by
    rcases wipeS_own vs h1 with z | ⟨z, h⟩
    · cases z
    · rw [wipe_out vs z] at h2
      exact ⟨h, h2⟩
  refine ⟨s.bs, by rw [wipe_length, wipeS_length, s.len], fun j x h => ?_, fun j k xs ys a h1 h2 h3 h4 => ?_⟩
  · rcases wipeS_own vs h with z | ⟨z, h'⟩
    · subst z
      have hj : j < (L2.wipe σ vs).length := by
        rw [wipe_length, s.len, ← wipeS_length (ρ := ρ) vs]
        exact (List.getElem?_eq_some_iff.mp h).1
      exact ⟨_, List.getElem?_eq_getElem hj, trivial⟩
    · rw [wipe_out vs z]
      exact s.slot j x h'
  · obtain ⟨a1, a2⟩ := own j xs a h1 h3
    obtain ⟨b1, b2⟩ := own k ys a h2 h4
    exact s.apart j k xs ys a a1 b1 a2 b2
end
section
variable {X : Cx} {W : WX} {tg iter elt : Expr} {ifs : List Expr} {fi : Env → M (List D)} {g : D → Env → Option Env} {t : Env → M Bool} {f : Env → M D} {is : List Nat} {own : List (Str × Nat)} {scope : Scope} {pos : Pos}
theorem dts_nil : DTs X [] bYes := impPTs pts_nil fun σ H Q ⟨T, F, ρ, τ, s, q⟩ => by
  have q : ∀ F' H', Ext T F H F' H' τ → Q true H' := q
  exact q F H s.bs.refl
theorem dts_one {c : Expr} (h : DT X noX c t) : DTs X [c] t := pts_one h
theorem tLc_of {σ : L2.St} {H : Hp} {Q : VK} (his : ∀ i ∈ is, i ∈ own.map (·.2)) (q : tF (kc X) X.mg W (fComp fi (own.map (·.2)) g t f) σ H Q) :
    tLc (tI (kc X) X.mg W fi) (tG (kc X) is g) (tDT (kc X) X.mg noX t) (tD (kc X) X.mg noX false f) (own.map (·.2)) σ H Q := by
  generalize hv : own.map (·.2) = vs at his q ⊢
  obtain ⟨T, F, ρ, τ, s, q⟩ := q
  refine ⟨T, F, ρ, τ, s, wpR_mono (wpR_bind q) (fun ds τ1 q J F1 H1 x1 ⟨Y, wk, yd⟩ D hD => ?_) fun _ _ z => z⟩
  split at q
  · rename_i hf
    have b1 := x1.bs
    have hD0 := was_free x1 hD
    have hTD := T_ne b1 hD
    have s1 := s.ext x1
    have eX := s1.wipe vs
    refine lc_it wk (fun i Hn => ∃ Fn τn vacc acc, SR (kc X) T Fn Hn (wipe σ vs) (wipeS ρ vs) τn ∧ Ext T F H Fn Hn τn ∧ Same F1 Fn ∧ Hn D = some (.lst vacc) ∧ Fn D = none ∧ RepAll (kc X) T Fn vacc acc ∧ acc.length ≤ i ∧
        wpR (M.bind (compM g t f (ds.drop i) (wipeS ρ vs)) (fun xs => M.pure (acc ++ xs)) τn) (freshP (kc X) T F H Q) (fun _ _ => True))
      ⟨F1, τ1, [], [], eX.ext (b1.aside hD), x1.trans (b1.aside hD), Same.refl _, upd_same, Same.free b1.le hD, .nil, Nat.le_refl _, ?_⟩
      (fun i Hn _ ⟨Fn, τn, vacc, acc, sn, xn, le, _⟩ => le.trans sn.bs.le) (fun i x Hn Hm hi ⟨Fn, τn, vacc, acc, sn, xn, le, hDn, fDn, rn, hl, qn⟩ y => ?_) (fun Hn ⟨Fn, τn, vacc, acc, sn, xn, le, hDn, fDn, rn, hl, qn⟩ => ?_)
    · show wpR (M.bind (compM g t f ds (wipeS ρ vs)) (fun xs => M.pure xs) τ1) (freshP (kc X) T F H Q) (fun _ _ => True)
      have e : M.bind (compM g t f ds (wipeS ρ vs)) (fun xs => M.pure xs) = compM g t f ds (wipeS ρ vs) := M.bind_pure _
      rw [e]
      exact wpR_mono q (fun _ _ z => z) fun _ _ _ => trivial
    · have hd : ds[i]? = some ds[i] := List.getElem?_eq_getElem hi
      obtain ⟨F3, x3, r3⟩ := yd i _ Hn x Hm Fn τn hd y sn.bs le
      have s3 := sn.ext x3
      have hD3 : Hm D = some (.lst vacc) := x3.keep _ _ hDn hTD
      have free3 : ∀ {Fa Ha Fb Hb : Hp} {τb : Tin}, Ext T Fa Ha Fb Hb τb → Fa D = none → (∃ u, Ha D = some u) → Fb D = none := fun {Fa Ha Fb Hb τb} xx h1 ⟨u, h2⟩ => by
        cases z : Fb D with
        | none => rfl
        | some o =>
          rcases xx.new D o z with w | w
          · rw [h1] at w; cases w
          · rw [h2] at w; cases w
      have fD3 := free3 x3 fDn ⟨_, hDn⟩
      rw [List.drop_eq_getElem_cons hi] at qn
      unfold compM at qn
      cases eg : g ds[i] (wipeS ρ vs) with
      | none => rw [eg] at qn; exact qn.elim
      | some ρ3 =>
        rw [eg] at qn
        refine ⟨T, F3, wipeS ρ vs, τn, ds[i], s3, r3, ρ3, eg, fun σ4 s4 a4 => ?_⟩
        have ew : wipe σ4 vs = wipe σ vs := (wipe_same vs a4.1 fun j hj => (a4.2.2.1 j fun z => hj (his j z)).1).trans (wipe_same vs (wipe_length σ vs) fun j hj => wipe_out vs hj)
        refine ⟨ew, T, F3, ρ3, τn, s4, ?_⟩
        have q2 : wpR (M.bind (calm (t ρ3)) (fun c => M.bind (if c = true then M.bind (calm (f ρ3)) fun x => M.bind (compM g t f (ds.drop (i + 1)) (wipeS ρ vs)) fun xs => M.pure (x :: xs) else compM g t f (ds.drop (i + 1)) (wipeS ρ vs)) fun xs => M.pure (acc ++ xs)) τn) (freshP (kc X) T F H Q) (fun _ _ => True) := by
          have qn : wpR (M.bind (M.bind (calm (t ρ3)) fun c => if c = true then M.bind (calm (f ρ3)) fun x => M.bind (compM g t f (ds.drop (i + 1)) (wipeS ρ vs)) fun xs => M.pure (x :: xs) else compM g t f (ds.drop (i + 1)) (wipeS ρ vs)) (fun xs => M.pure (acc ++ xs)) τn) (freshP (kc X) T F H Q) (fun _ _ => True) := qn
          rw [M.bind_assoc] at qn
          exact qn
        refine wpR_mono (wpR_calm (E' := fun _ _ => False) (wpR_bind q2)) (fun c τ4 q3 F4 H4 x4 => ?_) fun _ _ z => z.elim
        have hD4 : H4 D = some (.lst vacc) := x4.keep _ _ hD3 hTD
        have fD4 := free3 x4 fD3 ⟨_, hD3⟩
        cases c with
        | false =>
          exact ⟨F4, τ4, vacc, acc, (s3.ext x4), (xn.trans x3).trans x4, (le.trans x3.le).trans x4.le, hD4, fD4, (rn.mono x3.le).mono x4.le, Nat.le_succ_of_le hl, q3⟩
        | true =>
          have q3 : wpR (M.bind (M.bind (calm (f ρ3)) fun x => M.bind (compM g t f (ds.drop (i + 1)) (wipeS ρ vs)) fun xs => M.pure (x :: xs)) (fun xs => M.pure (acc ++ xs)) τ4) (freshP (kc X) T F H Q) (fun _ _ => True) := q3
          rw [M.bind_assoc] at q3
          refine ⟨T, F4, ρ3, τ4, s4.ext x4, wpR_mono (wpR_calm (E' := fun _ _ => False) (wpR_bind q3)) (fun d5 τ5 q4 y5 F5 H5 x5 r5 => ?_) fun _ _ z => z.elim⟩
          have hD5 : H5 D = some (.lst vacc) := x5.keep _ _ hD4 hTD
          have fD5 := free3 x5 fD4 ⟨_, hD4⟩
          have r5 : Rep (kc X) T F5 y5 d5 := r5
          have r5' := ((rn.mono x3.le).mono x4.le).mono x5.le
          have xx := ((xn.trans x3).trans x4).trans x5
          have s5 := (s3.ext x4).ext x5
          have bs : Bs T F5 (upd H5 D (.lst (vacc ++ [y5]))) τ5 := ⟨fun c o z => by
            have : c ≠ D := fun w => by subst w; rw [fD5] at z; cases z
            rw [upd_ne this]; exact s5.bs.le _ _ z, fun c z => ⟨(s5.bs.tn c z).1, by
              have : c ≠ D := fun w => by subst w; exact hTD z
              rw [upd_ne this]; exact (s5.bs.tn c z).2⟩⟩
          refine ⟨vacc, hD5, ?_, F5, τ5, vacc ++ [y5], acc ++ [d5], ⟨bs, s5.len, fun j x h => ?_, s5.apart⟩, ⟨fun c o z n => ?_, xx.le, bs.le, xx.new, bs.tn⟩, ((le.trans x3.le).trans x4.le).trans x5.le, upd_same, fD5, r5'.append (.cons r5 .nil), ?_, ?_⟩
          · have := fits_le hf
            rw [rn.length]
            omega
          · obtain ⟨u, hu, z⟩ := s5.slot j x h
            refine ⟨u, hu, ?_⟩
            cases x with
            | un => trivial
            | d d => exact z
            | own zs =>
              obtain ⟨c, us, e1, e2, e3, e4, e5⟩ := z
              have hne : c ≠ D := fun w => by
                subst w
                obtain ⟨u0, hu0, c0, us0, f1, f2, _⟩ := eX.slot j _ h
                rw [hu] at hu0
                cases hu0
                rw [e1] at f1
                cases f1
                rw [hD] at f2
                cases f2
              exact ⟨c, us, e1, by rw [upd_ne hne]; exact e2, e3, e4, e5⟩
          · have : c ≠ D := fun w => by subst w; rw [hD0] at z; cases z
            rw [upd_ne this]
            exact xx.keep _ _ z n
          · rw [List.length_append, List.length_singleton]
            omega
          · have e : M.bind (M.bind (compM g t f (ds.drop (i + 1)) (wipeS ρ vs)) fun xs => M.pure (d5 :: xs)) (fun xs => M.pure (acc ++ xs)) = M.bind (compM g t f (ds.drop (i + 1)) (wipeS ρ vs)) (fun xs => M.pure ((acc ++ [d5]) ++ xs)) := by
              rw [M.bind_assoc]
              congr 1
              funext xs
              rw [M.pure_bind, List.append_assoc]
              rfl
            rw [← e]
            exact q4
    · rw [List.drop_length] at qn
      have qn : ∀ a vs F' H', Ext T F H F' H' τn → H a = none → F' a = none → H' a = some (.lst vs) → T ≠ some a → RepAll (kc X) T F' vs (acc ++ []) → Q (.ref a) H' := qn
      refine qn D vacc Fn Hn xn hD0 fDn hDn hTD ?_
      rw [List.append_nil]
      exact rn
  · exact q.elim
theorem df_comp (hc : X.calm = true) (hN : X.N.Nodup) (hi : DI X W tg iter fi) (ok : BlkOk X.N X.env.scope scope own) (his : ∀ i ∈ is, i ∈ own.map (·.2))
    (hg : ∀ (s : Shared) (H : Hp) (C : Addr) (cl : List (Str × Addr)) (fp : List Addr), DG (X.blk s H scope (compEnvC scope cl C X.env) fp) is tg g)
    (ht : ∀ (s : Shared) (H : Hp) (C : Addr) (cl : List (Str × Addr)) (fp : List Addr), DTs (X.blk s H scope (compEnvC scope cl C X.env) fp) ifs t)
    (he : ∀ (s : Shared) (H : Hp) (C : Addr) (cl : List (Str × Addr)) (fp : List Addr), DE (X.blk s H scope (compEnvC scope cl C X.env) fp) noX false elt f) (hs : ∀ x, foldedSetIterable iter X.env x = pure x := by intro _; rfl) :
    DF X W (.ListComp elt [⟨tg, iter, ifs, 0⟩] scope pos) (fComp fi (own.map (·.2)) g t f) := impPE (pe_lc hc hN hi ok hg ht he hs) fun σ H Q q => tLc_of his q
def sSetF (i : Nat) (f : Env → M (List D)) : G := fun ρ τ => bO (f ρ) ρ (fun ds τ1 => .nx (ρ.set i (.d (.lst ds))) τ1) τ
def sOwn (i : Nat) (f : Env → M (List D)) : G := fun ρ τ => bO (f ρ) ρ (fun ds τ1 => .nx (ρ.set i (.own ds)) τ1) τ
theorem bF_of {κ : Kc} {mg : Str → Option Value} {T : Option Addr} {Fp F0 H0 F H : Hp} {σ : L2.St} {ρ : Env} {τ : Tin} {Ed : Ends} {f : Env → M (List D)} {k : List D → Tin → O} (s : Sta κ T Fp F0 H0 F H σ ρ τ) (h : wpO κ mg W T Fp F0 H0 Ed (bO (f ρ) ρ k τ)) :
    tF κ mg W f σ H fun v H1 => ∃ F1 τ1 a vs ds, v = .ref a ∧ Ext T F H F1 H1 τ1 ∧ Sta κ T Fp F0 H0 F1 H1 σ ρ τ1 ∧ H a = none ∧ F1 a = none ∧ H1 a = some (.lst vs) ∧ T ≠ some a ∧ RepAll κ T F1 vs ds ∧ wpO κ mg W T Fp F0 H0 Ed (k ds τ1) := by
  refine ⟨T, F, ρ, τ, s.sr, ?_⟩
  unfold bO at h
  cases e : f ρ τ with
  | ok d τ1 =>
    rw [e] at h
    exact fun a vs F1 H1 x h0 h1 h2 h3 r => ⟨F1, τ1, a, vs, d, rfl, x, s.ext x, h0, h1, h2, h3, r, h⟩
  | exc c τ1 =>
    rw [e] at h
    exact fun F' H' cl x hm => h F' H' σ cl (s.ext x) hm
  | no => rw [e] at h; exact h
/-- a fresh list is nobody's -/
theorem Sta.fresh {κ : Kc} {T : Option Addr} {Fp F0 H0 F H F1 H1 : Hp} {σ : L2.St} {ρ : Env} {τ τ1 : Tin} {a : Addr} {vs : List V} {ds : List D} (s : Sta κ T Fp F0 H0 F H σ ρ τ) (x : Ext T F H F1 H1 τ1) (i : Nat) (h0 : H a = none) (h1 : F1 a = none) (h2 : H1 a = some (.lst vs)) (h3 : T ≠ some a)
    (r : RepAll κ T F1 vs ds) : Sta κ T Fp F0 H0 F1 H1 (σ.set i (some (.ref a))) (ρ.set i (.own ds)) τ1 := by
  refine (s.ext x).own i h2 h1 h3 r ?_ fun j ys _ hj hv => ?_
  · cases z : H0 a with
    | none => rfl
    | some o =>
      by_cases ht : T = some a
      · exact absurd ht h3
      · rw [s.ex.keep a o z ht] at h0; cases h0
  · obtain ⟨u, hu, b, us, e1, e2, _⟩ := s.sr.slot j _ hj
    rw [hv] at hu
    cases hu
    cases e1
    rw [h0] at e2
    cases e2
theorem ds_own {x : Str} {e : Expr} {fs : Env → M (List D)} {pos' : Pos} (i : Nat) (hN : X.N.Nodup) (he : DF X W e fs) (hi : X.N[i]? = some x := by rfl) (hx : Loc X.env.scope x := by first | exact .inl rfl | exact .inr rfl)
    (hs : swapsWith e (some (.Name x pos')) pos.line X.env = pure false := by rfl) (hf : X.fn x = true ∨ X.env.scope.names.lookup x = some .local := by first | exact .inl rfl | exact .inr rfl | assumption) :
    DS X W (.Assign [.Name x pos'] e pos) (sOwn i fs) := impPS (ps_set hN hi hx he hs hf) fun D σ H ⟨T, Fp, F0, H0, F, ρ, τ, s, q⟩ => by
  obtain ⟨T1, F1, ρ1, τ1, s1, q1⟩ := bF_of s q
  exact ⟨T1, F1, ρ1, τ1, s1, wpR_mono q1 (fun ds τ2 q2 a vs F' H' x h0 h1 h2 h3 r => by
    obtain ⟨F3, τ3, a3, vs3, ds3, e, x3, s3, g0, g1, g2, g3, r3, q3⟩ := q2 a vs F' H' x h0 h1 h2 h3 r
    exact q3 F3 H' _ (by rw [e]; exact s.fresh x3 i g0 g1 g2 g3 r3)) fun _ _ z => z⟩
end
end DL
end

section
set_option Elab.async false
set_option linter.all false
set_option maxRecDepth 100000
set_option maxHeartbeats 2000000
/-! DLJ: several names at once, stores to lists of one's own, more that is walked; defs -/
namespace DL
open PySem PySem.Spec PyProof.Rows L2

/-! ### values for names: data, or fresh lists -/
/-- values for several names; H: the heap ahead -/
structure News (κ : Kc) (T : Option Addr) (H F' H' : Hp) (vs : List V) (ss : List S) : Prop where
  len : vs.length = ss.length
  slot : ∀ (k : Nat) (s : S), ss[k]? = some s → ∃ v, vs[k]? = some v ∧ SlotOk κ T F' H' (some v) s
  was : ∀ (k : Nat) (xs : List D) (a : Addr), ss[k]? = some (.own xs) → vs[k]? = some (.ref a) → H a = none
  apart : ∀ (k l : Nat) (xs ys : List D) (a : Addr), ss[k]? = some (.own xs) → ss[l]? = some (.own ys) → vs[k]? = some (.ref a) → vs[l]? = some (.ref a) → k = l
def tX (κ : Kc) (mg : Str → Option Value) (W : WX) (f : Env → M (List S)) : TA := fun σ H Q => ∃ T F ρ τ, SR κ T F H σ ρ τ ∧
  wpR (f ρ τ) (fun ss τ' => ∀ vs F' H', Ext T F H F' H' τ' → News κ T H F' H' vs ss → Q vs H') (wX mg W T F H σ)
abbrev DX (X : Cx) (W : WX) (es : List Expr) (f : Env → M (List S)) : Prop := PA X es (tX (kc X) X.mg W f)
def xNil : Env → M (List S) := fun _ => M.pure []
def xVal (fa : Env → M D) (fs : Env → M (List S)) : Env → M (List S) := fun ρ => M.bind (fa ρ) fun x => M.bind (fs ρ) fun xs => M.pure (.d x :: xs)
def xOwn (fa : Env → M (List D)) (fs : Env → M (List S)) : Env → M (List S) := fun ρ => M.bind (fa ρ) fun x => M.bind (fs ρ) fun xs => M.pure (.own x :: xs)
section
variable {κ : Kc} {T : Option Addr} {F H F1 H1 F2 H2 : Hp} {τ1 τ2 : Tin} {vs : List V} {ss : List S} {v : V} {d : D} {ds : List D} {a : Addr} {us : List V}
theorem News.nil : News κ T H F1 H1 [] [] := ⟨rfl, fun _ _ h => by simp at h, fun _ _ _ h => by simp at h, fun _ _ _ _ _ h => by simp at h⟩
theorem News.val (x : Ext T F H F1 H1 τ1) (y : Ext T F1 H1 F2 H2 τ2) (n : News κ T H1 F2 H2 vs ss) (r : Rep κ T F1 v d) : News κ T H F2 H2 (v :: vs) (.d d :: ss) := by
  refine ⟨by rw [List.length_cons, List.length_cons, n.len], fun k s h => ?_, fun k xs a h1 h2 => ?_, fun k l xs ys a h1 h2 h3 h4 => ?_⟩
  · cases k with
    | zero => cases h; exact ⟨v, rfl, v, rfl, r.mono y.le⟩
    | succ k => exact n.slot k s h
  · cases k with
    | zero => cases h1
    | succ k => exact was_free x (n.was k xs a h1 h2)
  · cases k with
    | zero => cases h1
    | succ k =>
      cases l with
      | zero => cases h2
      | succ l => rw [n.apart k l xs ys a h1 h2 h3 h4]
theorem News.own (x : Ext T F H F1 H1 τ1) (y : Ext T F1 H1 F2 H2 τ2) (n : News κ T H1 F2 H2 vs ss) (h0 : H a = none) (h1 : F1 a = none) (h2 : H1 a = some (.lst us)) (h3 : T ≠ some a) (r : RepAll κ T F1 us ds) : News κ T H F2 H2 (.ref a :: vs) (.own ds :: ss) := by
  have f2 : F2 a = none := by
    cases z : F2 a with
    | none => rfl
    | some o =>
      rcases y.new a o z with w | w
      · rw [h1] at w; cases w
      · rw [h2] at w; cases w
  refine ⟨by rw [List.length_cons, List.length_cons, n.len], fun k s h => ?_, fun k xs b q1 q2 => ?_, fun k l xs ys b q1 q2 q3 q4 => ?_⟩
  · cases k with
    | zero => cases h; exact ⟨_, rfl, a, us, rfl, y.keep _ _ h2 h3, f2, h3, r.mono y.le⟩
    | succ k => exact n.slot k s h
  · cases k with
    | zero => cases q2; exact h0
    | succ k => exact was_free x (n.was k xs b q1 q2)
  · have no : ∀ (m : Nat) (zs : List D), ss[m]? = some (.own zs) → vs[m]? ≠ some (.ref a) := fun m zs w1 w2 => by
      have := n.was m zs a w1 w2
      rw [h2] at this
      cases this
    cases k with
    | zero =>
      cases q3
      cases l with
      | zero => rfl
      | succ l => exact absurd q4 (no l ys q2)
    | succ k =>
      cases l with
      | zero => cases q4; exact absurd q3 (no k xs q1)
      | succ l => rw [n.apart k l xs ys b q1 q2 q3 q4]
end
section
variable {X : Cx} {W : WX} {e : Expr} {es tgs : List Expr} {fa : Env → M D} {ff : Env → M (List D)} {fs : Env → M (List S)} {pos : Pos}
theorem dx_nil : DX X W [] xNil := impPA pa_nil fun σ H Q ⟨T, F, ρ, τ, s, q⟩ => by
  have q : ∀ vs F' H', Ext T F H F' H' τ → News (kc X) T H F' H' vs [] → Q vs H' := q
  exact q [] F H s.bs.refl .nil
theorem tX_mono {κ : Kc} {mg : Str → Option Value} {σ : L2.St} {H : Hp} {Q Q' : List V → Hp → Prop} (h : tX κ mg W fs σ H Q) (i : ∀ v H, Q v H → Q' v H) : tX κ mg W fs σ H Q' := by
  obtain ⟨T, F, ρ, τ, s, q⟩ := h
  exact ⟨T, F, ρ, τ, s, wpR_mono q (fun d τ' q v F' H' x r => i _ _ (q v F' H' x r)) fun _ _ z => z⟩
theorem tX_of {κ : Kc} {mg : Str → Option Value} {T : Option Addr} {F H F1 H1 : Hp} {σ : L2.St} {ρ : Env} {τ1 : Tin} {α : Type} {k : List S → M α} {P : α → Tin → Prop} (s : SR κ T F1 H1 σ ρ τ1) (x : Ext T F H F1 H1 τ1) (h : wpR (M.bind (fs ρ) k τ1) P (wX mg W T F H σ)) :
    tX κ mg W fs σ H1 (fun v H2 => ∃ F2 τ2 d, Ext T F H F2 H2 τ2 ∧ Ext T F1 H1 F2 H2 τ2 ∧ News κ T H1 F2 H2 v d ∧ wpR (k d τ2) P (wX mg W T F H σ)) :=
  ⟨T, F1, ρ, τ1, s, wpR_mono (wpR_bind h) (fun d τ2 q v F2 H2 y r => ⟨F2, τ2, d, x.trans y, y, r, q⟩) fun _ _ z => z.ext x⟩
theorem tF_of {κ : Kc} {mg : Str → Option Value} {T : Option Addr} {F H F1 H1 : Hp} {σ : L2.St} {ρ : Env} {τ1 : Tin} {α : Type} {k : List D → M α} {P : α → Tin → Prop} (s : SR κ T F1 H1 σ ρ τ1) (x : Ext T F H F1 H1 τ1) (h : wpR (M.bind (ff ρ) k τ1) P (wX mg W T F H σ)) :
    tF κ mg W ff σ H1 (fun v H2 => ∃ F2 τ2 a vs d, v = .ref a ∧ Ext T F H F2 H2 τ2 ∧ SR κ T F2 H2 σ ρ τ2 ∧ H1 a = none ∧ F2 a = none ∧ H2 a = some (.lst vs) ∧ T ≠ some a ∧ RepAll κ T F2 vs d ∧ wpR (k d τ2) P (wX mg W T F H σ)) :=
  ⟨T, F1, ρ, τ1, s, wpR_mono (wpR_bind h) (fun d τ2 q a vs F2 H2 y h0 h1 h2 h3 r => ⟨F2, τ2, a, vs, d, rfl, x.trans y, s.ext y, h0, h1, h2, h3, r, q⟩) fun _ _ z => z.ext x⟩
theorem tF_mono {κ : Kc} {mg : Str → Option Value} {σ : L2.St} {H : Hp} {Q Q' : VK} (h : tF κ mg W ff σ H Q) (i : ∀ v H, Q v H → Q' v H) : tF κ mg W ff σ H Q' := by
  obtain ⟨T, F, ρ, τ, s, q⟩ := h
  exact ⟨T, F, ρ, τ, s, wpR_mono q (fun d τ' q a vs F' H' x h0 h1 h2 h3 r => i _ _ (q a vs F' H' x h0 h1 h2 h3 r)) fun _ _ z => z⟩
theorem dx_val (ha : DE X W false e fa) (hr : DX X W es fs) (hs : starEach (e :: es) X.env = (false, eval e X.env) :: starEach es X.env := by rfl) : DX X W (e :: es) (xVal fa fs) := impPA (pa_cons ha hr hs) fun σ H Q ⟨T, F, ρ, τ, s, q⟩ => by
  refine tD_mono (tD_of (m := false) s s.bs.refl q) fun x H1 ⟨F1, τ1, d, x1, y1, s1, r1, q1⟩ => ?_
  refine tX_mono (tX_of s1 x1 q1) fun xs H2 ⟨F2, τ2, ds, x2, y2, n2, q2⟩ => ?_
  exact q2 _ F2 H2 x2 (n2.val x1 y2 r1)
theorem dx_own (ha : DF X W e ff) (hr : DX X W es fs) (hs : starEach (e :: es) X.env = (false, eval e X.env) :: starEach es X.env := by rfl) : DX X W (e :: es) (xOwn ff fs) := impPA (pa_cons ha hr hs) fun σ H Q ⟨T, F, ρ, τ, s, q⟩ => by
  refine tF_mono (tF_of s s.bs.refl q) fun x H1 ⟨F1, τ1, a, vs, d, ex, x1, s1, h0, h1, h2, h3, r1, q1⟩ => ?_
  refine tX_mono (tX_of s1 x1 q1) fun xs H2 ⟨F2, τ2, ds, x2, y2, n2, q2⟩ => ?_
  rw [ex]
  exact q2 _ F2 H2 x2 (n2.own x1 y2 h0 h1 h2 h3 r1)
def setV : L2.St → List Nat → List V → L2.St
  | σ, [], _ => σ
  | σ, _ :: _, [] => σ
  | σ, i :: is, v :: vs => setV (σ.set i (some v)) is vs
def setS : Env → List Nat → List S → Env
  | ρ, [], _ => ρ
  | ρ, _ :: _, [] => ρ
  | ρ, i :: is, s :: ss => setS (ρ.set i s) is ss
/-- the names get their values -/
theorem Sta.news {κ : Kc} {T : Option Addr} {Fp F0 H0 F H F' H' : Hp} {τ' : Tin} (x : Ext T F H F' H' τ') : ∀ (is : List Nat) {σ : L2.St} {ρ : Env} {vs : List V} {ss : List S}, Sta κ T Fp F0 H0 F' H' σ ρ τ' → (∀ (a : Addr) o, H0 a = some o → T ≠ some a → ∃ u, H a = some u) →
    (∀ (j : Nat) (ys : List D) (a : Addr), ρ[j]? = some (.own ys) → σ[j]? = some (some (.ref a)) → ∀ (k : Nat) (xs : List D), ss[k]? = some (.own xs) → vs[k]? ≠ some (.ref a)) → News κ T H F' H' vs ss → (∀ s ∈ ss, s ≠ .un) → Sta κ T Fp F0 H0 F' H' (setV σ is vs) (setS ρ is ss) τ'
  | [], σ, ρ, vs, ss, s, _, _, _, _ => by
    have e1 : setV σ [] vs = σ := by cases vs <;> rfl
    have e2 : setS ρ [] ss = ρ := by cases ss <;> rfl
    rw [e1, e2]
    exact s
  | _ :: _, σ, ρ, [], [], s, _, _, _, _ => s
  | i :: is, σ, ρ, [], b :: ss, s, _, _, n, _ => by have := n.len; simp at this
  | i :: is, σ, ρ, v :: vs, [], s, _, _, n, _ => by have := n.len; simp at this
  | i :: is, σ, ρ, v :: vs, b :: ss, s, hk, hn, n, hu => by
    have n' : News κ T H F' H' vs ss := ⟨by have := n.len; simpa using this, fun k s h => n.slot (k + 1) s h, fun k xs a h1 h2 => n.was (k + 1) xs a h1 h2, fun k l xs ys a h1 h2 h3 h4 => by have := n.apart (k + 1) (l + 1) xs ys a h1 h2 h3 h4; omega⟩
    obtain ⟨u, hv, so⟩ := n.slot 0 b rfl
    cases hv
    have step : ∀ (b : S) (hs : Sta κ T Fp F0 H0 F' H' (σ.set i (some v)) (ρ.set i b) τ') (ho : ∀ (xs : List D) (a : Addr), b = .own xs → v = .ref a → ∀ (k : Nat) (ys : List D), ss[k]? = some (.own ys) → vs[k]? ≠ some (.ref a)), Sta κ T Fp F0 H0 F' H' (setV σ (i :: is) (v :: vs)) (setS ρ (i :: is) (b :: ss)) τ' := fun b hs ho => by
      refine Sta.news x is hs hk (fun j ys a h1 h2 k xs h3 h4 => ?_) n' fun s hs => hu s (List.mem_cons_of_mem _ hs)
      rcases get_set h1 with ⟨e, e2, hl⟩ | ⟨ne, h1⟩
      · subst e
        rw [List.getElem?_set_self (by rw [s.sr.len]; exact hl)] at h2
        cases h2
        exact ho ys a e2.symm rfl k xs h3 h4
      · rw [List.getElem?_set_ne ne] at h2
        exact hn j ys a h1 h2 (k + 1) xs h3 h4
    cases b with
    | un => exact absurd rfl (hu .un List.mem_cons_self)
    | d d =>
      obtain ⟨y, ey, ry⟩ := so
      cases ey
      exact step (.d d) (s.set i ry) fun _ _ e => nomatch e
    | own ds =>
      obtain ⟨a, us, ey, h1, h2, h3, h4⟩ := so
      cases ey
      refine step (.own ds) (s.own i h1 h2 h3 h4 ?_ fun j ys _ h5 h6 => hn j ys a h5 h6 0 ds rfl rfl) fun xs b e1 e2 k ys h5 h6 => ?_
      · cases z : H0 a with
        | none => rfl
        | some o =>
          obtain ⟨u, hu⟩ := hk a o z h3
          rw [n.was 0 ds a rfl rfl] at hu
          cases hu
      · cases e2
        have := n.apart 0 (k + 1) ds ys a rfl h5 rfl h6
        omega
def gNames : List Nat → TGs
  | [] => gNil
  | i :: is => gCons (gName i) (gNames is)
theorem gNames_set : ∀ (is : List Nat) (vs : List V) {σ : L2.St} {H : Hp} {Q : L2.St → Hp → Prop}, is.length = vs.length → Q (setV σ is vs) H → gNames is vs σ H Q
  | [], [], _, _, _, _, h => ⟨rfl, h⟩
  | i :: is, v :: vs, σ, H, Q, hl, h => ⟨v, vs, rfl, gNames_set is vs (by simpa using hl) h⟩
def sMany (is : List Nat) (f : Env → M (List S)) : G := fun ρ τ => bO (f ρ) ρ (fun ss τ1 => if is.length = ss.length then .nx (setS ρ is ss) τ1 else .no) τ
theorem bX_of {κ : Kc} {mg : Str → Option Value} {T : Option Addr} {Fp F0 H0 F H : Hp} {σ : L2.St} {ρ : Env} {τ : Tin} {Ed : Ends} {k : List S → Tin → O} (s : Sta κ T Fp F0 H0 F H σ ρ τ) (h : wpO κ mg W T Fp F0 H0 Ed (bO (fs ρ) ρ k τ)) :
    tX κ mg W fs σ H fun v H1 => ∃ F1 τ1 ss, Ext T F H F1 H1 τ1 ∧ Sta κ T Fp F0 H0 F1 H1 σ ρ τ1 ∧ News κ T H F1 H1 v ss ∧ wpO κ mg W T Fp F0 H0 Ed (k ss τ1) := by
  refine ⟨T, F, ρ, τ, s.sr, ?_⟩
  unfold bO at h
  cases e : fs ρ τ with
  | ok d τ1 =>
    rw [e] at h
    exact fun v F1 H1 x r => ⟨F1, τ1, d, x, s.ext x, r, h⟩
  | exc c τ1 =>
    rw [e] at h
    exact fun F' H' cl x hm => h F' H' σ cl (s.ext x) hm
  | no => rw [e] at h; exact h
/-- names that are someone's own are none of the new ones -/
theorem old_new {κ : Kc} {T : Option Addr} {Fp F0 H0 F H F' H' : Hp} {σ : L2.St} {ρ : Env} {τ : Tin} {vs : List V} {ss : List S} (s : Sta κ T Fp F0 H0 F H σ ρ τ) (n : News κ T H F' H' vs ss) :
    ∀ (j : Nat) (ys : List D) (a : Addr), ρ[j]? = some (.own ys) → σ[j]? = some (some (.ref a)) → ∀ (k : Nat) (xs : List D), ss[k]? = some (.own xs) → vs[k]? ≠ some (.ref a) := fun j ys a h1 h2 k xs h3 h4 => by
  obtain ⟨u, hu, b, us, e1, e2, _⟩ := s.sr.slot j _ h1
  rw [h2] at hu
  cases hu
  cases e1
  rw [n.was k xs a h3 h4] at e2
  cases e2
/-- a, b, .. = e1, e2, .. -/
theorem ds_many {k k2 n : Nat} {pt p2 : Pos} (is : List Nat) (hc : X.calm = true) (ha : DX X W es fs) (hg : PGs X tgs (gNames is)) (hun : ∀ ρ τ ss τ', fs ρ τ = .ok ss τ' → ∀ s ∈ ss, s ≠ .un)
    (hn : (assignEach tgs X.env).length = n := by rfl) (hst : (assignEach tgs X.env).findIdx? (·.1) = none := by rfl) (hs : swapsWithSole [.Tuple tgs k pt] (.Tuple es k2 p2) pos.line X.env = pure false := by rfl)
    (hw : swappedStores [.Tuple tgs k pt] (.Tuple es k2 p2) X.env = pure none := by rfl) (h1 : (assignEach [.Tuple tgs k pt] X.env).map (·.2) = [assign (.Tuple tgs k pt) X.env] := by rfl) (hni : is.length = n := by rfl) (hz : n ≤ sizeLine := by decide) :
    DS X W (.Assign [.Tuple tgs k pt] (.Tuple es k2 p2) pos) (sMany is fs) := impPS (ps_asg (pe_tup ha) (pg_tup hc hg hn hst) hs hw h1) fun D σ H ⟨T, Fp, F0, H0, F, ρ, τ, s, q⟩ => by
  have hun' := hun ρ τ
  have key : tX (kc X) X.mg W fs σ H fun v H1 => ∃ F1 τ1 ss, Ext T F H F1 H1 τ1 ∧ Sta (kc X) T Fp F0 H0 F1 H1 σ ρ τ1 ∧ News (kc X) T H F1 H1 v ss ∧ (∀ s ∈ ss, s ≠ .un) ∧ wpO (kc X) X.mg W T Fp F0 H0 D (if is.length = ss.length then .nx (setS ρ is ss) τ1 else .no) := by
    refine ⟨T, F, ρ, τ, s.sr, ?_⟩
    have q : wpO (kc X) X.mg W T Fp F0 H0 D (bO (fs ρ) ρ (fun ss τ1 => if is.length = ss.length then .nx (setS ρ is ss) τ1 else .no) τ) := q
    unfold bO at q
    cases e : fs ρ τ with
    | ok d τ1 =>
      rw [e] at q
      exact fun v F1 H1 x r => ⟨F1, τ1, d, x, s.ext x, r, hun' d τ1 e, q⟩
    | exc c τ1 =>
      rw [e] at q
      exact fun F' H' cl x hm => q F' H' σ cl (s.ext x) hm
    | no => rw [e] at q; exact q
  refine tX_mono key fun vs H1 ⟨F1, τ1, ss, x1, s1, n1, nu, q1⟩ => ?_
  split at q1
  · rename_i hl
    have hvl : vs.length = n := n1.len.trans (hl.symm.trans hni)
    refine ⟨by rw [hvl]; exact hz, fun p hp => ⟨p, vs, rfl, SqT.of upd_same, hvl, gNames_set is vs (hni.trans hvl.symm) ?_⟩⟩
    have x2 := s1.sr.bs.aside (o := .tup vs) hp
    have n2 : News (kc X) T H F1 (upd H1 p (.tup vs)) vs ss := ⟨n1.len, fun k s h => by
      obtain ⟨v, hv, so⟩ := n1.slot k s h
      refine ⟨v, hv, ?_⟩
      cases s with
      | un => trivial
      | d d => exact so
      | own zs =>
        obtain ⟨a, us, e1, e2, e3, e4, e5⟩ := so
        exact ⟨a, us, e1, x2.keep _ _ e2 e4, e3, e4, e5⟩, n1.was, n1.apart⟩
    refine q1 F1 _ _ (Sta.news (x1.trans x2) is (s1.ext x2) (fun a o h ht => ?_) (old_new s n1) n2 nu)
    exact ⟨o, s.ex.keep a o h ht⟩
  · exact q1.elim
/-- a, b = e1, e2, local names -/
theorem ds_par {i j : Nat} {x y : Str} {a b : Expr} {px py pt pt2 : Pos} {kt k2 : Nat} (hc : X.calm = true) (hN : X.N.Nodup) (hi : X.N[i]? = some x) (hj : X.N[j]? = some y) (hij : i ≠ j) (hx : X.env.scope.names.lookup x = some .local) (hy : X.env.scope.names.lookup y = some .local) (ha : DX X W [a, b] fs)
    (hun : ∀ ρ τ ss τ', fs ρ τ = .ok ss τ' → ∀ s ∈ ss, s ≠ .un)
    (hw : swappedStores [.Tuple [.Name x px, .Name y py] kt pt] (.Tuple [a, b] k2 pt2) X.env = pure (some [x, y])) (hs : swapsWithSole [.Tuple [.Name x px, .Name y py] kt pt] (.Tuple [a, b] k2 pt2) pos.line X.env = pure false := by rfl) :
    DS X W (.Assign [.Tuple [.Name x px, .Name y py] kt pt] (.Tuple [a, b] k2 pt2) pos) (sMany [i, j] fs) := impPS (ps_par hc hN hi hj hij hx hy ha hw hs) fun D σ H ⟨T, Fp, F0, H0, F, ρ, τ, s, q⟩ => by
  have key : tX (kc X) X.mg W fs σ H fun v H1 => ∃ F1 τ1 ss, Ext T F H F1 H1 τ1 ∧ Sta (kc X) T Fp F0 H0 F1 H1 σ ρ τ1 ∧ News (kc X) T H F1 H1 v ss ∧ (∀ s ∈ ss, s ≠ .un) ∧ wpO (kc X) X.mg W T Fp F0 H0 D (if [i, j].length = ss.length then .nx (setS ρ [i, j] ss) τ1 else .no) := by
    refine ⟨T, F, ρ, τ, s.sr, ?_⟩
    have q : wpO (kc X) X.mg W T Fp F0 H0 D (bO (fs ρ) ρ (fun ss τ1 => if [i, j].length = ss.length then .nx (setS ρ [i, j] ss) τ1 else .no) τ) := q
    unfold bO at q
    have hun' := hun ρ τ
    cases e : fs ρ τ with
    | ok d τ1 =>
      rw [e] at q
      exact fun v F1 H1 x r => ⟨F1, τ1, d, x, s.ext x, r, hun' d τ1 e, q⟩
    | exc c τ1 =>
      rw [e] at q
      exact fun F' H' cl x hm => q F' H' σ cl (s.ext x) hm
    | no => rw [e] at q; exact q
  refine tX_mono key fun vs H1 ⟨F1, τ1, ss, x1, s1, n1, nu, q1⟩ => ?_
  split at q1
  · rename_i hl
    have hl : 2 = ss.length := hl
    have hvl : vs.length = 2 := n1.len.trans hl.symm
    match vs, hvl, n1 with
    | [v, w], _, n1 =>
      refine ⟨v, w, rfl, q1 F1 H1 _ (Sta.news x1 [i, j] s1 (fun a o h ht => ⟨o, s.ex.keep a o h ht⟩) (old_new s n1) n1 nu)⟩
  · exact q1.elim
theorem xNil_un : ∀ ρ τ ss τ', xNil ρ τ = .ok ss τ' → ∀ s ∈ ss, s ≠ .un := fun ρ τ ss τ' h s hs => by
  cases h; cases hs
theorem bind_okE {α β : Type} {x : M α} {f : α → M β} {τ τ' : Tin} {b : β} (h : M.bind x f τ = .ok b τ') : ∃ a τ1, x τ = .ok a τ1 ∧ f a τ1 = .ok b τ' := by
  unfold M.bind at h
  cases e : x τ with
  | ok a τ1 => rw [e] at h; exact ⟨a, τ1, rfl, h⟩
  | exc c τ1 => rw [e] at h; cases h
  | no => rw [e] at h; cases h
theorem xVal_un (h : ∀ ρ τ ss τ', fs ρ τ = .ok ss τ' → ∀ s ∈ ss, s ≠ .un) : ∀ ρ τ ss τ', xVal fa fs ρ τ = .ok ss τ' → ∀ s ∈ ss, s ≠ .un := fun ρ τ ss τ' q s hs => by
  obtain ⟨d, τ1, e1, q⟩ := bind_okE q
  obtain ⟨ds, τ2, e2, q⟩ := bind_okE q
  cases q
  rcases List.mem_cons.mp hs with z | z
  · rw [z]; exact fun w => nomatch w
  · exact h ρ τ1 ds _ e2 s z
theorem xOwn_un (h : ∀ ρ τ ss τ', fs ρ τ = .ok ss τ' → ∀ s ∈ ss, s ≠ .un) : ∀ ρ τ ss τ', xOwn ff fs ρ τ = .ok ss τ' → ∀ s ∈ ss, s ≠ .un := fun ρ τ ss τ' q s hs => by
  obtain ⟨d, τ1, e1, q⟩ := bind_okE q
  obtain ⟨ds, τ2, e2, q⟩ := bind_okE q
  cases q
  rcases List.mem_cons.mp hs with z | z
  · rw [z]; exact fun w => nomatch w
  · exact h ρ τ1 ds _ e2 s z
end
end DL
end

section
set_option Elab.async false
set_option linter.all false
set_option maxRecDepth 100000
set_option maxHeartbeats 2000000
/-! DLK: stores to lists of one's own, enumerate, zip, or; defs -/
namespace DL
open PySem PySem.Spec PyProof.Rows L2

/-! ### a list of one's own is changed -/
/-- the own list of a slot, its new items -/
def upOwn (i : Nat) (ρ : Env) (f : List D → Option (List D)) (τ : Tin) : O := match ρ[i]? with
  | some (.own xs) => (match f xs with
    | some ys => .nx (ρ.set i (.own ys)) τ
    | none => .no)
  | _ => .no
def sApp (i : Nat) (fa : Env → M D) : G := fun ρ τ => bO (fa ρ) ρ (fun d τ1 => upOwn i ρ (fun xs => if xs.length < sizeLine then some (xs ++ [d]) else none) τ1) τ
def sExt (i : Nat) (fa : Env → M D) : G := fun ρ τ => bO (fa ρ) ρ (fun d τ1 => upOwn i ρ (fun xs => match d with
  | .lst ys => if xs.length + ys.length ≤ sizeLine then some (xs ++ ys) else none
  | _ => none) τ1) τ
def sSetI (i : Nat) (fi fa : Env → M D) : G := fun ρ τ => bO (fa ρ) ρ (fun d τ1 => bO (fi ρ) ρ (fun k τ2 => upOwn i ρ (fun xs => match k with
  | .int k => (ixN xs.length k).map fun j => xs.set j d
  | _ => none) τ2) τ1) τ
/-- x = line.pop() -/
def sPop (j i : Nat) : G := fun ρ τ => match ρ[i]? with
  | some (.own xs) => (match xs[xs.length - 1]? with
    | some d => if xs = [] then .no else .nx ((ρ.set i (.own xs.dropLast)).set j (.d d)) τ
    | none => .no)
  | _ => .no
section
variable {X : Cx} {W : WX} {e ie : Expr} {fa fi : Env → M D} {x y : Str} {p p2 apos cpos pos : Pos}
theorem upOwn_of {κ : Kc} {mg : Str → Option Value} {T : Option Addr} {Fp F0 H0 F H : Hp} {σ : L2.St} {ρ : Env} {τ : Tin} {Ed : Ends} {i : Nat} {f : List D → Option (List D)} (s : Sta κ T Fp F0 H0 F H σ ρ τ) (h : wpO κ mg W T Fp F0 H0 Ed (upOwn i ρ f τ)) :
    ∃ a vs xs ys, σ[i]? = some (some (.ref a)) ∧ H a = some (.lst vs) ∧ RepAll κ T F vs xs ∧ f xs = some ys ∧ ∀ ws, RepAll κ T F ws ys → Ed.nx σ (upd H a (.lst ws)) := by
  unfold upOwn at h
  cases hi : ρ[i]? with
  | none => rw [hi] at h; exact h.elim
  | some u =>
    rw [hi] at h
    cases u with
    | own xs =>
      obtain ⟨v, hv, a, vs, rfl, h1, h2, h3, h4⟩ := s.sr.slot i _ hi
      cases hf : f xs with
      | none =>
        have h : wpO κ mg W T Fp F0 H0 Ed (match f xs with | some ys => .nx (ρ.set i (.own ys)) τ | none => .no) := h
        rw [hf] at h; exact h.elim
      | some ys =>
        have h : wpO κ mg W T Fp F0 H0 Ed (match f xs with | some ys => .nx (ρ.set i (.own ys)) τ | none => .no) := h
        rw [hf] at h
        exact ⟨a, vs, xs, ys, hv, h1, h4, hf, fun ws r => h F _ σ (s.wr hi hv r)⟩
    | _ => exact h.elim
theorem tVar_at {σ : L2.St} {H : Hp} {Q : VK} {i : Nat} {v : V} (h : σ[i]? = some (some v)) (q : Q v H) : tVar i σ H Q := ⟨v, h, q⟩
/-- the own list at slot i, now -/
theorem own_at {κ : Kc} {T : Option Addr} {Fp F0 H0 F H : Hp} {σ : L2.St} {ρ : Env} {τ : Tin} {i : Nat} {xs : List D} (s : Sta κ T Fp F0 H0 F H σ ρ τ) (hi : ρ[i]? = some (.own xs)) : ∃ a vs, σ[i]? = some (some (.ref a)) ∧ H a = some (.lst vs) ∧ T ≠ some a := by
  obtain ⟨v, hv, a, vs, rfl, h1, h2, h3, h4⟩ := s.sr.slot i _ hi
  exact ⟨a, vs, hv, h1, h3⟩
theorem upOwn_own {κ : Kc} {mg : Str → Option Value} {T : Option Addr} {Fp F0 H0 : Hp} {ρ : Env} {τ : Tin} {Ed : Ends} {i : Nat} {f : List D → Option (List D)} (h : wpO κ mg W T Fp F0 H0 Ed (upOwn i ρ f τ)) : ∃ xs, ρ[i]? = some (.own xs) := by
  unfold upOwn at h
  cases hi : ρ[i]? with
  | none => rw [hi] at h; exact h.elim
  | some u =>
    rw [hi] at h
    cases u with
    | own xs => exact ⟨xs, rfl⟩
    | _ => exact h.elim
/-- what is asked ahead of it: the slot holds a list of one's own, whatever the argument does -/
def ownAt (i : Nat) (g : G) : G := fun ρ τ => match ρ[i]? with
  | some (.own _) => g ρ τ
  | _ => .no
theorem ownAt_of {κ : Kc} {mg : Str → Option Value} {T : Option Addr} {Fp F0 H0 : Hp} {ρ : Env} {τ : Tin} {Ed : Ends} {i : Nat} {g : G} (h : wpO κ mg W T Fp F0 H0 Ed (ownAt i g ρ τ)) : (∃ xs, ρ[i]? = some (.own xs)) ∧ wpO κ mg W T Fp F0 H0 Ed (g ρ τ) := by
  unfold ownAt at h
  cases hi : ρ[i]? with
  | none => rw [hi] at h; exact h.elim
  | some u =>
    rw [hi] at h
    cases u with
    | own xs => exact ⟨⟨xs, rfl⟩, h⟩
    | _ => exact h.elim
theorem ds_app (i : Nat) (ha : DE X W false e fa) (hN : X.N[i]? = some x := by rfl) (hv : Vis X.env.scope x := by first | exact Or.inl rfl | exact Or.inr (Or.inl rfl) | exact Or.inr (Or.inr rfl)) (hd : (x == ("__debug__" : Str)) = false := by decide)
    (hcd : (x == ("__classdict__" : Str)) = false := by decide)
    (hbase : attributeBase (.Name x p) "append" X.env (eval (.Name x p) X.env) = eval (.Name x p) X.env := by rfl)
    (hfew : ((backTo cpos (starEach [e] X.env)).all (fun x => !x.1) && (backToKw cpos (keywordEach [] X.env)).all (fun x => x.1.isSome)
      && decide ([e].length + ([] : List Keyword).length + (if ([] : List Keyword).isEmpty then 0 else 1) < 30)) = true := by rfl)
    (hline : (apos.endLine == cpos.line) = true := by rfl) (hs : starEach [e] X.env = (false, eval e X.env) :: starEach [] X.env := by rfl) (hplain : (backTo cpos (starEach [] X.env)).any (·.1) = false := by rfl)
    (hsw : swapsWith (.Call (.Attribute (.Name x p) "append" apos) [e] [] cpos) none pos.line X.env = pure false := by rfl) :
    DS X W (.Expr (.Call (.Attribute (.Name x p) "append" apos) [e] [] cpos) pos) (ownAt i (sApp i fa)) :=
  impPS (ps_expr (pe_bm PySem.F.plainAttrs_list PySem.F.slot_list_append PySem.F.type_list_append mt_append (pe_var hN hv hd hcd) (pa_cons ha pa_nil hs) hbase hfew hline hs hplain) hsw) fun D σ H ⟨T, Fp, F0, H0, F, ρ, τ, s, q⟩ => by
    obtain ⟨⟨xs, hi⟩, q⟩ := ownAt_of q
    obtain ⟨a, vs, hσ, hH, hT⟩ := own_at s hi
    refine ⟨_, hσ, .inl ⟨rfl, vs, SqL.of hH⟩, ?_⟩
    refine tD_mono (bD_of (m := false) s q) fun v H1 ⟨F1, τ1, d, x1, s1, r1, q1⟩ => ?_
    obtain ⟨b, ws, zs, ys, e1, e2, e3, e4, e5⟩ := upOwn_of s1 q1
    rw [hσ] at e1
    cases e1
    split at e4
    · rename_i hl
      cases e4
      exact ⟨a, ws, v, rfl, rfl, e2, by rw [e3.length]; exact hl, e5 _ (e3.append (.cons r1 .nil))⟩
    · cases e4
theorem ds_ext (i : Nat) (ha : DE X W true e fa) (hN : X.N[i]? = some x := by rfl) (hv : Vis X.env.scope x := by first | exact Or.inl rfl | exact Or.inr (Or.inl rfl) | exact Or.inr (Or.inr rfl)) (hd : (x == ("__debug__" : Str)) = false := by decide)
    (hcd : (x == ("__classdict__" : Str)) = false := by decide)
    (hbase : attributeBase (.Name x p) "extend" X.env (eval (.Name x p) X.env) = eval (.Name x p) X.env := by rfl)
    (hfew : ((backTo cpos (starEach [e] X.env)).all (fun x => !x.1) && (backToKw cpos (keywordEach [] X.env)).all (fun x => x.1.isSome)
      && decide ([e].length + ([] : List Keyword).length + (if ([] : List Keyword).isEmpty then 0 else 1) < 30)) = true := by rfl)
    (hline : (apos.endLine == cpos.line) = true := by rfl) (hs : starEach [e] X.env = (false, eval e X.env) :: starEach [] X.env := by rfl) (hplain : (backTo cpos (starEach [] X.env)).any (·.1) = false := by rfl)
    (hsw : swapsWith (.Call (.Attribute (.Name x p) "extend" apos) [e] [] cpos) none pos.line X.env = pure false := by rfl) :
    DS X W (.Expr (.Call (.Attribute (.Name x p) "extend" apos) [e] [] cpos) pos) (ownAt i (sExt i fa)) :=
  impPS (ps_expr (pe_bm PySem.F.plainAttrs_list PySem.F.slot_list_extend PySem.F.type_list_extend mt_extend (pe_var hN hv hd hcd) (pa_cons ha pa_nil hs) hbase hfew hline hs hplain) hsw) fun D σ H ⟨T, Fp, F0, H0, F, ρ, τ, s, q⟩ => by
    obtain ⟨⟨xs, hi⟩, q⟩ := ownAt_of q
    obtain ⟨a, vs, hσ, hH, hT⟩ := own_at s hi
    refine ⟨_, hσ, .inl ⟨rfl, vs, SqL.of hH⟩, ?_⟩
    refine tD_mono (bD_of (m := true) s q) fun v H1 ⟨F1, τ1, d, x1, s1, r1, q1⟩ => ?_
    obtain ⟨b, ws, zs, ys, e1, e2, e3, e4, e5⟩ := upOwn_of s1 q1
    rw [hσ] at e1
    cases e1
    split at e4
    · rename_i ks
      split at e4
      · rename_i hl
        cases e4
        obtain ⟨c, us, ex, hc, rc⟩ := RepTop.lst r1 s1.sr.bs.le
        exact ⟨a, c, ws, us, rfl, by rw [ex], e2, hc, by rw [e3.length, rc.length]; exact hl, e5 _ (e3.append rc)⟩
      · cases e4
    · cases e4
theorem ds_setI (i : Nat) (ha : DE X W false e fa) (hk : DE X W false ie fi) (hN : X.N[i]? = some x := by rfl) (hv : Vis X.env.scope x := by first | exact Or.inl rfl | exact Or.inr (Or.inl rfl) | exact Or.inr (Or.inr rfl)) (hd : (x == ("__debug__" : Str)) = false := by decide)
    (hcd : (x == ("__classdict__" : Str)) = false := by decide)
    (hst : ∀ v, assign (.Subscript (.Name x p) ie p2) X.env v = (do
      let ov ← holding [v] (eval (.Name x p) X.env)
      let iv ← holding [v, ov] (eval ie X.env)
      standAt p2
      holding [v, ov, iv] (setItem ov iv v)
      release [v, ov, iv] []) := by intro _; rfl)
    (hs : swapsWithSole [.Subscript (.Name x p) ie p2] e pos.line X.env = pure false := by rfl) (hw : swappedStores [.Subscript (.Name x p) ie p2] e X.env = pure none := by rfl)
    (h1 : (assignEach [.Subscript (.Name x p) ie p2] X.env).map (·.2) = [assign (.Subscript (.Name x p) ie p2) X.env] := by rfl) :
    DS X W (.Assign [.Subscript (.Name x p) ie p2] e pos) (ownAt i (sSetI i fi fa)) :=
  impPS (ps_asg ha (pg_sub (pe_var hN hv hd hcd) hk set_list hst) hs hw h1) fun D σ H ⟨T, Fp, F0, H0, F, ρ, τ, s, q⟩ => by
    obtain ⟨⟨xs, hi⟩, q⟩ := ownAt_of q
    obtain ⟨a, vs, hσ, hH, hT⟩ := own_at s hi
    refine tD_mono (bD_of (m := false) s q) fun v H1 ⟨F1, τ1, d, x1, s1, r1, q1⟩ => ?_
    refine ⟨_, hσ, tD_mono (bD_of (m := false) s1 q1) fun u H2 ⟨F2, τ2, k, x2, s2, r2, q2⟩ => ?_⟩
    obtain ⟨b, ws, zs, ys, e1, e2, e3, e4, e5⟩ := upOwn_of s2 q2
    rw [hσ] at e1
    cases e1
    split at e4
    · rename_i kk
      cases r2
      cases ej : ixN zs.length kk with
      | none => rw [ej] at e4; cases e4
      | some j =>
        rw [ej] at e4
        cases e4
        exact ⟨a, ws, kk, j, rfl, rfl, e2, by rw [e3.length]; exact ej, e5 _ (e3.set j (r1.mono x2.le))⟩
    · cases e4
theorem RepAll.dropLast {κ : Kc} {T : Option Addr} {F : Hp} {vs : List V} {ds : List D} (r : RepAll κ T F vs ds) : RepAll κ T F vs.dropLast ds.dropLast := by
  rw [List.dropLast_eq_take, List.dropLast_eq_take, r.length]
  exact r.take _
theorem ds_pop (j i : Nat) (hN : X.N[i]? = some x := by rfl) (hv : Vis X.env.scope x := by first | exact Or.inl rfl | exact Or.inr (Or.inl rfl) | exact Or.inr (Or.inr rfl)) (hd : (x == ("__debug__" : Str)) = false := by decide)
    (hcd : (x == ("__classdict__" : Str)) = false := by decide) (hnd : X.N.Nodup) (hj : X.N[j]? = some y := by rfl) (hy : Loc X.env.scope y := by first | exact .inl rfl | exact .inr rfl)
    (hbase : attributeBase (.Name x p) "pop" X.env (eval (.Name x p) X.env) = eval (.Name x p) X.env := by rfl) (hline : (apos.endLine == cpos.line) = true := by rfl)
    (hs : swapsWith (.Call (.Attribute (.Name x p) "pop" apos) [] [] cpos) (some (.Name y p2)) pos.line X.env = pure false := by rfl) (hf : X.fn y = true ∨ X.env.scope.names.lookup y = some .local := by first | exact .inl rfl | exact .inr rfl | assumption) :
    DS X W (.Assign [.Name y p2] (.Call (.Attribute (.Name x p) "pop" apos) [] [] cpos) pos) (sPop j i) :=
  impPS (ps_set hnd hj hy (pe_bm0 PySem.F.plainAttrs_list PySem.F.slot_list_pop PySem.F.type_list_pop mt_pop (pe_var hN hv hd hcd) hbase hline) hs hf) fun D σ H ⟨T, Fp, F0, H0, F, ρ, τ, s, q⟩ => by
    unfold sPop at q
    cases hi : ρ[i]? with
    | none => rw [hi] at q; exact q.elim
    | some u =>
      rw [hi] at q
      cases u with
      | own xs =>
        obtain ⟨v, hσ, a, vs, rfl, hH, h2, h3, h4⟩ := s.sr.slot i _ hi
        have q : wpO (kc X) X.mg W T Fp F0 H0 D (match xs[xs.length - 1]? with
          | some d => if xs = [] then .no else .nx ((ρ.set i (.own xs.dropLast)).set j (.d d)) τ
          | none => .no) := q
        cases hx : xs[xs.length - 1]? with
        | none => rw [hx] at q; exact q.elim
        | some d =>
          rw [hx] at q
          obtain ⟨u, hu, ru⟩ := h4.get hx
          have q : wpO (kc X) X.mg W T Fp F0 H0 D (if xs = [] then .no else .nx ((ρ.set i (.own xs.dropLast)).set j (.d d)) τ) := q
          by_cases hn : xs = []
          · rw [if_pos hn] at q; exact q.elim
          · rw [if_neg hn] at q
            exact ⟨_, hσ, .inl ⟨rfl, vs, SqL.of hH⟩, a, vs, u, rfl, rfl, hH, by rw [h4.length]; exact hu, q F _ _ ((s.wr hi hσ h4.dropLast).set j ru)⟩
      | _ => exact q.elim

/-! ### or -/
def fOr (fa fb : Env → M (List D)) : Env → M (List D) := fun ρ => M.bind (fa ρ) fun xs => if xs.isEmpty = true then fb ρ else M.pure xs
theorem df_or {b : Expr} {fa fb : Env → M (List D)} (ha : DF X W e fa) (hb : DF X W b fb) : DF X W (.BoolOp .Or [e, b] pos) (fOr fa fb) := impPE (pe_orT ha (pe_one hb)) fun σ H Q ⟨T, F, ρ, τ, s, q⟩ => by
  refine tF_mono (tF_of s s.bs.refl q) fun x H1 ⟨F1, τ1, a, vs, ds, ex, x1, s1, h0, h1, h2, h3, r1, q1⟩ => ?_
  subst ex
  refine ⟨!vs.isEmpty, .inl ⟨vs, SqL.of h2, rfl⟩, ?_⟩
  cases ds with
  | nil =>
    cases r1
    refine ⟨T, F1, ρ, τ1, s1, wpR_mono q1 (fun es τ2 q2 b us F2 H2 y g0 g1 g2 g3 r2 => q2 b us F2 H2 (x1.trans y) (was_free x1 g0) g1 g2 g3 r2) fun _ _ z => z.ext x1⟩
  | cons d ds =>
    cases r1 with
    | cons r t => exact q1 a _ F1 H1 x1 h0 h1 h2 h3 (.cons r t)

/-! ### enumerate, zip -/
def numD (n : Nat) : List D := (List.range n).map fun i => .int (i : Nat)
theorem numD_get {n i : Nat} {d : D} (h : (numD n)[i]? = some d) : d = .int (i : Nat) := by
  unfold numD at h
  rw [List.getElem?_map] at h
  cases e : (List.range n)[i]? with
  | none => rw [e] at h; cases h
  | some j =>
    rw [e] at h
    cases h
    obtain ⟨h1, h2⟩ := List.getElem?_eq_some_iff.mp e
    rw [List.getElem_range] at h2
    rw [h2]
theorem pairD_len (ds es : List D) : (pairD ds es).length = min ds.length es.length := by
  unfold pairD
  rw [List.length_map, List.length_zip]
def iEnumL (fa : Env → M D) : Env → M (List D) := fun ρ => M.bind (fa ρ) fun x => match x with
  | .lst xs => M.pure (pairD (numD xs.length) xs)
  | _ => M.no
theorem di_enumL {elts : List Expr} {kk : Nat} {tpos : Pos} (hg : Gl X "enumerate") (hm : X.mg "enumerate" = none) (ha : DE X W false e fa) (hs : starEach [e] X.env = [(false, eval e X.env)] := by rfl) (he : starEach [e] X.env = (false, eval e X.env) :: starEach [] X.env := by rfl) :
    DI X W (.Tuple elts kk tpos) (.Call (.Name "enumerate" p) [e] [] pos) (iEnumL fa) := impPI (pi_enum hg hm (pa_cons ha pa_nil he) hs) fun σ H R ⟨T, F, ρ, τ, s, q⟩ => by
  refine tD_mono (tD_of (m := false) s s.bs.refl q) fun x H1 ⟨F1, τ1, d, x1, y1, s1, r1, q1⟩ => ?_
  cases r1 with
  | @lst a vs ds hq hr =>
    refine ⟨a, vs, rfl, SqL.of (s1.bs.le _ _ hq), q1 _ F1 H1 x1 ⟨YPair (fun i => some (.int (i : Nat))) (fun i => vs[i]?), ?_, ypair (fun i d x h1 h2 => ?_) (fun i d x h1 h2 => ?_)⟩⟩
    · have el : (pairD (numD ds.length) ds).length = vs.length := by
        rw [pairD_len, hr.length]
        unfold numD
        rw [List.length_map, List.length_range, Nat.min_self]
      rw [el]
      exact walk_enum.mono (fun H le => SqL.of (le _ _ hq)) fun _ _ _ _ _ _ y => y
    · rw [numD_get h1]
      cases h2
      exact .int _
    · obtain ⟨v, hv, rv⟩ := hr.get h1
      rw [h2] at hv
      cases hv
      exact rv
  | _ => exact q1.elim
theorem walk_zipT {K : PySem.W.Frag} {a b : Addr} {xs ys : List V} {n : Nat} (hn : n = min xs.length ys.length) : Walk (RZ.ItzT K a b) n (fun H => SqT K H a xs ∧ SqT K H b ys) (YPair (fun i => xs[i]?) (fun i => ys[i]?)) := by
  subst hn
  refine ⟨fun i H hi q => ?_, fun H q => ⟨xs, ys, q.1, q.2, by omega⟩, fun i H v H' hi q y => ?_⟩
  · have h1 : i < xs.length := by omega
    have h2 : i < ys.length := by omega
    exact ⟨xs, ys, xs[i], ys[i], q.1, q.2, by simp [h1], by simp [h2]⟩
  · obtain ⟨T, x, z, h1, h2, h3, h4, h5⟩ := y
    exact ⟨T, x, z, h1, h2, h3, h4 xs q.1, h5 ys q.2⟩
def zipOf : D → D → Option (List D)
  | .lst xs, .lst ys => some (pairD xs ys)
  | .tup xs, .tup ys => some (pairD xs ys)
  | _, _ => none
def iZip (fa fb : Env → M D) : Env → M (List D) := fun ρ => M.bind (fa ρ) fun x => M.bind (fb ρ) fun y => M.lift (zipOf x y)
theorem di_zip {e2 : Expr} {fb : Env → M D} {elts : List Expr} {kk : Nat} {tpos : Pos} (hg : Gl X "zip") (hm : X.mg "zip" = none) (ha : DE X W false e fa) (hb : DE X W false e2 fb)
    (hs : starEach [e, e2] X.env = (false, eval e X.env) :: starEach [e2] X.env := by rfl) (hs2 : starEach [e2] X.env = (false, eval e2 X.env) :: starEach [] X.env := by rfl) (hpl : (backTo pos (starEach [e2] X.env)).any (·.1) = false := by rfl) :
    DI X W (.Tuple elts kk tpos) (.Call (.Name "zip" p) [e, e2] [] pos) (iZip fa fb) := impPI (RZ.pi_zipA hg hm (pa_cons ha (pa_cons hb pa_nil hs2) hs) hs hpl) fun σ H R ⟨T, F, ρ, τ, s, q⟩ => by
  refine tD_mono (tD_of (m := false) s s.bs.refl q) fun x H1 ⟨F1, τ1, d, x1, y1, s1, r1, q1⟩ => ?_
  refine tD_mono (tD_of (m := false) s1 x1 q1) fun y H2 ⟨F2, τ2, d2, x2, y2, s2, r2, q2⟩ => ?_
  obtain ⟨zs, ez, q3⟩ := wpR_lift q2
  have r1 : Rep (kc X) T F1 x d := r1
  have fin : ∀ {vs ws : List V} {ds es : List D}, RepAll (kc X) T F1 vs ds → RepAll (kc X) T F2 ws es → ∀ (i : Nat) (d : D) (H : Hp) (x : V) (H' F : Hp) (τ : Tin), (pairD ds es)[i]? = some d → YPair (fun i => vs[i]?) (fun i => ws[i]?) i H x H' → Bs T F H τ → Same F2 F → ∃ F', Ext T F H F' H' τ ∧ Rep (kc X) T F' x d :=
    fun rv rw' => ypair (fun i d x h1 h2 => by
      obtain ⟨v, hv, rr⟩ := rv.get h1
      rw [h2] at hv
      cases hv
      exact rr.mono y2.le) (fun i d x h1 h2 => by
      obtain ⟨v, hv, rr⟩ := rw'.get h1
      rw [h2] at hv
      cases hv
      exact rr)
  cases r1 with
  | @lst a vs ds hq hr =>
    cases r2 with
    | @lst b ws es hq2 hr2 =>
      cases ez
      refine ⟨a, b, vs, ws, rfl, .inl ⟨SqL.of (s2.bs.le _ _ (y2.le _ _ hq)), SqL.of (s2.bs.le _ _ hq2), q3 _ F2 H2 x2 ⟨_, ?_, fin hr hr2⟩⟩⟩
      rw [pairD_len, ← hr.length, ← hr2.length]
      exact (walk_zip rfl).mono (fun H le => ⟨SqL.of (le _ _ (y2.le _ _ hq)), SqL.of (le _ _ hq2)⟩) fun _ _ _ _ _ _ y => y
    | _ => cases ez
  | @tup a vs ds hq hr =>
    cases r2 with
    | @tup b ws es hq2 hr2 =>
      cases ez
      refine ⟨a, b, vs, ws, rfl, .inr ⟨seqT s2.bs.le (seqT y2.le hq), seqT s2.bs.le hq2, q3 _ F2 H2 x2 ⟨_, ?_, fin hr hr2⟩⟩⟩
      rw [pairD_len, ← hr.length, ← hr2.length]
      exact (walk_zipT rfl).mono (fun H le => ⟨seqT le (seqT y2.le hq), seqT le hq2⟩) fun _ _ _ _ _ _ y => y
    | _ => cases ez
  | _ => cases d2 <;> cases ez
end

/-! ### defs -/
/-- what the body g does, called: n parameters, k slots in all -/
def runG (g : G) (n k : Nat) : List D → M D := fun ds τ => if ds.length = n then (match g (ds.map .d ++ List.replicate (k - n) .un) τ with
  | .nx _ τ1 => .ok .non τ1
  | .rt d τ1 => .ok d τ1
  | .exc e _ τ1 => .exc e τ1
  | _ => .no) else .no
section
variable {P : Program} {w : World} {K : PySem.W.Frag} {mg : Str → Option Value} {base : Heap}
theorem sta_start {κ : Kc} {T : Option Addr} {F H : Hp} {τ : Tin} {vs : List V} {ds : List D} {N : List Str} (b : Bs T F H τ) (r : RepAll κ T F vs ds) : Sta κ T F F H F H (L2.start N vs) (ds.map .d ++ List.replicate (N.length - ds.length) .un) τ := by
  have noOwn : ∀ (i : Nat) (xs : List D), (ds.map S.d ++ List.replicate (N.length - ds.length) S.un)[i]? ≠ some (.own xs) := fun i xs h => by
    by_cases hi : i < ds.length
    · rw [List.getElem?_append_left (by rw [List.length_map]; exact hi), List.getElem?_map] at h
      cases e : ds[i]? with
      | none => rw [e] at h; cases h
      | some d => rw [e] at h; cases h
    · rw [List.getElem?_append_right (by rw [List.length_map]; omega), List.getElem?_replicate] at h
      split at h <;> cases h
  refine ⟨⟨b, ?_, fun i s h => ?_, fun i j xs ys a h => absurd h (noOwn i xs)⟩, b.refl, fun i xs a h => absurd h (noOwn i xs), Same.refl _⟩
  · unfold L2.start
    rw [List.length_append, List.length_append, List.length_map, List.length_map, List.length_replicate, List.length_replicate, r.length]
  · unfold L2.start
    by_cases hi : i < ds.length
    · rw [List.getElem?_append_left (by rw [List.length_map]; exact hi), List.getElem?_map] at h
      have hd : ds[i]? = some ds[i] := List.getElem?_eq_getElem hi
      rw [hd] at h
      cases h
      obtain ⟨v, hv, rv⟩ := r.get hd
      exact ⟨some v, by rw [List.getElem?_append_left (by rw [List.length_map, r.length]; exact hi), List.getElem?_map, hv]; rfl, v, rfl, rv⟩
    · rw [List.getElem?_append_right (by rw [List.length_map]; omega), List.getElem?_replicate] at h
      split at h
      · rename_i hl
        cases h
        refine ⟨none, ?_, trivial⟩
        rw [List.getElem?_append_right (by rw [List.length_map, r.length]; omega), List.getElem?_replicate, List.length_map, r.length]
        rw [List.length_map] at hl
        rw [if_pos hl]
      · cases h
/-- the wish about exceptions of a def's body -/
abbrev wDef (E : XK) : WX := fun cls d _ H => E cls d H
/-- a def of the text does what its mirror does -/
theorem fn_mk {x : Str} {st : Stmt} {f : Addr} {fd : FuncData} {N ps : List Str} {k n : Nat} {g : G} (F : Fun K x x st f fd) (S : FnScope N ps (defScope st)) (hx : mg x = some (.ref f)) (hb : Binds K fd ps []) (hn : ps.length = n)
    (hbody : ∀ (cdv : Value) (A : Around) (outer : List PySem.Env) (s : Shared) (H : Hp) (E : XK), Room k (A.deeper (envOfC x (defScope st) s.heap.objs.size f cdv)) →
      DSs (cxOf (L2.CX P w) P w K mg base N x (defScope st) f cdv A outer s H E) (wDef E) (defBody st) g) : Fn P w K mg base x (k + 1) n (runG g n N.length) := by
  refine ⟨f, fd, ps, hx, F.kp, hb, F.okX S (fun vs H Q E h => h.1.trans hn.symm) fun cdv A outer s H vs Q E hr ⟨hl, T, Fr, τ, ds, b, r, q⟩ => ⟨_, hbody cdv A outer s H E hr, T, Fr, Fr, H, Fr, _, τ, sta_start b r, ?_⟩⟩
  unfold runG at q
  have hdl : ds.length = n := r.length.symm.trans hl
  rw [if_pos hdl, ← hdl] at q
  cases e : g (ds.map .d ++ List.replicate (N.length - ds.length) .un) τ with
  | nx ρ1 τ1 =>
    rw [e] at q
    exact fun F' H' σ' s' => q .non F' H' s'.ex .non
  | rt d τ1 =>
    rw [e] at q
    exact fun F' H' v x rv => q v F' H' x rv
  | exc c ρ1 τ1 =>
    rw [e] at q
    exact fun F' H' σ' cl s' hm => q F' H' cl s'.ex hm
  | bk ρ1 τ1 => rw [e] at q; exact q.elim
  | ct ρ1 τ1 => rw [e] at q; exact q.elim
  | no => rw [e] at q; exact q.elim
end
end DL
end

section
set_option Elab.async false
set_option linter.all false
set_option maxRecDepth 100000
set_option maxHeartbeats 2000000
/-! DLL: the drawing list, signs, sets of ints sorted, defs that call themselves -/
namespace DL
open PySem PySem.Spec PyProof.Rows L2

theorem hu200 {A : Around} {k : Nat} (hr : Room k A) : A.units + 200 < cLine := by have := hr.un; omega
/-! ### -a -/
def negD : D → Option D
  | .int i => some (.int (-i))
  | _ => none
def dNeg (fa : Env → M D) : Env → M D := fun ρ => M.bind (fa ρ) fun x => M.lift (negD x)
section
variable {X : Cx} {W : WX} {m : Bool} {a e : Expr} {es : List Expr} {fa : Env → M D} {p p2 q2 pos : Pos}
theorem de_neg (ha : DE X W false a fa) : DE X W m (.UnaryOp .USub a pos) (dNeg fa) := impPE (pe_un un_neg ha) fun σ H Q ⟨T, F, ρ, τ, s, q⟩ =>
  tD_mono (tD_of (m := false) s s.bs.refl q) fun x H1 ⟨F1, τ1, d, x1, y1, s1, r1, q1⟩ => by
    cases r1 with
    | int i => exact ⟨i, rfl, q1 _ F1 H1 x1 (repM (.int _))⟩
    | _ => exact q1.elim

/-! ### the drawing list -/
def tinAt (k : Nat) (τ : Tin) : Int := match k with
  | 0 => τ.1
  | 1 => τ.2.1
  | _ => τ.2.2
def tinSet (k : Nat) (z : Int) (τ : Tin) : Tin := match k with
  | 0 => (z, τ.2.1, τ.2.2)
  | 1 => (τ.1, z, τ.2.2)
  | _ => (τ.1, τ.2.1, z)
def tinB : S → Bool
  | .d .tin => true
  | _ => false
def isTin (i : Nat) (ρ : Env) : Bool := match ρ[i]? with
  | some s => tinB s
  | none => false
theorem isTin_of {i : Nat} {ρ : Env} (h : isTin i ρ = true) : ρ[i]? = some (.d .tin) := by
  unfold isTin at h
  cases e : ρ[i]? with
  | none => rw [e] at h; cases h
  | some s =>
    rw [e] at h
    have h : tinB s = true := h
    unfold tinB at h
    split at h
    · rfl
    · cases h
/-- tin[k] -/
def dTin (i k : Nat) : Env → M D := fun ρ τ => if isTin i ρ = true then .ok (.int (tinAt k τ)) τ else .no
theorem de_tin {x : Str} {c : Const} {j : Nat} (i k : Nat) (hk : k < 3) (hc : c = .int (k : Int)) (hN : X.N[i]? = some x := by rfl) (hv : Vis X.env.scope x := by first | exact Or.inl rfl | exact Or.inr (Or.inl rfl) | exact Or.inr (Or.inr rfl)) (hd : (x == ("__debug__" : Str)) = false := by decide)
    (hcd : (x == ("__classdict__" : Str)) = false := by decide) (hs : PlainIx (.Constant c j p2) := by exact fun _ _ => rfl) : DE X W m (.Subscript (.Name x p) (.Constant c j p2) pos) (dTin i k) := by
  subst hc
  refine impPE (pe_ix ix_list (pe_var hN hv hd hcd) pe_int hs) fun σ H Q ⟨T, F, ρ, τ, s, q⟩ => ?_
  unfold dTin at q
  split at q
  · rename_i ht
    obtain ⟨v, hv, y, rfl, r⟩ := s.slot i _ (isTin_of ht)
    cases r with
    | @tin a e =>
      have hH := (s.bs.tn a e).2
      refine ⟨_, hv, a, _, (k : Int), .int (tinAt k τ), rfl, rfl, SqL.of hH, atI_nat ?_, q _ F H s.bs.refl (repM (.int _))⟩
      match k, hk with
      | 0, _ => rfl
      | 1, _ => rfl
      | 2, _ => rfl
  · exact q.elim
/-- the drawing list is changed -/
theorem Sta.tin {κ : Kc} {T : Option Addr} {Fp F0 H0 F H : Hp} {σ : L2.St} {ρ : Env} {τ : Tin} (s : Sta κ T Fp F0 H0 F H σ ρ τ) {a : Addr} (ha : T = some a) (τ' : Tin) : Sta κ T Fp F0 H0 F (upd H a (.lst [.int τ'.1, .int τ'.2.1, .int τ'.2.2])) σ ρ τ' := by
  have hF := (s.sr.bs.tn a ha).1
  have bs : Bs T F (upd H a (.lst [.int τ'.1, .int τ'.2.1, .int τ'.2.2])) τ' := ⟨fun c o q => by
    have : c ≠ a := fun z => by subst z; rw [hF] at q; cases q
    rw [upd_ne this]; exact s.sr.bs.le _ _ q, fun c q => by
      rw [ha] at q
      cases q
      exact ⟨hF, upd_same⟩⟩
  refine ⟨⟨bs, s.sr.len, fun j x h => ?_, s.sr.apart⟩, ⟨fun c o q n => ?_, s.ex.le, bs.le, s.ex.new, bs.tn⟩, s.ow, s.pin⟩
  · obtain ⟨v, hv, q⟩ := s.sr.slot j x h
    refine ⟨v, hv, ?_⟩
    cases x with
    | un => trivial
    | d d => exact q
    | own ds =>
      obtain ⟨b, vs, h1, h2, h3, h4, h5⟩ := q
      have : b ≠ a := fun z => by subst z; exact h4 ha
      exact ⟨b, vs, h1, by rw [upd_ne this]; exact h2, h3, h4, h5⟩
  · have : c ≠ a := fun z => by subst z; exact n ha
    rw [upd_ne this]
    exact s.ex.keep c o q n
def sTin (i k : Nat) (fa : Env → M D) : G := fun ρ τ => bO (fa ρ) ρ (fun d τ1 => if isTin i ρ = true then (match d with
  | .int z => .nx ρ (tinSet k z τ1)
  | _ => .no) else .no) τ
theorem ds_tin {x : Str} {c : Const} {j : Nat} (i k : Nat) (hk : k < 3) (hc : c = .int (k : Int)) (ha : DE X W false e fa) (hN : X.N[i]? = some x := by rfl) (hv : Vis X.env.scope x := by first | exact Or.inl rfl | exact Or.inr (Or.inl rfl) | exact Or.inr (Or.inr rfl)) (hd : (x == ("__debug__" : Str)) = false := by decide)
    (hcd : (x == ("__classdict__" : Str)) = false := by decide)
    (hst : ∀ v, assign (.Subscript (.Name x p) (.Constant c j q2) p2) X.env v = (do
      let ov ← holding [v] (eval (.Name x p) X.env)
      let iv ← holding [v, ov] (eval (.Constant c j q2) X.env)
      standAt p2
      holding [v, ov, iv] (setItem ov iv v)
      release [v, ov, iv] []) := by intro _; rfl)
    (hs : swapsWithSole [.Subscript (.Name x p) (.Constant c j q2) p2] e pos.line X.env = pure false := by rfl) (hw : swappedStores [.Subscript (.Name x p) (.Constant c j q2) p2] e X.env = pure none := by rfl)
    (h1 : (assignEach [.Subscript (.Name x p) (.Constant c j q2) p2] X.env).map (·.2) = [assign (.Subscript (.Name x p) (.Constant c j q2) p2) X.env] := by rfl) :
    DS X W (.Assign [.Subscript (.Name x p) (.Constant c j q2) p2] e pos) (sTin i k fa) := by
  subst hc
  refine impPS (ps_asg ha (pg_sub (pe_var hN hv hd hcd) pe_int set_list hst) hs hw h1) fun D σ H ⟨T, Fp, F0, H0, F, ρ, τ, s, q⟩ => ?_
  refine tD_mono (bD_of (m := false) s q) fun v H1 ⟨F1, τ1, d, x1, s1, r1, q1⟩ => ?_
  split at q1
  · rename_i ht
    obtain ⟨u, hu, y, rfl, r⟩ := s1.sr.slot i _ (isTin_of ht)
    cases r with
    | @tin a e =>
      cases r1 with
      | int z =>
        have hH := (s1.sr.bs.tn a e).2
        refine ⟨_, hu, a, _, (k : Int), k, rfl, rfl, hH, ?_, ?_⟩
        · unfold ixN
          rw [if_pos (by omega), if_pos (by show (k : Int) < ((3 : Nat) : Int); omega)]
          rfl
        · have s2 := s1.tin e (tinSet k z τ1)
          have q1 : ∀ F' H' σ', Sta (kc X) T Fp F0 H0 F' H' σ' ρ (tinSet k z τ1) → D.nx σ' H' := q1
          have e2 : ([V.int τ1.1, V.int τ1.2.1, V.int τ1.2.2].set k (V.int z)) = [.int (tinSet k z τ1).1, .int (tinSet k z τ1).2.1, .int (tinSet k z τ1).2.2] := by
            match k, hk with
            | 0, _ => rfl
            | 1, _ => rfl
            | 2, _ => rfl
          rw [e2]
          exact q1 _ _ _ s2
      | _ => exact q1.elim
  · exact q1.elim

/-! ### sorted(set(..)) of ints -/
def intsOf : List D → Option (List Int)
  | [] => some []
  | .int b :: r => (intsOf r).map (b :: ·)
  | _ :: _ => none
theorem intsOf_eq : ∀ {ds : List D} {bs : List Int}, intsOf ds = some bs → ds = bs.map .int
  | [], bs, h => by cases h; rfl
  | .int b :: r, bs, h => by
    rw [intsOf] at h
    cases e : intsOf r with
    | none => rw [e] at h; cases h
    | some cs => rw [e] at h; cases h; rw [intsOf_eq e]; rfl
  | .non :: _, _, h => by cases h
  | .bl _ :: _, _, h => by cases h
  | .str _ :: _, _, h => by cases h
  | .tup _ :: _, _, h => by cases h
  | .lst _ :: _, _, h => by cases h
  | .scr _ :: _, _, h => by cases h
  | .tin :: _, _, h => by cases h
theorem intsOf_map : ∀ bs : List Int, intsOf (bs.map .int) = some bs
  | [] => rfl
  | b :: bs => by rw [List.map_cons, intsOf, intsOf_map bs]; rfl
/-- put in where it belongs, once -/
def insI (x : Int) : List Int → List Int
  | [] => [x]
  | y :: ys => if x < y then x :: y :: ys else if x = y then y :: ys else y :: insI x ys
def sortI (xs : List Int) : List Int := xs.foldr insI []
theorem mem_insI (x z : Int) : ∀ ys : List Int, z ∈ insI x ys ↔ z = x ∨ z ∈ ys
  | [] => by simp [insI]
  | y :: ys => by
    unfold insI
    split
    · simp
    · split
      · rename_i h
        subst h
        simp
      · rw [List.mem_cons, mem_insI x z ys, List.mem_cons]
        constructor
        · rintro (h | h | h)
          · exact .inr (.inl h)
          · exact .inl h
          · exact .inr (.inr h)
        · rintro (h | h | h)
          · exact .inr (.inl h)
          · exact .inl h
          · exact .inr (.inr h)
theorem mem_sortI (z : Int) : ∀ xs : List Int, z ∈ sortI xs ↔ z ∈ xs
  | [] => by simp [sortI]
  | x :: xs => by
    show z ∈ insI x (sortI xs) ↔ _
    rw [mem_insI, mem_sortI z xs, List.mem_cons]
theorem insI_lt (x : Int) : ∀ {ys : List Int}, ys.Pairwise (· < ·) → (insI x ys).Pairwise (· < ·)
  | [], _ => by simp [insI]
  | y :: ys, h => by
    obtain ⟨h1, h2⟩ := List.pairwise_cons.mp h
    unfold insI
    split
    · rename_i hlt
      exact List.pairwise_cons.mpr ⟨fun z hz => (List.mem_cons.mp hz).elim (fun e => by rw [e]; exact hlt) fun hz => Int.lt_trans hlt (h1 z hz), h⟩
    · split
      · exact h
      · rename_i n1 n2
        refine List.pairwise_cons.mpr ⟨fun z hz => ?_, insI_lt x h2⟩
        rcases (mem_insI x z ys).mp hz with e | hz
        · omega
        · exact h1 z hz
theorem sortI_lt : ∀ xs : List Int, (sortI xs).Pairwise (· < ·)
  | [] => .nil
  | x :: xs => insI_lt x (sortI_lt xs)
theorem sorted_one : ∀ {xs ys : List Int}, xs.Pairwise (· < ·) → ys.Pairwise (· < ·) → (∀ z, z ∈ xs ↔ z ∈ ys) → xs = ys
  | [], [], _, _, _ => rfl
  | [], y :: ys, _, _, h => by have := (h y).mpr List.mem_cons_self; simp at this
  | x :: xs, [], _, _, h => by have := (h x).mp List.mem_cons_self; simp at this
  | x :: xs, y :: ys, h1, h2, h => by
    obtain ⟨a1, a2⟩ := List.pairwise_cons.mp h1
    obtain ⟨b1, b2⟩ := List.pairwise_cons.mp h2
    have e : x = y := by
      rcases List.mem_cons.mp ((h x).mp List.mem_cons_self) with e | hx
      · exact e
      · rcases List.mem_cons.mp ((h y).mpr List.mem_cons_self) with e | hy
        · exact e.symm
        · have := a1 y hy; have := b1 x hx; omega
    subst e
    rw [sorted_one a2 b2 fun z => ?_]
    constructor
    · intro hz
      rcases List.mem_cons.mp ((h z).mp (List.mem_cons_of_mem _ hz)) with e | q
      · have := a1 z hz; omega
      · exact q
    · intro hz
      rcases List.mem_cons.mp ((h z).mpr (List.mem_cons_of_mem _ hz)) with e | q
      · have := b1 z hz; omega
      · exact q
def fSortSetT (fa : Env → M D) : Env → M (List D) := fun ρ => M.bind (fa ρ) fun x => match x with
  | .tup xs => (match intsOf xs with
    | some ns => if ns.length < 64 then M.pure ((sortI ns).map .int) else M.no
    | none => M.no)
  | _ => M.no
def rSetTI (K : PySem.W.Frag) (w : World) : List V → Hp → VK → Prop := fun xs H Q => ∃ (p : Addr) (ns : List Int), xs = [.ref p] ∧ SqT K H p (ns.map V.int) ∧ ns.length < 64 ∧
  ∀ a c, H a = none → c ≤ ns.length → Q (.ref a) (upd H a (SetO w a (fun j => decide (j ∈ ns)) c))
theorem cr_setTI (hc : X.calm = true) : CallR X (.type "set") (rSetTI X.K X.w) := by
  intro pins s σ H xs us Q I r ⟨a, ns, ex, hq, hl, q⟩
  subst ex
  obtain ⟨u, rfl, ru⟩ := Vals.one r
  obtain rfl : u = .ref a := ru
  obtain ⟨its, rv, pt, hz⟩ := I.tuple hq
  refine call_set_tupI ns (I.ok.hd hc) (show s.heap.IsTuple a its.toArray from pt) (ints_of_vals rv) (by unfold scanBound; omega) fun h' tk c R hcl kp => ?_
  exact ⟨.ref s.heap.objs.size, _, I.laid (t' := tk) kp (Nat.le_refl _) (setO_new R), rfl, q _ c I.fresh hcl⟩
theorem df_sortSetT (hc : X.calm = true) (hg : Gl X "sorted") (hm : X.mg "sorted" = none) (hg2 : Gl X "set") (hm2 : X.mg "set" = none) (ha : DE X W true e fa)
    (he : starEach [e] X.env = (false, eval e X.env) :: starEach [] X.env := by rfl) (he2 : starEach [.Call (.Name "set" p2) [e] [] q2] X.env = (false, eval (.Call (.Name "set" p2) [e] [] q2) X.env) :: starEach [] X.env := by rfl)
    (hpl : (backTo q2 (starEach [] X.env)).any (·.1) = false := by rfl) (hpl2 : (backTo pos (starEach [] X.env)).any (·.1) = false := by rfl) :
    DF X W (.Call (.Name "sorted" p) [.Call (.Name "set" p2) [e] [] q2] [] pos) (fSortSetT fa) :=
  impPE (pe_callB (cr_sortedSet hc) hg hm (by decide +kernel) (pa_cons (pe_callTy (cr_setTI hc) hg2 hm2 (by decide +kernel) (pa_cons ha pa_nil he) (by decide) (by decide) he hpl) pa_nil he2) (by decide) (by decide) he2 hpl2) fun σ H Q ⟨T, F, ρ, τ, s, q⟩ => by
    refine tD_mono (tD_of (m := true) s s.bs.refl q) fun x H1 ⟨F1, τ1, d, x1, y1, s1, r1, q1⟩ => ?_
    cases d with
    | tup xs =>
      obtain ⟨a, vs, rfl, hq, rv⟩ := RepTop.tup r1
      cases ei : intsOf xs with
      | none =>
        have q1 : wpR ((match intsOf xs with | some ns => if ns.length < 64 then M.pure ((sortI ns).map D.int) else M.no | none => M.no) τ1) _ _ := q1
        rw [ei] at q1
        exact q1.elim
      | some ns =>
        have q1 : wpR ((match intsOf xs with | some ns => if ns.length < 64 then M.pure ((sortI ns).map D.int) else M.no | none => M.no) τ1) _ _ := q1
        rw [ei] at q1
        have q1 : wpR ((if ns.length < 64 then M.pure ((sortI ns).map D.int) else M.no) τ1) (freshP (kc X) T F H Q) (wX X.mg W T F H σ) := q1
        split at q1
        · rename_i hl
          have ev : vs = ns.map V.int := by
            rw [intsOf_eq ei] at rv
            exact rv.ints
          refine ⟨a, ns, rfl, by rw [← ev]; exact seqT s1.bs.le hq, hl, fun b c hb hcl => ⟨b, _, c, rfl, upd_same, by omega, fun ms l h1 h2 h3 hl' => ?_⟩⟩
          have em : ms = sortI ns := sorted_one h1 (sortI_lt ns) fun z => by
            rw [h2 z, mem_sortI]
            simp
          have x2 := s1.bs.aside (o := SetO X.w b (fun j => decide (j ∈ ns)) c) hb
          have x3 := x2.bs.aside (o := .lst (ms.map V.int)) hl'
          have hl1 : H1 l = none := was_free x2 hl'
          refine q1 l _ F1 _ ((x1.trans x2).trans x3) (was_free x1 hl1) (Same.free s1.bs.le hl1) upd_same (T_ne s1.bs hl1) ?_
          rw [em]
          exact repAll_ints _
        · exact q1.elim
    | _ => exact q1.elim
end

/-! ### a def that calls itself -/
section
variable {P : Program} {w : World} {K : PySem.W.Frag} {mg : Str → Option Value} {base : Heap}
theorem fn_zero {x : Str} {st : Stmt} {f : Addr} {fd : FuncData} {ps : List Str} {k n : Nat} (F : Fun K x x st f fd) (hx : mg x = some (.ref f)) (hb : Binds K fd ps []) (hn : ps.length = n) : Fn P w K mg base x k n (fun _ => M.no) :=
  ⟨f, fd, ps, hx, F.kp, hb, ⟨fun vs H Q E h => h.1.trans hn.symm, fun A outer s H args us vs Q E hr e0 hbd r ⟨hl, T, Fr, τ, ds, b, rr, q⟩ => q.elim⟩⟩
theorem fn_up {x : Str} {j k n : Nat} {f : List D → M D} (F : Fn P w K mg base x j n f) (h : j ≤ k) : Fn P w K mg base x k n f := by
  obtain ⟨a, fd, ps, h1, h2, h3, h4⟩ := F
  exact ⟨a, fd, ps, h1, h2, h3, h4.mono h⟩
end
end DL
end

section
set_option Elab.async false
set_option linter.all false
set_option maxRecDepth 100000
set_option maxHeartbeats 2000000
/-! DLM: constants of the text, lists of ranges, names for comprehensions -/
namespace DL
open PySem PySem.Spec PyProof.Rows L2
/-- a constant of the text is d -/
def GlobIs (P : Program) (w : World) (K : PySem.W.Frag) (mg : Str → Option Value) (x : Str) (d : D) : Prop := ∃ v u, mg x = some u ∧ RelV v u ∧ ∀ T F, Rep ⟨P, w, K⟩ T F v d
theorem globIs_int {P : Program} {w : World} {K : PySem.W.Frag} {mg : Str → Option Value} {x : Str} {i : Int} {t : Tok} (h : mg x = some (.int i t)) : GlobIs P w K mg x (.int i) := ⟨.int i, _, h, ⟨t, rfl⟩, fun _ _ => .int i⟩
section
variable {X : Cx} {W : WX} {m : Bool} {e e2 : Expr} {fa fb : Env → M D} {x : Str} {d : D} {p p2 q2 pos : Pos}
theorem de_globC (h : GlobIs X.prog X.w X.K X.mg x d) (hg : Gl X x) (hd : (x == ("__debug__" : Str)) = false := by decide) : DE X W m (.Name x pos) (dC d) := by
  obtain ⟨v, u, h1, h2, h3⟩ := h
  exact de_glob hg h1 h2 h3 hd
/-! ### list(range(..)) -/
def rgD (X : Cx) (W : WX) (f : Env → M (Int × Int)) : L2.St → Hp → (Int → Int → Hp → Prop) → Prop := fun σ H Q => ∃ T F ρ τ, SR (kc X) T F H σ ρ τ ∧
  wpR (f ρ τ) (fun b τ' => ∀ F' H', Ext T F H F' H' τ' → Q b.1 b.2 H') (wX X.mg W T F H σ)
abbrev DR (X : Cx) (W : WX) (e : Expr) (f : Env → M (Int × Int)) : Prop := PRg X e (rgD X W f)
def rg1 (fa : Env → M D) : Env → M (Int × Int) := fun ρ => M.bind (fa ρ) fun x => M.bind (toI x) fun i => M.pure (0, i)
def rg2 (fa fb : Env → M D) : Env → M (Int × Int) := fun ρ => M.bind (fa ρ) fun x => M.bind (fb ρ) fun y => M.bind (toI x) fun i => M.bind (toI y) fun j => M.pure (i, j)
theorem impPRg {t t' : L2.St → Hp → (Int → Int → Hp → Prop) → Prop} (h : PRg X e t) (i : ∀ σ H Q, t' σ H Q → t σ H Q) : PRg X e t' := fun pins s σ H Q I q => h pins s σ H Q I (i σ H Q q)
theorem drg1 (hg : Gl X "range") (hm : X.mg "range" = none) (ha : DE X W false e fa) (na : starEach [e] X.env = (false, eval e X.env) :: starEach [] X.env := by rfl) : DR X W (.Call (.Name "range" p) [e] [] pos) (rg1 fa) :=
  impPRg (prg_1 hg hm ha na) fun σ H Q ⟨T, F, ρ, τ, s, q⟩ => tD_mono (tD_of (m := false) s s.bs.refl q) fun x H1 ⟨F1, τ1, d, x1, y1, s1, r1, q1⟩ => by
    cases r1 with
    | int i => exact ⟨i, rfl, q1 F1 H1 x1⟩
    | _ => exact q1.elim
theorem drg2 (hg : Gl X "range") (hm : X.mg "range" = none) (ha : DE X W false e fa) (hb : DE X W false e2 fb) (na : starEach [e, e2] X.env = (false, eval e X.env) :: starEach [e2] X.env := by rfl)
    (nb : starEach [e2] X.env = (false, eval e2 X.env) :: starEach [] X.env := by rfl) (hp : (backTo pos (starEach [e2] X.env)).any (·.1) = false := by rfl) : DR X W (.Call (.Name "range" p) [e, e2] [] pos) (rg2 fa fb) :=
  impPRg (prg_2 hg hm ha hb na nb (hp := hp)) fun σ H Q ⟨T, F, ρ, τ, s, q⟩ => tD_mono (tD_of (m := false) s s.bs.refl q) fun x H1 ⟨F1, τ1, d, x1, y1, s1, r1, q1⟩ => tD_mono (tD_of (m := false) s1 x1 q1) fun y H2 ⟨F2, τ2, d2, x2, y2, s2, r2, q2⟩ => by
    cases r1 with
    | int i =>
      cases r2 with
      | int j => exact ⟨i, j, rfl, rfl, q2 F2 H2 x2⟩
      | _ => exact q2.elim
    | _ => exact q2.elim
def okRg (a b : Int) : Bool := inRng a && inRng b && decide ((b - a).toNat ≤ 2 ^ 24)
def fRange (f : Env → M (Int × Int)) : Env → M (List D) := fun ρ => M.bind (f ρ) fun b => if okRg b.1 b.2 = true then M.pure (rangeD b.1 (b.2 - b.1).toNat) else M.no
theorem rangeD_rep {κ : Kc} {T : Option Addr} {F : Hp} (a b : Int) : RepAll κ T F (rgV a b) (rangeD a (b - a).toNat) := by
  unfold rgV rangeD
  generalize List.range (b - a).toNat = l
  induction l with
  | nil => exact .nil
  | cons x l ih => exact .cons (.int _) ih
theorem df_rangeOf {f : Env → M (Int × Int)} (hc : X.calm = true) (hg : Gl X "list") (hm : X.mg "list" = none) (he : DR X W e f) (na : starEach [e] X.env = (false, eval e X.env) :: starEach [] X.env := by rfl) :
    DF X W (.Call (.Name "list" p) [e] [] pos) (fRange f) := impPE (pe_listRg hc hg hm he na) fun σ H Q ⟨T, F, ρ, τ, s, q⟩ => by
  refine ⟨T, F, ρ, τ, s, wpR_mono (wpR_bind q) (fun b τ1 q1 F1 H1 x1 => ?_) fun _ _ z => z⟩
  have q1 : wpR ((if okRg b.1 b.2 = true then M.pure (rangeD b.1 (b.2 - b.1).toNat) else M.no) τ1) (freshP (kc X) T F H Q) (wX X.mg W T F H σ) := q1
  split at q1
  · rename_i hk
    unfold okRg inRng at hk
    simp only [Bool.and_eq_true, decide_eq_true_eq] at hk
    refine ⟨⟨hk.1.1.1, hk.1.1.2, hk.1.2.1, hk.1.2.2, hk.2⟩, fun l hl => ?_⟩
    exact q1 l _ F1 _ (x1.trans (x1.bs.aside hl)) (was_free x1 hl) (Same.free x1.sub hl) upd_same (T_ne x1.bs hl) (rangeD_rep _ _)
  · exact q1.elim
/-! ### name = [..] on one line -/
section
variable {tg iter elt : Expr} {ifs : List Expr} {fi : Env → M (List D)} {g : D → Env → Option Env} {t : Env → M Bool} {f : Env → M D} {is : List Nat} {own : List (Str × Nat)} {scope : Scope} {y : Str} {py spos : Pos}
theorem ds_setLc (i : Nat) (hN : X.N.Nodup) (hc : X.calm = true) (hi : DI X W tg iter fi) (ok : BlkOk X.N X.env.scope scope own) (his : ∀ i ∈ is, i ∈ own.map (·.2))
    (hg : ∀ (s : Shared) (H : Hp) (C : Addr) (cl : List (Str × Addr)) (fp : List Addr), DG (X.blk s H scope (compEnvC scope cl C X.env) fp) is tg g)
    (ht : ∀ (s : Shared) (H : Hp) (C : Addr) (cl : List (Str × Addr)) (fp : List Addr), DTs (X.blk s H scope (compEnvC scope cl C X.env) fp) ifs t)
    (he : ∀ (s : Shared) (H : Hp) (C : Addr) (cl : List (Str × Addr)) (fp : List Addr), DE (X.blk s H scope (compEnvC scope cl C X.env) fp) noX false elt f)
    (hy : X.N[i]? = some y := by rfl) (hyl : X.env.scope.names.lookup y = some .local := by rfl)
    (hsw : swapsWith (.ListComp elt [⟨tg, iter, ifs, 0⟩] scope pos) (some (.Name y py)) spos.line X.env = pure true := by exact sw_true rfl rfl rfl (by decide +kernel)) (hs : ∀ x, foldedSetIterable iter X.env x = pure x := by intro _; rfl) :
    DS X W (.Assign [.Name y py] (.ListComp elt [⟨tg, iter, ifs, 0⟩] scope pos) spos) (sSetF i (fComp fi (own.map (·.2)) g t f)) := impPS (ps_setLc hc hN hy hyl hsw hi ok hg ht he hs) fun D σ H ⟨T, Fp, F0, H0, F, ρ, τ, s, q⟩ => by
  refine tLc_of (W := W) his (tF_mono (bF_of s q) fun v H1 ⟨F1, τ1, a, vs, ds, ex, x1, s1, h0, h1, h2, h3, r1, q1⟩ => ?_)
  subst ex
  obtain ⟨x2, le⟩ := x1.take h0 h1 h2 h3
  exact q1 _ H1 _ ((s.ext x2).set i (.lst upd_same (r1.mono le)))
end
end
/-! ### in a def's own body -/
theorem tkB (P : Program) (w : World) (K : PySem.W.Frag) (mg : Str → Option Value) (base : Heap) (N : List Str) (x : Str) (sc : Scope) (f : Addr) (cdv : Value) (A : Around) (outer : List PySem.Env) (s : Shared) (H : Hp) (E : XK) :
    L2.Takes (cxOf (L2.CX P w) P w K mg base N x sc f cdv A outer s H E) (wDef E) := takes_of rfl rfl rfl rfl
theorem hpB (P : Program) (w : World) (K : PySem.W.Frag) (mg : Str → Option Value) (base : Heap) (N : List Str) (x : Str) (sc : Scope) (f : Addr) (cdv : Value) (A : Around) (outer : List PySem.Env) (s : Shared) (H : Hp) (E : XK) :
    PassesOwn (model P w) (cxOf (L2.CX P w) P w K mg base N x sc f cdv A outer s H E).A (cxOf (L2.CX P w) P w K mg base N x sc f cdv A outer s H E).env (cxOf (L2.CX P w) P w K mg base N x sc f cdv A outer s H E).xe := passes_of rfl
end DL
end

section
set_option Elab.async false
set_option linter.all false
set_option maxRecDepth 100000
set_option maxHeartbeats 4000000
/-! DLN: sorted(..) of lists of data -/
namespace DL
open PySem PySem.Spec PyProof.Rows L2
def keyP (p : PyData) : List (Int ⊕ List Nat) := PySem.W.keyToks p
def leP {α : Type} (k : α → PyData) : α → α → Bool := PySem.W.sortLe (PyProof.Rows.listOrd PyProof.Rows.itemOrd) false fun z => PySem.W.keyToks (k z)
def allAlike (ps : List PyData) : Bool := ps.all fun p => ps.all fun q => PySem.W.alike p q
def isNTup : PyData → Bool
  | .tuple (_ :: _) => true
  | _ => false
def isPl : PyData → Bool
  | .tuple _ => false
  | .none => false
  | _ => true
def okSort (ps : List PyData) : Bool := allAlike ps && (ps.all isNTup || ps.all isPl) && ps.all fun p => decide (p.depth ≤ deepest)
theorem okSort_of {ps : List PyData} (h : okSort ps = true) : PySem.W.AllAlike ps ∧ PySem.W.Sortable ps ∧ ∀ p ∈ ps, p.depth ≤ 150 := by
  unfold okSort allAlike at h
  simp only [Bool.and_eq_true, Bool.or_eq_true, List.all_eq_true, decide_eq_true_eq] at h
  obtain ⟨⟨h1, h2⟩, h3⟩ := h
  refine ⟨fun d hd d' hd' => h1 d hd d' hd', ?_, fun p hp => h3 p hp⟩
  rcases h2 with h2 | h2
  · refine .inl fun d hd => ?_
    have q := h2 d hd
    cases d with
    | tuple xs =>
      cases xs with
      | nil => cases q
      | cons x r => exact ⟨x, r, rfl⟩
    | _ => cases q
  · refine .inr fun d hd => ?_
    have q := h2 d hd
    cases d with
    | tuple xs => cases q
    | none => cases q
    | _ => exact ⟨fun e => PyData.noConfusion e, fun xs e => PyData.noConfusion e⟩
def rSortDt (K : PySem.W.Frag) : List V → Hp → VK → Prop := fun vs H Q => ∃ (a : Addr) (zs : List (V × PyData)), vs = [V.ref a] ∧ SqL K H a (zs.map (·.1)) ∧ (∀ z ∈ zs, Dp K H z.1 z.2) ∧ okSort (zs.map (·.2)) = true ∧
  ∀ p, H p = none → Q (.ref p) (upd H p (.lst ((zs.mergeSort (leP (·.2))).map (·.1))))
theorem each_of_vals : ∀ {zs : List (V × PyData)} {us : List Value}, Vals (zs.map (·.1)) us → PySem.W.EachIs (fun u z => RelV z.1 u) us zs
  | [], _, h => by cases h; exact .nil
  | z :: zs, _, h => by cases h with | cons r t => exact .cons r (each_of_vals t)
theorem vals_of_each : ∀ {zs : List (V × PyData)} {us : List Value}, PySem.W.EachIs (fun u z => RelV z.1 u) us zs → Vals (zs.map (·.1)) us
  | _, _, .nil => .nil
  | _, _, .cons r t => .cons r (vals_of_each t)
section
variable {X : Cx}
theorem each_dp {pins : List (Addr × Obj)} {σ : L2.St} {H : Hp} {s : Shared} (I : Inv X pins σ H s) {h' : Heap} (k : ∀ b o, s.heap.get? b = some o → h'.get? b = some o) : ∀ {zs : List (V × PyData)} {us : List Value}, PySem.W.EachIs (fun u z => RelV z.1 u) us zs → (∀ z ∈ zs, Dp X.K H z.1 z.2) →
    PySem.W.EachIs (fun u z => ∃ as, Reads h' u z.2 as) us zs
  | _, _, .nil, _ => .nil
  | _, _, .cons r t, h => .cons (by
      obtain ⟨as, q⟩ := Dp.reads I _ _ _ (h _ (List.mem_cons_self ..)) r
      exact ⟨as, Reads.keeps k q⟩) (each_dp I k t fun z hz => h z (List.mem_cons_of_mem _ hz))
theorem each_snd {α β γ : Type} {R : α → γ → Prop} {f : β → γ} : ∀ {us : List α} {zs : List β}, PySem.W.EachIs (fun u z => R u (f z)) us zs → PySem.W.EachIs R us (zs.map f)
  | _, _, .nil => .nil
  | _, _, .cons r t => .cons r (each_snd t)
theorem each_mem {α β : Type} {R S : α → β → Prop} : ∀ {us : List α} {zs : List β}, PySem.W.EachIs R us zs → (∀ u z, z ∈ zs → R u z → S u z) → PySem.W.EachIs S us zs
  | _, _, .nil, _ => .nil
  | _, _, .cons r t, h => .cons (h _ _ (List.mem_cons_self ..) r) (each_mem t fun u z hz => h u z (List.mem_cons_of_mem _ hz))
theorem cr_sortDt (hu : X.A.units + 200 < cLine) : CallR X (.builtin "sorted") (rSortDt X.K) := by
  intro pins s σ H vs us Q I r h
  obtain ⟨a, zs, rfl, hs, hx, hk, q⟩ := h
  obtain ⟨its, rv, hl, hz⟩ := I.list hs
  rw [Vals.ref1 r]
  obtain ⟨k1, k2, k3⟩ := okSort_of hk
  have e0 := each_of_vals rv
  have e1 := each_dp I (fun b o e => PySem.W.sorting_copy_old (vs := its) e) e0 hx
  have S : PySem.W.SortsAt X.prog X.w X.A.in1.in1 { s with heap := PySem.W.sortingHeap (PySem.W.copyHeap s.heap its) (s.heap.objs.size + 1) its } _ its :=
    PySem.W.SortsAt.data (each_snd (R := fun u d => ∃ as, Reads _ u d as) (f := fun z : V × PyData => z.2) e1) k1 k2 fun d hd => by
      have := k3 d hd
      show X.A.units + 1 + 1 + d.depth < cLine
      omega
  refine PySem.W.sorted_vals hl.isList S (by rw [← rv.length]; exact hz) ?_
  have e2 := PySem.W.sortVals_each (rev := false) (fun z : V × PyData => PySem.W.keyToks z.2) e0 (κ := PySem.W.dataKind (PySem.W.sortingHeap (PySem.W.copyHeap s.heap its) (s.heap.objs.size + 1) its) (zs.map (·.2))) (each_mem e1 fun u z hz ⟨as, q⟩ => PySem.W.dataKind_some k1 (List.mem_map.mpr ⟨z, hz, rfl⟩) q)
  obtain ⟨ep, he'⟩ := PyProof.Rows.sortedAll_at s.heap its (PySem.W.sortVals (PySem.W.dataKind (PySem.W.sortingHeap (PySem.W.copyHeap s.heap its) (s.heap.objs.size + 1) its) (zs.map (·.2))) false its its).toArray
  have hlen : ((zs.mergeSort (leP (·.2))).map (·.1)).length ≤ sizeLine := by
    rw [List.length_map, (List.mergeSort_perm _ _).length_eq]
    rw [List.length_map] at hz
    exact hz
  exact ⟨.ref _, upd H (s.heap.objs.size + 1) (.lst ((zs.mergeSort (leP (·.2))).map (·.1))), I.laid (t' := s.toks) (fun _ _ => PyProof.Rows.sortedAll_old) (Nat.le_succ _) ⟨hlen, _, ep, vals_of_each e2, he'⟩, rfl, q _ (I.hok.fresh (Nat.le_succ _))⟩
end
/-! ### the mirror -/
def pD (d : D) : PyData := (toP d).getD .none
def sortD (ds : List D) : List D := ds.mergeSort (leP pD)
def sortL (ds : List D) : M (List D) := match toPs ds with
  | some ps => if okSort ps = true then M.pure (sortD ds) else M.no
  | none => M.no
def fSort (fa : Env → M D) : Env → M (List D) := fun ρ => M.bind (fa ρ) fun x => match x with
  | .lst ds => sortL ds
  | _ => M.no
theorem toPs_map : ∀ {ds : List D} {ps : List PyData}, toPs ds = some ps → ps = ds.map pD ∧ ∀ d ∈ ds, toP d = some (pD d)
  | [], _, h => by cases h; exact ⟨rfl, by simp⟩
  | d :: ds, ps, h => by
    rw [toPs] at h
    cases e : toP d with
    | none => rw [e] at h; cases h
    | some p =>
      cases e2 : toPs ds with
      | none => rw [e, e2] at h; cases h
      | some qs =>
        rw [e, e2] at h
        cases h
        obtain ⟨r1, r2⟩ := toPs_map e2
        have ep : pD d = p := by unfold pD; rw [e]; rfl
        refine ⟨by rw [List.map_cons, ep, ← r1], fun x hx => ?_⟩
        rcases List.mem_cons.mp hx with rfl | hx
        · rw [e, ep]
        · exact r2 x hx
theorem sort_snd {α β : Type} (f : α → β) (k : β → PyData) (zs : List α) : (zs.mergeSort (leP fun z => k (f z))).map f = (zs.map f).mergeSort (leP k) := PySem.W.sort_maps f fun _ _ _ _ => rfl
theorem repAll_zip {κ : Kc} {T : Option Addr} {F : Hp} : ∀ {vs : List V} {ds : List D}, RepAll κ T F vs ds → ∀ z ∈ vs.zip ds, Rep κ T F z.1 z.2
  | _, _, .nil, _, h => by simp at h
  | _, _, .cons r t, z, h => by
    rw [List.zip_cons_cons] at h
    rcases List.mem_cons.mp h with rfl | h
    · exact r
    · exact repAll_zip t z h
theorem repAll_of_zip {κ : Kc} {T : Option Addr} {F : Hp} : ∀ {zs : List (V × D)}, (∀ z ∈ zs, Rep κ T F z.1 z.2) → RepAll κ T F (zs.map (·.1)) (zs.map (·.2))
  | [], _ => .nil
  | z :: zs, h => .cons (h z (List.mem_cons_self ..)) (repAll_of_zip fun y hy => h y (List.mem_cons_of_mem _ hy))
section
variable {X : Cx} {W : WX} {e : Expr} {fa : Env → M D} {p pos : Pos}
theorem df_sort (hu : X.A.units + 200 < cLine) (hg : Gl X "sorted") (hm : X.mg "sorted" = none) (ha : DE X W true e fa)
    (he : starEach [e] X.env = (false, eval e X.env) :: starEach [] X.env := by rfl) (hpl : (backTo pos (starEach [] X.env)).any (·.1) = false := by rfl) : DF X W (.Call (.Name "sorted" p) [e] [] pos) (fSort fa) :=
  impPE (pe_callB (cr_sortDt hu) hg hm (by decide +kernel) (pa_cons ha pa_nil he) (by decide) (by decide) he hpl) fun σ H Q ⟨T, F, ρ, τ, s, q⟩ => by
    refine tD_mono (tD_of (m := true) s s.bs.refl q) fun x H1 ⟨F1, τ1, d, x1, y1, s1, r1, q1⟩ => ?_
    cases d with
    | lst ds =>
      obtain ⟨a, vs, rfl, hq, rv⟩ := RepTop.lst r1 s1.bs.le
      have q1 : wpR (sortL ds τ1) (freshP (kc X) T F H Q) (wX X.mg W T F H σ) := q1
      unfold sortL at q1
      cases e1 : toPs ds with
      | none => rw [e1] at q1; exact q1.elim
      | some ps =>
        rw [e1] at q1
        have q1 : wpR ((if okSort ps = true then M.pure (sortD ds) else M.no) τ1) (freshP (kc X) T F H Q) (wX X.mg W T F H σ) := q1
        split at q1
        · rename_i hk
          obtain ⟨m1, m2⟩ := toPs_map e1
          have hl := rv.length
          have z1 : (vs.zip ds).map (·.1) = vs := List.map_fst_zip (by omega)
          have z2 : (vs.zip ds).map (·.2) = ds := List.map_snd_zip (by omega)
          refine ⟨a, (vs.zip ds).map fun z => (z.1, pD z.2), rfl, ?_, ?_, ?_, fun l hl => ?_⟩
          · rw [List.map_map]
            show SqL X.K H1 a ((vs.zip ds).map (·.1))
            rw [z1]
            exact SqL.of hq
          · intro z hz
            obtain ⟨y, hy, rfl⟩ := List.mem_map.mp hz
            exact Rep.dp ((repAll_zip rv y hy).mono s1.bs.le) (m2 _ (List.of_mem_zip hy).2)
          · rw [List.map_map]
            show okSort ((vs.zip ds).map fun z => pD z.2) = true
            have : ((vs.zip ds).map fun z => pD z.2) = ps := by
              have q := congrArg (List.map pD) z2
              rw [List.map_map] at q
              rw [m1]
              exact q
            rw [this]
            exact hk
          · have x3 := s1.bs.aside (o := .lst (((vs.zip ds).map fun z => (z.1, pD z.2)).mergeSort (leP (·.2)) |>.map (·.1))) hl
            refine q1 l _ F1 _ (x1.trans x3) (was_free x1 hl) (Same.free s1.bs.le hl) upd_same (T_ne s1.bs hl) ?_
            have k1 : (((vs.zip ds).map fun z => (z.1, pD z.2)).mergeSort (leP (·.2))).map (·.1) = ((vs.zip ds).mergeSort (leP fun z => pD z.2)).map (·.1) := by
              rw [← sort_snd (fun z : V × D => (z.1, pD z.2)) (fun y : V × PyData => y.2), List.map_map]
              rfl
            have k2 : sortD ds = ((vs.zip ds).mergeSort (leP fun z => pD z.2)).map (·.2) := by
              unfold sortD
              rw [sort_snd (fun z : V × D => z.2) pD, z2]
            rw [k1, k2]
            exact repAll_of_zip fun z hz => repAll_zip rv z ((List.mergeSort_perm _ _).mem_iff.mp hz)
        · exact q1.elim
    | _ => exact q1.elim
end
end DL
end

section
set_option Elab.async false
set_option linter.all false
set_option maxRecDepth 100000
set_option maxHeartbeats 4000000
/-! DLO: the law's own def, and the end of a row -/
namespace DL
open PySem PySem.Spec PyProof.Rows L2
/-- the law's script: its integers, what the law needs of them, the promise True -/
def spL (K : PySem.W.Frag) (good : List Int → Prop) : Sp := fun vs H Q E => ∃ (a : Addr) (ns : List Int), vs = [.ref a] ∧ Only H ∧ SqL K H a (ns.map V.int) ∧ good ns ∧ ∀ H', Q (.bl true) H'
def env0 (n : Nat) (ns : List Int) : Env := [D.scr ns].map .d ++ List.replicate (n - 1) .un
def env1 (n : Nat) (ns : List Int) : Env := (env0 n ns).set 1 (.d .tin)
/-- tin = f; then g ends with True -/
def lawGood (f : Env → M D) (g : G) (n : Nat) (ns : List Int) : Prop := ∃ (x y z : Int) (τ0 τ1 : Tin), f (env0 n ns) (0, 0, 0) = .ok (.lst [.int x, .int y, .int z]) τ0 ∧ g (env1 n ns) (x, y, z) = .rt (.bl true) τ1
section
variable {P : Program} {w : World} {K : PySem.W.Frag} {mg : Str → Option Value} {base : Heap}
theorem law_mk {st : Stmt} {fa : Addr} {fd : FuncData} {N : List Str} {k : Nat} {f : Env → M D} {g : G} {e : Expr} {rest : List Stmt} {p pos : Pos} (F : Fun K "law" "law" st fa fd) (S : FnScope N ["script"] (defScope st))
    (hst : defBody st = .Assign [.Name "tin" p] e pos :: rest) (hi : N[1]? = some ("tin" : Str))
    (hx : ∀ cdv A outer s H E, Loc (cxOf (L2.CX P w) P w K mg base N "law" (defScope st) fa cdv A outer s H E).env.scope "tin")
    (hs : ∀ cdv A outer s H E, swapsWith e (some (.Name "tin" p)) pos.line (cxOf (L2.CX P w) P w K mg base N "law" (defScope st) fa cdv A outer s H E).env = pure false)
    (hf : ∀ cdv A outer s H E, (cxOf (L2.CX P w) P w K mg base N "law" (defScope st) fa cdv A outer s H E).fn "tin" = true ∨ (cxOf (L2.CX P w) P w K mg base N "law" (defScope st) fa cdv A outer s H E).env.scope.names.lookup ("tin" : Str) = some .local)
    (hbody : ∀ (cdv : Value) (A : Around) (outer : List PySem.Env) (s : Shared) (H : Hp) (E : XK), Room k (A.deeper (envOfC "law" (defScope st) s.heap.objs.size fa cdv)) →
      DE (cxOf (L2.CX P w) P w K mg base N "law" (defScope st) fa cdv A outer s H E) (wDef E) false e f ∧
      DSs (cxOf (L2.CX P w) P w K mg base N "law" (defScope st) fa cdv A outer s H E) (wDef E) rest g) :
    FnOk P w K mg base (L2.CX P w) (k + 1) fa fd ["script"] (spL K (lawGood f g N.length)) := by
  refine F.okX S (fun vs H Q E h => ?_) fun cdv A outer s H vs Q E hr ⟨a, ns, ev, hO, hS, ⟨x, y, z, τ0, τ1, e1, e2⟩, q⟩ => ?_
  · obtain ⟨a, ns, rfl, _⟩ := h
    rfl
  · subst ev
    obtain ⟨b1, b2⟩ := hbody cdv A outer s H E hr
    refine ⟨tSeq _ _, by rw [hst]; exact pss_cons (ps_set S.nd hi (hx cdv A outer s H E) b1 (hs cdv A outer s H E) (hf cdv A outer s H E)) b2, ?_⟩
    have r0 : RepAll ⟨P, w, K⟩ none H [.ref a] [.scr ns] := .cons (.scr hS) .nil
    have b0 : Bs none H H (0, 0, 0) := ⟨Same.refl _, fun _ h => by cases h⟩
    have s0 := sta_start (N := N) b0 r0
    refine ⟨none, H, env0 N.length ns, (0, 0, 0), s0.sr, ?_⟩
    show wpR (f (env0 N.length ns) (0, 0, 0)) _ _
    rw [e1]
    intro v F1 H1 x1 rv
    have rv : Rep ⟨P, w, K⟩ none F1 v (.lst [.int x, .int y, .int z]) := rv
    cases rv with
    | @lst c us _ hc ru =>
      have eu : us = [V.int x, V.int y, V.int z] := RepAll.ints (ns := [x, y, z]) ru
      subst eu
      have hn : H c = none := by
        rcases x1.new c _ hc with h | h
        · rcases hO c with h2 | ⟨o, xs, h2⟩
          · exact h2
          · rw [h] at h2
            cases h2
        · exact h
      have b2 : Bs (some c) H H1 (x, y, z) := ⟨fun b o h => x1.keep b o h (by intro z; cases z), fun b h => by
        cases h
        exact ⟨hn, x1.sub _ _ hc⟩⟩
      have r2 : RepAll ⟨P, w, K⟩ (some c) H [.ref a] [.scr ns] := .cons (.scr hS) .nil
      have s2 := (sta_start (N := N) b2 r2).set 1 (v := .ref c) (d := .tin) (.tin rfl)
      refine ⟨some c, H, H, H1, H, _, (x, y, z), s2, ?_⟩
      show wpO _ _ _ _ _ _ _ _ (g (env1 N.length ns) (x, y, z))
      rw [e2]
      intro F' H' v x3 rv3
      have rv3 : Rep ⟨P, w, K⟩ (some c) F' v (.bl true) := rv3
      cases rv3
      exact q H'
end
end DL
namespace DL
open PySem PySem.Spec PyProof.Rows L2
/-- walk_of, with what is known of the loose names and the script's bits -/
theorem walk_ofX {l : PySem.W.OpenLaw} {n k : Nat} {q : Program} {loose : List Str} {XP : (Str → Option Value) → Heap → Prop} {YP : World → Heap → Prop} {d : DefRec} {K : Params → PySem.W.Frag} {good : List Int → Prop}
    (hn : l.most = some n) (hn2 : n ≤ sizeLine) (hdf : d.params.defaults = []) (hr : Room k callerA)
    (hY : ∀ (w : World) (h : Heap), YP w h → (K w.params).In h)
    (F : ∀ (w : World) (mg : Str → Option Value) (fa : Addr) (h : Heap), (K w.params).In h → h.Ns mainGlobals mg → XP mg h → mg d.name = some (.ref fa) →
      ∃ fd : FuncData, (∀ (s : Shared) (u : Value), BindsTo s fd ⟨[u], []⟩ [("script", u)]) ∧
        ∀ base : Heap, (K w.params).In base → base.Ns mainGlobals mg → FnOk l.prog w (K w.params) mg base (L2.CX l.prog w) k fa fd ["script"] (spL (K w.params) good))
    (hsp : ∀ ns : List Int, ns.length ≤ n → (∀ i ∈ ns, Builtin.Int.intBits i ≤ 1048576) → good ns) :
    PySem.W.WalkO q loose XP YP l.row.toRowW d [] (fun f vs => PySem.call f vs) := by
  refine Att.attach_callB hn hdf fun w s₀ s₁ mg mb fa o pm cd doc a vs ns G Y ho hd hcd hmg hobj hints hlen hbits hg => ?_
  have KX := hY w _ Y
  obtain ⟨fd, hb, hF⟩ := F w mg fa _ KX G.T.g G.X hmg
  refine law_call KX G.T.g G.T.b G.T.builtins G.T.nolimit hg hobj hints (Nat.le_trans hlen hn2) hr hF hb (fun H hO hS => ⟨a, ns, rfl, hO, hS, hsp ns hlen hbits, fun _ => rfl⟩) fun H e s' => ?_
  rintro ⟨a, B, H', cls, d, e1, e2, e3, e4, e5, e6, e7, e8⟩
  exact e8
end DL
namespace DL
open PySem PySem.Spec PyProof.Rows L2
theorem globIs_loose {P : Program} {w : World} {K : PySem.W.Frag} {mg : Str → Option Value} {h : Heap} {p : Program} {lv : List (Str × PySem.W.WData)} {x : Str} {i : Int} (X : PySem.W.XL p lv mg h) (hx : (x, PySem.W.WData.int i) ∈ lv) : GlobIs P w K mg x (.int i) := by
  obtain ⟨v, h1, h2⟩ := X.2.val _ hx
  cases h2
  exact globIs_int h1
end DL
end

section
set_option Elab.async false
set_option linter.all false
set_option maxRecDepth 100000
set_option maxHeartbeats 4000000
/-! DP: mirrors on data of known kinds -/
namespace DL
open PySem PySem.Spec PyProof.Rows L2
/-- comparable data, at most n deep -/
def Oks (n : Nat) (d : D) : Prop := toP d = some (pD d) ∧ (pD d).canLay0 = true ∧ (pD d).depth ≤ n
theorem Oks.mono {m n : Nat} {d : D} (h : Oks m d) (k : m ≤ n) : Oks n d := ⟨h.1, h.2.1, Nat.le_trans h.2.2 k⟩
theorem oks_int (n : Nat) (i : Int) : Oks n (.int i) := ⟨rfl, rfl, Nat.zero_le _⟩
theorem oks_bl (n : Nat) (i : Bool) : Oks n (.bl i) := ⟨rfl, rfl, Nat.zero_le _⟩
theorem oks_non (n : Nat) : Oks n .non := ⟨rfl, rfl, Nat.zero_le _⟩
theorem oksAll {n : Nat} : ∀ {xs : List D}, (∀ x ∈ xs, Oks n x) → toPs xs = some (xs.map pD) ∧ PyData.canLayAll0 (xs.map pD) = true ∧ PyData.depthAll (xs.map pD) ≤ n
  | [], _ => ⟨rfl, rfl, Nat.zero_le _⟩
  | x :: xs, h => by
    obtain ⟨a1, a2, a3⟩ := h x List.mem_cons_self
    obtain ⟨b1, b2, b3⟩ := oksAll fun y hy => h y (List.mem_cons_of_mem _ hy)
    refine ⟨?_, ?_, ?_⟩
    · rw [toPs, a1, b1]; rfl
    · rw [List.map_cons, PyData.canLayAll0, a2, b2]; rfl
    · rw [List.map_cons, PyData.depthAll]; omega
theorem pD_tup {n : Nat} {xs : List D} (h : ∀ x ∈ xs, Oks n x) : pD (.tup xs) = .tuple (xs.map pD) := by
  unfold pD
  rw [toP, (oksAll h).1]; rfl
theorem pD_lst {n : Nat} {xs : List D} (h : ∀ x ∈ xs, Oks n x) : pD (.lst xs) = .list (xs.map pD) := by
  unfold pD
  rw [toP, (oksAll h).1]; rfl
theorem oks_tup {n : Nat} {xs : List D} (h : ∀ x ∈ xs, Oks n x) : Oks (n + 1) (.tup xs) := by
  obtain ⟨b1, b2, b3⟩ := oksAll h
  unfold Oks
  rw [pD_tup h]
  refine ⟨by rw [toP, b1]; rfl, by rw [PyData.canLay0]; exact b2, by rw [PyData.depth]; omega⟩
theorem oks_lst {n : Nat} {xs : List D} (h : ∀ x ∈ xs, Oks n x) : Oks (n + 1) (.lst xs) := by
  obtain ⟨b1, b2, b3⟩ := oksAll h
  unfold Oks
  rw [pD_lst h]
  refine ⟨by rw [toP, b1]; rfl, by rw [PyData.canLay0]; exact b2, by rw [PyData.depth]; omega⟩
theorem eqB_ok {d e : D} (h : Oks 150 d) (k : Oks 150 e) : eqB d e = some (PyData.eqv (pD d) (pD e)) := by
  unfold eqB
  rw [h.1, k.1]
  have : okP (pD d) (pD e) = true := by
    unfold okP
    have := h.2.2
    rw [h.2.1, k.2.1]
    simp only [Bool.true_and, decide_eq_true_eq]
    unfold deepest
    omega
  show (if okP (pD d) (pD e) = true then some (PyData.eqv (pD d) (pD e)) else none) = _
  rw [if_pos this]
theorem inL_ok {d : D} {xs : List D} (h : Oks 150 d) (k : ∀ x ∈ xs, Oks 150 x) : inL d xs = some (xs.any fun y => PyData.eqv (pD y) (pD d)) := by
  obtain ⟨b1, b2, b3⟩ := oksAll k
  unfold inL
  rw [h.1, b1]
  have : okIn (xs.map pD) (pD d) = true := by
    unfold okIn
    have := h.2.2
    rw [h.2.1, b2]
    simp only [Bool.true_and, decide_eq_true_eq]
    unfold deepest
    omega
  show (if okIn (xs.map pD) (pD d) = true then some ((xs.map pD).any fun y => PyData.eqv y (pD d)) else none) = _
  rw [if_pos this, List.any_map]
  rfl
/-- a kind of data: values of α lie as f says, == tells them apart -/
structure Cod {α : Type} [DecidableEq α] (n : Nat) (f : α → D) : Prop where
  ok : ∀ a, Oks n (f a)
  eq : ∀ a b, PyData.eqv (pD (f a)) (pD (f b)) = decide (a = b)
section
variable {α β : Type} [DecidableEq α] [DecidableEq β] {n m : Nat} {f : α → D} {g : β → D}
theorem cod_int : Cod 0 D.int := ⟨oks_int 0, fun a b => by
  show PyData.eqv (.int a) (.int b) = _
  rw [PyData.eqv]
  by_cases h : a = b
  · subst h; simp
  · simp [h]⟩
theorem Cod.all (c : Cod n f) : ∀ xs ys : List α, PyData.eqvAll ((xs.map f).map pD) ((ys.map f).map pD) = decide (xs = ys)
  | [], [] => rfl
  | [], y :: ys => by rw [List.map_cons, List.map_cons]; simp [PyData.eqvAll]
  | x :: xs, [] => by rw [List.map_cons, List.map_cons]; simp [PyData.eqvAll]
  | x :: xs, y :: ys => by
    rw [List.map_cons, List.map_cons, List.map_cons, List.map_cons, PyData.eqvAll, c.eq, Cod.all c xs ys]
    by_cases h : x = y <;> by_cases k : xs = ys <;> simp [h, k]
theorem Cod.oks (c : Cod n f) (xs : List α) : ∀ x ∈ xs.map f, Oks n x := fun x hx => by
  obtain ⟨a, _, rfl⟩ := List.mem_map.mp hx
  exact c.ok a
theorem Cod.tup (c : Cod n f) : Cod (n + 1) (fun xs : List α => D.tup (xs.map f)) := ⟨fun xs => oks_tup (c.oks xs), fun xs ys => by
  rw [pD_tup (c.oks xs), pD_tup (c.oks ys), PyData.eqv, c.all]⟩
theorem Cod.lst (c : Cod n f) : Cod (n + 1) (fun xs : List α => D.lst (xs.map f)) := ⟨fun xs => oks_lst (c.oks xs), fun xs ys => by
  rw [pD_lst (c.oks xs), pD_lst (c.oks ys), PyData.eqv, c.all]⟩
theorem Cod.pair (c : Cod n f) (e : Cod n g) : Cod (n + 1) (fun p : α × β => D.tup [f p.1, g p.2]) := by
  have h : ∀ p : α × β, ∀ x ∈ [f p.1, g p.2], Oks n x := fun p x hx => by
    rcases List.mem_cons.mp hx with rfl | hx
    · exact c.ok _
    · rcases List.mem_cons.mp hx with rfl | hx
      · exact e.ok _
      · cases hx
  refine ⟨fun p => oks_tup (h p), fun p q => ?_⟩
  rw [pD_tup (h p), pD_tup (h q), PyData.eqv]
  show PyData.eqvAll [pD (f p.1), pD (g p.2)] [pD (f q.1), pD (g q.2)] = _
  rw [PyData.eqvAll, PyData.eqvAll, PyData.eqvAll, c.eq, e.eq]
  obtain ⟨p1, p2⟩ := p
  obtain ⟨q1, q2⟩ := q
  by_cases h : p1 = q1 <;> by_cases k : p2 = q2 <;> simp [h, k]
theorem Cod.mono (c : Cod n f) (h : n ≤ m) : Cod m f := ⟨fun a => (c.ok a).mono h, c.eq⟩
theorem Cod.eqD (c : Cod n f) (hn : n ≤ 150) (a b : α) : DL.eqD (f a) (f b) = some (.bl (decide (a = b))) := by
  unfold DL.eqD
  rw [eqB_ok ((c.ok a).mono hn) ((c.ok b).mono hn), c.eq]
  rfl
theorem Cod.neD (c : Cod n f) (hn : n ≤ 150) (a b : α) : DL.neD (f a) (f b) = some (.bl (!decide (a = b))) := by
  unfold DL.neD
  rw [eqB_ok ((c.ok a).mono hn) ((c.ok b).mono hn), c.eq]
  rfl
theorem Cod.inL (c : Cod n f) (hn : n ≤ 150) (a : α) (xs : List α) : DL.inL (f a) (xs.map f) = some (decide (a ∈ xs)) := by
  rw [inL_ok ((c.ok a).mono hn) fun x hx => (c.oks xs x hx).mono hn, List.any_map]
  congr 1
  induction xs with
  | nil => rfl
  | cons x xs ih =>
    rw [List.any_cons, ih]
    show (PyData.eqv (pD (f x)) (pD (f a)) || _) = _
    rw [c.eq]
    by_cases h : x = a
    · subst h; simp
    · have : ¬ a = x := fun z => h z.symm
      simp [h, this]
end
/-! ### rows of integers -/
abbrev tN (xs : List Int) : D := .tup (xs.map .int)
abbrev lN (xs : List Int) : D := .lst (xs.map .int)
theorem eqD_int (i j : Int) : eqD (.int i) (.int j) = some (.bl (decide (i = j))) := cod_int.eqD (by omega) i j
theorem neD_int (i j : Int) : neD (.int i) (.int j) = some (.bl (!decide (i = j))) := cod_int.neD (by omega) i j
theorem eqD_tN (xs ys : List Int) : eqD (tN xs) (tN ys) = some (.bl (decide (xs = ys))) := cod_int.tup.eqD (by omega) xs ys
theorem neD_tN (xs ys : List Int) : neD (tN xs) (tN ys) = some (.bl (!decide (xs = ys))) := cod_int.tup.neD (by omega) xs ys
theorem neD_tN0 (xs : List Int) : neD (tN xs) (.tup []) = some (.bl (!decide (xs = []))) := neD_tN xs []
theorem inD_tN (i : Int) (xs : List Int) : inD (.int i) (tN xs) = some (.bl (decide (i ∈ xs))) := by
  show (inL (.int i) (xs.map .int)).map D.bl = _
  rw [cod_int.inL (by omega)]
  rfl
theorem atI_map {α β : Type} (f : α → β) (xs : List α) (i : Int) : atI (xs.map f) i = (atI xs i).map f := by
  unfold atI
  rw [List.length_map]
  cases ixN xs.length i with
  | none => rfl
  | some j => exact List.getElem?_map
theorem atI_pos {α : Type} {xs : List α} {i : Int} (h : 0 ≤ i) : atI xs i = xs[i.toNat]? := by
  unfold atI ixN
  rw [if_pos h]
  split
  · rfl
  · rw [List.getElem?_eq_none (by omega)]; rfl
theorem atI_neg1 {α : Type} {xs : List α} : atI xs (-1) = xs.getLast? := by
  unfold atI ixN
  rw [if_neg (by decide)]
  cases xs with
  | nil => rfl
  | cons x xs =>
    rw [if_pos (by rw [List.length_cons]; omega), List.getLast?_eq_getElem?]
    show (x :: xs)[((-1 : Int) + ((x :: xs).length : Nat)).toNat]? = _
    congr 1
    rw [List.length_cons]
    omega
theorem cutL_mapF {α β : Type} (f : α → β) (xs : List α) (lo hi : Option Int) : cutL (xs.map f) lo hi = (cutL xs lo hi).map f := by
  unfold cutL
  rw [List.length_map, ← List.map_drop, ← List.map_take]
theorem sIx_pos {n d : Nat} {k : Int} (h : 0 ≤ k) : HT.sIx n d (some k) = min k.toNat n := by
  show (if k < 0 then (k + (n : Int)).toNat else min k.toNat n) = _
  rw [if_neg (by omega)]
theorem sIx_neg1 {n d : Nat} : HT.sIx n d (some (-1)) = n - 1 := by
  show (if (-1 : Int) < 0 then ((-1 : Int) + (n : Int)).toNat else min (-1 : Int).toNat n) = _
  rw [if_pos (by decide)]
  omega
theorem cutL_hi {α : Type} (xs : List α) {k : Int} (h : 0 ≤ k) : cutL xs none (some k) = xs.take k.toNat := by
  unfold cutL
  rw [sIx_pos h, HT.sIx_none, List.drop_zero, Nat.sub_zero]
  by_cases hk : k.toNat ≤ xs.length
  · rw [Nat.min_eq_left hk]
  · rw [Nat.min_eq_right (by omega), List.take_length, List.take_of_length_le (by omega)]
theorem cutL_lo {α : Type} (xs : List α) {k : Int} (h : 0 ≤ k) : cutL xs (some k) none = xs.drop k.toNat := by
  unfold cutL
  rw [sIx_pos h, HT.sIx_none]
  by_cases hk : k.toNat ≤ xs.length
  · rw [Nat.min_eq_left hk, List.take_of_length_le (by rw [List.length_drop]; omega)]
  · rw [Nat.min_eq_right (by omega), List.drop_length, List.drop_eq_nil_of_le (by omega)]
    exact List.take_nil
theorem cutL_last {α : Type} (xs : List α) : cutL xs none (some (-1)) = xs.dropLast := by
  unfold cutL
  rw [sIx_neg1, HT.sIx_none, List.drop_zero, Nat.sub_zero, List.dropLast_eq_take]
theorem slD_tN (lo hi : Option Int) (xs : List Int) : slD lo hi (tN xs) = some (tN (cutL xs lo hi)) := by
  show some (D.tup (cutL (xs.map .int) lo hi)) = _
  rw [cutL_mapF]
theorem ixD_tN (xs : List Int) (i : Int) : ixD (tN xs) (.int i) = (atI xs i).map .int := atI_map _ _ _
theorem ixD_lN (xs : List Int) (i : Int) : ixD (lN xs) (.int i) = (atI xs i).map .int := atI_map _ _ _
theorem ixD_tN_at {xs : List Int} {i : Int} (h : 0 ≤ i) (k : i < xs.length) : ixD (tN xs) (.int i) = some (.int (xs.getD i.toNat 0)) := by
  rw [ixD_tN, atI_pos h, List.getD_eq_getElem?_getD, List.getElem?_eq_getElem (by omega)]
  rfl
theorem ixD_tN_last (xs : List Int) : ixD (tN xs) (.int (-1)) = xs.getLast?.map .int := by
  rw [ixD_tN, atI_neg1]
theorem lenD_tN (xs : List Int) : lenD [tN xs] = some (.int xs.length) := by
  show some (D.int ((xs.map D.int).length : Nat)) = _
  rw [List.length_map]
theorem addD_tN (xs ys : List Int) (h : xs.length + ys.length ≤ sizeLine) : addD (tN xs) (tN ys) = some (tN (xs ++ ys)) := by
  show (if (xs.map D.int).length + (ys.map D.int).length ≤ sizeLine then some (D.tup (xs.map D.int ++ ys.map D.int)) else none) = _
  rw [List.length_map, List.length_map, if_pos h, ← List.map_append]
/-! ### comprehensions, loops -/
theorem compM_filter {t : Env → M Bool} {f : Env → M D} {p : D → Bool} {h : D → D} {ρ : Env} {i : Nat} {τ : Tin} : ∀ ds : List D, (∀ d ∈ ds, t (ρ.set i (.d d)) τ = .ok (p d) τ) → (∀ d ∈ ds, p d = true → f (ρ.set i (.d d)) τ = .ok (h d) τ) → compM (gN i) t f ds ρ τ = .ok ((ds.filter p).map h) τ
  | [], _, _ => rfl
  | d :: ds, k, l => by
    have h1 := k d List.mem_cons_self
    have h2 := compM_filter ds (fun x hx => k x (List.mem_cons_of_mem _ hx)) fun x hx => l x (List.mem_cons_of_mem _ hx)
    show M.bind (calm (t (ρ.set i (.d d)))) _ τ = _
    cases e : p d with
    | true =>
      have h3 := l d List.mem_cons_self e
      rw [e] at h1
      simp only [M.bind, calm, M.pure, if_true, h1, h2, h3, List.filter_cons_of_pos e, List.map_cons]
    | false =>
      rw [e] at h1
      rw [List.filter_cons_of_neg (by rw [e]; decide)]
      simp only [M.bind, calm, M.pure, h1, Bool.false_eq_true, if_false]
      exact h2
theorem compM_map {f : Env → M D} {h : D → D} {ρ : Env} {i : Nat} {τ : Tin} (ds : List D) (k : ∀ d ∈ ds, f (ρ.set i (.d d)) τ = .ok (h d) τ) : compM (gN i) bYes f ds ρ τ = .ok (ds.map h) τ := by
  have := compM_filter (t := bYes) (p := fun _ => true) (τ := τ) ds (fun _ _ => rfl) fun d hd _ => k d hd
  rw [List.filter_eq_self.mpr fun _ _ => rfl] at this
  exact this
/-- a loop that goes on until p holds, and then returns v -/
theorem loop_find {b : G} {p : D → Bool} {v : D → D} {i : Nat} {τ : Tin} : ∀ (ds : List D) (ρ : Env), (∀ d ∈ ds, b (ρ.set i (.d d)) τ = if p d = true then .rt (v d) τ else .nx (ρ.set i (.d d)) τ) →
    (∃ d, ds.find? p = some d ∧ loopO (gN i) b ds ρ τ = .rt (v d) τ) ∨ (ds.find? p = none ∧ ∃ ρ', loopO (gN i) b ds ρ τ = .nx ρ' τ ∧ (ρ' = ρ ∨ ∃ d ∈ ds, ρ' = ρ.set i (.d d)))
  | [], ρ, _ => .inr ⟨rfl, ρ, rfl, .inl rfl⟩
  | d :: ds, ρ, h => by
    have h1 := h d List.mem_cons_self
    cases e : p d with
    | true =>
      rw [e, if_pos rfl] at h1
      refine .inl ⟨d, by rw [List.find?_cons_of_pos e], ?_⟩
      show turnO (b (ρ.set i (.d d)) τ) _ = _
      rw [h1]
      rfl
    | false =>
      rw [e, if_neg (by decide)] at h1
      have ih := loop_find ds (ρ.set i (.d d)) fun x hx => by
        have := h x (List.mem_cons_of_mem _ hx)
        rw [List.set_set]
        exact this
      have hl : loopO (gN i) b (d :: ds) ρ τ = loopO (gN i) b ds (ρ.set i (.d d)) τ := by
        show turnO (b (ρ.set i (.d d)) τ) _ = _
        rw [h1]
        rfl
      rw [hl, List.find?_cons_of_neg (by rw [e]; decide)]
      rcases ih with ⟨x, e1, e2⟩ | ⟨e1, ρ', e2, e3⟩
      · exact .inl ⟨x, e1, e2⟩
      · refine .inr ⟨e1, ρ', e2, .inr ?_⟩
        rcases e3 with rfl | ⟨x, hx, rfl⟩
        · exact ⟨d, List.mem_cons_self, rfl⟩
        · exact ⟨x, List.mem_cons_of_mem _ hx, by rw [List.set_set]⟩
theorem blsOf_mapF {α : Type} (p : α → Bool) : ∀ xs : List α, blsOf (xs.map fun x => D.bl (p x)) = some (xs.map p)
  | [] => rfl
  | x :: xs => by rw [List.map_cons, blsOf, blsOf_mapF p xs]; rfl
theorem allD_map {α : Type} (p : α → Bool) (xs : List α) : allD [.lst (xs.map fun x => D.bl (p x))] = some (.bl (xs.all p)) := by
  show (blsOf (xs.map fun x => D.bl (p x))).map _ = _
  rw [blsOf_mapF]
  simp

/-! ### rules for reckoning -/
theorem toB_bl (b : Bool) : toB (.bl b) = M.pure b := rfl
theorem toI_int (i : Int) : toI (.int i) = M.pure i := rfl
theorem ltD_int (i j : Int) : ltD (.int i) (.int j) = some (.bl (decide (i < j))) := rfl
theorem leD_int (i j : Int) : leD (.int i) (.int j) = some (.bl (decide (i ≤ j))) := rfl
theorem gtD_int (i j : Int) : gtD (.int i) (.int j) = some (.bl (decide (j < i))) := rfl
theorem geD_int (i j : Int) : geD (.int i) (.int j) = some (.bl (decide (j ≤ i))) := rfl
theorem subD_int (i j : Int) : subD (.int i) (.int j) = some (.int (i - j)) := rfl
theorem addD_int (i j : Int) : addD (.int i) (.int j) = some (.int (i + j)) := rfl
theorem negD_int (i : Int) : negD (.int i) = some (.int (-i)) := rfl
theorem maxD_int (i j : Int) : maxD [.int i, .int j] = some (.int (if j > i then j else i)) := rfl
theorem modD_int {i j : Int} (h : 0 < j) : modD (.int i) (.int j) = some (.int (i % j)) := by
  show (if decide (0 < j) = true then some (D.int (i % j)) else none) = _
  rw [if_pos (by simpa using h)]
theorem fdivD_int {i j : Int} (h : 0 < j) (k : j < 1073741824) : fdivD (.int i) (.int j) = some (.int (i / j)) := by
  show (if (decide (0 < j) && decide (j < 1073741824)) = true then some (D.int (i / j)) else none) = _
  rw [if_pos (by simp [h, k])]
theorem mulD_int {i j : Int} (h : small64 i = true ∨ small64 j = true) : mulD (.int i) (.int j) = some (.int (i * j)) := by
  show (if (small64 i || small64 j) = true then some (D.int (i * j)) else none) = _
  rw [if_pos (by simpa using h)]
theorem small64_of {i : Int} (h : -(2 ^ 64) < i) (k : i < 2 ^ 64) : small64 i = true := by
  unfold small64
  rw [Bool.and_eq_true, decide_eq_true_eq, decide_eq_true_eq]
  exact ⟨h, k⟩
theorem compM_filterP {t : Env → M Bool} {f : Env → M D} {p : D → Bool} {h : D → D} {ρ : Env} {i : Nat} (ds : List D) (k : ∀ d ∈ ds, t (ρ.set i (.d d)) = M.pure (p d)) (l : ∀ d ∈ ds, p d = true → f (ρ.set i (.d d)) = M.pure (h d)) : compM (gN i) t f ds ρ = M.pure ((ds.filter p).map h) :=
  funext fun τ => compM_filter ds (fun d hd => by rw [k d hd]; rfl) fun d hd hp => by rw [l d hd hp]; rfl
theorem compM_mapP {f : Env → M D} {h : D → D} {ρ : Env} {i : Nat} (ds : List D) (k : ∀ d ∈ ds, f (ρ.set i (.d d)) = M.pure (h d)) : compM (gN i) bYes f ds ρ = M.pure (ds.map h) :=
  funext fun τ => compM_map ds fun d hd => by rw [k d hd]; rfl
/-- over integers -/
theorem compM_ints {α : Type} {f : Env → M D} {h : α → D} {j : α → D} {ρ : Env} {i : Nat} (xs : List α) (k : ∀ x ∈ xs, f (ρ.set i (.d (j x))) = M.pure (h x)) : compM (gN i) bYes f (xs.map j) ρ = M.pure (xs.map h) := by
  induction xs with
  | nil => rfl
  | cons x xs ih =>
    rw [List.map_cons, List.map_cons]
    have e : compM (gN i) bYes f (j x :: xs.map j) ρ = M.bind (calm (M.pure true)) fun c => if c = true then M.bind (calm (f (ρ.set i (.d (j x))))) fun y => M.bind (compM (gN i) bYes f (xs.map j) ρ) fun ys => M.pure (y :: ys) else compM (gN i) bYes f (xs.map j) ρ := rfl
    rw [e, calm_pure, M.pure_bind, if_pos rfl, k x List.mem_cons_self, calm_pure, M.pure_bind, ih fun y hy => k y (List.mem_cons_of_mem _ hy), M.pure_bind]
theorem compM_if {α : Type} {t : Env → M Bool} {f : Env → M D} {p : α → Bool} {h : α → D} {j : α → D} {ρ : Env} {i : Nat} (xs : List α) (k : ∀ x ∈ xs, t (ρ.set i (.d (j x))) = M.pure (p x)) (l : ∀ x ∈ xs, p x = true → f (ρ.set i (.d (j x))) = M.pure (h x)) :
    compM (gN i) t f (xs.map j) ρ = M.pure ((xs.filter p).map h) := by
  induction xs with
  | nil => rfl
  | cons x xs ih =>
    rw [List.map_cons]
    have e : compM (gN i) t f (j x :: xs.map j) ρ = M.bind (calm (t (ρ.set i (.d (j x))))) fun c => if c = true then M.bind (calm (f (ρ.set i (.d (j x))))) fun y => M.bind (compM (gN i) t f (xs.map j) ρ) fun ys => M.pure (y :: ys) else compM (gN i) t f (xs.map j) ρ := rfl
    have ih := ih (fun y hy => k y (List.mem_cons_of_mem _ hy)) fun y hy => l y (List.mem_cons_of_mem _ hy)
    rw [e, k x List.mem_cons_self, calm_pure, M.pure_bind]
    cases hp : p x with
    | true => rw [if_pos rfl, l x List.mem_cons_self hp, calm_pure, M.pure_bind, ih, M.pure_bind, List.filter_cons_of_pos hp, List.map_cons]
    | false => rw [if_neg (by decide), ih, List.filter_cons_of_neg (by rw [hp]; decide)]
theorem fits_map {α : Type} {f : α → D} {xs : List α} (h : xs.length ≤ sizeLine) : fits (xs.map f) = true := by
  unfold fits
  rw [List.length_map]
  simpa using h
/-- a def's body ends with a value, whatever stands in the drawing list -/
theorem runG_rt {g : G} {n k : Nat} {ds : List D} {d : D} (hl : ds.length = n) (h : ∀ τ, g (ds.map .d ++ List.replicate (k - n) .un) τ = .rt d τ) : runG g n k ds = M.pure d := by
  funext τ
  unfold runG
  rw [if_pos hl, h τ]
  rfl
theorem runG_nx {g : G} {n k : Nat} {ds : List D} (hl : ds.length = n) (h : ∀ τ, g (ds.map .d ++ List.replicate (k - n) .un) τ = .nx (ds.map .d ++ List.replicate (k - n) .un) τ) : runG g n k ds = M.pure .non := by
  funext τ
  unfold runG
  rw [if_pos hl, h τ]
  rfl
theorem fits_nil : fits [] = true := rfl

theorem loop_findF {α : Type} {b : G} {p : α → Bool} {v j : α → D} {i : Nat} {τ : Tin} : ∀ (xs : List α) (ρ : Env), (∀ x ∈ xs, b (ρ.set i (.d (j x))) τ = if p x = true then .rt (v x) τ else .nx (ρ.set i (.d (j x))) τ) →
    (∃ x, xs.find? p = some x ∧ loopO (gN i) b (xs.map j) ρ τ = .rt (v x) τ) ∨ (xs.find? p = none ∧ ∃ ρ', loopO (gN i) b (xs.map j) ρ τ = .nx ρ' τ ∧ (ρ' = ρ ∨ ∃ d, ρ' = ρ.set i (.d d)))
  | [], ρ, _ => .inr ⟨rfl, ρ, rfl, .inl rfl⟩
  | x :: xs, ρ, h => by
    have h1 := h x List.mem_cons_self
    cases e : p x with
    | true =>
      rw [e, if_pos rfl] at h1
      refine .inl ⟨x, by rw [List.find?_cons_of_pos e], ?_⟩
      show turnO (b (ρ.set i (.d (j x))) τ) _ = _
      rw [h1]
      rfl
    | false =>
      rw [e, if_neg (by decide)] at h1
      have ih := loop_findF xs (ρ.set i (.d (j x))) fun y hy => by
        have := h y (List.mem_cons_of_mem _ hy)
        rw [List.set_set]
        exact this
      have hl : loopO (gN i) b ((x :: xs).map j) ρ τ = loopO (gN i) b (xs.map j) (ρ.set i (.d (j x))) τ := by
        show turnO (b (ρ.set i (.d (j x))) τ) _ = _
        rw [h1]
        rfl
      rw [hl, List.find?_cons_of_neg (by rw [e]; decide)]
      rcases ih with ⟨x, e1, e2⟩ | ⟨e1, ρ', e2, e3⟩
      · exact .inl ⟨x, e1, e2⟩
      · refine .inr ⟨e1, ρ', e2, .inr ?_⟩
        rcases e3 with rfl | ⟨d, rfl⟩
        · exact ⟨_, rfl⟩
        · exact ⟨d, by rw [List.set_set]⟩
theorem mulD_tN {xs : List Int} {k : Int} (h : repOk xs.length k = true) : mulD (tN xs) (.int k) = some (tN (List.replicate k.toNat xs).flatten) := by
  show (if repOk (xs.map D.int).length k = true then some (D.tup (List.replicate k.toNat (xs.map D.int)).flatten) else none) = _
  rw [List.length_map, if_pos h]
  show _ = some (D.tup (List.map D.int (List.replicate k.toNat xs).flatten))
  rw [List.map_flatten, List.map_replicate]
theorem rangeD_eq (lo : Int) (n : Nat) : rangeD lo n = (List.range n).map fun i : Nat => D.int (lo + (i : Int)) := rfl

theorem small64_nat {n : Nat} (h : n ≤ 1000000000) : small64 (n : Int) = true := small64_of (by omega) (by omega)
theorem bO_tin {β : Type} {k : Nat} {ρ ρ' : Env} {f : D → M β} {kk : β → Tin → O} {τ : Tin} : bO (M.bind (dTin 0 k (.d .tin :: ρ)) f) ρ' kk τ = bO (f (.int (tinAt k τ))) ρ' kk τ := rfl
theorem bO_do {α β : Type} {x : M α} {f : α → M β} {ρ : Env} {kk : β → Tin → O} {τ τ1 : Tin} {a : α} (h : x τ = .ok a τ1) : bO (M.bind x f) ρ kk τ = bO (f a) ρ kk τ1 := by
  unfold bO M.bind
  rw [h]
theorem runG_at {g : G} {n k : Nat} {ds : List D} {d : D} {τ τ' : Tin} (hl : ds.length = n) (h : g (ds.map .d ++ List.replicate (k - n) .un) τ = .rt d τ') : runG g n k ds τ = .ok d τ' := by
  unfold runG
  rw [if_pos hl, h]
theorem intD_int (i : Int) : DL.intD [.int i] = some (.int i) := rfl

/-! ### step by step -/
section
variable {i : Nat} {is : List Nat} {f : Env → M D} {fl : Env → M (List D)} {fs : Env → M (List S)} {t : Env → M Bool} {g h rest : G} {tg : D → Env → Option Env} {ρ ρ1 : Env} {τ τ' : Tin} {d : D} {ds : List D} {ss : List S} {o : O}
theorem st_setE (hf : f ρ τ = .ok d τ') (k : rest (ρ.set i (.d d)) τ' = o) : sSeq (sSet i f) rest ρ τ = o := by
  unfold sSeq sSet
  rw [bO_ok hf]
  exact k
theorem st_set (hf : f ρ = M.pure d) (k : rest (ρ.set i (.d d)) τ = o) : sSeq (sSet i f) rest ρ τ = o := st_setE (by rw [hf]; rfl) k
theorem st_manyE (hf : fs ρ τ = .ok ss τ') (hl : is.length = ss.length) (k : rest (setS ρ is ss) τ' = o) : sSeq (sMany is fs) rest ρ τ = o := by
  unfold sSeq sMany
  rw [bO_ok hf, if_pos hl]
  exact k
theorem st_asg (hf : f ρ = M.pure d) (hg : tg d ρ = some ρ1) (k : rest ρ1 τ = o) : sSeq (sAsg f tg) rest ρ τ = o := by
  unfold sSeq sAsg
  rw [hf, bO_pure, hg]
  exact k
theorem st_ifn (ht : t ρ = M.pure false) (k : rest ρ τ = o) : sSeq (sIf t g sNil) rest ρ τ = o := by
  unfold sSeq sIf
  rw [ht, bO_pure, if_neg (by decide)]
  exact k
theorem st_setF (hf : fl ρ = M.pure ds) (k : rest (ρ.set i (.d (.lst ds))) τ = o) : sSeq (sSetF i fl) rest ρ τ = o := by
  unfold sSeq sSetF
  rw [hf, bO_pure]
  exact k
theorem st_own (hf : fl ρ = M.pure ds) (k : rest (ρ.set i (.own ds)) τ = o) : sSeq (sOwn i fl) rest ρ τ = o := by
  unfold sSeq sOwn
  rw [hf, bO_pure]
  exact k
theorem st_do (hg : g ρ τ = .nx ρ1 τ') (k : rest ρ1 τ' = o) : sSeq g rest ρ τ = o := by
  unfold sSeq
  rw [hg]
  exact k
theorem st_expr (hf : f ρ = M.pure d) (k : rest ρ τ = o) : sSeq (sExpr f) rest ρ τ = o := by
  unfold sSeq sExpr
  rw [hf, bO_pure]
  exact k
theorem st_ret (hf : f ρ = M.pure d) : sRet f ρ τ = .rt d τ := by
  unfold sRet
  rw [hf, bO_pure]
end
theorem ixN_nat {n j : Nat} (hj : j < n) : ixN n (j : Int) = some j := by
  unfold ixN
  rw [if_pos (by omega), if_pos (by omega)]
  simp
end DL
end

section
set_option Elab.async false
set_option linter.all false
set_option maxRecDepth 100000
set_option maxHeartbeats 4000000
open PySem PySem.Spec PyProof.Rows L2 DL
namespace K39
def topS (i : Nat) : Stmt := PySem.Challenge.pw_jumpfingers_k39_whole_lassos_counted_at.main.body.getD i (.Pass ⟨0,0,0,0⟩)
def fuel : Nat := 100
def c_MOST_WIDE : D := .int 3
def c_MOST_PLACE : D := .int 1000000000000000000000000000000
def c_MOST_BEGINNING : D := .int 2000
variable {P : Program} {w : World} {K : PySem.W.Frag} {mg : Str → Option Value} {base : Heap}
/-! ### is_number -/
abbrev s_is_number : Stmt := topS 3
abbrev N_is_number : List Str := ["thing"]
theorem sc_is_number : FnScope N_is_number ["thing"] (defScope s_is_number) := ⟨rfl, rfl, rfl, by decide +kernel, rfl, by decide +kernel, by decide +kernel⟩
def b_is_number : G := (sRet (dAnd (dIsi .int (dVar 0)) (dNot (dIsi .bl (dVar 0)))))
def m_is_number : List D → M D := runG b_is_number 1 1
theorem ok_is_number {f : Addr} {fd : FuncData} (F : Fun K "is_number" "is_number" s_is_number f fd) (hx : mg "is_number" = some (.ref f)) (hb : Binds K fd ["thing"] []) (h_isinstance : mg "isinstance" = none) (h_bool : mg "bool" = none) (h_int : mg "int" = none) : Fn P w K mg base "is_number" 1 1 m_is_number :=
  fn_mk (N := N_is_number) F sc_is_number hx hb rfl fun cdv A outer s H E hr =>
    have nd := sc_is_number.nd; have hu : (A.deeper _).units + 200 < cLine := hu200 hr; have tk := tkB P w K mg base N_is_number "is_number" (defScope s_is_number) f cdv A outer s H E; have hp := hpB P w K mg base N_is_number "is_number" (defScope s_is_number) f cdv A outer s H E
    (dss_one (ds_ret (de_and (de_isi .int rfl h_isinstance (de_var 0) (pe_bltn (v := .ty "int") rfl h_int (by decide +kernel) rfl)) (de_one (de_not (de_isi .bl rfl h_isinstance (de_var 0) (pe_bltn (v := .ty "bool") rfl h_bool (by decide +kernel) rfl)))))))
/-! ### tuple_of -/
abbrev s_tuple_of : Stmt := topS 4
abbrev N_tuple_of : List Str := ["thing", "part"]
theorem sc_tuple_of : FnScope N_tuple_of ["thing"] (defScope s_tuple_of) := ⟨rfl, rfl, rfl, by decide +kernel, rfl, by decide +kernel, by decide +kernel⟩
def b_tuple_of (rec : List D → M D) : G := (sSeq (sIf (dB (dIsi2 .lst .tup (dVar 0))) (sRet (dCB tupleD (aCons (dOf (fComp (iSeq (dVar 0)) [1] (gN 1) bYes (dCall 1 rec (aCons (dVar 1) aNil)))) aNil))) sNil)
    (sRet (dVar 0)))
def m_tuple_of : Nat → List D → M D
  | 0 => fun _ => M.no
  | n + 1 => runG (b_tuple_of (m_tuple_of n)) 1 2
theorem ok_tuple_of {f : Addr} {fd : FuncData} (F : Fun K "tuple_of" "tuple_of" s_tuple_of f fd) (hx : mg "tuple_of" = some (.ref f)) (hb : Binds K fd ["thing"] []) (h_isinstance : mg "isinstance" = none) (h_list : mg "list" = none) (h_tuple : mg "tuple" = none) : ∀ n : Nat, Fn P w K mg base "tuple_of" (1 + n) 1 (m_tuple_of n)
  | 0 => fn_zero F hx hb rfl
  | n + 1 => have F_tuple_of := ok_tuple_of F hx hb h_isinstance h_list h_tuple n; fn_mk (N := N_tuple_of) F sc_tuple_of hx hb rfl fun cdv A outer s H E hr =>
    have nd := sc_tuple_of.nd; have hu : (A.deeper _).units + 200 < cLine := hu200 hr; have tk := tkB P w K mg base N_tuple_of "tuple_of" (defScope s_tuple_of) f cdv A outer s H E; have hp := hpB P w K mg base N_tuple_of "tuple_of" (defScope s_tuple_of) f cdv A outer s H E
    (dss_cons (ds_if (dt_val (de_isi2 .lst .tup rfl h_isinstance (de_var 0) (pe_bltn (v := .ty "list") rfl h_list (by decide +kernel) rfl) (pe_bltn (v := .ty "tuple") rfl h_tuple (by decide +kernel) rfl))) (dss_one (ds_ret (de_callTy cr_tupleQ rfl h_tuple (by decide +kernel) (da_cons (de_fresh (df_comp (own := [("part", 1)]) rfl nd (di_seq (de_var 0)) (blkOk_by (N := N_tuple_of) (sc := (defScope s_tuple_of)) (by decide +kernel)) (by decide) (fun _ _ _ _ _ => (dg_name 1 nd)) (fun _ _ _ _ _ => dts_nil) (fun _ _ _ _ _ => have tk : ∀ {X : Cx}, Takes X noX := takes0; (de_call F_tuple_of (hr.mono (by first | decide | exact Nat.le_refl _ | omega)) rfl tk (da_cons (de_var 1) da_nil))))) da_nil)))) dss_nil)
    (dss_one (ds_ret (de_var 0))))
/-! ### is_tuple_of -/
abbrev s_is_tuple_of : Stmt := topS 5
abbrev N_is_tuple_of : List Str := ["thing", "many"]
theorem sc_is_tuple_of : FnScope N_is_tuple_of ["thing", "many"] (defScope s_is_tuple_of) := ⟨rfl, rfl, rfl, by decide +kernel, rfl, by decide +kernel, by decide +kernel⟩
def b_is_tuple_of : G := (sRet (dAnd (dIsi .tup (dVar 0)) (dOp eqD (dCB lenD (aCons (dVar 0) aNil)) (dVar 1))))
def m_is_tuple_of : List D → M D := runG b_is_tuple_of 2 2
theorem ok_is_tuple_of {f : Addr} {fd : FuncData} (F : Fun K "is_tuple_of" "is_tuple_of" s_is_tuple_of f fd) (hx : mg "is_tuple_of" = some (.ref f)) (hb : Binds K fd ["thing", "many"] []) (h_len : mg "len" = none) (h_isinstance : mg "isinstance" = none) (h_tuple : mg "tuple" = none) : Fn P w K mg base "is_tuple_of" 1 2 m_is_tuple_of :=
  fn_mk (N := N_is_tuple_of) F sc_is_tuple_of hx hb rfl fun cdv A outer s H E hr =>
    have nd := sc_is_tuple_of.nd; have hu : (A.deeper _).units + 200 < cLine := hu200 hr; have tk := tkB P w K mg base N_is_tuple_of "is_tuple_of" (defScope s_is_tuple_of) f cdv A outer s H E; have hp := hpB P w K mg base N_is_tuple_of "is_tuple_of" (defScope s_is_tuple_of) f cdv A outer s H E
    (dss_one (ds_ret (de_and (de_isi .tup rfl h_isinstance (de_var 0) (pe_bltn (v := .ty "tuple") rfl h_tuple (by decide +kernel) rfl)) (de_one (de_cmp (op_eqQ hu) (de_callB cr_lenQ rfl h_len (by decide +kernel) (da_cons (de_var 0) da_nil)) (de_var 1) (nomark _))))))
/-! ### is_letter -/
abbrev s_is_letter : Stmt := topS 8
abbrev N_is_letter : List Str := ["wide", "thing"]
theorem sc_is_letter : FnScope N_is_letter ["wide", "thing"] (defScope s_is_letter) := ⟨rfl, rfl, rfl, by decide +kernel, rfl, by decide +kernel, by decide +kernel⟩
def b_is_letter : G := (sRet (dAnd (dCall 1 (m_is_number) (aCons (dVar 1) aNil)) (dChain leD leD (dC (.int 1)) (dVar 1) (dVar 0))))
def m_is_letter : List D → M D := runG b_is_letter 2 2
theorem ok_is_letter {f : Addr} {fd : FuncData} (F : Fun K "is_letter" "is_letter" s_is_letter f fd) (hx : mg "is_letter" = some (.ref f)) (hb : Binds K fd ["wide", "thing"] []) (F_is_number : Fn P w K mg base "is_number" 1 1 m_is_number) : Fn P w K mg base "is_letter" 2 2 m_is_letter :=
  fn_mk (N := N_is_letter) F sc_is_letter hx hb rfl fun cdv A outer s H E hr =>
    have nd := sc_is_letter.nd; have hu : (A.deeper _).units + 200 < cLine := hu200 hr; have tk := tkB P w K mg base N_is_letter "is_letter" (defScope s_is_letter) f cdv A outer s H E; have hp := hpB P w K mg base N_is_letter "is_letter" (defScope s_is_letter) f cdv A outer s H E
    (dss_one (ds_ret (de_and (de_call F_is_number (hr.mono (by first | decide | exact Nat.le_refl _ | omega)) rfl tk (da_cons (de_var 1) da_nil)) (de_one (de_chain op_leQ op_leQ (de_int) (de_var 1) (de_var 0))))))
/-! ### is_text -/
abbrev s_is_text : Stmt := topS 9
abbrev N_is_text : List Str := ["wide", "thing", "own"]
theorem sc_is_text : FnScope N_is_text ["wide", "thing"] (defScope s_is_text) := ⟨rfl, rfl, rfl, by decide +kernel, rfl, by decide +kernel, by decide +kernel⟩
def b_is_text : G := (sRet (dAnd (dIsi .tup (dVar 1)) (dCB allD (aCons (dOf (fComp (iSeq (dVar 1)) [2] (gN 2) bYes (dCall 2 (m_is_letter) (aCons (dVar 0) (aCons (dVar 2) aNil))))) aNil))))
def m_is_text : List D → M D := runG b_is_text 2 3
theorem ok_is_text {f : Addr} {fd : FuncData} (F : Fun K "is_text" "is_text" s_is_text f fd) (hx : mg "is_text" = some (.ref f)) (hb : Binds K fd ["wide", "thing"] []) (h_all : mg "all" = none) (h_isinstance : mg "isinstance" = none) (h_tuple : mg "tuple" = none) (F_is_letter : Fn P w K mg base "is_letter" 2 2 m_is_letter) : Fn P w K mg base "is_text" 3 2 m_is_text :=
  fn_mk (N := N_is_text) F sc_is_text hx hb rfl fun cdv A outer s H E hr =>
    have nd := sc_is_text.nd; have hu : (A.deeper _).units + 200 < cLine := hu200 hr; have tk := tkB P w K mg base N_is_text "is_text" (defScope s_is_text) f cdv A outer s H E; have hp := hpB P w K mg base N_is_text "is_text" (defScope s_is_text) f cdv A outer s H E
    (dss_one (ds_ret (de_and (de_isi .tup rfl h_isinstance (de_var 1) (pe_bltn (v := .ty "tuple") rfl h_tuple (by decide +kernel) rfl)) (de_one (de_callB (cr_allQ rfl) rfl h_all (by decide +kernel) (da_cons (de_fresh (df_comp (own := [("own", 2)]) rfl nd (di_seq (de_var 1)) (blkOk_by (N := N_is_text) (sc := (defScope s_is_text)) (by decide +kernel)) (by decide) (fun _ _ _ _ _ => (dg_name 2 nd)) (fun _ _ _ _ _ => dts_nil) (fun _ _ _ _ _ => have tk : ∀ {X : Cx}, Takes X noX := takes0; (de_call F_is_letter (hr.mono (by first | decide | exact Nat.le_refl _ | omega)) rfl tk (da_cons (de_var 0) (da_cons (de_var 2) da_nil)))))) da_nil))))))
/-! ### is_letters -/
abbrev s_is_letters : Stmt := topS 10
abbrev N_is_letters : List Str := ["wide", "thing", "near", "far"]
theorem sc_is_letters : FnScope N_is_letters ["wide", "thing"] (defScope s_is_letters) := ⟨rfl, rfl, rfl, by decide +kernel, rfl, by decide +kernel, by decide +kernel⟩
def b_is_letters : G := (sRet (dAnd (dCall 2 (m_is_text) (aCons (dVar 0) (aCons (dVar 1) aNil))) (dAnd (dOp neD (dVar 1) (dTup aNil)) (dCB allD (aCons (dOf (fComp (iZip (dVar 1) (dSlice (dVar 1) (pSome (dC (.int 1))) pNone)) [2, 3] (gT 2 (gsC (gN 2) (gsC (gN 3) gsN))) bYes (dOp ltD (dVar 2) (dVar 3)))) aNil)))))
def m_is_letters : List D → M D := runG b_is_letters 2 4
theorem ok_is_letters {f : Addr} {fd : FuncData} (F : Fun K "is_letters" "is_letters" s_is_letters f fd) (hx : mg "is_letters" = some (.ref f)) (hb : Binds K fd ["wide", "thing"] []) (h_all : mg "all" = none) (h_zip : mg "zip" = none) (F_is_text : Fn P w K mg base "is_text" 3 2 m_is_text) : Fn P w K mg base "is_letters" 4 2 m_is_letters :=
  fn_mk (N := N_is_letters) F sc_is_letters hx hb rfl fun cdv A outer s H E hr =>
    have nd := sc_is_letters.nd; have hu : (A.deeper _).units + 200 < cLine := hu200 hr; have tk := tkB P w K mg base N_is_letters "is_letters" (defScope s_is_letters) f cdv A outer s H E; have hp := hpB P w K mg base N_is_letters "is_letters" (defScope s_is_letters) f cdv A outer s H E
    (dss_one (ds_ret (de_and (de_call F_is_text (hr.mono (by first | decide | exact Nat.le_refl _ | omega)) rfl tk (da_cons (de_var 0) (da_cons (de_var 1) da_nil))) (de_and (de_cmp (op_neQ hu) (de_var 1) (de_tup da_nil) (nomark _)) (de_one (de_callB (cr_allQ rfl) rfl h_all (by decide +kernel) (da_cons (de_fresh (df_comp (own := [("near", 2), ("far", 3)]) rfl nd (di_zip rfl h_zip (de_var 1) (de_slice (de_var 1) (dp_some (de_int)) dp_none)) (blkOk_by (N := N_is_letters) (sc := (defScope s_is_letters)) (by decide +kernel)) (by decide) (fun _ _ _ _ _ => (dg_tup rfl (dgs_cons (dg_name 2 nd) (dgs_cons (dg_name 3 nd) dgs_nil)))) (fun _ _ _ _ _ => dts_nil) (fun _ _ _ _ _ => have tk : ∀ {X : Cx}, Takes X noX := takes0; (de_cmp op_ltQ (de_var 2) (de_var 3) (nomark _))))) da_nil)))))))
/-! ### sure_wide_of -/
abbrev s_sure_wide_of : Stmt := topS 14
abbrev N_sure_wide_of : List Str := ["wide"]
theorem sc_sure_wide_of : FnScope N_sure_wide_of ["wide"] (defScope s_sure_wide_of) := ⟨rfl, rfl, rfl, by decide +kernel, rfl, by decide +kernel, by decide +kernel⟩
def b_sure_wide_of : G := (sIf (bOr (bNot (dB (dCall 1 (m_is_number) (aCons (dVar 0) aNil)))) (bNot (dB (dChain leD leD (dC (.int 1)) (dVar 0) (dC c_MOST_WIDE))))) (sNo) sNil)
def m_sure_wide_of : List D → M D := runG b_sure_wide_of 1 1
theorem ok_sure_wide_of {f : Addr} {fd : FuncData} (F : Fun K "sure_wide_of" "sure_wide_of" s_sure_wide_of f fd) (hx : mg "sure_wide_of" = some (.ref f)) (hb : Binds K fd ["wide"] []) (g_MOST_WIDE : GlobIs P w K mg "MOST_WIDE" c_MOST_WIDE) (F_is_number : Fn P w K mg base "is_number" 1 1 m_is_number) : Fn P w K mg base "sure_wide_of" 2 1 m_sure_wide_of :=
  fn_mk (N := N_sure_wide_of) F sc_sure_wide_of hx hb rfl fun cdv A outer s H E hr =>
    have nd := sc_sure_wide_of.nd; have hu : (A.deeper _).units + 200 < cLine := hu200 hr; have tk := tkB P w K mg base N_sure_wide_of "sure_wide_of" (defScope s_sure_wide_of) f cdv A outer s H E; have hp := hpB P w K mg base N_sure_wide_of "sure_wide_of" (defScope s_sure_wide_of) f cdv A outer s H E
    (dss_one (ds_if (PW.pt (dw_or (dt_not (dt_val (de_call F_is_number (hr.mono (by first | decide | exact Nat.le_refl _ | omega)) rfl tk (da_cons (de_var 0) da_nil)))) (dw_or1 (dt_not (dt_chain op_leQ op_leQ (de_int) (de_var 0) (de_globC g_MOST_WIDE rfl)))))) (dss_one (ds_no)) dss_nil))
/-! ### is_lasso_form -/
abbrev s_is_lasso_form : Stmt := topS 15
abbrev N_is_lasso_form : List Str := ["wide", "thing", "own"]
theorem sc_is_lasso_form : FnScope N_is_lasso_form ["wide", "thing"] (defScope s_is_lasso_form) := ⟨rfl, rfl, rfl, by decide +kernel, rfl, by decide +kernel, by decide +kernel⟩
def b_is_lasso_form : G := (sRet (dAnd (dCall 2 (m_is_tuple_of) (aCons (dVar 1) (aCons (dC (.int 2)) aNil))) (dAnd (dCB allD (aCons (dOf (fComp (iSeq (dVar 1)) [2] (gN 2) bYes (dCall 2 (m_is_text) (aCons (dVar 0) (aCons (dVar 2) aNil))))) aNil)) (dOp neD (dOp ixD (dVar 1) (dC (.int 1))) (dTup aNil)))))
def m_is_lasso_form : List D → M D := runG b_is_lasso_form 2 3
theorem ok_is_lasso_form {f : Addr} {fd : FuncData} (F : Fun K "is_lasso_form" "is_lasso_form" s_is_lasso_form f fd) (hx : mg "is_lasso_form" = some (.ref f)) (hb : Binds K fd ["wide", "thing"] []) (h_all : mg "all" = none) (F_is_text : Fn P w K mg base "is_text" 3 2 m_is_text) (F_is_tuple_of : Fn P w K mg base "is_tuple_of" 1 2 m_is_tuple_of) : Fn P w K mg base "is_lasso_form" 4 2 m_is_lasso_form :=
  fn_mk (N := N_is_lasso_form) F sc_is_lasso_form hx hb rfl fun cdv A outer s H E hr =>
    have nd := sc_is_lasso_form.nd; have hu : (A.deeper _).units + 200 < cLine := hu200 hr; have tk := tkB P w K mg base N_is_lasso_form "is_lasso_form" (defScope s_is_lasso_form) f cdv A outer s H E; have hp := hpB P w K mg base N_is_lasso_form "is_lasso_form" (defScope s_is_lasso_form) f cdv A outer s H E
    (dss_one (ds_ret (de_and (de_call F_is_tuple_of (hr.mono (by first | decide | exact Nat.le_refl _ | omega)) rfl tk (da_cons (de_var 1) (da_cons (de_int) da_nil))) (de_and (de_callB (cr_allQ rfl) rfl h_all (by decide +kernel) (da_cons (de_fresh (df_comp (own := [("own", 2)]) rfl nd (di_seq (de_var 1)) (blkOk_by (N := N_is_lasso_form) (sc := (defScope s_is_lasso_form)) (by decide +kernel)) (by decide) (fun _ _ _ _ _ => (dg_name 2 nd)) (fun _ _ _ _ _ => dts_nil) (fun _ _ _ _ _ => have tk : ∀ {X : Cx}, Takes X noX := takes0; (de_call F_is_text (hr.mono (by first | decide | exact Nat.le_refl _ | omega)) rfl tk (da_cons (de_var 0) (da_cons (de_var 2) da_nil)))))) da_nil)) (de_one (de_cmp (op_neQ hu) (de_ix (de_var 1) (de_int)) (de_tup da_nil) (nomark _)))))))
/-! ### sure_lasso -/
abbrev s_sure_lasso : Stmt := topS 16
abbrev N_sure_lasso : List Str := ["wide", "lasso", "own"]
theorem sc_sure_lasso : FnScope N_sure_lasso ["wide", "lasso"] (defScope s_sure_lasso) := ⟨rfl, rfl, rfl, by decide +kernel, rfl, by decide +kernel, by decide +kernel⟩
def b_sure_lasso : G := (sSeq (sExpr (dCall 1 (m_sure_wide_of) (aCons (dVar 0) aNil)))
    (sSeq (sSet 2 (dCall 1 (m_tuple_of 8) (aCons (dVar 1) aNil)))
    (sSeq (sIf (bNot (dB (dCall 2 (m_is_lasso_form) (aCons (dVar 0) (aCons (dVar 2) aNil))))) (sNo) sNil)
    (sRet (dVar 2)))))
def m_sure_lasso : List D → M D := runG b_sure_lasso 2 3
theorem ok_sure_lasso {f : Addr} {fd : FuncData} (F : Fun K "sure_lasso" "sure_lasso" s_sure_lasso f fd) (hx : mg "sure_lasso" = some (.ref f)) (hb : Binds K fd ["wide", "lasso"] []) (F_is_lasso_form : Fn P w K mg base "is_lasso_form" 4 2 m_is_lasso_form) (F_tuple_of : Fn P w K mg base "tuple_of" 9 1 (m_tuple_of 8)) (F_sure_wide_of : Fn P w K mg base "sure_wide_of" 2 1 m_sure_wide_of) : Fn P w K mg base "sure_lasso" 10 2 m_sure_lasso :=
  fn_mk (N := N_sure_lasso) F sc_sure_lasso hx hb rfl fun cdv A outer s H E hr =>
    have nd := sc_sure_lasso.nd; have hu : (A.deeper _).units + 200 < cLine := hu200 hr; have tk := tkB P w K mg base N_sure_lasso "sure_lasso" (defScope s_sure_lasso) f cdv A outer s H E; have hp := hpB P w K mg base N_sure_lasso "sure_lasso" (defScope s_sure_lasso) f cdv A outer s H E
    (dss_cons (ds_expr (de_call F_sure_wide_of (hr.mono (by first | decide | exact Nat.le_refl _ | omega)) rfl tk (da_cons (de_var 0) da_nil)))
    (dss_cons (ds_set 2 nd (de_call F_tuple_of (hr.mono (by first | decide | exact Nat.le_refl _ | omega)) rfl tk (da_cons (de_var 1) da_nil)))
    (dss_cons (ds_if (dt_not (dt_val (de_call F_is_lasso_form (hr.mono (by first | decide | exact Nat.le_refl _ | omega)) rfl tk (da_cons (de_var 0) (da_cons (de_var 2) da_nil))))) (dss_one (ds_no)) dss_nil)
    (dss_one (ds_ret (de_var 2))))))
/-! ### sure_many -/
abbrev s_sure_many : Stmt := topS 17
abbrev N_sure_many : List Str := ["many", "most"]
theorem sc_sure_many : FnScope N_sure_many ["many", "most"] (defScope s_sure_many) := ⟨rfl, rfl, rfl, by decide +kernel, rfl, by decide +kernel, by decide +kernel⟩
def b_sure_many : G := (sIf (bOr (bNot (dB (dCall 1 (m_is_number) (aCons (dVar 0) aNil)))) (bNot (dB (dChain leD leD (dC (.int 0)) (dVar 0) (dVar 1))))) (sNo) sNil)
def m_sure_many : List D → M D := runG b_sure_many 2 2
theorem ok_sure_many {f : Addr} {fd : FuncData} (F : Fun K "sure_many" "sure_many" s_sure_many f fd) (hx : mg "sure_many" = some (.ref f)) (hb : Binds K fd ["many", "most"] []) (F_is_number : Fn P w K mg base "is_number" 1 1 m_is_number) : Fn P w K mg base "sure_many" 2 2 m_sure_many :=
  fn_mk (N := N_sure_many) F sc_sure_many hx hb rfl fun cdv A outer s H E hr =>
    have nd := sc_sure_many.nd; have hu : (A.deeper _).units + 200 < cLine := hu200 hr; have tk := tkB P w K mg base N_sure_many "sure_many" (defScope s_sure_many) f cdv A outer s H E; have hp := hpB P w K mg base N_sure_many "sure_many" (defScope s_sure_many) f cdv A outer s H E
    (dss_one (ds_if (PW.pt (dw_or (dt_not (dt_val (de_call F_is_number (hr.mono (by first | decide | exact Nat.le_refl _ | omega)) rfl tk (da_cons (de_var 0) da_nil)))) (dw_or1 (dt_not (dt_chain op_leQ op_leQ (de_int) (de_var 0) (de_var 1)))))) (dss_one (ds_no)) dss_nil))
/-! ### shortest_round -/
abbrev s_shortest_round : Stmt := topS 18
abbrev N_shortest_round : List Str := ["round_so", "many"]
theorem sc_shortest_round : FnScope N_shortest_round ["round_so"] (defScope s_shortest_round) := ⟨rfl, rfl, rfl, by decide +kernel, rfl, by decide +kernel, by decide +kernel⟩
def b_shortest_round : G := (sSeq (sFor (iR2 (dC (.int 1)) (dOp addD (dCB lenD (aCons (dVar 0) aNil)) (dC (.int 1)))) (gN 1) (sIf (bAnd (dB (dOp eqD (dOp modD (dCB lenD (aCons (dVar 0) aNil)) (dVar 1)) (dC (.int 0)))) (dB (dOp eqD (dOp mulD (dSlice (dVar 0) pNone (pSome (dVar 1))) (dOp fdivD (dCB lenD (aCons (dVar 0) aNil)) (dVar 1))) (dVar 0)))) (sRet (dSlice (dVar 0) pNone (pSome (dVar 1)))) sNil))
    (sRet (dVar 0)))
def m_shortest_round : List D → M D := runG b_shortest_round 1 2
theorem ok_shortest_round {f : Addr} {fd : FuncData} (F : Fun K "shortest_round" "shortest_round" s_shortest_round f fd) (hx : mg "shortest_round" = some (.ref f)) (hb : Binds K fd ["round_so"] []) (h_range : mg "range" = none) (h_len : mg "len" = none) : Fn P w K mg base "shortest_round" 1 1 m_shortest_round :=
  fn_mk (N := N_shortest_round) F sc_shortest_round hx hb rfl fun cdv A outer s H E hr =>
    have nd := sc_shortest_round.nd; have hu : (A.deeper _).units + 200 < cLine := hu200 hr; have tk := tkB P w K mg base N_shortest_round "shortest_round" (defScope s_shortest_round) f cdv A outer s H E; have hp := hpB P w K mg base N_shortest_round "shortest_round" (defScope s_shortest_round) f cdv A outer s H E
    (dss_cons (ds_for hp rfl (di_range2 rfl h_range (de_int) (de_op op_addQ (de_callB cr_lenQ rfl h_len (by decide +kernel) (da_cons (de_var 0) da_nil)) (de_int))) (dg_name 1 nd) (dss_one (ds_if (PW.pt (dw_and (dt_cmp (op_eqQ hu) (de_op op_modQ (de_callB cr_lenQ rfl h_len (by decide +kernel) (da_cons (de_var 0) da_nil)) (de_var 1)) (de_int) (nomark _)) (dw_and1 (dt_cmp (op_eqQ hu) (de_op op_mulQ (de_slice (de_var 0) dp_none (dp_some (de_var 1))) (de_op op_fdivQ (de_callB cr_lenQ rfl h_len (by decide +kernel) (da_cons (de_var 0) da_nil)) (de_var 1))) (de_var 0) (nomark _))))) (dss_one (ds_ret (de_slice (de_var 0) dp_none (dp_some (de_var 1))))) dss_nil)))
    (dss_one (ds_ret (de_var 0))))
/-! ### short_in -/
abbrev s_short_in : Stmt := topS 19
abbrev N_short_in : List Str := ["ahead", "round_so", "front", "back"]
theorem sc_short_in : FnScope N_short_in ["ahead", "round_so"] (defScope s_short_in) := ⟨rfl, rfl, rfl, by decide +kernel, rfl, by decide +kernel, by decide +kernel⟩
def b_short_in : G := (sSeq (sMany [2, 3] (xVal (dVar 0) (xVal (dCall 1 (m_shortest_round) (aCons (dVar 1) aNil)) xNil)))
    (sSeq (sWhile fuel (bAnd (dB (dOp neD (dVar 2) (dTup aNil))) (dB (dOp eqD (dOp ixD (dVar 2) (dNeg (dC (.int 1)))) (dOp ixD (dVar 3) (dNeg (dC (.int 1))))))) (sMany [2, 3] (xVal (dSlice (dVar 2) pNone (pSome (dNeg (dC (.int 1))))) (xVal (dTup (aCons (dOp ixD (dVar 3) (dNeg (dC (.int 1)))) (aStar (dSlice (dVar 3) pNone (pSome (dNeg (dC (.int 1))))) aNil))) xNil))))
    (sRet (dTup (aCons (dVar 2) (aCons (dVar 3) aNil))))))
def m_short_in : List D → M D := runG b_short_in 2 4
theorem ok_short_in {f : Addr} {fd : FuncData} (F : Fun K "short_in" "short_in" s_short_in f fd) (hx : mg "short_in" = some (.ref f)) (hb : Binds K fd ["ahead", "round_so"] []) (F_shortest_round : Fn P w K mg base "shortest_round" 1 1 m_shortest_round) : Fn P w K mg base "short_in" 2 2 m_short_in :=
  fn_mk (N := N_short_in) F sc_short_in hx hb rfl fun cdv A outer s H E hr =>
    have nd := sc_short_in.nd; have hu : (A.deeper _).units + 200 < cLine := hu200 hr; have tk := tkB P w K mg base N_short_in "short_in" (defScope s_short_in) f cdv A outer s H E; have hp := hpB P w K mg base N_short_in "short_in" (defScope s_short_in) f cdv A outer s H E
    (dss_cons (ds_par (i := 2) (j := 3) rfl nd rfl rfl (by decide) rfl rfl (dx_val (de_var 0) (dx_val (de_call F_shortest_round (hr.mono (by first | decide | exact Nat.le_refl _ | omega)) rfl tk (da_cons (de_var 1) da_nil)) dx_nil)) (xVal_un (xVal_un xNil_un)) rfl)
    (dss_cons (ds_while fuel hp (PW.pt (dw_and (dt_cmp (op_neQ hu) (de_var 2) (de_tup da_nil) (nomark _)) (dw_and1 (dt_cmp (op_eqQ hu) (de_ix (de_var 2) (de_neg (de_int))) (de_ix (de_var 3) (de_neg (de_int))) (nomark _))))) (dss_one (ds_par (i := 2) (j := 3) rfl nd rfl rfl (by decide) rfl rfl (dx_val (de_slice (de_var 2) dp_none (dp_some (de_neg (de_int)))) (dx_val (de_tup (da_cons (de_ix (de_var 3) (de_neg (de_int))) (da_star (de_slice (de_var 3) dp_none (dp_some (de_neg (de_int)))) da_nil))) dx_nil)) (xVal_un (xVal_un xNil_un)) rfl)))
    (dss_one (ds_ret (de_tup (da_cons (de_var 2) (da_cons (de_var 3) da_nil)))))))
/-! ### lasso_short -/
abbrev s_lasso_short : Stmt := topS 20
abbrev N_lasso_short : List Str := ["lasso", "own"]
theorem sc_lasso_short : FnScope N_lasso_short ["lasso"] (defScope s_lasso_short) := ⟨rfl, rfl, rfl, by decide +kernel, rfl, by decide +kernel, by decide +kernel⟩
def b_lasso_short : G := (sSeq (sSet 1 (dCall 2 (m_sure_lasso) (aCons (dC c_MOST_WIDE) (aCons (dVar 0) aNil))))
    (sRet (dCall 2 (m_short_in) (aCons (dOp ixD (dVar 1) (dC (.int 0))) (aCons (dOp ixD (dVar 1) (dC (.int 1))) aNil)))))
def m_lasso_short : List D → M D := runG b_lasso_short 1 2
theorem ok_lasso_short {f : Addr} {fd : FuncData} (F : Fun K "lasso_short" "lasso_short" s_lasso_short f fd) (hx : mg "lasso_short" = some (.ref f)) (hb : Binds K fd ["lasso"] []) (g_MOST_WIDE : GlobIs P w K mg "MOST_WIDE" c_MOST_WIDE) (F_short_in : Fn P w K mg base "short_in" 2 2 m_short_in) (F_sure_lasso : Fn P w K mg base "sure_lasso" 10 2 m_sure_lasso) : Fn P w K mg base "lasso_short" 11 1 m_lasso_short :=
  fn_mk (N := N_lasso_short) F sc_lasso_short hx hb rfl fun cdv A outer s H E hr =>
    have nd := sc_lasso_short.nd; have hu : (A.deeper _).units + 200 < cLine := hu200 hr; have tk := tkB P w K mg base N_lasso_short "lasso_short" (defScope s_lasso_short) f cdv A outer s H E; have hp := hpB P w K mg base N_lasso_short "lasso_short" (defScope s_lasso_short) f cdv A outer s H E
    (dss_cons (ds_set 1 nd (de_call F_sure_lasso (hr.mono (by first | decide | exact Nat.le_refl _ | omega)) rfl tk (da_cons (de_globC g_MOST_WIDE rfl) (da_cons (de_var 0) da_nil))))
    (dss_one (ds_ret (de_call F_short_in (hr.mono (by first | decide | exact Nat.le_refl _ | omega)) rfl tk (da_cons (de_ix (de_var 1) (de_int)) (da_cons (de_ix (de_var 1) (de_int)) da_nil))))))
/-! ### is_short -/
abbrev s_is_short : Stmt := topS 21
abbrev N_is_short : List Str := ["lasso", "own"]
theorem sc_is_short : FnScope N_is_short ["lasso"] (defScope s_is_short) := ⟨rfl, rfl, rfl, by decide +kernel, rfl, by decide +kernel, by decide +kernel⟩
def b_is_short : G := (sSeq (sSet 1 (dCall 2 (m_sure_lasso) (aCons (dC c_MOST_WIDE) (aCons (dVar 0) aNil))))
    (sRet (dOp eqD (dCall 2 (m_short_in) (aCons (dOp ixD (dVar 1) (dC (.int 0))) (aCons (dOp ixD (dVar 1) (dC (.int 1))) aNil))) (dVar 1))))
def m_is_short : List D → M D := runG b_is_short 1 2
theorem ok_is_short {f : Addr} {fd : FuncData} (F : Fun K "is_short" "is_short" s_is_short f fd) (hx : mg "is_short" = some (.ref f)) (hb : Binds K fd ["lasso"] []) (g_MOST_WIDE : GlobIs P w K mg "MOST_WIDE" c_MOST_WIDE) (F_short_in : Fn P w K mg base "short_in" 2 2 m_short_in) (F_sure_lasso : Fn P w K mg base "sure_lasso" 10 2 m_sure_lasso) : Fn P w K mg base "is_short" 11 1 m_is_short :=
  fn_mk (N := N_is_short) F sc_is_short hx hb rfl fun cdv A outer s H E hr =>
    have nd := sc_is_short.nd; have hu : (A.deeper _).units + 200 < cLine := hu200 hr; have tk := tkB P w K mg base N_is_short "is_short" (defScope s_is_short) f cdv A outer s H E; have hp := hpB P w K mg base N_is_short "is_short" (defScope s_is_short) f cdv A outer s H E
    (dss_cons (ds_set 1 nd (de_call F_sure_lasso (hr.mono (by first | decide | exact Nat.le_refl _ | omega)) rfl tk (da_cons (de_globC g_MOST_WIDE rfl) (da_cons (de_var 0) da_nil))))
    (dss_one (ds_ret (de_cmp (op_eqQ hu) (de_call F_short_in (hr.mono (by first | decide | exact Nat.le_refl _ | omega)) rfl tk (da_cons (de_ix (de_var 1) (de_int)) (da_cons (de_ix (de_var 1) (de_int)) da_nil))) (de_var 1) (nomark _)))))
/-! ### same_endless -/
abbrev s_same_endless : Stmt := topS 22
abbrev N_same_endless : List Str := ["one", "other", "near", "far"]
theorem sc_same_endless : FnScope N_same_endless ["one", "other"] (defScope s_same_endless) := ⟨rfl, rfl, rfl, by decide +kernel, rfl, by decide +kernel, by decide +kernel⟩
def b_same_endless : G := (sSeq (sMany [2, 3] (xVal (dCall 2 (m_sure_lasso) (aCons (dC c_MOST_WIDE) (aCons (dVar 0) aNil))) (xVal (dCall 2 (m_sure_lasso) (aCons (dC c_MOST_WIDE) (aCons (dVar 1) aNil))) xNil)))
    (sRet (dOp eqD (dCall 2 (m_short_in) (aCons (dOp ixD (dVar 2) (dC (.int 0))) (aCons (dOp ixD (dVar 2) (dC (.int 1))) aNil))) (dCall 2 (m_short_in) (aCons (dOp ixD (dVar 3) (dC (.int 0))) (aCons (dOp ixD (dVar 3) (dC (.int 1))) aNil))))))
def m_same_endless : List D → M D := runG b_same_endless 2 4
theorem ok_same_endless {f : Addr} {fd : FuncData} (F : Fun K "same_endless" "same_endless" s_same_endless f fd) (hx : mg "same_endless" = some (.ref f)) (hb : Binds K fd ["one", "other"] []) (g_MOST_WIDE : GlobIs P w K mg "MOST_WIDE" c_MOST_WIDE) (F_short_in : Fn P w K mg base "short_in" 2 2 m_short_in) (F_sure_lasso : Fn P w K mg base "sure_lasso" 10 2 m_sure_lasso) : Fn P w K mg base "same_endless" 11 2 m_same_endless :=
  fn_mk (N := N_same_endless) F sc_same_endless hx hb rfl fun cdv A outer s H E hr =>
    have nd := sc_same_endless.nd; have hu : (A.deeper _).units + 200 < cLine := hu200 hr; have tk := tkB P w K mg base N_same_endless "same_endless" (defScope s_same_endless) f cdv A outer s H E; have hp := hpB P w K mg base N_same_endless "same_endless" (defScope s_same_endless) f cdv A outer s H E
    (dss_cons (ds_par (i := 2) (j := 3) rfl nd rfl rfl (by decide) rfl rfl (dx_val (de_call F_sure_lasso (hr.mono (by first | decide | exact Nat.le_refl _ | omega)) rfl tk (da_cons (de_globC g_MOST_WIDE rfl) (da_cons (de_var 0) da_nil))) (dx_val (de_call F_sure_lasso (hr.mono (by first | decide | exact Nat.le_refl _ | omega)) rfl tk (da_cons (de_globC g_MOST_WIDE rfl) (da_cons (de_var 1) da_nil))) dx_nil)) (xVal_un (xVal_un xNil_un)) rfl)
    (dss_one (ds_ret (de_cmp (op_eqQ hu) (de_call F_short_in (hr.mono (by first | decide | exact Nat.le_refl _ | omega)) rfl tk (da_cons (de_ix (de_var 2) (de_int)) (da_cons (de_ix (de_var 2) (de_int)) da_nil))) (de_call F_short_in (hr.mono (by first | decide | exact Nat.le_refl _ | omega)) rfl tk (da_cons (de_ix (de_var 3) (de_int)) (da_cons (de_ix (de_var 3) (de_int)) da_nil))) (nomark _)))))
/-! ### entry_at -/
abbrev s_entry_at : Stmt := topS 23
abbrev N_entry_at : List Str := ["ahead", "round_so", "place"]
theorem sc_entry_at : FnScope N_entry_at ["ahead", "round_so", "place"] (defScope s_entry_at) := ⟨rfl, rfl, rfl, by decide +kernel, rfl, by decide +kernel, by decide +kernel⟩
def b_entry_at : G := (sSeq (sIf (dB (dOp leD (dVar 2) (dCB lenD (aCons (dVar 0) aNil)))) (sRet (dOp ixD (dVar 0) (dOp subD (dVar 2) (dC (.int 1))))) sNil)
    (sRet (dOp ixD (dVar 1) (dOp modD (dOp subD (dOp subD (dVar 2) (dCB lenD (aCons (dVar 0) aNil))) (dC (.int 1))) (dCB lenD (aCons (dVar 1) aNil))))))
def m_entry_at : List D → M D := runG b_entry_at 3 3
theorem ok_entry_at {f : Addr} {fd : FuncData} (F : Fun K "entry_at" "entry_at" s_entry_at f fd) (hx : mg "entry_at" = some (.ref f)) (hb : Binds K fd ["ahead", "round_so", "place"] []) (h_len : mg "len" = none) : Fn P w K mg base "entry_at" 1 3 m_entry_at :=
  fn_mk (N := N_entry_at) F sc_entry_at hx hb rfl fun cdv A outer s H E hr =>
    have nd := sc_entry_at.nd; have hu : (A.deeper _).units + 200 < cLine := hu200 hr; have tk := tkB P w K mg base N_entry_at "entry_at" (defScope s_entry_at) f cdv A outer s H E; have hp := hpB P w K mg base N_entry_at "entry_at" (defScope s_entry_at) f cdv A outer s H E
    (dss_cons (ds_if (dt_cmp op_leQ (de_var 2) (de_callB cr_lenQ rfl h_len (by decide +kernel) (da_cons (de_var 0) da_nil)) (nomark _)) (dss_one (ds_ret (de_ix (de_var 0) (de_op op_subQ (de_var 2) (de_int))))) dss_nil)
    (dss_one (ds_ret (de_ix (de_var 1) (de_op op_modQ (de_op op_subQ (de_op op_subQ (de_var 2) (de_callB cr_lenQ rfl h_len (by decide +kernel) (da_cons (de_var 0) da_nil))) (de_int)) (de_callB cr_lenQ rfl h_len (by decide +kernel) (da_cons (de_var 1) da_nil)))))))
/-! ### sure_spot -/
abbrev s_sure_spot : Stmt := topS 24
abbrev N_sure_spot : List Str := ["place"]
theorem sc_sure_spot : FnScope N_sure_spot ["place"] (defScope s_sure_spot) := ⟨rfl, rfl, rfl, by decide +kernel, rfl, by decide +kernel, by decide +kernel⟩
def b_sure_spot : G := (sSeq (sExpr (dCall 2 (m_sure_many) (aCons (dVar 0) (aCons (dC c_MOST_PLACE) aNil))))
    (sIf (dB (dOp eqD (dVar 0) (dC (.int 0)))) (sNo) sNil))
def m_sure_spot : List D → M D := runG b_sure_spot 1 1
theorem ok_sure_spot {f : Addr} {fd : FuncData} (F : Fun K "sure_spot" "sure_spot" s_sure_spot f fd) (hx : mg "sure_spot" = some (.ref f)) (hb : Binds K fd ["place"] []) (g_MOST_PLACE : GlobIs P w K mg "MOST_PLACE" c_MOST_PLACE) (F_sure_many : Fn P w K mg base "sure_many" 2 2 m_sure_many) : Fn P w K mg base "sure_spot" 3 1 m_sure_spot :=
  fn_mk (N := N_sure_spot) F sc_sure_spot hx hb rfl fun cdv A outer s H E hr =>
    have nd := sc_sure_spot.nd; have hu : (A.deeper _).units + 200 < cLine := hu200 hr; have tk := tkB P w K mg base N_sure_spot "sure_spot" (defScope s_sure_spot) f cdv A outer s H E; have hp := hpB P w K mg base N_sure_spot "sure_spot" (defScope s_sure_spot) f cdv A outer s H E
    (dss_cons (ds_expr (de_call F_sure_many (hr.mono (by first | decide | exact Nat.le_refl _ | omega)) rfl tk (da_cons (de_var 0) (da_cons (de_globC g_MOST_PLACE rfl) da_nil))))
    (dss_one (ds_if (dt_cmp (op_eqQ hu) (de_var 0) (de_int) (nomark _)) (dss_one (ds_no)) dss_nil)))
/-! ### letter_at -/
abbrev s_letter_at : Stmt := topS 25
abbrev N_letter_at : List Str := ["lasso", "place", "own"]
theorem sc_letter_at : FnScope N_letter_at ["lasso", "place"] (defScope s_letter_at) := ⟨rfl, rfl, rfl, by decide +kernel, rfl, by decide +kernel, by decide +kernel⟩
def b_letter_at : G := (sSeq (sSet 2 (dCall 2 (m_sure_lasso) (aCons (dC c_MOST_WIDE) (aCons (dVar 0) aNil))))
    (sSeq (sExpr (dCall 1 (m_sure_spot) (aCons (dVar 1) aNil)))
    (sRet (dCall 3 (m_entry_at) (aCons (dOp ixD (dVar 2) (dC (.int 0))) (aCons (dOp ixD (dVar 2) (dC (.int 1))) (aCons (dVar 1) aNil)))))))
def m_letter_at : List D → M D := runG b_letter_at 2 3
theorem ok_letter_at {f : Addr} {fd : FuncData} (F : Fun K "letter_at" "letter_at" s_letter_at f fd) (hx : mg "letter_at" = some (.ref f)) (hb : Binds K fd ["lasso", "place"] []) (g_MOST_WIDE : GlobIs P w K mg "MOST_WIDE" c_MOST_WIDE) (F_entry_at : Fn P w K mg base "entry_at" 1 3 m_entry_at) (F_sure_spot : Fn P w K mg base "sure_spot" 3 1 m_sure_spot) (F_sure_lasso : Fn P w K mg base "sure_lasso" 10 2 m_sure_lasso) : Fn P w K mg base "letter_at" 11 2 m_letter_at :=
  fn_mk (N := N_letter_at) F sc_letter_at hx hb rfl fun cdv A outer s H E hr =>
    have nd := sc_letter_at.nd; have hu : (A.deeper _).units + 200 < cLine := hu200 hr; have tk := tkB P w K mg base N_letter_at "letter_at" (defScope s_letter_at) f cdv A outer s H E; have hp := hpB P w K mg base N_letter_at "letter_at" (defScope s_letter_at) f cdv A outer s H E
    (dss_cons (ds_set 2 nd (de_call F_sure_lasso (hr.mono (by first | decide | exact Nat.le_refl _ | omega)) rfl tk (da_cons (de_globC g_MOST_WIDE rfl) (da_cons (de_var 0) da_nil))))
    (dss_cons (ds_expr (de_call F_sure_spot (hr.mono (by first | decide | exact Nat.le_refl _ | omega)) rfl tk (da_cons (de_var 1) da_nil)))
    (dss_one (ds_ret (de_call F_entry_at (hr.mono (by first | decide | exact Nat.le_refl _ | omega)) rfl tk (da_cons (de_ix (de_var 2) (de_int)) (da_cons (de_ix (de_var 2) (de_int)) (da_cons (de_var 1) da_nil))))))))
/-! ### first_letters -/
abbrev s_first_letters : Stmt := topS 26
abbrev N_first_letters : List Str := ["own", "many", "place"]
theorem sc_first_letters : FnScope N_first_letters ["own", "many"] (defScope s_first_letters) := ⟨rfl, rfl, rfl, by decide +kernel, rfl, by decide +kernel, by decide +kernel⟩
def b_first_letters : G := (sRet (dCB tupleD (aCons (dOf (fComp (iR2 (dC (.int 1)) (dOp addD (dVar 1) (dC (.int 1)))) [2] (gN 2) bYes (dCall 3 (m_entry_at) (aCons (dOp ixD (dVar 0) (dC (.int 0))) (aCons (dOp ixD (dVar 0) (dC (.int 1))) (aCons (dVar 2) aNil)))))) aNil)))
def m_first_letters : List D → M D := runG b_first_letters 2 3
theorem ok_first_letters {f : Addr} {fd : FuncData} (F : Fun K "first_letters" "first_letters" s_first_letters f fd) (hx : mg "first_letters" = some (.ref f)) (hb : Binds K fd ["own", "many"] []) (h_tuple : mg "tuple" = none) (h_range : mg "range" = none) (F_entry_at : Fn P w K mg base "entry_at" 1 3 m_entry_at) : Fn P w K mg base "first_letters" 2 2 m_first_letters :=
  fn_mk (N := N_first_letters) F sc_first_letters hx hb rfl fun cdv A outer s H E hr =>
    have nd := sc_first_letters.nd; have hu : (A.deeper _).units + 200 < cLine := hu200 hr; have tk := tkB P w K mg base N_first_letters "first_letters" (defScope s_first_letters) f cdv A outer s H E; have hp := hpB P w K mg base N_first_letters "first_letters" (defScope s_first_letters) f cdv A outer s H E
    (dss_one (ds_ret (de_callTy cr_tupleQ rfl h_tuple (by decide +kernel) (da_cons (de_fresh (df_comp (own := [("place", 2)]) rfl nd (di_range2 rfl h_range (de_int) (de_op op_addQ (de_var 1) (de_int))) (blkOk_by (N := N_first_letters) (sc := (defScope s_first_letters)) (by decide +kernel)) (by decide) (fun _ _ _ _ _ => (dg_name 2 nd)) (fun _ _ _ _ _ => dts_nil) (fun _ _ _ _ _ => have tk : ∀ {X : Cx}, Takes X noX := takes0; (de_call F_entry_at (hr.mono (by first | decide | exact Nat.le_refl _ | omega)) rfl tk (da_cons (de_ix (de_var 0) (de_int)) (da_cons (de_ix (de_var 0) (de_int)) (da_cons (de_var 2) da_nil))))))) da_nil))))
/-! ### beginning -/
abbrev s_beginning : Stmt := topS 27
abbrev N_beginning : List Str := ["lasso", "many", "own"]
theorem sc_beginning : FnScope N_beginning ["lasso", "many"] (defScope s_beginning) := ⟨rfl, rfl, rfl, by decide +kernel, rfl, by decide +kernel, by decide +kernel⟩
def b_beginning : G := (sSeq (sSet 2 (dCall 2 (m_sure_lasso) (aCons (dC c_MOST_WIDE) (aCons (dVar 0) aNil))))
    (sSeq (sExpr (dCall 2 (m_sure_many) (aCons (dVar 1) (aCons (dC c_MOST_BEGINNING) aNil))))
    (sRet (dCall 2 (m_first_letters) (aCons (dVar 2) (aCons (dVar 1) aNil))))))
def m_beginning : List D → M D := runG b_beginning 2 3
theorem ok_beginning {f : Addr} {fd : FuncData} (F : Fun K "beginning" "beginning" s_beginning f fd) (hx : mg "beginning" = some (.ref f)) (hb : Binds K fd ["lasso", "many"] []) (g_MOST_BEGINNING : GlobIs P w K mg "MOST_BEGINNING" c_MOST_BEGINNING) (g_MOST_WIDE : GlobIs P w K mg "MOST_WIDE" c_MOST_WIDE) (F_first_letters : Fn P w K mg base "first_letters" 2 2 m_first_letters) (F_sure_many : Fn P w K mg base "sure_many" 2 2 m_sure_many) (F_sure_lasso : Fn P w K mg base "sure_lasso" 10 2 m_sure_lasso) : Fn P w K mg base "beginning" 11 2 m_beginning :=
  fn_mk (N := N_beginning) F sc_beginning hx hb rfl fun cdv A outer s H E hr =>
    have nd := sc_beginning.nd; have hu : (A.deeper _).units + 200 < cLine := hu200 hr; have tk := tkB P w K mg base N_beginning "beginning" (defScope s_beginning) f cdv A outer s H E; have hp := hpB P w K mg base N_beginning "beginning" (defScope s_beginning) f cdv A outer s H E
    (dss_cons (ds_set 2 nd (de_call F_sure_lasso (hr.mono (by first | decide | exact Nat.le_refl _ | omega)) rfl tk (da_cons (de_globC g_MOST_WIDE rfl) (da_cons (de_var 0) da_nil))))
    (dss_cons (ds_expr (de_call F_sure_many (hr.mono (by first | decide | exact Nat.le_refl _ | omega)) rfl tk (da_cons (de_var 1) (da_cons (de_globC g_MOST_BEGINNING rfl) da_nil))))
    (dss_one (ds_ret (de_call F_first_letters (hr.mono (by first | decide | exact Nat.le_refl _ | omega)) rfl tk (da_cons (de_var 2) (da_cons (de_var 1) da_nil)))))))
/-! ### moved_on -/
abbrev s_moved_on : Stmt := topS 28
abbrev N_moved_on : List Str := ["lasso", "many", "own", "ahead", "round_so", "rest"]
theorem sc_moved_on : FnScope N_moved_on ["lasso", "many"] (defScope s_moved_on) := ⟨rfl, rfl, rfl, by decide +kernel, rfl, by decide +kernel, by decide +kernel⟩
def b_moved_on : G := (sSeq (sSet 2 (dCall 2 (m_sure_lasso) (aCons (dC c_MOST_WIDE) (aCons (dVar 0) aNil))))
    (sSeq (sExpr (dCall 2 (m_sure_many) (aCons (dVar 1) (aCons (dC c_MOST_PLACE) aNil))))
    (sSeq (sAsg (dVar 2) (gT 2 (gsC (gN 3) (gsC (gN 4) gsN))))
    (sSeq (sIf (dB (dOp leD (dVar 1) (dCB lenD (aCons (dVar 3) aNil)))) (sRet (dCall 2 (m_short_in) (aCons (dSlice (dVar 3) (pSome (dVar 1)) pNone) (aCons (dVar 4) aNil)))) sNil)
    (sSeq (sSet 5 (dOp modD (dOp subD (dVar 1) (dCB lenD (aCons (dVar 3) aNil))) (dCB lenD (aCons (dVar 4) aNil))))
    (sRet (dCall 2 (m_short_in) (aCons (dTup aNil) (aCons (dOp addD (dSlice (dVar 4) (pSome (dVar 5)) pNone) (dSlice (dVar 4) pNone (pSome (dVar 5)))) aNil)))))))))
def m_moved_on : List D → M D := runG b_moved_on 2 6
theorem ok_moved_on {f : Addr} {fd : FuncData} (F : Fun K "moved_on" "moved_on" s_moved_on f fd) (hx : mg "moved_on" = some (.ref f)) (hb : Binds K fd ["lasso", "many"] []) (h_len : mg "len" = none) (g_MOST_PLACE : GlobIs P w K mg "MOST_PLACE" c_MOST_PLACE) (g_MOST_WIDE : GlobIs P w K mg "MOST_WIDE" c_MOST_WIDE) (F_short_in : Fn P w K mg base "short_in" 2 2 m_short_in) (F_sure_many : Fn P w K mg base "sure_many" 2 2 m_sure_many) (F_sure_lasso : Fn P w K mg base "sure_lasso" 10 2 m_sure_lasso) : Fn P w K mg base "moved_on" 11 2 m_moved_on :=
  fn_mk (N := N_moved_on) F sc_moved_on hx hb rfl fun cdv A outer s H E hr =>
    have nd := sc_moved_on.nd; have hu : (A.deeper _).units + 200 < cLine := hu200 hr; have tk := tkB P w K mg base N_moved_on "moved_on" (defScope s_moved_on) f cdv A outer s H E; have hp := hpB P w K mg base N_moved_on "moved_on" (defScope s_moved_on) f cdv A outer s H E
    (dss_cons (ds_set 2 nd (de_call F_sure_lasso (hr.mono (by first | decide | exact Nat.le_refl _ | omega)) rfl tk (da_cons (de_globC g_MOST_WIDE rfl) (da_cons (de_var 0) da_nil))))
    (dss_cons (ds_expr (de_call F_sure_many (hr.mono (by first | decide | exact Nat.le_refl _ | omega)) rfl tk (da_cons (de_var 1) (da_cons (de_globC g_MOST_PLACE rfl) da_nil))))
    (dss_cons (ds_asg (de_var 2) (dg_tup rfl (dgs_cons (dg_name 3 nd) (dgs_cons (dg_name 4 nd) dgs_nil))))
    (dss_cons (ds_if (dt_cmp op_leQ (de_var 1) (de_callB cr_lenQ rfl h_len (by decide +kernel) (da_cons (de_var 3) da_nil)) (nomark _)) (dss_one (ds_ret (de_call F_short_in (hr.mono (by first | decide | exact Nat.le_refl _ | omega)) rfl tk (da_cons (de_slice (de_var 3) (dp_some (de_var 1)) dp_none) (da_cons (de_var 4) da_nil))))) dss_nil)
    (dss_cons (ds_set 5 nd (de_op op_modQ (de_op op_subQ (de_var 1) (de_callB cr_lenQ rfl h_len (by decide +kernel) (da_cons (de_var 3) da_nil))) (de_callB cr_lenQ rfl h_len (by decide +kernel) (da_cons (de_var 4) da_nil))))
    (dss_one (ds_ret (de_call F_short_in (hr.mono (by first | decide | exact Nat.le_refl _ | omega)) rfl tk (da_cons (de_tup da_nil) (da_cons (de_op op_addQ (de_slice (de_var 4) (dp_some (de_var 5)) dp_none) (de_slice (de_var 4) dp_none (dp_some (de_var 5)))) da_nil))))))))))
/-! ### put_ahead -/
abbrev s_put_ahead : Stmt := topS 29
abbrev N_put_ahead : List Str := ["text", "lasso", "own", "told"]
theorem sc_put_ahead : FnScope N_put_ahead ["text", "lasso"] (defScope s_put_ahead) := ⟨rfl, rfl, rfl, by decide +kernel, rfl, by decide +kernel, by decide +kernel⟩
def b_put_ahead : G := (sSeq (sMany [2, 3] (xVal (dCall 2 (m_sure_lasso) (aCons (dC c_MOST_WIDE) (aCons (dVar 1) aNil))) (xVal (dCall 1 (m_tuple_of 8) (aCons (dVar 0) aNil)) xNil)))
    (sSeq (sIf (bNot (dB (dCall 2 (m_is_text) (aCons (dC c_MOST_WIDE) (aCons (dVar 3) aNil))))) (sNo) sNil)
    (sRet (dCall 2 (m_short_in) (aCons (dOp addD (dVar 3) (dOp ixD (dVar 2) (dC (.int 0)))) (aCons (dOp ixD (dVar 2) (dC (.int 1))) aNil))))))
def m_put_ahead : List D → M D := runG b_put_ahead 2 4
theorem ok_put_ahead {f : Addr} {fd : FuncData} (F : Fun K "put_ahead" "put_ahead" s_put_ahead f fd) (hx : mg "put_ahead" = some (.ref f)) (hb : Binds K fd ["text", "lasso"] []) (g_MOST_WIDE : GlobIs P w K mg "MOST_WIDE" c_MOST_WIDE) (F_short_in : Fn P w K mg base "short_in" 2 2 m_short_in) (F_is_text : Fn P w K mg base "is_text" 3 2 m_is_text) (F_tuple_of : Fn P w K mg base "tuple_of" 9 1 (m_tuple_of 8)) (F_sure_lasso : Fn P w K mg base "sure_lasso" 10 2 m_sure_lasso) : Fn P w K mg base "put_ahead" 11 2 m_put_ahead :=
  fn_mk (N := N_put_ahead) F sc_put_ahead hx hb rfl fun cdv A outer s H E hr =>
    have nd := sc_put_ahead.nd; have hu : (A.deeper _).units + 200 < cLine := hu200 hr; have tk := tkB P w K mg base N_put_ahead "put_ahead" (defScope s_put_ahead) f cdv A outer s H E; have hp := hpB P w K mg base N_put_ahead "put_ahead" (defScope s_put_ahead) f cdv A outer s H E
    (dss_cons (ds_par (i := 2) (j := 3) rfl nd rfl rfl (by decide) rfl rfl (dx_val (de_call F_sure_lasso (hr.mono (by first | decide | exact Nat.le_refl _ | omega)) rfl tk (da_cons (de_globC g_MOST_WIDE rfl) (da_cons (de_var 1) da_nil))) (dx_val (de_call F_tuple_of (hr.mono (by first | decide | exact Nat.le_refl _ | omega)) rfl tk (da_cons (de_var 0) da_nil)) dx_nil)) (xVal_un (xVal_un xNil_un)) rfl)
    (dss_cons (ds_if (dt_not (dt_val (de_call F_is_text (hr.mono (by first | decide | exact Nat.le_refl _ | omega)) rfl tk (da_cons (de_globC g_MOST_WIDE rfl) (da_cons (de_var 3) da_nil))))) (dss_one (ds_no)) dss_nil)
    (dss_one (ds_ret (de_call F_short_in (hr.mono (by first | decide | exact Nat.le_refl _ | omega)) rfl tk (da_cons (de_op op_addQ (de_var 3) (de_ix (de_var 2) (de_int))) (da_cons (de_ix (de_var 2) (de_int)) da_nil)))))))
/-! ### first_apart -/
abbrev s_first_apart : Stmt := topS 30
abbrev N_first_apart : List Str := ["one", "other", "near", "far", "most", "place"]
theorem sc_first_apart : FnScope N_first_apart ["one", "other"] (defScope s_first_apart) := ⟨rfl, rfl, rfl, by decide +kernel, rfl, by decide +kernel, by decide +kernel⟩
def b_first_apart : G := (sSeq (sMany [2, 3] (xVal (dCall 2 (m_sure_lasso) (aCons (dC c_MOST_WIDE) (aCons (dVar 0) aNil))) (xVal (dCall 2 (m_sure_lasso) (aCons (dC c_MOST_WIDE) (aCons (dVar 1) aNil))) xNil)))
    (sSeq (sSet 4 (dOp addD (dOp addD (dCB maxD (aCons (dCB lenD (aCons (dOp ixD (dVar 2) (dC (.int 0))) aNil)) (aCons (dCB lenD (aCons (dOp ixD (dVar 3) (dC (.int 0))) aNil)) aNil))) (dCB lenD (aCons (dOp ixD (dVar 2) (dC (.int 1))) aNil))) (dCB lenD (aCons (dOp ixD (dVar 3) (dC (.int 1))) aNil))))
    (sSeq (sFor (iR2 (dC (.int 1)) (dOp addD (dVar 4) (dC (.int 1)))) (gN 5) (sIf (dB (dOp neD (dCall 3 (m_entry_at) (aCons (dOp ixD (dVar 2) (dC (.int 0))) (aCons (dOp ixD (dVar 2) (dC (.int 1))) (aCons (dVar 5) aNil)))) (dCall 3 (m_entry_at) (aCons (dOp ixD (dVar 3) (dC (.int 0))) (aCons (dOp ixD (dVar 3) (dC (.int 1))) (aCons (dVar 5) aNil)))))) (sRet (dVar 5)) sNil))
    (sRet (dC .non)))))
def m_first_apart : List D → M D := runG b_first_apart 2 6
theorem ok_first_apart {f : Addr} {fd : FuncData} (F : Fun K "first_apart" "first_apart" s_first_apart f fd) (hx : mg "first_apart" = some (.ref f)) (hb : Binds K fd ["one", "other"] []) (h_range : mg "range" = none) (h_max : mg "max" = none) (h_len : mg "len" = none) (g_MOST_WIDE : GlobIs P w K mg "MOST_WIDE" c_MOST_WIDE) (F_entry_at : Fn P w K mg base "entry_at" 1 3 m_entry_at) (F_sure_lasso : Fn P w K mg base "sure_lasso" 10 2 m_sure_lasso) : Fn P w K mg base "first_apart" 11 2 m_first_apart :=
  fn_mk (N := N_first_apart) F sc_first_apart hx hb rfl fun cdv A outer s H E hr =>
    have nd := sc_first_apart.nd; have hu : (A.deeper _).units + 200 < cLine := hu200 hr; have tk := tkB P w K mg base N_first_apart "first_apart" (defScope s_first_apart) f cdv A outer s H E; have hp := hpB P w K mg base N_first_apart "first_apart" (defScope s_first_apart) f cdv A outer s H E
    (dss_cons (ds_par (i := 2) (j := 3) rfl nd rfl rfl (by decide) rfl rfl (dx_val (de_call F_sure_lasso (hr.mono (by first | decide | exact Nat.le_refl _ | omega)) rfl tk (da_cons (de_globC g_MOST_WIDE rfl) (da_cons (de_var 0) da_nil))) (dx_val (de_call F_sure_lasso (hr.mono (by first | decide | exact Nat.le_refl _ | omega)) rfl tk (da_cons (de_globC g_MOST_WIDE rfl) (da_cons (de_var 1) da_nil))) dx_nil)) (xVal_un (xVal_un xNil_un)) rfl)
    (dss_cons (ds_set 4 nd (de_op op_addQ (de_op op_addQ (de_callB (cr_maxQ rfl) rfl h_max (by decide +kernel) (da_cons (de_callB cr_lenQ rfl h_len (by decide +kernel) (da_cons (de_ix (de_var 2) (de_int)) da_nil)) (da_cons (de_callB cr_lenQ rfl h_len (by decide +kernel) (da_cons (de_ix (de_var 3) (de_int)) da_nil)) da_nil))) (de_callB cr_lenQ rfl h_len (by decide +kernel) (da_cons (de_ix (de_var 2) (de_int)) da_nil))) (de_callB cr_lenQ rfl h_len (by decide +kernel) (da_cons (de_ix (de_var 3) (de_int)) da_nil))))
    (dss_cons (ds_for hp rfl (di_range2 rfl h_range (de_int) (de_op op_addQ (de_var 4) (de_int))) (dg_name 5 nd) (dss_one (ds_if (dt_cmp (op_neQ hu) (de_call F_entry_at (hr.mono (by first | decide | exact Nat.le_refl _ | omega)) rfl tk (da_cons (de_ix (de_var 2) (de_int)) (da_cons (de_ix (de_var 2) (de_int)) (da_cons (de_var 5) da_nil)))) (de_call F_entry_at (hr.mono (by first | decide | exact Nat.le_refl _ | omega)) rfl tk (da_cons (de_ix (de_var 3) (de_int)) (da_cons (de_ix (de_var 3) (de_int)) (da_cons (de_var 5) da_nil)))) (nomark _)) (dss_one (ds_ret (de_var 5))) dss_nil)))
    (dss_one (ds_ret (de_non))))))
/-! ### endless_letters -/
abbrev s_endless_letters : Stmt := topS 31
abbrev N_endless_letters : List Str := ["lasso", "own"]
theorem sc_endless_letters : FnScope N_endless_letters ["lasso"] (defScope s_endless_letters) := ⟨rfl, rfl, rfl, by decide +kernel, rfl, by decide +kernel, by decide +kernel⟩
def b_endless_letters : G := (sSeq (sSet 1 (dCall 2 (m_sure_lasso) (aCons (dC c_MOST_WIDE) (aCons (dVar 0) aNil))))
    (sRet (dTup (aCons (dCB tupleD (aCons (dOf (fSortSetT (dOp addD (dOp ixD (dVar 1) (dC (.int 0))) (dOp ixD (dVar 1) (dC (.int 1)))))) aNil)) (aCons (dCB tupleD (aCons (dOf (fSortSetT (dOp ixD (dVar 1) (dC (.int 1))))) aNil)) aNil)))))
def m_endless_letters : List D → M D := runG b_endless_letters 1 2
theorem ok_endless_letters {f : Addr} {fd : FuncData} (F : Fun K "endless_letters" "endless_letters" s_endless_letters f fd) (hx : mg "endless_letters" = some (.ref f)) (hb : Binds K fd ["lasso"] []) (h_tuple : mg "tuple" = none) (h_sorted : mg "sorted" = none) (h_set : mg "set" = none) (g_MOST_WIDE : GlobIs P w K mg "MOST_WIDE" c_MOST_WIDE) (F_sure_lasso : Fn P w K mg base "sure_lasso" 10 2 m_sure_lasso) : Fn P w K mg base "endless_letters" 11 1 m_endless_letters :=
  fn_mk (N := N_endless_letters) F sc_endless_letters hx hb rfl fun cdv A outer s H E hr =>
    have nd := sc_endless_letters.nd; have hu : (A.deeper _).units + 200 < cLine := hu200 hr; have tk := tkB P w K mg base N_endless_letters "endless_letters" (defScope s_endless_letters) f cdv A outer s H E; have hp := hpB P w K mg base N_endless_letters "endless_letters" (defScope s_endless_letters) f cdv A outer s H E
    (dss_cons (ds_set 1 nd (de_call F_sure_lasso (hr.mono (by first | decide | exact Nat.le_refl _ | omega)) rfl tk (da_cons (de_globC g_MOST_WIDE rfl) (da_cons (de_var 0) da_nil))))
    (dss_one (ds_ret (de_tup (da_cons (de_callTy cr_tupleQ rfl h_tuple (by decide +kernel) (da_cons (de_fresh (df_sortSetT rfl rfl h_sorted rfl h_set (de_op op_addQ (de_ix (de_var 1) (de_int)) (de_ix (de_var 1) (de_int))))) da_nil)) (da_cons (de_callTy cr_tupleQ rfl h_tuple (by decide +kernel) (da_cons (de_fresh (df_sortSetT rfl rfl h_sorted rfl h_set (de_ix (de_var 1) (de_int)))) da_nil)) da_nil))))))
/-! ### sure_letters -/
abbrev s_sure_letters : Stmt := topS 32
abbrev N_sure_letters : List Str := ["letters", "own"]
theorem sc_sure_letters : FnScope N_sure_letters ["letters"] (defScope s_sure_letters) := ⟨rfl, rfl, rfl, by decide +kernel, rfl, by decide +kernel, by decide +kernel⟩
def b_sure_letters : G := (sSeq (sSet 1 (dCall 1 (m_tuple_of 8) (aCons (dVar 0) aNil)))
    (sSeq (sIf (bNot (dB (dCall 2 (m_is_letters) (aCons (dC c_MOST_WIDE) (aCons (dVar 1) aNil))))) (sNo) sNil)
    (sRet (dVar 1))))
def m_sure_letters : List D → M D := runG b_sure_letters 1 2
theorem ok_sure_letters {f : Addr} {fd : FuncData} (F : Fun K "sure_letters" "sure_letters" s_sure_letters f fd) (hx : mg "sure_letters" = some (.ref f)) (hb : Binds K fd ["letters"] []) (g_MOST_WIDE : GlobIs P w K mg "MOST_WIDE" c_MOST_WIDE) (F_is_letters : Fn P w K mg base "is_letters" 4 2 m_is_letters) (F_tuple_of : Fn P w K mg base "tuple_of" 9 1 (m_tuple_of 8)) : Fn P w K mg base "sure_letters" 10 1 m_sure_letters :=
  fn_mk (N := N_sure_letters) F sc_sure_letters hx hb rfl fun cdv A outer s H E hr =>
    have nd := sc_sure_letters.nd; have hu : (A.deeper _).units + 200 < cLine := hu200 hr; have tk := tkB P w K mg base N_sure_letters "sure_letters" (defScope s_sure_letters) f cdv A outer s H E; have hp := hpB P w K mg base N_sure_letters "sure_letters" (defScope s_sure_letters) f cdv A outer s H E
    (dss_cons (ds_set 1 nd (de_call F_tuple_of (hr.mono (by first | decide | exact Nat.le_refl _ | omega)) rfl tk (da_cons (de_var 0) da_nil)))
    (dss_cons (ds_if (dt_not (dt_val (de_call F_is_letters (hr.mono (by first | decide | exact Nat.le_refl _ | omega)) rfl tk (da_cons (de_globC g_MOST_WIDE rfl) (da_cons (de_var 1) da_nil))))) (dss_one (ds_no)) dss_nil)
    (dss_one (ds_ret (de_var 1)))))
/-! ### count_in -/
abbrev s_count_in : Stmt := topS 33
abbrev N_count_in : List Str := ["row", "some", "own"]
theorem sc_count_in : FnScope N_count_in ["row", "some"] (defScope s_count_in) := ⟨rfl, rfl, rfl, by decide +kernel, rfl, by decide +kernel, by decide +kernel⟩
def b_count_in : G := (sRet (dCB lenD (aCons (dOf (fComp (iSeq (dVar 0)) [2] (gN 2) (dB (dOp inD (dVar 2) (dVar 1))) (dVar 2))) aNil)))
def m_count_in : List D → M D := runG b_count_in 2 3
theorem ok_count_in {f : Addr} {fd : FuncData} (F : Fun K "count_in" "count_in" s_count_in f fd) (hx : mg "count_in" = some (.ref f)) (hb : Binds K fd ["row", "some"] []) (h_len : mg "len" = none) : Fn P w K mg base "count_in" 1 2 m_count_in :=
  fn_mk (N := N_count_in) F sc_count_in hx hb rfl fun cdv A outer s H E hr =>
    have nd := sc_count_in.nd; have hu : (A.deeper _).units + 200 < cLine := hu200 hr; have tk := tkB P w K mg base N_count_in "count_in" (defScope s_count_in) f cdv A outer s H E; have hp := hpB P w K mg base N_count_in "count_in" (defScope s_count_in) f cdv A outer s H E
    (dss_one (ds_ret (de_callB cr_lenQ rfl h_len (by decide +kernel) (da_cons (de_fresh (df_comp (own := [("own", 2)]) rfl nd (di_seq (de_var 0)) (blkOk_by (N := N_count_in) (sc := (defScope s_count_in)) (by decide +kernel)) (by decide) (fun _ _ _ _ _ => (dg_name 2 nd)) (fun _ _ _ _ _ => (dts_one (dt_cmp (op_inQ hu) (de_var 2) (de_var 1) rfl))) (fun _ _ _ _ _ => have tk : ∀ {X : Cx}, Takes X noX := takes0; (de_var 2)))) da_nil))))
/-! ### how_often_to -/
abbrev s_how_often_to : Stmt := topS 34
abbrev N_how_often_to : List Str := ["lasso", "letters", "many", "own", "some", "ahead", "round_so", "rounds", "rest"]
theorem sc_how_often_to : FnScope N_how_often_to ["lasso", "letters", "many"] (defScope s_how_often_to) := ⟨rfl, rfl, rfl, by decide +kernel, rfl, by decide +kernel, by decide +kernel⟩
def b_how_often_to : G := (sSeq (sMany [3, 4] (xVal (dCall 2 (m_sure_lasso) (aCons (dC c_MOST_WIDE) (aCons (dVar 0) aNil))) (xVal (dCall 1 (m_sure_letters) (aCons (dVar 1) aNil)) xNil)))
    (sSeq (sExpr (dCall 2 (m_sure_many) (aCons (dVar 2) (aCons (dC c_MOST_PLACE) aNil))))
    (sSeq (sAsg (dVar 3) (gT 2 (gsC (gN 5) (gsC (gN 6) gsN))))
    (sSeq (sIf (dB (dOp leD (dVar 2) (dCB lenD (aCons (dVar 5) aNil)))) (sRet (dCall 2 (m_count_in) (aCons (dSlice (dVar 5) pNone (pSome (dVar 2))) (aCons (dVar 4) aNil)))) sNil)
    (sSeq (sMany [7, 8] (xVal (dOp fdivD (dOp subD (dVar 2) (dCB lenD (aCons (dVar 5) aNil))) (dCB lenD (aCons (dVar 6) aNil))) (xVal (dOp modD (dOp subD (dVar 2) (dCB lenD (aCons (dVar 5) aNil))) (dCB lenD (aCons (dVar 6) aNil))) xNil)))
    (sRet (dOp addD (dOp addD (dCall 2 (m_count_in) (aCons (dVar 5) (aCons (dVar 4) aNil))) (dOp mulD (dVar 7) (dCall 2 (m_count_in) (aCons (dVar 6) (aCons (dVar 4) aNil))))) (dCall 2 (m_count_in) (aCons (dSlice (dVar 6) pNone (pSome (dVar 8))) (aCons (dVar 4) aNil))))))))))
def m_how_often_to : List D → M D := runG b_how_often_to 3 9
theorem ok_how_often_to {f : Addr} {fd : FuncData} (F : Fun K "how_often_to" "how_often_to" s_how_often_to f fd) (hx : mg "how_often_to" = some (.ref f)) (hb : Binds K fd ["lasso", "letters", "many"] []) (h_len : mg "len" = none) (g_MOST_PLACE : GlobIs P w K mg "MOST_PLACE" c_MOST_PLACE) (g_MOST_WIDE : GlobIs P w K mg "MOST_WIDE" c_MOST_WIDE) (F_count_in : Fn P w K mg base "count_in" 1 2 m_count_in) (F_sure_many : Fn P w K mg base "sure_many" 2 2 m_sure_many) (F_sure_letters : Fn P w K mg base "sure_letters" 10 1 m_sure_letters) (F_sure_lasso : Fn P w K mg base "sure_lasso" 10 2 m_sure_lasso) : Fn P w K mg base "how_often_to" 11 3 m_how_often_to :=
  fn_mk (N := N_how_often_to) F sc_how_often_to hx hb rfl fun cdv A outer s H E hr =>
    have nd := sc_how_often_to.nd; have hu : (A.deeper _).units + 200 < cLine := hu200 hr; have tk := tkB P w K mg base N_how_often_to "how_often_to" (defScope s_how_often_to) f cdv A outer s H E; have hp := hpB P w K mg base N_how_often_to "how_often_to" (defScope s_how_often_to) f cdv A outer s H E
    (dss_cons (ds_par (i := 3) (j := 4) rfl nd rfl rfl (by decide) rfl rfl (dx_val (de_call F_sure_lasso (hr.mono (by first | decide | exact Nat.le_refl _ | omega)) rfl tk (da_cons (de_globC g_MOST_WIDE rfl) (da_cons (de_var 0) da_nil))) (dx_val (de_call F_sure_letters (hr.mono (by first | decide | exact Nat.le_refl _ | omega)) rfl tk (da_cons (de_var 1) da_nil)) dx_nil)) (xVal_un (xVal_un xNil_un)) rfl)
    (dss_cons (ds_expr (de_call F_sure_many (hr.mono (by first | decide | exact Nat.le_refl _ | omega)) rfl tk (da_cons (de_var 2) (da_cons (de_globC g_MOST_PLACE rfl) da_nil))))
    (dss_cons (ds_asg (de_var 3) (dg_tup rfl (dgs_cons (dg_name 5 nd) (dgs_cons (dg_name 6 nd) dgs_nil))))
    (dss_cons (ds_if (dt_cmp op_leQ (de_var 2) (de_callB cr_lenQ rfl h_len (by decide +kernel) (da_cons (de_var 5) da_nil)) (nomark _)) (dss_one (ds_ret (de_call F_count_in (hr.mono (by first | decide | exact Nat.le_refl _ | omega)) rfl tk (da_cons (de_slice (de_var 5) dp_none (dp_some (de_var 2))) (da_cons (de_var 4) da_nil))))) dss_nil)
    (dss_cons (ds_par (i := 7) (j := 8) rfl nd rfl rfl (by decide) rfl rfl (dx_val (de_op op_fdivQ (de_op op_subQ (de_var 2) (de_callB cr_lenQ rfl h_len (by decide +kernel) (da_cons (de_var 5) da_nil))) (de_callB cr_lenQ rfl h_len (by decide +kernel) (da_cons (de_var 6) da_nil))) (dx_val (de_op op_modQ (de_op op_subQ (de_var 2) (de_callB cr_lenQ rfl h_len (by decide +kernel) (da_cons (de_var 5) da_nil))) (de_callB cr_lenQ rfl h_len (by decide +kernel) (da_cons (de_var 6) da_nil))) dx_nil)) (xVal_un (xVal_un xNil_un)) rfl)
    (dss_one (ds_ret (de_op op_addQ (de_op op_addQ (de_call F_count_in (hr.mono (by first | decide | exact Nat.le_refl _ | omega)) rfl tk (da_cons (de_var 5) (da_cons (de_var 4) da_nil))) (de_op op_mulQ (de_var 7) (de_call F_count_in (hr.mono (by first | decide | exact Nat.le_refl _ | omega)) rfl tk (da_cons (de_var 6) (da_cons (de_var 4) da_nil))))) (de_call F_count_in (hr.mono (by first | decide | exact Nat.le_refl _ | omega)) rfl tk (da_cons (de_slice (de_var 6) dp_none (dp_some (de_var 8))) (da_cons (de_var 4) da_nil)))))))))))
/-! ### next_with -/
abbrev s_next_with : Stmt := topS 35
abbrev N_next_with : List Str := ["lasso", "letters", "place", "own", "some", "later"]
theorem sc_next_with : FnScope N_next_with ["lasso", "letters", "place"] (defScope s_next_with) := ⟨rfl, rfl, rfl, by decide +kernel, rfl, by decide +kernel, by decide +kernel⟩
def b_next_with : G := (sSeq (sMany [3, 4] (xVal (dCall 2 (m_sure_lasso) (aCons (dC c_MOST_WIDE) (aCons (dVar 0) aNil))) (xVal (dCall 1 (m_sure_letters) (aCons (dVar 1) aNil)) xNil)))
    (sSeq (sExpr (dCall 2 (m_sure_many) (aCons (dVar 2) (aCons (dC c_MOST_PLACE) aNil))))
    (sSeq (sFor (iR2 (dOp addD (dVar 2) (dC (.int 1))) (dOp addD (dOp addD (dOp addD (dVar 2) (dCB lenD (aCons (dOp ixD (dVar 3) (dC (.int 0))) aNil))) (dCB lenD (aCons (dOp ixD (dVar 3) (dC (.int 1))) aNil))) (dC (.int 1)))) (gN 5) (sIf (dB (dOp inD (dCall 3 (m_entry_at) (aCons (dOp ixD (dVar 3) (dC (.int 0))) (aCons (dOp ixD (dVar 3) (dC (.int 1))) (aCons (dVar 5) aNil)))) (dVar 4))) (sRet (dVar 5)) sNil))
    (sRet (dC .non)))))
def m_next_with : List D → M D := runG b_next_with 3 6
theorem ok_next_with {f : Addr} {fd : FuncData} (F : Fun K "next_with" "next_with" s_next_with f fd) (hx : mg "next_with" = some (.ref f)) (hb : Binds K fd ["lasso", "letters", "place"] []) (h_range : mg "range" = none) (h_len : mg "len" = none) (g_MOST_PLACE : GlobIs P w K mg "MOST_PLACE" c_MOST_PLACE) (g_MOST_WIDE : GlobIs P w K mg "MOST_WIDE" c_MOST_WIDE) (F_entry_at : Fn P w K mg base "entry_at" 1 3 m_entry_at) (F_sure_many : Fn P w K mg base "sure_many" 2 2 m_sure_many) (F_sure_letters : Fn P w K mg base "sure_letters" 10 1 m_sure_letters) (F_sure_lasso : Fn P w K mg base "sure_lasso" 10 2 m_sure_lasso) : Fn P w K mg base "next_with" 11 3 m_next_with :=
  fn_mk (N := N_next_with) F sc_next_with hx hb rfl fun cdv A outer s H E hr =>
    have nd := sc_next_with.nd; have hu : (A.deeper _).units + 200 < cLine := hu200 hr; have tk := tkB P w K mg base N_next_with "next_with" (defScope s_next_with) f cdv A outer s H E; have hp := hpB P w K mg base N_next_with "next_with" (defScope s_next_with) f cdv A outer s H E
    (dss_cons (ds_par (i := 3) (j := 4) rfl nd rfl rfl (by decide) rfl rfl (dx_val (de_call F_sure_lasso (hr.mono (by first | decide | exact Nat.le_refl _ | omega)) rfl tk (da_cons (de_globC g_MOST_WIDE rfl) (da_cons (de_var 0) da_nil))) (dx_val (de_call F_sure_letters (hr.mono (by first | decide | exact Nat.le_refl _ | omega)) rfl tk (da_cons (de_var 1) da_nil)) dx_nil)) (xVal_un (xVal_un xNil_un)) rfl)
    (dss_cons (ds_expr (de_call F_sure_many (hr.mono (by first | decide | exact Nat.le_refl _ | omega)) rfl tk (da_cons (de_var 2) (da_cons (de_globC g_MOST_PLACE rfl) da_nil))))
    (dss_cons (ds_for hp rfl (di_range2 rfl h_range (de_op op_addQ (de_var 2) (de_int)) (de_op op_addQ (de_op op_addQ (de_op op_addQ (de_var 2) (de_callB cr_lenQ rfl h_len (by decide +kernel) (da_cons (de_ix (de_var 3) (de_int)) da_nil))) (de_callB cr_lenQ rfl h_len (by decide +kernel) (da_cons (de_ix (de_var 3) (de_int)) da_nil))) (de_int))) (dg_name 5 nd) (dss_one (ds_if (dt_cmp (op_inQ hu) (de_call F_entry_at (hr.mono (by first | decide | exact Nat.le_refl _ | omega)) rfl tk (da_cons (de_ix (de_var 3) (de_int)) (da_cons (de_ix (de_var 3) (de_int)) (da_cons (de_var 5) da_nil)))) (de_var 4) rfl) (dss_one (ds_ret (de_var 5))) dss_nil)))
    (dss_one (ds_ret (de_non))))))
/-! ### _law_box -/
abbrev s_law_box : Stmt := topS 37
abbrev N_law_box : List Str := ["script", "k", "cell"]
theorem sc_law_box : FnScope N_law_box ["script", "k"] (defScope s_law_box) := ⟨rfl, rfl, rfl, by decide +kernel, rfl, by decide +kernel, by decide +kernel⟩
def b_law_box : G := (sSeq (sSet 2 (dIf (dB (dOp ltD (dVar 1) (dCB lenD (aCons (dVar 0) aNil)))) (dOp ixD (dVar 0) (dVar 1)) (dC (.int 0))))
    (sRet (dOf (fLst (aCons (dOp mulD (dCB absD (aCons (dVar 2) aNil)) (dCB intD (aCons (dOp geD (dCB absD (aCons (dVar 2) aNil)) (dOp powD (dC (.int 10)) (dC (.int 18)))) aNil))) (aCons (dOp addD (dOp addD (dOp modD (dCB intD (aCons (dVar 2) aNil)) (dC (.int 2305843009213693951))) (dOp mulD (dC (.int 39373)) (dVar 1))) (dC (.int 2632284))) (aCons (dC (.int 0)) aNil)))))))
def m_law_box : List D → M D := runG b_law_box 2 3
theorem ok_law_box {f : Addr} {fd : FuncData} (F : Fun K "_law_box" "_law_box" s_law_box f fd) (hx : mg "_law_box" = some (.ref f)) (hb : Binds K fd ["script", "k"] []) (h_int : mg "int" = none) (h_abs : mg "abs" = none) (h_len : mg "len" = none) : Fn P w K mg base "_law_box" 1 2 m_law_box :=
  fn_mk (N := N_law_box) F sc_law_box hx hb rfl fun cdv A outer s H E hr =>
    have nd := sc_law_box.nd; have hu : (A.deeper _).units + 200 < cLine := hu200 hr; have tk := tkB P w K mg base N_law_box "_law_box" (defScope s_law_box) f cdv A outer s H E; have hp := hpB P w K mg base N_law_box "_law_box" (defScope s_law_box) f cdv A outer s H E
    (dss_cons (ds_set 2 nd (de_if (dt_cmp op_ltQ (de_var 1) (de_callB cr_lenQ rfl h_len (by decide +kernel) (da_cons (de_var 0) da_nil)) (nomark _)) (de_ix (de_var 0) (de_var 1)) (de_int)))
    (dss_one (ds_ret (de_fresh (df_lst (da_cons (de_op op_mulQ (de_callB cr_absQ rfl h_abs (by decide +kernel) (da_cons (de_var 2) da_nil)) (de_callTy cr_intQ rfl h_int (by decide +kernel) (da_cons (de_cmp op_geQ (de_callB cr_absQ rfl h_abs (by decide +kernel) (da_cons (de_var 2) da_nil)) (de_op op_powQ (de_int) (de_int)) (nomark _)) da_nil))) (da_cons (de_op op_addQ (de_op op_addQ (de_op op_modQ (de_callTy cr_intQ rfl h_int (by decide +kernel) (da_cons (de_var 2) da_nil)) (de_int)) (de_op op_mulQ (de_int) (de_var 1))) (de_int)) (da_cons (de_int) da_nil))))))))
/-! ### _law_take -/
abbrev s_law_take : Stmt := topS 38
abbrev N_law_take : List Str := ["tin", "below", "drawn", "once", "broad", "twice"]
theorem sc_law_take : FnScope N_law_take ["tin", "below"] (defScope s_law_take) := ⟨rfl, rfl, rfl, by decide +kernel, rfl, by decide +kernel, by decide +kernel⟩
def b_law_take : G := (sSeq (sIf (dB (dOp gtD (dTin 0 0) (dC (.int 0)))) (sSeq (sSet 2 (dOp modD (dCB intD (aCons (dTin 0 0) aNil)) (dVar 1)))
    (sSeq (sTin 0 0 (dOp fdivD (dTin 0 0) (dVar 1)))
    (sRet (dVar 2)))) sNil)
    (sSeq (sTin 0 2 (dOp addD (dTin 0 2) (dC (.int 1))))
    (sSeq (sSet 3 (dOp modD (dCB intD (aCons (dOp mulD (dOp addD (dTin 0 1) (dOp mulD (dC (.int 48271)) (dTin 0 2))) (dOp addD (dC (.int 39373)) (dTin 0 2))) aNil)) (dC (.int 2147483647))))
    (sSeq (sSet 4 (dOp addD (dOp modD (dCB intD (aCons (dVar 3) aNil)) (dC (.int 40009))) (dC (.int 7))))
    (sSeq (sSet 5 (dOp modD (dCB intD (aCons (dOp mulD (dOp addD (dOp addD (dVar 3) (dTin 0 2)) (dOp fdivD (dTin 0 1) (dC (.int 1000003)))) (dVar 4)) aNil)) (dC (.int 2147483629))))
    (sRet (dOp modD (dCB intD (aCons (dOp fdivD (dOp modD (dCB intD (aCons (dOp addD (dOp mulD (dVar 5) (dC (.int 48271))) (dVar 3)) aNil)) (dC (.int 2147483587))) (dC (.int 64))) aNil)) (dVar 1))))))))
def m_law_take : List D → M D := runG b_law_take 2 6
theorem ok_law_take {f : Addr} {fd : FuncData} (F : Fun K "_law_take" "_law_take" s_law_take f fd) (hx : mg "_law_take" = some (.ref f)) (hb : Binds K fd ["tin", "below"] []) (h_int : mg "int" = none) : Fn P w K mg base "_law_take" 1 2 m_law_take :=
  fn_mk (N := N_law_take) F sc_law_take hx hb rfl fun cdv A outer s H E hr =>
    have nd := sc_law_take.nd; have hu : (A.deeper _).units + 200 < cLine := hu200 hr; have tk := tkB P w K mg base N_law_take "_law_take" (defScope s_law_take) f cdv A outer s H E; have hp := hpB P w K mg base N_law_take "_law_take" (defScope s_law_take) f cdv A outer s H E
    (dss_cons (ds_if (dt_cmp op_gtQ (de_tin 0 0 (by decide) rfl) (de_int) (nomark _)) (dss_cons (ds_set 2 nd (de_op op_modQ (de_callTy cr_intQ rfl h_int (by decide +kernel) (da_cons (de_tin 0 0 (by decide) rfl) da_nil)) (de_var 1)))
    (dss_cons (ds_tin 0 0 (by decide) rfl (de_op op_fdivQ (de_tin 0 0 (by decide) rfl) (de_var 1)))
    (dss_one (ds_ret (de_var 2))))) dss_nil)
    (dss_cons (ds_tin 0 2 (by decide) rfl (de_op op_addQ (de_tin 0 2 (by decide) rfl) (de_int)))
    (dss_cons (ds_set 3 nd (de_op op_modQ (de_callTy cr_intQ rfl h_int (by decide +kernel) (da_cons (de_op op_mulQ (de_op op_addQ (de_tin 0 1 (by decide) rfl) (de_op op_mulQ (de_int) (de_tin 0 2 (by decide) rfl))) (de_op op_addQ (de_int) (de_tin 0 2 (by decide) rfl))) da_nil)) (de_int)))
    (dss_cons (ds_set 4 nd (de_op op_addQ (de_op op_modQ (de_callTy cr_intQ rfl h_int (by decide +kernel) (da_cons (de_var 3) da_nil)) (de_int)) (de_int)))
    (dss_cons (ds_set 5 nd (de_op op_modQ (de_callTy cr_intQ rfl h_int (by decide +kernel) (da_cons (de_op op_mulQ (de_op op_addQ (de_op op_addQ (de_var 3) (de_tin 0 2 (by decide) rfl)) (de_op op_fdivQ (de_tin 0 1 (by decide) rfl) (de_int))) (de_var 4)) da_nil)) (de_int)))
    (dss_one (ds_ret (de_op op_modQ (de_callTy cr_intQ rfl h_int (by decide +kernel) (da_cons (de_op op_fdivQ (de_op op_modQ (de_callTy cr_intQ rfl h_int (by decide +kernel) (da_cons (de_op op_addQ (de_op op_mulQ (de_var 5) (de_int)) (de_var 3)) da_nil)) (de_int)) (de_int)) da_nil)) (de_var 1)))))))))
/-! ### _law_cells -/
abbrev s_law_cells : Stmt := topS 39
abbrev N_law_cells : List Str := ["script", "most", "cells", "k", "cell", "spot"]
theorem sc_law_cells : FnScope N_law_cells ["script", "most"] (defScope s_law_cells) := ⟨rfl, rfl, rfl, by decide +kernel, rfl, by decide +kernel, by decide +kernel⟩
def b_law_cells : G := (sSeq (sOwn 2 (fOr (fItems (dSlice (dVar 0) pNone (pSome (dVar 1)))) (fLst (aCons (dC (.int 0)) aNil))))
    (sSeq (sFor (iEnumL (dSlice (dVar 0) (pSome (dVar 1)) (pSome (dC (.int 63))))) (gT 2 (gsC (gN 3) (gsC (gN 4) gsN))) (sSeq (sSet 5 (dOp modD (dCB intD (aCons (dVar 3) aNil)) (dVar 1)))
    (ownAt 2 (sSetI 2 (dVar 5) (dOp addD (dOp ixD (dTop 2) (dVar 5)) (dOp mulD (dVar 4) (dOp addD (dVar 3) (dC (.int 2)))))))))
    (sFrz 2 (sRet (dVar 2)))))
def m_law_cells : List D → M D := runG b_law_cells 2 6
theorem ok_law_cells {f : Addr} {fd : FuncData} (F : Fun K "_law_cells" "_law_cells" s_law_cells f fd) (hx : mg "_law_cells" = some (.ref f)) (hb : Binds K fd ["script", "most"] []) (h_enumerate : mg "enumerate" = none) (h_int : mg "int" = none) (h_list : mg "list" = none) : Fn P w K mg base "_law_cells" 1 2 m_law_cells :=
  fn_mk (N := N_law_cells) F sc_law_cells hx hb rfl fun cdv A outer s H E hr =>
    have nd := sc_law_cells.nd; have hu : (A.deeper _).units + 200 < cLine := hu200 hr; have tk := tkB P w K mg base N_law_cells "_law_cells" (defScope s_law_cells) f cdv A outer s H E; have hp := hpB P w K mg base N_law_cells "_law_cells" (defScope s_law_cells) f cdv A outer s H E
    (dss_cons (ds_own 2 nd (df_or (df_listOf rfl h_list (de_slice (de_var 0) dp_none (dp_some (de_var 1)))) (df_lst (da_cons (de_int) da_nil))))
    (dss_cons (ds_for hp rfl (di_enumL rfl h_enumerate (de_slice (de_var 0) (dp_some (de_var 1)) (dp_some (de_int)))) (dg_tup rfl (dgs_cons (dg_name 3 nd) (dgs_cons (dg_name 4 nd) dgs_nil))) (dss_cons (ds_set 5 nd (de_op op_modQ (de_callTy cr_intQ rfl h_int (by decide +kernel) (da_cons (de_var 3) da_nil)) (de_var 1)))
    (dss_one (ds_setI 2 (de_op op_addQ (de_ix (de_top 2) (de_var 5)) (de_op op_mulQ (de_var 4) (de_op op_addQ (de_var 3) (de_int)))) (de_var 5)))))
    (dss_one (ds_frz 2 (ds_ret (de_var 2))))))
/-! ### _law_same -/
abbrev s_law_same : Stmt := topS 40
abbrev N_law_same : List Str := ["got", "goal", "mine", "own"]
theorem sc_law_same : FnScope N_law_same ["got", "goal"] (defScope s_law_same) := ⟨rfl, rfl, rfl, by decide +kernel, rfl, by decide +kernel, by decide +kernel⟩
def b_law_same (rec : List D → M D) : G := (sSeq (sIf (dB (dIsi2 .lst .tup (dVar 1))) (sSeq (sIf (bOr (dB (dOp neD (dIsi .lst (dVar 0)) (dIsi .lst (dVar 1)))) (dB (dOp neD (dIsi .tup (dVar 0)) (dIsi .tup (dVar 1))))) (sRet (dC (.bl false))) sNil)
    (sRet (dAnd (dOp eqD (dCB lenD (aCons (dVar 0) aNil)) (dCB lenD (aCons (dVar 1) aNil))) (dCB allD (aCons (dOf (fComp (iZip (dVar 0) (dVar 1)) [2, 3] (gT 2 (gsC (gN 2) (gsC (gN 3) gsN))) bYes (dCall 2 rec (aCons (dVar 2) (aCons (dVar 3) aNil))))) aNil))))) sNil)
    (sSeq (sIf (bOr (dB (dOp isND (dVar 1) (dC .non))) (dB (dIsi2 .bl .str (dVar 1)))) (sRet (dAnd (dOp eqD (dVar 0) (dVar 1)) (dAnd (dOp eqD (dIsi .bl (dVar 0)) (dIsi .bl (dVar 1))) (dOp eqD (dOp isND (dVar 0) (dC .non)) (dOp isND (dVar 1) (dC .non)))))) sNil)
    (sRet (dAnd (dIsi .int (dVar 0)) (dAnd (dNot (dIsi .bl (dVar 0))) (dOp eqD (dVar 0) (dVar 1)))))))
def m_law_same : Nat → List D → M D
  | 0 => fun _ => M.no
  | n + 1 => runG (b_law_same (m_law_same n)) 2 4
theorem ok_law_same {f : Addr} {fd : FuncData} (F : Fun K "_law_same" "_law_same" s_law_same f fd) (hx : mg "_law_same" = some (.ref f)) (hb : Binds K fd ["got", "goal"] []) (h_isinstance : mg "isinstance" = none) (h_bool : mg "bool" = none) (h_int : mg "int" = none) (h_str : mg "str" = none) (h_list : mg "list" = none) (h_tuple : mg "tuple" = none) (h_all : mg "all" = none) (h_zip : mg "zip" = none) (h_len : mg "len" = none) : ∀ n : Nat, Fn P w K mg base "_law_same" (1 + n) 2 (m_law_same n)
  | 0 => fn_zero F hx hb rfl
  | n + 1 => have F_law_same := ok_law_same F hx hb h_isinstance h_bool h_int h_str h_list h_tuple h_all h_zip h_len n; fn_mk (N := N_law_same) F sc_law_same hx hb rfl fun cdv A outer s H E hr =>
    have nd := sc_law_same.nd; have hu : (A.deeper _).units + 200 < cLine := hu200 hr; have tk := tkB P w K mg base N_law_same "_law_same" (defScope s_law_same) f cdv A outer s H E; have hp := hpB P w K mg base N_law_same "_law_same" (defScope s_law_same) f cdv A outer s H E
    (dss_cons (ds_if (dt_val (de_isi2 .lst .tup rfl h_isinstance (de_var 1) (pe_bltn (v := .ty "list") rfl h_list (by decide +kernel) rfl) (pe_bltn (v := .ty "tuple") rfl h_tuple (by decide +kernel) rfl))) (dss_cons (ds_if (PW.pt (dw_or (dt_cmp (op_neQ hu) (de_isi .lst rfl h_isinstance (de_var 0) (pe_bltn (v := .ty "list") rfl h_list (by decide +kernel) rfl)) (de_isi .lst rfl h_isinstance (de_var 1) (pe_bltn (v := .ty "list") rfl h_list (by decide +kernel) rfl)) (nomark _)) (dw_or1 (dt_cmp (op_neQ hu) (de_isi .tup rfl h_isinstance (de_var 0) (pe_bltn (v := .ty "tuple") rfl h_tuple (by decide +kernel) rfl)) (de_isi .tup rfl h_isinstance (de_var 1) (pe_bltn (v := .ty "tuple") rfl h_tuple (by decide +kernel) rfl)) (nomark _))))) (dss_one (ds_ret (de_bl))) dss_nil)
    (dss_one (ds_ret (de_and (de_cmp (op_eqQ hu) (de_callB cr_lenQ rfl h_len (by decide +kernel) (da_cons (de_var 0) da_nil)) (de_callB cr_lenQ rfl h_len (by decide +kernel) (da_cons (de_var 1) da_nil)) (nomark _)) (de_one (de_callB (cr_allQ rfl) rfl h_all (by decide +kernel) (da_cons (de_fresh (df_comp (own := [("mine", 2), ("own", 3)]) rfl nd (di_zip rfl h_zip (de_var 0) (de_var 1)) (blkOk_by (N := N_law_same) (sc := (defScope s_law_same)) (by decide +kernel)) (by decide) (fun _ _ _ _ _ => (dg_tup rfl (dgs_cons (dg_name 2 nd) (dgs_cons (dg_name 3 nd) dgs_nil)))) (fun _ _ _ _ _ => dts_nil) (fun _ _ _ _ _ => have tk : ∀ {X : Cx}, Takes X noX := takes0; (de_call F_law_same (hr.mono (by first | decide | exact Nat.le_refl _ | omega)) rfl tk (da_cons (de_var 2) (da_cons (de_var 3) da_nil)))))) da_nil))))))) dss_nil)
    (dss_cons (ds_if (PW.pt (dw_or (dt_cmp op_isQ (de_var 1) (de_non) (nomark _)) (dw_or1 (dt_val (de_isi2 .bl .str rfl h_isinstance (de_var 1) (pe_bltn (v := .ty "bool") rfl h_bool (by decide +kernel) rfl) (pe_bltn (v := .ty "str") rfl h_str (by decide +kernel) rfl)))))) (dss_one (ds_ret (de_and (de_cmp (op_eqQ hu) (de_var 0) (de_var 1) (nomark _)) (de_and (de_cmp (op_eqQ hu) (de_isi .bl rfl h_isinstance (de_var 0) (pe_bltn (v := .ty "bool") rfl h_bool (by decide +kernel) rfl)) (de_isi .bl rfl h_isinstance (de_var 1) (pe_bltn (v := .ty "bool") rfl h_bool (by decide +kernel) rfl)) (nomark _)) (de_one (de_cmp (op_eqQ hu) (de_cmp op_isQ (de_var 0) (de_non) (nomark _)) (de_cmp op_isQ (de_var 1) (de_non) (nomark _)) (nomark _))))))) dss_nil)
    (dss_one (ds_ret (de_and (de_isi .int rfl h_isinstance (de_var 0) (pe_bltn (v := .ty "int") rfl h_int (by decide +kernel) rfl)) (de_and (de_not (de_isi .bl rfl h_isinstance (de_var 0) (pe_bltn (v := .ty "bool") rfl h_bool (by decide +kernel) rfl))) (de_one (de_cmp (op_eqQ hu) (de_var 0) (de_var 1) (nomark _)))))))))
/-! ### _law_lists -/
abbrev s_law_lists : Stmt := topS 41
abbrev N_law_lists : List Str := ["matter", "own"]
theorem sc_law_lists : FnScope N_law_lists ["matter"] (defScope s_law_lists) := ⟨rfl, rfl, rfl, by decide +kernel, rfl, by decide +kernel, by decide +kernel⟩
def b_law_lists (rec : List D → M D) : G := (sRet (dIf (dB (dIsi2 .lst .tup (dVar 0))) (dOf (fComp (iSeq (dVar 0)) [1] (gN 1) bYes (dCall 1 rec (aCons (dVar 1) aNil)))) (dVar 0)))
def m_law_lists : Nat → List D → M D
  | 0 => fun _ => M.no
  | n + 1 => runG (b_law_lists (m_law_lists n)) 1 2
theorem ok_law_lists {f : Addr} {fd : FuncData} (F : Fun K "_law_lists" "_law_lists" s_law_lists f fd) (hx : mg "_law_lists" = some (.ref f)) (hb : Binds K fd ["matter"] []) (h_isinstance : mg "isinstance" = none) (h_list : mg "list" = none) (h_tuple : mg "tuple" = none) : ∀ n : Nat, Fn P w K mg base "_law_lists" (1 + n) 1 (m_law_lists n)
  | 0 => fn_zero F hx hb rfl
  | n + 1 => have F_law_lists := ok_law_lists F hx hb h_isinstance h_list h_tuple n; fn_mk (N := N_law_lists) F sc_law_lists hx hb rfl fun cdv A outer s H E hr =>
    have nd := sc_law_lists.nd; have hu : (A.deeper _).units + 200 < cLine := hu200 hr; have tk := tkB P w K mg base N_law_lists "_law_lists" (defScope s_law_lists) f cdv A outer s H E; have hp := hpB P w K mg base N_law_lists "_law_lists" (defScope s_law_lists) f cdv A outer s H E
    (dss_one (ds_ret (de_if (dt_val (de_isi2 .lst .tup rfl h_isinstance (de_var 0) (pe_bltn (v := .ty "list") rfl h_list (by decide +kernel) rfl) (pe_bltn (v := .ty "tuple") rfl h_tuple (by decide +kernel) rfl))) (de_fresh (df_comp (own := [("own", 1)]) rfl nd (di_seq (de_var 0)) (blkOk_by (N := N_law_lists) (sc := (defScope s_law_lists)) (by decide +kernel)) (by decide) (fun _ _ _ _ _ => (dg_name 1 nd)) (fun _ _ _ _ _ => dts_nil) (fun _ _ _ _ _ => have tk : ∀ {X : Cx}, Takes X noX := takes0; (de_call F_law_lists (hr.mono (by first | decide | exact Nat.le_refl _ | omega)) rfl tk (da_cons (de_var 1) da_nil))))) (de_var 0))))
/-! ### _law_of -/
abbrev s_law_of : Stmt := topS 42
abbrev N_law_of : List Str := ["tin", "goods"]
theorem sc_law_of : FnScope N_law_of ["tin", "goods"] (defScope s_law_of) := ⟨rfl, rfl, rfl, by decide +kernel, rfl, by decide +kernel, by decide +kernel⟩
def b_law_of : G := (sRet (dOp ixD (dVar 1) (dCall 2 (m_law_take) (aCons (dVar 0) (aCons (dCB lenD (aCons (dVar 1) aNil)) aNil)))))
def m_law_of : List D → M D := runG b_law_of 2 2
theorem ok_law_of {f : Addr} {fd : FuncData} (F : Fun K "_law_of" "_law_of" s_law_of f fd) (hx : mg "_law_of" = some (.ref f)) (hb : Binds K fd ["tin", "goods"] []) (h_len : mg "len" = none) (F_law_take : Fn P w K mg base "_law_take" 1 2 m_law_take) : Fn P w K mg base "_law_of" 2 2 m_law_of :=
  fn_mk (N := N_law_of) F sc_law_of hx hb rfl fun cdv A outer s H E hr =>
    have nd := sc_law_of.nd; have hu : (A.deeper _).units + 200 < cLine := hu200 hr; have tk := tkB P w K mg base N_law_of "_law_of" (defScope s_law_of) f cdv A outer s H E; have hp := hpB P w K mg base N_law_of "_law_of" (defScope s_law_of) f cdv A outer s H E
    (dss_one (ds_ret (de_ix (de_var 1) (de_call F_law_take (hr.mono (by first | decide | exact Nat.le_refl _ | omega)) rfl tk (da_cons (de_var 0) (da_cons (de_callB cr_lenQ rfl h_len (by decide +kernel) (da_cons (de_var 1) da_nil)) da_nil))))))
/-! ### _law_gap_subsets -/
abbrev s_law_gap_subsets : Stmt := topS 43
abbrev N_law_gap_subsets : List Str := ["some", "found", "own", "one"]
theorem sc_law_gap_subsets : FnScope N_law_gap_subsets ["some"] (defScope s_law_gap_subsets) := ⟨rfl, rfl, rfl, by decide +kernel, rfl, by decide +kernel, by decide +kernel⟩
def b_law_gap_subsets : G := (sSeq (sSet 1 (dOf (fLst (aCons (dTup aNil) aNil))))
    (sSeq (sFor (iSeq (dVar 0)) (gN 2) (sSet 1 (dOp addD (dVar 1) (dOf (fComp (iSeq (dVar 1)) [3] (gN 3) bYes (dOp addD (dVar 3) (dTup (aCons (dVar 2) aNil))))))))
    (sRet (dVar 1))))
def m_law_gap_subsets : List D → M D := runG b_law_gap_subsets 1 4
theorem ok_law_gap_subsets {f : Addr} {fd : FuncData} (F : Fun K "_law_gap_subsets" "_law_gap_subsets" s_law_gap_subsets f fd) (hx : mg "_law_gap_subsets" = some (.ref f)) (hb : Binds K fd ["some"] []) : Fn P w K mg base "_law_gap_subsets" 1 1 m_law_gap_subsets :=
  fn_mk (N := N_law_gap_subsets) F sc_law_gap_subsets hx hb rfl fun cdv A outer s H E hr =>
    have nd := sc_law_gap_subsets.nd; have hu : (A.deeper _).units + 200 < cLine := hu200 hr; have tk := tkB P w K mg base N_law_gap_subsets "_law_gap_subsets" (defScope s_law_gap_subsets) f cdv A outer s H E; have hp := hpB P w K mg base N_law_gap_subsets "_law_gap_subsets" (defScope s_law_gap_subsets) f cdv A outer s H E
    (dss_cons (ds_set 1 nd (de_fresh (df_lst (da_cons (de_tup da_nil) da_nil))))
    (dss_cons (ds_for hp rfl (di_seq (de_var 0)) (dg_name 2 nd) (dss_one (ds_set 1 nd (de_op op_addQ (de_var 1) (de_fresh (df_comp (own := [("one", 3)]) rfl nd (di_seq (de_var 1)) (blkOk_by (N := N_law_gap_subsets) (sc := (defScope s_law_gap_subsets)) (by decide +kernel)) (by decide) (fun _ _ _ _ _ => (dg_name 3 nd)) (fun _ _ _ _ _ => dts_nil) (fun _ _ _ _ _ => have tk : ∀ {X : Cx}, Takes X noX := takes0; (de_op op_addQ (de_var 3) (de_tup (da_cons (de_var 2) da_nil))))))))))
    (dss_one (ds_ret (de_var 1)))))
/-! ### _law_row -/
abbrev s_law_row : Stmt := topS 44
abbrev N_law_row : List Str := ["tin", "wide", "many", "lap"]
theorem sc_law_row : FnScope N_law_row ["tin", "wide", "many"] (defScope s_law_row) := ⟨rfl, rfl, rfl, by decide +kernel, rfl, by decide +kernel, by decide +kernel⟩
def b_law_row : G := (sRet (dCB tupleD (aCons (dOf (fComp (iR1 (dVar 2)) [3] (gN 3) bYes (dOp addD (dC (.int 1)) (dCall 2 (m_law_take) (aCons (dVar 0) (aCons (dVar 1) aNil)))))) aNil)))
def m_law_row : List D → M D := runG b_law_row 3 4
theorem ok_law_row {f : Addr} {fd : FuncData} (F : Fun K "_law_row" "_law_row" s_law_row f fd) (hx : mg "_law_row" = some (.ref f)) (hb : Binds K fd ["tin", "wide", "many"] []) (h_tuple : mg "tuple" = none) (h_range : mg "range" = none) (F_law_take : Fn P w K mg base "_law_take" 1 2 m_law_take) : Fn P w K mg base "_law_row" 2 3 m_law_row :=
  fn_mk (N := N_law_row) F sc_law_row hx hb rfl fun cdv A outer s H E hr =>
    have nd := sc_law_row.nd; have hu : (A.deeper _).units + 200 < cLine := hu200 hr; have tk := tkB P w K mg base N_law_row "_law_row" (defScope s_law_row) f cdv A outer s H E; have hp := hpB P w K mg base N_law_row "_law_row" (defScope s_law_row) f cdv A outer s H E
    (dss_one (ds_ret (de_callTy cr_tupleQ rfl h_tuple (by decide +kernel) (da_cons (de_fresh (df_comp (own := [("lap", 3)]) rfl nd (di_range1 rfl h_range (de_var 2)) (blkOk_by (N := N_law_row) (sc := (defScope s_law_row)) (by decide +kernel)) (by decide) (fun _ _ _ _ _ => (dg_name 3 nd)) (fun _ _ _ _ _ => dts_nil) (fun _ _ _ _ _ => have tk : ∀ {X : Cx}, Takes X noX := takes0; (de_op op_addQ (de_int) (de_call F_law_take (hr.mono (by first | decide | exact Nat.le_refl _ | omega)) rfl tk (da_cons (de_var 0) (da_cons (de_var 1) da_nil))))))) da_nil))))
/-! ### _law_lasso -/
abbrev s_law_lasso : Stmt := topS 45
abbrev N_law_lasso : List Str := ["tin", "wide", "ahead", "back"]
theorem sc_law_lasso : FnScope N_law_lasso ["tin", "wide", "ahead", "back"] (defScope s_law_lasso) := ⟨rfl, rfl, rfl, by decide +kernel, rfl, by decide +kernel, by decide +kernel⟩
def b_law_lasso : G := (sRet (dTup (aCons (dCall 3 (m_law_row) (aCons (dVar 0) (aCons (dVar 1) (aCons (dCall 2 (m_law_take) (aCons (dVar 0) (aCons (dOp addD (dVar 2) (dC (.int 1))) aNil))) aNil)))) (aCons (dCall 3 (m_law_row) (aCons (dVar 0) (aCons (dVar 1) (aCons (dOp addD (dC (.int 1)) (dCall 2 (m_law_take) (aCons (dVar 0) (aCons (dVar 3) aNil)))) aNil)))) aNil))))
def m_law_lasso : List D → M D := runG b_law_lasso 4 4
theorem ok_law_lasso {f : Addr} {fd : FuncData} (F : Fun K "_law_lasso" "_law_lasso" s_law_lasso f fd) (hx : mg "_law_lasso" = some (.ref f)) (hb : Binds K fd ["tin", "wide", "ahead", "back"] []) (F_law_row : Fn P w K mg base "_law_row" 2 3 m_law_row) (F_law_take : Fn P w K mg base "_law_take" 1 2 m_law_take) : Fn P w K mg base "_law_lasso" 3 4 m_law_lasso :=
  fn_mk (N := N_law_lasso) F sc_law_lasso hx hb rfl fun cdv A outer s H E hr =>
    have nd := sc_law_lasso.nd; have hu : (A.deeper _).units + 200 < cLine := hu200 hr; have tk := tkB P w K mg base N_law_lasso "_law_lasso" (defScope s_law_lasso) f cdv A outer s H E; have hp := hpB P w K mg base N_law_lasso "_law_lasso" (defScope s_law_lasso) f cdv A outer s H E
    (dss_one (ds_ret (de_tup (da_cons (de_call F_law_row (hr.mono (by first | decide | exact Nat.le_refl _ | omega)) rfl tk (da_cons (de_var 0) (da_cons (de_var 1) (da_cons (de_call F_law_take (hr.mono (by first | decide | exact Nat.le_refl _ | omega)) rfl tk (da_cons (de_var 0) (da_cons (de_op op_addQ (de_var 2) (de_int)) da_nil))) da_nil)))) (da_cons (de_call F_law_row (hr.mono (by first | decide | exact Nat.le_refl _ | omega)) rfl tk (da_cons (de_var 0) (da_cons (de_var 1) (da_cons (de_op op_addQ (de_int) (de_call F_law_take (hr.mono (by first | decide | exact Nat.le_refl _ | omega)) rfl tk (da_cons (de_var 0) (da_cons (de_var 3) da_nil)))) da_nil)))) da_nil)))))
/-! ### _law_sets -/
abbrev s_law_sets : Stmt := topS 46
abbrev N_law_sets : List Str := ["wide", "own"]
theorem sc_law_sets : FnScope N_law_sets ["wide"] (defScope s_law_sets) := ⟨rfl, rfl, rfl, by decide +kernel, rfl, by decide +kernel, by decide +kernel⟩
def b_law_sets : G := (sRet (dOf (fSort (dOf (fComp (iSeq (dCall 1 (m_law_gap_subsets) (aCons (dOf (fRange (rg2 (dC (.int 1)) (dOp addD (dVar 0) (dC (.int 1)))))) aNil))) [1] (gN 1) (dB (dOp neD (dVar 1) (dTup aNil))) (dCB tupleD (aCons (dVar 1) aNil)))))))
def m_law_sets : List D → M D := runG b_law_sets 1 2
theorem ok_law_sets {f : Addr} {fd : FuncData} (F : Fun K "_law_sets" "_law_sets" s_law_sets f fd) (hx : mg "_law_sets" = some (.ref f)) (hb : Binds K fd ["wide"] []) (h_sorted : mg "sorted" = none) (h_list : mg "list" = none) (h_range : mg "range" = none) (h_tuple : mg "tuple" = none) (F_law_gap_subsets : Fn P w K mg base "_law_gap_subsets" 1 1 m_law_gap_subsets) : Fn P w K mg base "_law_sets" 2 1 m_law_sets :=
  fn_mk (N := N_law_sets) F sc_law_sets hx hb rfl fun cdv A outer s H E hr =>
    have nd := sc_law_sets.nd; have hu : (A.deeper _).units + 200 < cLine := hu200 hr; have tk := tkB P w K mg base N_law_sets "_law_sets" (defScope s_law_sets) f cdv A outer s H E; have hp := hpB P w K mg base N_law_sets "_law_sets" (defScope s_law_sets) f cdv A outer s H E
    (dss_one (ds_ret (de_fresh (df_sort hu rfl h_sorted (de_fresh (df_comp (own := [("own", 1)]) rfl nd (di_seq (de_call F_law_gap_subsets (hr.mono (by first | decide | exact Nat.le_refl _ | omega)) rfl tk (da_cons (de_fresh (df_rangeOf rfl rfl h_list (drg2 rfl h_range (de_int) (de_op op_addQ (de_var 0) (de_int))))) da_nil))) (blkOk_by (N := N_law_sets) (sc := (defScope s_law_sets)) (by decide +kernel)) (by decide) (fun _ _ _ _ _ => (dg_name 1 nd)) (fun _ _ _ _ _ => (dts_one (dt_cmp (op_neQ hu) (de_var 1) (de_tup da_nil) (nomark _)))) (fun _ _ _ _ _ => have tk : ∀ {X : Cx}, Takes X noX := takes0; (de_callTy cr_tupleQ rfl h_tuple (by decide +kernel) (da_cons (de_var 1) da_nil)))))))))
/-! ### law -/
abbrev s_law : Stmt := topS 47
abbrev N_law : List Str := ["script", "tin", "lasso", "letters", "far", "ahead", "back", "whole", "rest", "many", "there", "got", "gaps", "behind", "other", "place", "text", "unlike", "step", "own"]
theorem sc_law : FnScope N_law ["script"] (defScope s_law) := ⟨rfl, rfl, rfl, by decide +kernel, rfl, by decide +kernel, by decide +kernel⟩
def f_law : DL.Env → M D := (dCall 2 (m_law_box) (aCons (dCall 2 (m_law_cells) (aCons (dVar 0) (aCons (dC (.int 1)) aNil))) (aCons (dC (.int 0)) aNil)))
def b_law : G := (sSeq (sMany [2, 3] (xVal (dCall 4 (m_law_lasso) (aCons (dVar 1) (aCons (dC (.int 3)) (aCons (dC (.int 6)) (aCons (dC (.int 5)) aNil))))) (xVal (dCall 2 (m_law_of) (aCons (dVar 1) (aCons (dCall 1 (m_law_sets) (aCons (dC (.int 3)) aNil)) aNil))) xNil)))
    (sSeq (sSet 4 (dOp addD (dOp mulD (dOp powD (dC (.int 10)) (dC (.int 20))) (dOp addD (dC (.int 1)) (dCall 2 (m_law_take) (aCons (dVar 1) (aCons (dC (.int 99)) aNil))))) (dCall 2 (m_law_take) (aCons (dVar 1) (aCons (dOp powD (dC (.int 10)) (dC (.int 6))) aNil)))))
    (sSeq (sAsg (dVar 2) (gT 2 (gsC (gN 5) (gsC (gN 6) gsN))))
    (sSeq (sMany [7, 8] (xVal (dOp fdivD (dOp subD (dVar 4) (dCB lenD (aCons (dVar 5) aNil))) (dCB lenD (aCons (dVar 6) aNil))) (xVal (dOp modD (dOp subD (dVar 4) (dCB lenD (aCons (dVar 5) aNil))) (dCB lenD (aCons (dVar 6) aNil))) xNil)))
    (sSeq (sSet 9 (dOp addD (dOp addD (dCB lenD (aCons (dOf (fComp (iSeq (dVar 5)) [19] (gN 19) (dB (dOp inD (dVar 19) (dVar 3))) (dC (.int 1)))) aNil)) (dOp mulD (dVar 7) (dCB lenD (aCons (dOf (fComp (iSeq (dVar 6)) [19] (gN 19) (dB (dOp inD (dVar 19) (dVar 3))) (dC (.int 1)))) aNil)))) (dCB lenD (aCons (dOf (fComp (iSeq (dSlice (dVar 6) pNone (pSome (dVar 8)))) [19] (gN 19) (dB (dOp inD (dVar 19) (dVar 3))) (dC (.int 1)))) aNil))))
    (sSeq (sSet 10 (dOp ixD (dVar 6) (dOp modD (dOp subD (dOp subD (dVar 4) (dCB lenD (aCons (dVar 5) aNil))) (dC (.int 1))) (dCB lenD (aCons (dVar 6) aNil)))))
    (sSeq (sSet 11 (dOf (fLst (aCons (dCall 3 (m_how_often_to) (aCons (dVar 2) (aCons (dCall 1 (m_law_lists 8) (aCons (dVar 3) aNil)) (aCons (dVar 4) aNil)))) (aCons (dCall 2 (m_letter_at) (aCons (dCall 1 (m_law_lists 8) (aCons (dVar 2) aNil)) (aCons (dVar 4) aNil))) (aCons (dCall 3 (m_how_often_to) (aCons (dVar 2) (aCons (dVar 3) (aCons (dOp subD (dVar 4) (dC (.int 1))) aNil)))) (aCons (dCall 3 (m_how_often_to) (aCons (dVar 2) (aCons (dTup (aCons (dC (.int 1)) (aCons (dC (.int 2)) (aCons (dC (.int 3)) aNil)))) (aCons (dVar 4) aNil)))) aNil)))))))
    (sSeq (sSet 11 (dOp addD (dVar 11) (dOf (fLst (aCons (dCall 3 (m_how_often_to) (aCons (dVar 2) (aCons (dVar 3) (aCons (dC (.int 0)) aNil)))) aNil)))))
    (sSeq (sIf (bNot (dB (dCall 2 (m_law_same 8) (aCons (dVar 11) (aCons (dOf (fLst (aCons (dVar 9) (aCons (dVar 10) (aCons (dOp subD (dVar 9) (dCB intD (aCons (dOp inD (dVar 10) (dVar 3)) aNil))) (aCons (dVar 4) (aCons (dC (.int 0)) aNil))))))) aNil))))) (sRet (dC (.bl false))) sNil)
    (sSeq (sSetF 12 (fComp (iR2 (dC (.int 1)) (dOp addD (dCB lenD (aCons (dVar 6) aNil)) (dC (.int 1)))) [18] (gN 18) (dB (dOp inD (dOp ixD (dVar 6) (dOp modD (dOp addD (dOp subD (dOp subD (dVar 4) (dCB lenD (aCons (dVar 5) aNil))) (dC (.int 1))) (dVar 18)) (dCB lenD (aCons (dVar 6) aNil)))) (dVar 3))) (dVar 18)))
    (sSeq (sIf (bNot (dB (dCall 2 (m_law_same 8) (aCons (dCall 3 (m_next_with) (aCons (dVar 2) (aCons (dVar 3) (aCons (dVar 4) aNil)))) (aCons (dIf (dB (dOp neD (dVar 12) (dOf (fLst aNil)))) (dOp addD (dVar 4) (dOp ixD (dVar 12) (dC (.int 0)))) (dC .non)) aNil))))) (sRet (dC (.bl false))) sNil)
    (sSeq (sSet 13 (dCall 2 (m_moved_on) (aCons (dVar 2) (aCons (dVar 4) aNil))))
    (sSeq (sIf (bNot (dB (dCall 2 (m_law_same 8) (aCons (dOf (fLst (aCons (dCall 2 (m_beginning) (aCons (dVar 13) (aCons (dC (.int 12)) aNil))) (aCons (dCall 1 (m_is_short) (aCons (dVar 13) aNil)) (aCons (dCall 2 (m_put_ahead) (aCons (dVar 5) (aCons (dTup (aCons (dTup aNil) (aCons (dVar 6) aNil))) aNil))) aNil))))) (aCons (dOf (fLst (aCons (dCB tupleD (aCons (dOf (fComp (iR2 (dC (.int 1)) (dC (.int 13))) [19] (gN 19) bYes (dCall 2 (m_letter_at) (aCons (dVar 2) (aCons (dOp addD (dVar 4) (dVar 19)) aNil))))) aNil)) (aCons (dC (.bl true)) (aCons (dCall 1 (m_lasso_short) (aCons (dVar 2) aNil)) aNil))))) aNil))))) (sRet (dC (.bl false))) sNil)
    (sSeq (sIf (bOr (dB (dOp neD (dCall 1 (m_endless_letters) (aCons (dVar 13) aNil)) (dOp mulD (dTup (aCons (dOp ixD (dCall 1 (m_endless_letters) (aCons (dVar 2) aNil)) (dC (.int 1))) aNil)) (dC (.int 2))))) (dB (dOp neD (dCall 1 (m_endless_letters) (aCons (dVar 2) aNil)) (dTup (aCons (dCB tupleD (aCons (dOf (fSortSetT (dOp addD (dVar 5) (dVar 6)))) aNil)) (aCons (dCB tupleD (aCons (dOf (fSortSetT (dVar 6))) aNil)) aNil)))))) (sRet (dC (.bl false))) sNil)
    (sSeq (sSet 14 (dTup (aCons (dOp addD (dVar 5) (dSlice (dVar 6) pNone (pSome (dC (.int 1))))) (aCons (dOp addD (dSlice (dVar 6) (pSome (dC (.int 1))) pNone) (dSlice (dVar 6) pNone (pSome (dC (.int 1))))) aNil))))
    (sSeq (sSet 15 (dCall 2 (m_law_take) (aCons (dVar 1) (aCons (dC (.int 12)) aNil))))
    (sSeq (sOwn 16 (fItems (dCall 2 (m_beginning) (aCons (dVar 2) (aCons (dOp addD (dVar 15) (dC (.int 1))) aNil)))))
    (sSeq (ownAt 16 (sSetI 16 (dVar 15) (dOp addD (dC (.int 1)) (dOp modD (dOp ixD (dTop 16) (dVar 15)) (dC (.int 3))))))
    (sSeq (sSet 17 (dCall 2 (m_put_ahead) (aCons (dCB tupleD (aCons (dTop 16) aNil)) (aCons (dCall 2 (m_moved_on) (aCons (dVar 2) (aCons (dOp addD (dVar 15) (dC (.int 1))) aNil))) aNil))))
    (sSeq (sSet 11 (dOf (fLst (aCons (dCall 2 (m_same_endless) (aCons (dVar 2) (aCons (dVar 14) aNil))) (aCons (dCall 2 (m_first_apart) (aCons (dVar 2) (aCons (dVar 14) aNil))) (aCons (dCall 2 (m_first_apart) (aCons (dVar 2) (aCons (dVar 17) aNil))) (aCons (dCall 2 (m_same_endless) (aCons (dVar 17) (aCons (dVar 2) aNil))) (aCons (dCall 2 (m_first_apart) (aCons (dVar 17) (aCons (dVar 17) aNil))) aNil))))))))
    (sRet (dCall 2 (m_law_same 8) (aCons (dVar 11) (aCons (dOf (fLst (aCons (dC (.bl true)) (aCons (dC .non) (aCons (dOp addD (dVar 15) (dC (.int 1))) (aCons (dC (.bl false)) (aCons (dC .non) aNil))))))) aNil))))))))))))))))))))))))
theorem ok_law {f : Addr} {fd : FuncData} (F : Fun K "law" "law" s_law f fd) (h_tuple : mg "tuple" = none) (h_list : mg "list" = none) (h_sorted : mg "sorted" = none) (h_set : mg "set" = none) (h_range : mg "range" = none) (h_len : mg "len" = none) (h_int : mg "int" = none) (F_law_box : Fn P w K mg base "_law_box" 1 2 m_law_box) (F_law_cells : Fn P w K mg base "_law_cells" 1 2 m_law_cells) (F_law_same : Fn P w K mg base "_law_same" 9 2 (m_law_same 8)) (F_first_apart : Fn P w K mg base "first_apart" 11 2 m_first_apart) (F_same_endless : Fn P w K mg base "same_endless" 11 2 m_same_endless) (F_put_ahead : Fn P w K mg base "put_ahead" 11 2 m_put_ahead) (F_moved_on : Fn P w K mg base "moved_on" 11 2 m_moved_on) (F_beginning : Fn P w K mg base "beginning" 11 2 m_beginning) (F_law_take : Fn P w K mg base "_law_take" 1 2 m_law_take) (F_endless_letters : Fn P w K mg base "endless_letters" 11 1 m_endless_letters) (F_lasso_short : Fn P w K mg base "lasso_short" 11 1 m_lasso_short) (F_letter_at : Fn P w K mg base "letter_at" 11 2 m_letter_at) (F_is_short : Fn P w K mg base "is_short" 11 1 m_is_short) (F_next_with : Fn P w K mg base "next_with" 11 3 m_next_with) (F_how_often_to : Fn P w K mg base "how_often_to" 11 3 m_how_often_to) (F_law_lists : Fn P w K mg base "_law_lists" 9 1 (m_law_lists 8)) (F_law_of : Fn P w K mg base "_law_of" 2 2 m_law_of) (F_law_sets : Fn P w K mg base "_law_sets" 2 1 m_law_sets) (F_law_lasso : Fn P w K mg base "_law_lasso" 3 4 m_law_lasso) : FnOk P w K mg base (L2.CX P w) 12 f fd ["script"] (spL K (lawGood f_law b_law 20)) :=
  law_mk (N := N_law) F sc_law rfl rfl (by intros; first | exact .inl rfl | exact .inr rfl) (by intros; rfl) (by intros; first | exact .inl rfl | exact .inr rfl) fun cdv A outer s H E hr =>
    have nd := sc_law.nd; have hu : (A.deeper _).units + 200 < cLine := hu200 hr; have tk := tkB P w K mg base N_law "law" (defScope s_law) f cdv A outer s H E; have hp := hpB P w K mg base N_law "law" (defScope s_law) f cdv A outer s H E
    ⟨(de_call F_law_box (hr.mono (by first | decide | exact Nat.le_refl _ | omega)) rfl tk (da_cons (de_call F_law_cells (hr.mono (by first | decide | exact Nat.le_refl _ | omega)) rfl tk (da_cons (de_var 0) (da_cons (de_int) da_nil))) (da_cons (de_int) da_nil))),
    (dss_cons (ds_many (n := 2) [2, 3] rfl (dx_val (de_call F_law_lasso (hr.mono (by first | decide | exact Nat.le_refl _ | omega)) rfl tk (da_cons (de_var 1) (da_cons (de_int) (da_cons (de_int) (da_cons (de_int) da_nil))))) (dx_val (de_call F_law_of (hr.mono (by first | decide | exact Nat.le_refl _ | omega)) rfl tk (da_cons (de_var 1) (da_cons (de_call F_law_sets (hr.mono (by first | decide | exact Nat.le_refl _ | omega)) rfl tk (da_cons (de_int) da_nil)) da_nil))) dx_nil)) (pgs_cons (pg_name (i := 2) nd rfl (by first | exact .inl rfl | exact .inr rfl)) (pgs_cons (pg_name (i := 3) nd rfl (by first | exact .inl rfl | exact .inr rfl)) pgs_nil)) (xVal_un (xVal_un xNil_un)))
    (dss_cons (ds_set 4 nd (de_op op_addQ (de_op op_mulQ (de_op op_powQ (de_int) (de_int)) (de_op op_addQ (de_int) (de_call F_law_take (hr.mono (by first | decide | exact Nat.le_refl _ | omega)) rfl tk (da_cons (de_var 1) (da_cons (de_int) da_nil))))) (de_call F_law_take (hr.mono (by first | decide | exact Nat.le_refl _ | omega)) rfl tk (da_cons (de_var 1) (da_cons (de_op op_powQ (de_int) (de_int)) da_nil)))))
    (dss_cons (ds_asg (de_var 2) (dg_tup rfl (dgs_cons (dg_name 5 nd) (dgs_cons (dg_name 6 nd) dgs_nil))))
    (dss_cons (ds_par (i := 7) (j := 8) rfl nd rfl rfl (by decide) rfl rfl (dx_val (de_op op_fdivQ (de_op op_subQ (de_var 4) (de_callB cr_lenQ rfl h_len (by decide +kernel) (da_cons (de_var 5) da_nil))) (de_callB cr_lenQ rfl h_len (by decide +kernel) (da_cons (de_var 6) da_nil))) (dx_val (de_op op_modQ (de_op op_subQ (de_var 4) (de_callB cr_lenQ rfl h_len (by decide +kernel) (da_cons (de_var 5) da_nil))) (de_callB cr_lenQ rfl h_len (by decide +kernel) (da_cons (de_var 6) da_nil))) dx_nil)) (xVal_un (xVal_un xNil_un)) rfl)
    (dss_cons (ds_set 9 nd (de_op op_addQ (de_op op_addQ (de_callB cr_lenQ rfl h_len (by decide +kernel) (da_cons (de_fresh (df_comp (own := [("own", 19)]) rfl nd (di_seq (de_var 5)) (blkOk_by (N := N_law) (sc := (defScope s_law)) (by decide +kernel)) (by decide) (fun _ _ _ _ _ => (dg_name 19 nd)) (fun _ _ _ _ _ => (dts_one (dt_cmp (op_inQ hu) (de_var 19) (de_var 3) rfl))) (fun _ _ _ _ _ => have tk : ∀ {X : Cx}, Takes X noX := takes0; (de_int)))) da_nil)) (de_op op_mulQ (de_var 7) (de_callB cr_lenQ rfl h_len (by decide +kernel) (da_cons (de_fresh (df_comp (own := [("own", 19)]) rfl nd (di_seq (de_var 6)) (blkOk_by (N := N_law) (sc := (defScope s_law)) (by decide +kernel)) (by decide) (fun _ _ _ _ _ => (dg_name 19 nd)) (fun _ _ _ _ _ => (dts_one (dt_cmp (op_inQ hu) (de_var 19) (de_var 3) rfl))) (fun _ _ _ _ _ => have tk : ∀ {X : Cx}, Takes X noX := takes0; (de_int)))) da_nil)))) (de_callB cr_lenQ rfl h_len (by decide +kernel) (da_cons (de_fresh (df_comp (own := [("own", 19)]) rfl nd (di_seq (de_slice (de_var 6) dp_none (dp_some (de_var 8)))) (blkOk_by (N := N_law) (sc := (defScope s_law)) (by decide +kernel)) (by decide) (fun _ _ _ _ _ => (dg_name 19 nd)) (fun _ _ _ _ _ => (dts_one (dt_cmp (op_inQ hu) (de_var 19) (de_var 3) rfl))) (fun _ _ _ _ _ => have tk : ∀ {X : Cx}, Takes X noX := takes0; (de_int)))) da_nil))))
    (dss_cons (ds_set 10 nd (de_ix (de_var 6) (de_op op_modQ (de_op op_subQ (de_op op_subQ (de_var 4) (de_callB cr_lenQ rfl h_len (by decide +kernel) (da_cons (de_var 5) da_nil))) (de_int)) (de_callB cr_lenQ rfl h_len (by decide +kernel) (da_cons (de_var 6) da_nil)))))
    (dss_cons (ds_set 11 nd (de_fresh (df_lst (da_cons (de_call F_how_often_to (hr.mono (by first | decide | exact Nat.le_refl _ | omega)) rfl tk (da_cons (de_var 2) (da_cons (de_call F_law_lists (hr.mono (by first | decide | exact Nat.le_refl _ | omega)) rfl tk (da_cons (de_var 3) da_nil)) (da_cons (de_var 4) da_nil)))) (da_cons (de_call F_letter_at (hr.mono (by first | decide | exact Nat.le_refl _ | omega)) rfl tk (da_cons (de_call F_law_lists (hr.mono (by first | decide | exact Nat.le_refl _ | omega)) rfl tk (da_cons (de_var 2) da_nil)) (da_cons (de_var 4) da_nil))) (da_cons (de_call F_how_often_to (hr.mono (by first | decide | exact Nat.le_refl _ | omega)) rfl tk (da_cons (de_var 2) (da_cons (de_var 3) (da_cons (de_op op_subQ (de_var 4) (de_int)) da_nil)))) (da_cons (de_call F_how_often_to (hr.mono (by first | decide | exact Nat.le_refl _ | omega)) rfl tk (da_cons (de_var 2) (da_cons (de_tup (da_cons (de_int) (da_cons (de_int) (da_cons (de_int) da_nil)))) (da_cons (de_var 4) da_nil)))) da_nil)))))))
    (dss_cons (ds_set 11 nd (de_op op_addQ (de_var 11) (de_fresh (df_lst (da_cons (de_call F_how_often_to (hr.mono (by first | decide | exact Nat.le_refl _ | omega)) rfl tk (da_cons (de_var 2) (da_cons (de_var 3) (da_cons (de_int) da_nil)))) da_nil)))))
    (dss_cons (ds_if (dt_not (dt_val (de_call F_law_same (hr.mono (by first | decide | exact Nat.le_refl _ | omega)) rfl tk (da_cons (de_var 11) (da_cons (de_fresh (df_lst (da_cons (de_var 9) (da_cons (de_var 10) (da_cons (de_op op_subQ (de_var 9) (de_callTy cr_intQ rfl h_int (by decide +kernel) (da_cons (de_cmp (op_inQ hu) (de_var 10) (de_var 3) rfl) da_nil))) (da_cons (de_var 4) (da_cons (de_int) da_nil))))))) da_nil))))) (dss_one (ds_ret (de_bl))) dss_nil)
    (dss_cons (ds_setLc 12 nd (own := [("step", 18)]) rfl (di_range2 rfl h_range (de_int) (de_op op_addQ (de_callB cr_lenQ rfl h_len (by decide +kernel) (da_cons (de_var 6) da_nil)) (de_int))) (blkOk_by (N := N_law) (sc := (defScope s_law)) (by decide +kernel)) (by decide) (fun _ _ _ _ _ => (dg_name 18 nd)) (fun _ _ _ _ _ => (dts_one (dt_cmp (op_inQ hu) (de_ix (de_var 6) (de_op op_modQ (de_op op_addQ (de_op op_subQ (de_op op_subQ (de_var 4) (de_callB cr_lenQ rfl h_len (by decide +kernel) (da_cons (de_var 5) da_nil))) (de_int)) (de_var 18)) (de_callB cr_lenQ rfl h_len (by decide +kernel) (da_cons (de_var 6) da_nil)))) (de_var 3) rfl))) (fun _ _ _ _ _ => have tk : ∀ {X : Cx}, Takes X noX := takes0; (de_var 18)))
    (dss_cons (ds_if (dt_not (dt_val (de_call F_law_same (hr.mono (by first | decide | exact Nat.le_refl _ | omega)) rfl tk (da_cons (de_call F_next_with (hr.mono (by first | decide | exact Nat.le_refl _ | omega)) rfl tk (da_cons (de_var 2) (da_cons (de_var 3) (da_cons (de_var 4) da_nil)))) (da_cons (de_if (dt_cmp (op_neQ hu) (de_var 12) (de_fresh (df_lst da_nil)) (nomark _)) (de_op op_addQ (de_var 4) (de_ix (de_var 12) (de_int))) (de_non)) da_nil))))) (dss_one (ds_ret (de_bl))) dss_nil)
    (dss_cons (ds_set 13 nd (de_call F_moved_on (hr.mono (by first | decide | exact Nat.le_refl _ | omega)) rfl tk (da_cons (de_var 2) (da_cons (de_var 4) da_nil))))
    (dss_cons (ds_if (dt_not (dt_val (de_call F_law_same (hr.mono (by first | decide | exact Nat.le_refl _ | omega)) rfl tk (da_cons (de_fresh (df_lst (da_cons (de_call F_beginning (hr.mono (by first | decide | exact Nat.le_refl _ | omega)) rfl tk (da_cons (de_var 13) (da_cons (de_int) da_nil))) (da_cons (de_call F_is_short (hr.mono (by first | decide | exact Nat.le_refl _ | omega)) rfl tk (da_cons (de_var 13) da_nil)) (da_cons (de_call F_put_ahead (hr.mono (by first | decide | exact Nat.le_refl _ | omega)) rfl tk (da_cons (de_var 5) (da_cons (de_tup (da_cons (de_tup da_nil) (da_cons (de_var 6) da_nil))) da_nil))) da_nil))))) (da_cons (de_fresh (df_lst (da_cons (de_callTy cr_tupleQ rfl h_tuple (by decide +kernel) (da_cons (de_fresh (df_comp (own := [("own", 19)]) rfl nd (di_range2 rfl h_range (de_int) (de_int)) (blkOk_by (N := N_law) (sc := (defScope s_law)) (by decide +kernel)) (by decide) (fun _ _ _ _ _ => (dg_name 19 nd)) (fun _ _ _ _ _ => dts_nil) (fun _ _ _ _ _ => have tk : ∀ {X : Cx}, Takes X noX := takes0; (de_call F_letter_at (hr.mono (by first | decide | exact Nat.le_refl _ | omega)) rfl tk (da_cons (de_var 2) (da_cons (de_op op_addQ (de_var 4) (de_var 19)) da_nil)))))) da_nil)) (da_cons (de_bl) (da_cons (de_call F_lasso_short (hr.mono (by first | decide | exact Nat.le_refl _ | omega)) rfl tk (da_cons (de_var 2) da_nil)) da_nil))))) da_nil))))) (dss_one (ds_ret (de_bl))) dss_nil)
    (dss_cons (ds_if (PW.pt (dw_or (dt_cmp (op_neQ hu) (de_call F_endless_letters (hr.mono (by first | decide | exact Nat.le_refl _ | omega)) rfl tk (da_cons (de_var 13) da_nil)) (de_op op_mulQ (de_tup (da_cons (de_ix (de_call F_endless_letters (hr.mono (by first | decide | exact Nat.le_refl _ | omega)) rfl tk (da_cons (de_var 2) da_nil)) (de_int)) da_nil)) (de_int)) (nomark _)) (dw_or1 (dt_cmp (op_neQ hu) (de_call F_endless_letters (hr.mono (by first | decide | exact Nat.le_refl _ | omega)) rfl tk (da_cons (de_var 2) da_nil)) (de_tup (da_cons (de_callTy cr_tupleQ rfl h_tuple (by decide +kernel) (da_cons (de_fresh (df_sortSetT rfl rfl h_sorted rfl h_set (de_op op_addQ (de_var 5) (de_var 6)))) da_nil)) (da_cons (de_callTy cr_tupleQ rfl h_tuple (by decide +kernel) (da_cons (de_fresh (df_sortSetT rfl rfl h_sorted rfl h_set (de_var 6))) da_nil)) da_nil))) (nomark _))))) (dss_one (ds_ret (de_bl))) dss_nil)
    (dss_cons (ds_set 14 nd (de_tup (da_cons (de_op op_addQ (de_var 5) (de_slice (de_var 6) dp_none (dp_some (de_int)))) (da_cons (de_op op_addQ (de_slice (de_var 6) (dp_some (de_int)) dp_none) (de_slice (de_var 6) dp_none (dp_some (de_int)))) da_nil))))
    (dss_cons (ds_set 15 nd (de_call F_law_take (hr.mono (by first | decide | exact Nat.le_refl _ | omega)) rfl tk (da_cons (de_var 1) (da_cons (de_int) da_nil))))
    (dss_cons (ds_own 16 nd (df_listOf rfl h_list (de_call F_beginning (hr.mono (by first | decide | exact Nat.le_refl _ | omega)) rfl tk (da_cons (de_var 2) (da_cons (de_op op_addQ (de_var 15) (de_int)) da_nil)))))
    (dss_cons (ds_setI 16 (de_op op_addQ (de_int) (de_op op_modQ (de_ix (de_top 16) (de_var 15)) (de_int))) (de_var 15))
    (dss_cons (ds_set 17 nd (de_call F_put_ahead (hr.mono (by first | decide | exact Nat.le_refl _ | omega)) rfl tk (da_cons (de_callTy cr_tupleQ rfl h_tuple (by decide +kernel) (da_cons (de_top 16) da_nil)) (da_cons (de_call F_moved_on (hr.mono (by first | decide | exact Nat.le_refl _ | omega)) rfl tk (da_cons (de_var 2) (da_cons (de_op op_addQ (de_var 15) (de_int)) da_nil))) da_nil))))
    (dss_cons (ds_set 11 nd (de_fresh (df_lst (da_cons (de_call F_same_endless (hr.mono (by first | decide | exact Nat.le_refl _ | omega)) rfl tk (da_cons (de_var 2) (da_cons (de_var 14) da_nil))) (da_cons (de_call F_first_apart (hr.mono (by first | decide | exact Nat.le_refl _ | omega)) rfl tk (da_cons (de_var 2) (da_cons (de_var 14) da_nil))) (da_cons (de_call F_first_apart (hr.mono (by first | decide | exact Nat.le_refl _ | omega)) rfl tk (da_cons (de_var 2) (da_cons (de_var 17) da_nil))) (da_cons (de_call F_same_endless (hr.mono (by first | decide | exact Nat.le_refl _ | omega)) rfl tk (da_cons (de_var 17) (da_cons (de_var 2) da_nil))) (da_cons (de_call F_first_apart (hr.mono (by first | decide | exact Nat.le_refl _ | omega)) rfl tk (da_cons (de_var 17) (da_cons (de_var 17) da_nil))) da_nil))))))))
    (dss_one (ds_ret (de_call F_law_same (hr.mono (by first | decide | exact Nat.le_refl _ | omega)) rfl tk (da_cons (de_var 11) (da_cons (de_fresh (df_lst (da_cons (de_bl) (da_cons (de_non) (da_cons (de_op op_addQ (de_var 15) (de_int)) (da_cons (de_bl) (da_cons (de_non) da_nil))))))) da_nil)))))))))))))))))))))))))⟩
/-! ### what the top has written -/
theorem all_mk {l : PySem.W.OpenLaw} {w : World} {K : PySem.W.Frag} {h : Heap} {mg : Str → Option Value} {fa : Addr} (X : K.In h) (G : h.Ns mainGlobals mg) (hfa : mg "law" = some (.ref fa))
    {a_is_number : Addr} {od_is_number an_is_number : Option Addr} {sl_is_number : Array (Option Value)} {oc_is_number kV_is_number dc_is_number pm_is_number cd_is_number ct_is_number : Value}
    {a_tuple_of : Addr} {od_tuple_of an_tuple_of : Option Addr} {sl_tuple_of : Array (Option Value)} {oc_tuple_of kV_tuple_of dc_tuple_of pm_tuple_of cd_tuple_of ct_tuple_of : Value}
    {a_is_tuple_of : Addr} {od_is_tuple_of an_is_tuple_of : Option Addr} {sl_is_tuple_of : Array (Option Value)} {oc_is_tuple_of kV_is_tuple_of dc_is_tuple_of pm_is_tuple_of cd_is_tuple_of ct_is_tuple_of : Value}
    {a_is_letter : Addr} {od_is_letter an_is_letter : Option Addr} {sl_is_letter : Array (Option Value)} {oc_is_letter kV_is_letter dc_is_letter pm_is_letter cd_is_letter ct_is_letter : Value}
    {a_is_text : Addr} {od_is_text an_is_text : Option Addr} {sl_is_text : Array (Option Value)} {oc_is_text kV_is_text dc_is_text pm_is_text cd_is_text ct_is_text : Value}
    {a_is_letters : Addr} {od_is_letters an_is_letters : Option Addr} {sl_is_letters : Array (Option Value)} {oc_is_letters kV_is_letters dc_is_letters pm_is_letters cd_is_letters ct_is_letters : Value}
    {a_sure_wide_of : Addr} {od_sure_wide_of an_sure_wide_of : Option Addr} {sl_sure_wide_of : Array (Option Value)} {oc_sure_wide_of kV_sure_wide_of dc_sure_wide_of pm_sure_wide_of cd_sure_wide_of ct_sure_wide_of : Value}
    {a_is_lasso_form : Addr} {od_is_lasso_form an_is_lasso_form : Option Addr} {sl_is_lasso_form : Array (Option Value)} {oc_is_lasso_form kV_is_lasso_form dc_is_lasso_form pm_is_lasso_form cd_is_lasso_form ct_is_lasso_form : Value}
    {a_sure_lasso : Addr} {od_sure_lasso an_sure_lasso : Option Addr} {sl_sure_lasso : Array (Option Value)} {oc_sure_lasso kV_sure_lasso dc_sure_lasso pm_sure_lasso cd_sure_lasso ct_sure_lasso : Value}
    {a_sure_many : Addr} {od_sure_many an_sure_many : Option Addr} {sl_sure_many : Array (Option Value)} {oc_sure_many kV_sure_many dc_sure_many pm_sure_many cd_sure_many ct_sure_many : Value}
    {a_shortest_round : Addr} {od_shortest_round an_shortest_round : Option Addr} {sl_shortest_round : Array (Option Value)} {oc_shortest_round kV_shortest_round dc_shortest_round pm_shortest_round cd_shortest_round ct_shortest_round : Value}
    {a_short_in : Addr} {od_short_in an_short_in : Option Addr} {sl_short_in : Array (Option Value)} {oc_short_in kV_short_in dc_short_in pm_short_in cd_short_in ct_short_in : Value}
    {a_lasso_short : Addr} {od_lasso_short an_lasso_short : Option Addr} {sl_lasso_short : Array (Option Value)} {oc_lasso_short kV_lasso_short dc_lasso_short pm_lasso_short cd_lasso_short ct_lasso_short : Value}
    {a_is_short : Addr} {od_is_short an_is_short : Option Addr} {sl_is_short : Array (Option Value)} {oc_is_short kV_is_short dc_is_short pm_is_short cd_is_short ct_is_short : Value}
    {a_same_endless : Addr} {od_same_endless an_same_endless : Option Addr} {sl_same_endless : Array (Option Value)} {oc_same_endless kV_same_endless dc_same_endless pm_same_endless cd_same_endless ct_same_endless : Value}
    {a_entry_at : Addr} {od_entry_at an_entry_at : Option Addr} {sl_entry_at : Array (Option Value)} {oc_entry_at kV_entry_at dc_entry_at pm_entry_at cd_entry_at ct_entry_at : Value}
    {a_sure_spot : Addr} {od_sure_spot an_sure_spot : Option Addr} {sl_sure_spot : Array (Option Value)} {oc_sure_spot kV_sure_spot dc_sure_spot pm_sure_spot cd_sure_spot ct_sure_spot : Value}
    {a_letter_at : Addr} {od_letter_at an_letter_at : Option Addr} {sl_letter_at : Array (Option Value)} {oc_letter_at kV_letter_at dc_letter_at pm_letter_at cd_letter_at ct_letter_at : Value}
    {a_first_letters : Addr} {od_first_letters an_first_letters : Option Addr} {sl_first_letters : Array (Option Value)} {oc_first_letters kV_first_letters dc_first_letters pm_first_letters cd_first_letters ct_first_letters : Value}
    {a_beginning : Addr} {od_beginning an_beginning : Option Addr} {sl_beginning : Array (Option Value)} {oc_beginning kV_beginning dc_beginning pm_beginning cd_beginning ct_beginning : Value}
    {a_moved_on : Addr} {od_moved_on an_moved_on : Option Addr} {sl_moved_on : Array (Option Value)} {oc_moved_on kV_moved_on dc_moved_on pm_moved_on cd_moved_on ct_moved_on : Value}
    {a_put_ahead : Addr} {od_put_ahead an_put_ahead : Option Addr} {sl_put_ahead : Array (Option Value)} {oc_put_ahead kV_put_ahead dc_put_ahead pm_put_ahead cd_put_ahead ct_put_ahead : Value}
    {a_first_apart : Addr} {od_first_apart an_first_apart : Option Addr} {sl_first_apart : Array (Option Value)} {oc_first_apart kV_first_apart dc_first_apart pm_first_apart cd_first_apart ct_first_apart : Value}
    {a_endless_letters : Addr} {od_endless_letters an_endless_letters : Option Addr} {sl_endless_letters : Array (Option Value)} {oc_endless_letters kV_endless_letters dc_endless_letters pm_endless_letters cd_endless_letters ct_endless_letters : Value}
    {a_sure_letters : Addr} {od_sure_letters an_sure_letters : Option Addr} {sl_sure_letters : Array (Option Value)} {oc_sure_letters kV_sure_letters dc_sure_letters pm_sure_letters cd_sure_letters ct_sure_letters : Value}
    {a_count_in : Addr} {od_count_in an_count_in : Option Addr} {sl_count_in : Array (Option Value)} {oc_count_in kV_count_in dc_count_in pm_count_in cd_count_in ct_count_in : Value}
    {a_how_often_to : Addr} {od_how_often_to an_how_often_to : Option Addr} {sl_how_often_to : Array (Option Value)} {oc_how_often_to kV_how_often_to dc_how_often_to pm_how_often_to cd_how_often_to ct_how_often_to : Value}
    {a_next_with : Addr} {od_next_with an_next_with : Option Addr} {sl_next_with : Array (Option Value)} {oc_next_with kV_next_with dc_next_with pm_next_with cd_next_with ct_next_with : Value}
    {a_law_box : Addr} {od_law_box an_law_box : Option Addr} {sl_law_box : Array (Option Value)} {oc_law_box kV_law_box dc_law_box pm_law_box cd_law_box ct_law_box : Value}
    {a_law_take : Addr} {od_law_take an_law_take : Option Addr} {sl_law_take : Array (Option Value)} {oc_law_take kV_law_take dc_law_take pm_law_take cd_law_take ct_law_take : Value}
    {a_law_cells : Addr} {od_law_cells an_law_cells : Option Addr} {sl_law_cells : Array (Option Value)} {oc_law_cells kV_law_cells dc_law_cells pm_law_cells cd_law_cells ct_law_cells : Value}
    {a_law_same : Addr} {od_law_same an_law_same : Option Addr} {sl_law_same : Array (Option Value)} {oc_law_same kV_law_same dc_law_same pm_law_same cd_law_same ct_law_same : Value}
    {a_law_lists : Addr} {od_law_lists an_law_lists : Option Addr} {sl_law_lists : Array (Option Value)} {oc_law_lists kV_law_lists dc_law_lists pm_law_lists cd_law_lists ct_law_lists : Value}
    {a_law_of : Addr} {od_law_of an_law_of : Option Addr} {sl_law_of : Array (Option Value)} {oc_law_of kV_law_of dc_law_of pm_law_of cd_law_of ct_law_of : Value}
    {a_law_gap_subsets : Addr} {od_law_gap_subsets an_law_gap_subsets : Option Addr} {sl_law_gap_subsets : Array (Option Value)} {oc_law_gap_subsets kV_law_gap_subsets dc_law_gap_subsets pm_law_gap_subsets cd_law_gap_subsets ct_law_gap_subsets : Value}
    {a_law_row : Addr} {od_law_row an_law_row : Option Addr} {sl_law_row : Array (Option Value)} {oc_law_row kV_law_row dc_law_row pm_law_row cd_law_row ct_law_row : Value}
    {a_law_lasso : Addr} {od_law_lasso an_law_lasso : Option Addr} {sl_law_lasso : Array (Option Value)} {oc_law_lasso kV_law_lasso dc_law_lasso pm_law_lasso cd_law_lasso ct_law_lasso : Value}
    {a_law_sets : Addr} {od_law_sets an_law_sets : Option Addr} {sl_law_sets : Array (Option Value)} {oc_law_sets kV_law_sets dc_law_sets pm_law_sets cd_law_sets ct_law_sets : Value}
    {a_law : Addr} {od_law an_law : Option Addr} {sl_law : Array (Option Value)} {oc_law kV_law dc_law pm_law cd_law ct_law : Value}
    {t_MOST_WIDE : Tok}
    {t_MOST_BEGINNING : Tok}
    (n_is_number : PySem.W.nsIn K mainGlobals "is_number" = some (some (.ref a_is_number))) (l_is_number : K.lookup a_is_number = some ⟨oc_is_number, od_is_number, .func (PySem.W.fnOf "is_number" "is_number" (defArgs s_is_number) (defBody s_is_number) (defScope s_is_number) .none kV_is_number dc_is_number pm_is_number an_is_number cd_is_number ct_is_number), sl_is_number⟩) (c_is_number : PySem.W.codeIn K cd_is_number "is_number" = true) (k_is_number : PySem.W.keepIn K (.ref a_is_number) = true)
    (n_tuple_of : PySem.W.nsIn K mainGlobals "tuple_of" = some (some (.ref a_tuple_of))) (l_tuple_of : K.lookup a_tuple_of = some ⟨oc_tuple_of, od_tuple_of, .func (PySem.W.fnOf "tuple_of" "tuple_of" (defArgs s_tuple_of) (defBody s_tuple_of) (defScope s_tuple_of) .none kV_tuple_of dc_tuple_of pm_tuple_of an_tuple_of cd_tuple_of ct_tuple_of), sl_tuple_of⟩) (c_tuple_of : PySem.W.codeIn K cd_tuple_of "tuple_of" = true) (k_tuple_of : PySem.W.keepIn K (.ref a_tuple_of) = true)
    (n_is_tuple_of : PySem.W.nsIn K mainGlobals "is_tuple_of" = some (some (.ref a_is_tuple_of))) (l_is_tuple_of : K.lookup a_is_tuple_of = some ⟨oc_is_tuple_of, od_is_tuple_of, .func (PySem.W.fnOf "is_tuple_of" "is_tuple_of" (defArgs s_is_tuple_of) (defBody s_is_tuple_of) (defScope s_is_tuple_of) .none kV_is_tuple_of dc_is_tuple_of pm_is_tuple_of an_is_tuple_of cd_is_tuple_of ct_is_tuple_of), sl_is_tuple_of⟩) (c_is_tuple_of : PySem.W.codeIn K cd_is_tuple_of "is_tuple_of" = true) (k_is_tuple_of : PySem.W.keepIn K (.ref a_is_tuple_of) = true)
    (n_is_letter : PySem.W.nsIn K mainGlobals "is_letter" = some (some (.ref a_is_letter))) (l_is_letter : K.lookup a_is_letter = some ⟨oc_is_letter, od_is_letter, .func (PySem.W.fnOf "is_letter" "is_letter" (defArgs s_is_letter) (defBody s_is_letter) (defScope s_is_letter) .none kV_is_letter dc_is_letter pm_is_letter an_is_letter cd_is_letter ct_is_letter), sl_is_letter⟩) (c_is_letter : PySem.W.codeIn K cd_is_letter "is_letter" = true) (k_is_letter : PySem.W.keepIn K (.ref a_is_letter) = true)
    (n_is_text : PySem.W.nsIn K mainGlobals "is_text" = some (some (.ref a_is_text))) (l_is_text : K.lookup a_is_text = some ⟨oc_is_text, od_is_text, .func (PySem.W.fnOf "is_text" "is_text" (defArgs s_is_text) (defBody s_is_text) (defScope s_is_text) .none kV_is_text dc_is_text pm_is_text an_is_text cd_is_text ct_is_text), sl_is_text⟩) (c_is_text : PySem.W.codeIn K cd_is_text "is_text" = true) (k_is_text : PySem.W.keepIn K (.ref a_is_text) = true)
    (n_is_letters : PySem.W.nsIn K mainGlobals "is_letters" = some (some (.ref a_is_letters))) (l_is_letters : K.lookup a_is_letters = some ⟨oc_is_letters, od_is_letters, .func (PySem.W.fnOf "is_letters" "is_letters" (defArgs s_is_letters) (defBody s_is_letters) (defScope s_is_letters) .none kV_is_letters dc_is_letters pm_is_letters an_is_letters cd_is_letters ct_is_letters), sl_is_letters⟩) (c_is_letters : PySem.W.codeIn K cd_is_letters "is_letters" = true) (k_is_letters : PySem.W.keepIn K (.ref a_is_letters) = true)
    (n_sure_wide_of : PySem.W.nsIn K mainGlobals "sure_wide_of" = some (some (.ref a_sure_wide_of))) (l_sure_wide_of : K.lookup a_sure_wide_of = some ⟨oc_sure_wide_of, od_sure_wide_of, .func (PySem.W.fnOf "sure_wide_of" "sure_wide_of" (defArgs s_sure_wide_of) (defBody s_sure_wide_of) (defScope s_sure_wide_of) .none kV_sure_wide_of dc_sure_wide_of pm_sure_wide_of an_sure_wide_of cd_sure_wide_of ct_sure_wide_of), sl_sure_wide_of⟩) (c_sure_wide_of : PySem.W.codeIn K cd_sure_wide_of "sure_wide_of" = true) (k_sure_wide_of : PySem.W.keepIn K (.ref a_sure_wide_of) = true)
    (n_is_lasso_form : PySem.W.nsIn K mainGlobals "is_lasso_form" = some (some (.ref a_is_lasso_form))) (l_is_lasso_form : K.lookup a_is_lasso_form = some ⟨oc_is_lasso_form, od_is_lasso_form, .func (PySem.W.fnOf "is_lasso_form" "is_lasso_form" (defArgs s_is_lasso_form) (defBody s_is_lasso_form) (defScope s_is_lasso_form) .none kV_is_lasso_form dc_is_lasso_form pm_is_lasso_form an_is_lasso_form cd_is_lasso_form ct_is_lasso_form), sl_is_lasso_form⟩) (c_is_lasso_form : PySem.W.codeIn K cd_is_lasso_form "is_lasso_form" = true) (k_is_lasso_form : PySem.W.keepIn K (.ref a_is_lasso_form) = true)
    (n_sure_lasso : PySem.W.nsIn K mainGlobals "sure_lasso" = some (some (.ref a_sure_lasso))) (l_sure_lasso : K.lookup a_sure_lasso = some ⟨oc_sure_lasso, od_sure_lasso, .func (PySem.W.fnOf "sure_lasso" "sure_lasso" (defArgs s_sure_lasso) (defBody s_sure_lasso) (defScope s_sure_lasso) .none kV_sure_lasso dc_sure_lasso pm_sure_lasso an_sure_lasso cd_sure_lasso ct_sure_lasso), sl_sure_lasso⟩) (c_sure_lasso : PySem.W.codeIn K cd_sure_lasso "sure_lasso" = true) (k_sure_lasso : PySem.W.keepIn K (.ref a_sure_lasso) = true)
    (n_sure_many : PySem.W.nsIn K mainGlobals "sure_many" = some (some (.ref a_sure_many))) (l_sure_many : K.lookup a_sure_many = some ⟨oc_sure_many, od_sure_many, .func (PySem.W.fnOf "sure_many" "sure_many" (defArgs s_sure_many) (defBody s_sure_many) (defScope s_sure_many) .none kV_sure_many dc_sure_many pm_sure_many an_sure_many cd_sure_many ct_sure_many), sl_sure_many⟩) (c_sure_many : PySem.W.codeIn K cd_sure_many "sure_many" = true) (k_sure_many : PySem.W.keepIn K (.ref a_sure_many) = true)
    (n_shortest_round : PySem.W.nsIn K mainGlobals "shortest_round" = some (some (.ref a_shortest_round))) (l_shortest_round : K.lookup a_shortest_round = some ⟨oc_shortest_round, od_shortest_round, .func (PySem.W.fnOf "shortest_round" "shortest_round" (defArgs s_shortest_round) (defBody s_shortest_round) (defScope s_shortest_round) .none kV_shortest_round dc_shortest_round pm_shortest_round an_shortest_round cd_shortest_round ct_shortest_round), sl_shortest_round⟩) (c_shortest_round : PySem.W.codeIn K cd_shortest_round "shortest_round" = true) (k_shortest_round : PySem.W.keepIn K (.ref a_shortest_round) = true)
    (n_short_in : PySem.W.nsIn K mainGlobals "short_in" = some (some (.ref a_short_in))) (l_short_in : K.lookup a_short_in = some ⟨oc_short_in, od_short_in, .func (PySem.W.fnOf "short_in" "short_in" (defArgs s_short_in) (defBody s_short_in) (defScope s_short_in) .none kV_short_in dc_short_in pm_short_in an_short_in cd_short_in ct_short_in), sl_short_in⟩) (c_short_in : PySem.W.codeIn K cd_short_in "short_in" = true) (k_short_in : PySem.W.keepIn K (.ref a_short_in) = true)
    (n_lasso_short : PySem.W.nsIn K mainGlobals "lasso_short" = some (some (.ref a_lasso_short))) (l_lasso_short : K.lookup a_lasso_short = some ⟨oc_lasso_short, od_lasso_short, .func (PySem.W.fnOf "lasso_short" "lasso_short" (defArgs s_lasso_short) (defBody s_lasso_short) (defScope s_lasso_short) .none kV_lasso_short dc_lasso_short pm_lasso_short an_lasso_short cd_lasso_short ct_lasso_short), sl_lasso_short⟩) (c_lasso_short : PySem.W.codeIn K cd_lasso_short "lasso_short" = true) (k_lasso_short : PySem.W.keepIn K (.ref a_lasso_short) = true)
    (n_is_short : PySem.W.nsIn K mainGlobals "is_short" = some (some (.ref a_is_short))) (l_is_short : K.lookup a_is_short = some ⟨oc_is_short, od_is_short, .func (PySem.W.fnOf "is_short" "is_short" (defArgs s_is_short) (defBody s_is_short) (defScope s_is_short) .none kV_is_short dc_is_short pm_is_short an_is_short cd_is_short ct_is_short), sl_is_short⟩) (c_is_short : PySem.W.codeIn K cd_is_short "is_short" = true) (k_is_short : PySem.W.keepIn K (.ref a_is_short) = true)
    (n_same_endless : PySem.W.nsIn K mainGlobals "same_endless" = some (some (.ref a_same_endless))) (l_same_endless : K.lookup a_same_endless = some ⟨oc_same_endless, od_same_endless, .func (PySem.W.fnOf "same_endless" "same_endless" (defArgs s_same_endless) (defBody s_same_endless) (defScope s_same_endless) .none kV_same_endless dc_same_endless pm_same_endless an_same_endless cd_same_endless ct_same_endless), sl_same_endless⟩) (c_same_endless : PySem.W.codeIn K cd_same_endless "same_endless" = true) (k_same_endless : PySem.W.keepIn K (.ref a_same_endless) = true)
    (n_entry_at : PySem.W.nsIn K mainGlobals "entry_at" = some (some (.ref a_entry_at))) (l_entry_at : K.lookup a_entry_at = some ⟨oc_entry_at, od_entry_at, .func (PySem.W.fnOf "entry_at" "entry_at" (defArgs s_entry_at) (defBody s_entry_at) (defScope s_entry_at) .none kV_entry_at dc_entry_at pm_entry_at an_entry_at cd_entry_at ct_entry_at), sl_entry_at⟩) (c_entry_at : PySem.W.codeIn K cd_entry_at "entry_at" = true) (k_entry_at : PySem.W.keepIn K (.ref a_entry_at) = true)
    (n_sure_spot : PySem.W.nsIn K mainGlobals "sure_spot" = some (some (.ref a_sure_spot))) (l_sure_spot : K.lookup a_sure_spot = some ⟨oc_sure_spot, od_sure_spot, .func (PySem.W.fnOf "sure_spot" "sure_spot" (defArgs s_sure_spot) (defBody s_sure_spot) (defScope s_sure_spot) .none kV_sure_spot dc_sure_spot pm_sure_spot an_sure_spot cd_sure_spot ct_sure_spot), sl_sure_spot⟩) (c_sure_spot : PySem.W.codeIn K cd_sure_spot "sure_spot" = true) (k_sure_spot : PySem.W.keepIn K (.ref a_sure_spot) = true)
    (n_letter_at : PySem.W.nsIn K mainGlobals "letter_at" = some (some (.ref a_letter_at))) (l_letter_at : K.lookup a_letter_at = some ⟨oc_letter_at, od_letter_at, .func (PySem.W.fnOf "letter_at" "letter_at" (defArgs s_letter_at) (defBody s_letter_at) (defScope s_letter_at) .none kV_letter_at dc_letter_at pm_letter_at an_letter_at cd_letter_at ct_letter_at), sl_letter_at⟩) (c_letter_at : PySem.W.codeIn K cd_letter_at "letter_at" = true) (k_letter_at : PySem.W.keepIn K (.ref a_letter_at) = true)
    (n_first_letters : PySem.W.nsIn K mainGlobals "first_letters" = some (some (.ref a_first_letters))) (l_first_letters : K.lookup a_first_letters = some ⟨oc_first_letters, od_first_letters, .func (PySem.W.fnOf "first_letters" "first_letters" (defArgs s_first_letters) (defBody s_first_letters) (defScope s_first_letters) .none kV_first_letters dc_first_letters pm_first_letters an_first_letters cd_first_letters ct_first_letters), sl_first_letters⟩) (c_first_letters : PySem.W.codeIn K cd_first_letters "first_letters" = true) (k_first_letters : PySem.W.keepIn K (.ref a_first_letters) = true)
    (n_beginning : PySem.W.nsIn K mainGlobals "beginning" = some (some (.ref a_beginning))) (l_beginning : K.lookup a_beginning = some ⟨oc_beginning, od_beginning, .func (PySem.W.fnOf "beginning" "beginning" (defArgs s_beginning) (defBody s_beginning) (defScope s_beginning) .none kV_beginning dc_beginning pm_beginning an_beginning cd_beginning ct_beginning), sl_beginning⟩) (c_beginning : PySem.W.codeIn K cd_beginning "beginning" = true) (k_beginning : PySem.W.keepIn K (.ref a_beginning) = true)
    (n_moved_on : PySem.W.nsIn K mainGlobals "moved_on" = some (some (.ref a_moved_on))) (l_moved_on : K.lookup a_moved_on = some ⟨oc_moved_on, od_moved_on, .func (PySem.W.fnOf "moved_on" "moved_on" (defArgs s_moved_on) (defBody s_moved_on) (defScope s_moved_on) .none kV_moved_on dc_moved_on pm_moved_on an_moved_on cd_moved_on ct_moved_on), sl_moved_on⟩) (c_moved_on : PySem.W.codeIn K cd_moved_on "moved_on" = true) (k_moved_on : PySem.W.keepIn K (.ref a_moved_on) = true)
    (n_put_ahead : PySem.W.nsIn K mainGlobals "put_ahead" = some (some (.ref a_put_ahead))) (l_put_ahead : K.lookup a_put_ahead = some ⟨oc_put_ahead, od_put_ahead, .func (PySem.W.fnOf "put_ahead" "put_ahead" (defArgs s_put_ahead) (defBody s_put_ahead) (defScope s_put_ahead) .none kV_put_ahead dc_put_ahead pm_put_ahead an_put_ahead cd_put_ahead ct_put_ahead), sl_put_ahead⟩) (c_put_ahead : PySem.W.codeIn K cd_put_ahead "put_ahead" = true) (k_put_ahead : PySem.W.keepIn K (.ref a_put_ahead) = true)
    (n_first_apart : PySem.W.nsIn K mainGlobals "first_apart" = some (some (.ref a_first_apart))) (l_first_apart : K.lookup a_first_apart = some ⟨oc_first_apart, od_first_apart, .func (PySem.W.fnOf "first_apart" "first_apart" (defArgs s_first_apart) (defBody s_first_apart) (defScope s_first_apart) .none kV_first_apart dc_first_apart pm_first_apart an_first_apart cd_first_apart ct_first_apart), sl_first_apart⟩) (c_first_apart : PySem.W.codeIn K cd_first_apart "first_apart" = true) (k_first_apart : PySem.W.keepIn K (.ref a_first_apart) = true)
    (n_endless_letters : PySem.W.nsIn K mainGlobals "endless_letters" = some (some (.ref a_endless_letters))) (l_endless_letters : K.lookup a_endless_letters = some ⟨oc_endless_letters, od_endless_letters, .func (PySem.W.fnOf "endless_letters" "endless_letters" (defArgs s_endless_letters) (defBody s_endless_letters) (defScope s_endless_letters) .none kV_endless_letters dc_endless_letters pm_endless_letters an_endless_letters cd_endless_letters ct_endless_letters), sl_endless_letters⟩) (c_endless_letters : PySem.W.codeIn K cd_endless_letters "endless_letters" = true) (k_endless_letters : PySem.W.keepIn K (.ref a_endless_letters) = true)
    (n_sure_letters : PySem.W.nsIn K mainGlobals "sure_letters" = some (some (.ref a_sure_letters))) (l_sure_letters : K.lookup a_sure_letters = some ⟨oc_sure_letters, od_sure_letters, .func (PySem.W.fnOf "sure_letters" "sure_letters" (defArgs s_sure_letters) (defBody s_sure_letters) (defScope s_sure_letters) .none kV_sure_letters dc_sure_letters pm_sure_letters an_sure_letters cd_sure_letters ct_sure_letters), sl_sure_letters⟩) (c_sure_letters : PySem.W.codeIn K cd_sure_letters "sure_letters" = true) (k_sure_letters : PySem.W.keepIn K (.ref a_sure_letters) = true)
    (n_count_in : PySem.W.nsIn K mainGlobals "count_in" = some (some (.ref a_count_in))) (l_count_in : K.lookup a_count_in = some ⟨oc_count_in, od_count_in, .func (PySem.W.fnOf "count_in" "count_in" (defArgs s_count_in) (defBody s_count_in) (defScope s_count_in) .none kV_count_in dc_count_in pm_count_in an_count_in cd_count_in ct_count_in), sl_count_in⟩) (c_count_in : PySem.W.codeIn K cd_count_in "count_in" = true) (k_count_in : PySem.W.keepIn K (.ref a_count_in) = true)
    (n_how_often_to : PySem.W.nsIn K mainGlobals "how_often_to" = some (some (.ref a_how_often_to))) (l_how_often_to : K.lookup a_how_often_to = some ⟨oc_how_often_to, od_how_often_to, .func (PySem.W.fnOf "how_often_to" "how_often_to" (defArgs s_how_often_to) (defBody s_how_often_to) (defScope s_how_often_to) .none kV_how_often_to dc_how_often_to pm_how_often_to an_how_often_to cd_how_often_to ct_how_often_to), sl_how_often_to⟩) (c_how_often_to : PySem.W.codeIn K cd_how_often_to "how_often_to" = true) (k_how_often_to : PySem.W.keepIn K (.ref a_how_often_to) = true)
    (n_next_with : PySem.W.nsIn K mainGlobals "next_with" = some (some (.ref a_next_with))) (l_next_with : K.lookup a_next_with = some ⟨oc_next_with, od_next_with, .func (PySem.W.fnOf "next_with" "next_with" (defArgs s_next_with) (defBody s_next_with) (defScope s_next_with) .none kV_next_with dc_next_with pm_next_with an_next_with cd_next_with ct_next_with), sl_next_with⟩) (c_next_with : PySem.W.codeIn K cd_next_with "next_with" = true) (k_next_with : PySem.W.keepIn K (.ref a_next_with) = true)
    (n_law_box : PySem.W.nsIn K mainGlobals "_law_box" = some (some (.ref a_law_box))) (l_law_box : K.lookup a_law_box = some ⟨oc_law_box, od_law_box, .func (PySem.W.fnOf "_law_box" "_law_box" (defArgs s_law_box) (defBody s_law_box) (defScope s_law_box) .none kV_law_box dc_law_box pm_law_box an_law_box cd_law_box ct_law_box), sl_law_box⟩) (c_law_box : PySem.W.codeIn K cd_law_box "_law_box" = true) (k_law_box : PySem.W.keepIn K (.ref a_law_box) = true)
    (n_law_take : PySem.W.nsIn K mainGlobals "_law_take" = some (some (.ref a_law_take))) (l_law_take : K.lookup a_law_take = some ⟨oc_law_take, od_law_take, .func (PySem.W.fnOf "_law_take" "_law_take" (defArgs s_law_take) (defBody s_law_take) (defScope s_law_take) .none kV_law_take dc_law_take pm_law_take an_law_take cd_law_take ct_law_take), sl_law_take⟩) (c_law_take : PySem.W.codeIn K cd_law_take "_law_take" = true) (k_law_take : PySem.W.keepIn K (.ref a_law_take) = true)
    (n_law_cells : PySem.W.nsIn K mainGlobals "_law_cells" = some (some (.ref a_law_cells))) (l_law_cells : K.lookup a_law_cells = some ⟨oc_law_cells, od_law_cells, .func (PySem.W.fnOf "_law_cells" "_law_cells" (defArgs s_law_cells) (defBody s_law_cells) (defScope s_law_cells) .none kV_law_cells dc_law_cells pm_law_cells an_law_cells cd_law_cells ct_law_cells), sl_law_cells⟩) (c_law_cells : PySem.W.codeIn K cd_law_cells "_law_cells" = true) (k_law_cells : PySem.W.keepIn K (.ref a_law_cells) = true)
    (n_law_same : PySem.W.nsIn K mainGlobals "_law_same" = some (some (.ref a_law_same))) (l_law_same : K.lookup a_law_same = some ⟨oc_law_same, od_law_same, .func (PySem.W.fnOf "_law_same" "_law_same" (defArgs s_law_same) (defBody s_law_same) (defScope s_law_same) .none kV_law_same dc_law_same pm_law_same an_law_same cd_law_same ct_law_same), sl_law_same⟩) (c_law_same : PySem.W.codeIn K cd_law_same "_law_same" = true) (k_law_same : PySem.W.keepIn K (.ref a_law_same) = true)
    (n_law_lists : PySem.W.nsIn K mainGlobals "_law_lists" = some (some (.ref a_law_lists))) (l_law_lists : K.lookup a_law_lists = some ⟨oc_law_lists, od_law_lists, .func (PySem.W.fnOf "_law_lists" "_law_lists" (defArgs s_law_lists) (defBody s_law_lists) (defScope s_law_lists) .none kV_law_lists dc_law_lists pm_law_lists an_law_lists cd_law_lists ct_law_lists), sl_law_lists⟩) (c_law_lists : PySem.W.codeIn K cd_law_lists "_law_lists" = true) (k_law_lists : PySem.W.keepIn K (.ref a_law_lists) = true)
    (n_law_of : PySem.W.nsIn K mainGlobals "_law_of" = some (some (.ref a_law_of))) (l_law_of : K.lookup a_law_of = some ⟨oc_law_of, od_law_of, .func (PySem.W.fnOf "_law_of" "_law_of" (defArgs s_law_of) (defBody s_law_of) (defScope s_law_of) .none kV_law_of dc_law_of pm_law_of an_law_of cd_law_of ct_law_of), sl_law_of⟩) (c_law_of : PySem.W.codeIn K cd_law_of "_law_of" = true) (k_law_of : PySem.W.keepIn K (.ref a_law_of) = true)
    (n_law_gap_subsets : PySem.W.nsIn K mainGlobals "_law_gap_subsets" = some (some (.ref a_law_gap_subsets))) (l_law_gap_subsets : K.lookup a_law_gap_subsets = some ⟨oc_law_gap_subsets, od_law_gap_subsets, .func (PySem.W.fnOf "_law_gap_subsets" "_law_gap_subsets" (defArgs s_law_gap_subsets) (defBody s_law_gap_subsets) (defScope s_law_gap_subsets) .none kV_law_gap_subsets dc_law_gap_subsets pm_law_gap_subsets an_law_gap_subsets cd_law_gap_subsets ct_law_gap_subsets), sl_law_gap_subsets⟩) (c_law_gap_subsets : PySem.W.codeIn K cd_law_gap_subsets "_law_gap_subsets" = true) (k_law_gap_subsets : PySem.W.keepIn K (.ref a_law_gap_subsets) = true)
    (n_law_row : PySem.W.nsIn K mainGlobals "_law_row" = some (some (.ref a_law_row))) (l_law_row : K.lookup a_law_row = some ⟨oc_law_row, od_law_row, .func (PySem.W.fnOf "_law_row" "_law_row" (defArgs s_law_row) (defBody s_law_row) (defScope s_law_row) .none kV_law_row dc_law_row pm_law_row an_law_row cd_law_row ct_law_row), sl_law_row⟩) (c_law_row : PySem.W.codeIn K cd_law_row "_law_row" = true) (k_law_row : PySem.W.keepIn K (.ref a_law_row) = true)
    (n_law_lasso : PySem.W.nsIn K mainGlobals "_law_lasso" = some (some (.ref a_law_lasso))) (l_law_lasso : K.lookup a_law_lasso = some ⟨oc_law_lasso, od_law_lasso, .func (PySem.W.fnOf "_law_lasso" "_law_lasso" (defArgs s_law_lasso) (defBody s_law_lasso) (defScope s_law_lasso) .none kV_law_lasso dc_law_lasso pm_law_lasso an_law_lasso cd_law_lasso ct_law_lasso), sl_law_lasso⟩) (c_law_lasso : PySem.W.codeIn K cd_law_lasso "_law_lasso" = true) (k_law_lasso : PySem.W.keepIn K (.ref a_law_lasso) = true)
    (n_law_sets : PySem.W.nsIn K mainGlobals "_law_sets" = some (some (.ref a_law_sets))) (l_law_sets : K.lookup a_law_sets = some ⟨oc_law_sets, od_law_sets, .func (PySem.W.fnOf "_law_sets" "_law_sets" (defArgs s_law_sets) (defBody s_law_sets) (defScope s_law_sets) .none kV_law_sets dc_law_sets pm_law_sets an_law_sets cd_law_sets ct_law_sets), sl_law_sets⟩) (c_law_sets : PySem.W.codeIn K cd_law_sets "_law_sets" = true) (k_law_sets : PySem.W.keepIn K (.ref a_law_sets) = true)
    (n_law : PySem.W.nsIn K mainGlobals "law" = some (some (.ref a_law))) (l_law : K.lookup a_law = some ⟨oc_law, od_law, .func (PySem.W.fnOf "law" "law" (defArgs s_law) (defBody s_law) (defScope s_law) .none kV_law dc_law pm_law an_law cd_law ct_law), sl_law⟩) (c_law : PySem.W.codeIn K cd_law "law" = true) (k_law : PySem.W.keepIn K (.ref a_law) = true)
    (z_isinstance : PySem.W.nsIn K mainGlobals "isinstance" = some none)
    (z_bool : PySem.W.nsIn K mainGlobals "bool" = some none)
    (z_int : PySem.W.nsIn K mainGlobals "int" = some none)
    (z_list : PySem.W.nsIn K mainGlobals "list" = some none)
    (z_tuple : PySem.W.nsIn K mainGlobals "tuple" = some none)
    (z_len : PySem.W.nsIn K mainGlobals "len" = some none)
    (z_all : PySem.W.nsIn K mainGlobals "all" = some none)
    (z_zip : PySem.W.nsIn K mainGlobals "zip" = some none)
    (z_range : PySem.W.nsIn K mainGlobals "range" = some none)
    (z_max : PySem.W.nsIn K mainGlobals "max" = some none)
    (z_sorted : PySem.W.nsIn K mainGlobals "sorted" = some none)
    (z_set : PySem.W.nsIn K mainGlobals "set" = some none)
    (z_abs : PySem.W.nsIn K mainGlobals "abs" = some none)
    (z_enumerate : PySem.W.nsIn K mainGlobals "enumerate" = some none)
    (z_str : PySem.W.nsIn K mainGlobals "str" = some none)
    (v_MOST_WIDE : PySem.W.nsIn K mainGlobals "MOST_WIDE" = some (some (.int 3 t_MOST_WIDE)))
    (x_MOST_PLACE : GlobIs l.prog w K mg "MOST_PLACE" c_MOST_PLACE)
    (v_MOST_BEGINNING : PySem.W.nsIn K mainGlobals "MOST_BEGINNING" = some (some (.int 2000 t_MOST_BEGINNING))) :
    ∃ fd : FuncData, (∀ (s : Shared) (v : Value), BindsTo s fd ⟨[v], []⟩ [("script", v)]) ∧ ∀ base : Heap, K.In base → base.Ns mainGlobals mg → FnOk l.prog w K mg base (L2.CX l.prog w) 12 fa fd ["script"] (spL K (lawGood f_law b_law 20)) := by
  have e := hfa.symm.trans (PySem.W.mg_of X G n_law)
  cases e
  refine ⟨PySem.W.fnOf "law" "law" (defArgs s_law) (defBody s_law) (defScope s_law) .none kV_law dc_law pm_law an_law cd_law ct_law, fun s v => .of_eq rfl, fun base _ _ => ?_⟩
  have h_isinstance := PySem.W.mg_none_of X G z_isinstance
  have h_bool := PySem.W.mg_none_of X G z_bool
  have h_int := PySem.W.mg_none_of X G z_int
  have h_list := PySem.W.mg_none_of X G z_list
  have h_tuple := PySem.W.mg_none_of X G z_tuple
  have h_len := PySem.W.mg_none_of X G z_len
  have h_all := PySem.W.mg_none_of X G z_all
  have h_zip := PySem.W.mg_none_of X G z_zip
  have h_range := PySem.W.mg_none_of X G z_range
  have h_max := PySem.W.mg_none_of X G z_max
  have h_sorted := PySem.W.mg_none_of X G z_sorted
  have h_set := PySem.W.mg_none_of X G z_set
  have h_abs := PySem.W.mg_none_of X G z_abs
  have h_enumerate := PySem.W.mg_none_of X G z_enumerate
  have h_str := PySem.W.mg_none_of X G z_str
  have g_MOST_WIDE : GlobIs l.prog w K mg "MOST_WIDE" c_MOST_WIDE := globIs_int (PySem.W.mg_of X G v_MOST_WIDE)
  have g_MOST_PLACE := x_MOST_PLACE
  have g_MOST_BEGINNING : GlobIs l.prog w K mg "MOST_BEGINNING" c_MOST_BEGINNING := globIs_int (PySem.W.mg_of X G v_MOST_BEGINNING)
  have U_is_number := fun_mk (st := s_is_number) l_is_number c_is_number k_is_number
  have B_is_number := U_is_number.binds (ps := ["thing"]) fun _ _ _ _ _ _ us hl => match us, hl with | [_], _ => rfl
  have F_is_number : Fn l.prog w K mg base "is_number" 1 1 m_is_number := ok_is_number U_is_number (PySem.W.mg_of X G n_is_number) B_is_number h_isinstance h_bool h_int
  have U_tuple_of := fun_mk (st := s_tuple_of) l_tuple_of c_tuple_of k_tuple_of
  have B_tuple_of := U_tuple_of.binds (ps := ["thing"]) fun _ _ _ _ _ _ us hl => match us, hl with | [_], _ => rfl
  have F_tuple_of : Fn l.prog w K mg base "tuple_of" 9 1 (m_tuple_of 8) := ok_tuple_of U_tuple_of (PySem.W.mg_of X G n_tuple_of) B_tuple_of h_isinstance h_list h_tuple 8
  have U_is_tuple_of := fun_mk (st := s_is_tuple_of) l_is_tuple_of c_is_tuple_of k_is_tuple_of
  have B_is_tuple_of := U_is_tuple_of.binds (ps := ["thing", "many"]) fun _ _ _ _ _ _ us hl => match us, hl with | [_, _], _ => rfl
  have F_is_tuple_of : Fn l.prog w K mg base "is_tuple_of" 1 2 m_is_tuple_of := ok_is_tuple_of U_is_tuple_of (PySem.W.mg_of X G n_is_tuple_of) B_is_tuple_of h_len h_isinstance h_tuple
  have U_is_letter := fun_mk (st := s_is_letter) l_is_letter c_is_letter k_is_letter
  have B_is_letter := U_is_letter.binds (ps := ["wide", "thing"]) fun _ _ _ _ _ _ us hl => match us, hl with | [_, _], _ => rfl
  have F_is_letter : Fn l.prog w K mg base "is_letter" 2 2 m_is_letter := ok_is_letter U_is_letter (PySem.W.mg_of X G n_is_letter) B_is_letter F_is_number
  have U_is_text := fun_mk (st := s_is_text) l_is_text c_is_text k_is_text
  have B_is_text := U_is_text.binds (ps := ["wide", "thing"]) fun _ _ _ _ _ _ us hl => match us, hl with | [_, _], _ => rfl
  have F_is_text : Fn l.prog w K mg base "is_text" 3 2 m_is_text := ok_is_text U_is_text (PySem.W.mg_of X G n_is_text) B_is_text h_all h_isinstance h_tuple F_is_letter
  have U_is_letters := fun_mk (st := s_is_letters) l_is_letters c_is_letters k_is_letters
  have B_is_letters := U_is_letters.binds (ps := ["wide", "thing"]) fun _ _ _ _ _ _ us hl => match us, hl with | [_, _], _ => rfl
  have F_is_letters : Fn l.prog w K mg base "is_letters" 4 2 m_is_letters := ok_is_letters U_is_letters (PySem.W.mg_of X G n_is_letters) B_is_letters h_all h_zip F_is_text
  have U_sure_wide_of := fun_mk (st := s_sure_wide_of) l_sure_wide_of c_sure_wide_of k_sure_wide_of
  have B_sure_wide_of := U_sure_wide_of.binds (ps := ["wide"]) fun _ _ _ _ _ _ us hl => match us, hl with | [_], _ => rfl
  have F_sure_wide_of : Fn l.prog w K mg base "sure_wide_of" 2 1 m_sure_wide_of := ok_sure_wide_of U_sure_wide_of (PySem.W.mg_of X G n_sure_wide_of) B_sure_wide_of g_MOST_WIDE F_is_number
  have U_is_lasso_form := fun_mk (st := s_is_lasso_form) l_is_lasso_form c_is_lasso_form k_is_lasso_form
  have B_is_lasso_form := U_is_lasso_form.binds (ps := ["wide", "thing"]) fun _ _ _ _ _ _ us hl => match us, hl with | [_, _], _ => rfl
  have F_is_lasso_form : Fn l.prog w K mg base "is_lasso_form" 4 2 m_is_lasso_form := ok_is_lasso_form U_is_lasso_form (PySem.W.mg_of X G n_is_lasso_form) B_is_lasso_form h_all F_is_text F_is_tuple_of
  have U_sure_lasso := fun_mk (st := s_sure_lasso) l_sure_lasso c_sure_lasso k_sure_lasso
  have B_sure_lasso := U_sure_lasso.binds (ps := ["wide", "lasso"]) fun _ _ _ _ _ _ us hl => match us, hl with | [_, _], _ => rfl
  have F_sure_lasso : Fn l.prog w K mg base "sure_lasso" 10 2 m_sure_lasso := ok_sure_lasso U_sure_lasso (PySem.W.mg_of X G n_sure_lasso) B_sure_lasso F_is_lasso_form F_tuple_of F_sure_wide_of
  have U_sure_many := fun_mk (st := s_sure_many) l_sure_many c_sure_many k_sure_many
  have B_sure_many := U_sure_many.binds (ps := ["many", "most"]) fun _ _ _ _ _ _ us hl => match us, hl with | [_, _], _ => rfl
  have F_sure_many : Fn l.prog w K mg base "sure_many" 2 2 m_sure_many := ok_sure_many U_sure_many (PySem.W.mg_of X G n_sure_many) B_sure_many F_is_number
  have U_shortest_round := fun_mk (st := s_shortest_round) l_shortest_round c_shortest_round k_shortest_round
  have B_shortest_round := U_shortest_round.binds (ps := ["round_so"]) fun _ _ _ _ _ _ us hl => match us, hl with | [_], _ => rfl
  have F_shortest_round : Fn l.prog w K mg base "shortest_round" 1 1 m_shortest_round := ok_shortest_round U_shortest_round (PySem.W.mg_of X G n_shortest_round) B_shortest_round h_range h_len
  have U_short_in := fun_mk (st := s_short_in) l_short_in c_short_in k_short_in
  have B_short_in := U_short_in.binds (ps := ["ahead", "round_so"]) fun _ _ _ _ _ _ us hl => match us, hl with | [_, _], _ => rfl
  have F_short_in : Fn l.prog w K mg base "short_in" 2 2 m_short_in := ok_short_in U_short_in (PySem.W.mg_of X G n_short_in) B_short_in F_shortest_round
  have U_lasso_short := fun_mk (st := s_lasso_short) l_lasso_short c_lasso_short k_lasso_short
  have B_lasso_short := U_lasso_short.binds (ps := ["lasso"]) fun _ _ _ _ _ _ us hl => match us, hl with | [_], _ => rfl
  have F_lasso_short : Fn l.prog w K mg base "lasso_short" 11 1 m_lasso_short := ok_lasso_short U_lasso_short (PySem.W.mg_of X G n_lasso_short) B_lasso_short g_MOST_WIDE F_short_in F_sure_lasso
  have U_is_short := fun_mk (st := s_is_short) l_is_short c_is_short k_is_short
  have B_is_short := U_is_short.binds (ps := ["lasso"]) fun _ _ _ _ _ _ us hl => match us, hl with | [_], _ => rfl
  have F_is_short : Fn l.prog w K mg base "is_short" 11 1 m_is_short := ok_is_short U_is_short (PySem.W.mg_of X G n_is_short) B_is_short g_MOST_WIDE F_short_in F_sure_lasso
  have U_same_endless := fun_mk (st := s_same_endless) l_same_endless c_same_endless k_same_endless
  have B_same_endless := U_same_endless.binds (ps := ["one", "other"]) fun _ _ _ _ _ _ us hl => match us, hl with | [_, _], _ => rfl
  have F_same_endless : Fn l.prog w K mg base "same_endless" 11 2 m_same_endless := ok_same_endless U_same_endless (PySem.W.mg_of X G n_same_endless) B_same_endless g_MOST_WIDE F_short_in F_sure_lasso
  have U_entry_at := fun_mk (st := s_entry_at) l_entry_at c_entry_at k_entry_at
  have B_entry_at := U_entry_at.binds (ps := ["ahead", "round_so", "place"]) fun _ _ _ _ _ _ us hl => match us, hl with | [_, _, _], _ => rfl
  have F_entry_at : Fn l.prog w K mg base "entry_at" 1 3 m_entry_at := ok_entry_at U_entry_at (PySem.W.mg_of X G n_entry_at) B_entry_at h_len
  have U_sure_spot := fun_mk (st := s_sure_spot) l_sure_spot c_sure_spot k_sure_spot
  have B_sure_spot := U_sure_spot.binds (ps := ["place"]) fun _ _ _ _ _ _ us hl => match us, hl with | [_], _ => rfl
  have F_sure_spot : Fn l.prog w K mg base "sure_spot" 3 1 m_sure_spot := ok_sure_spot U_sure_spot (PySem.W.mg_of X G n_sure_spot) B_sure_spot g_MOST_PLACE F_sure_many
  have U_letter_at := fun_mk (st := s_letter_at) l_letter_at c_letter_at k_letter_at
  have B_letter_at := U_letter_at.binds (ps := ["lasso", "place"]) fun _ _ _ _ _ _ us hl => match us, hl with | [_, _], _ => rfl
  have F_letter_at : Fn l.prog w K mg base "letter_at" 11 2 m_letter_at := ok_letter_at U_letter_at (PySem.W.mg_of X G n_letter_at) B_letter_at g_MOST_WIDE F_entry_at F_sure_spot F_sure_lasso
  have U_first_letters := fun_mk (st := s_first_letters) l_first_letters c_first_letters k_first_letters
  have B_first_letters := U_first_letters.binds (ps := ["own", "many"]) fun _ _ _ _ _ _ us hl => match us, hl with | [_, _], _ => rfl
  have F_first_letters : Fn l.prog w K mg base "first_letters" 2 2 m_first_letters := ok_first_letters U_first_letters (PySem.W.mg_of X G n_first_letters) B_first_letters h_tuple h_range F_entry_at
  have U_beginning := fun_mk (st := s_beginning) l_beginning c_beginning k_beginning
  have B_beginning := U_beginning.binds (ps := ["lasso", "many"]) fun _ _ _ _ _ _ us hl => match us, hl with | [_, _], _ => rfl
  have F_beginning : Fn l.prog w K mg base "beginning" 11 2 m_beginning := ok_beginning U_beginning (PySem.W.mg_of X G n_beginning) B_beginning g_MOST_BEGINNING g_MOST_WIDE F_first_letters F_sure_many F_sure_lasso
  have U_moved_on := fun_mk (st := s_moved_on) l_moved_on c_moved_on k_moved_on
  have B_moved_on := U_moved_on.binds (ps := ["lasso", "many"]) fun _ _ _ _ _ _ us hl => match us, hl with | [_, _], _ => rfl
  have F_moved_on : Fn l.prog w K mg base "moved_on" 11 2 m_moved_on := ok_moved_on U_moved_on (PySem.W.mg_of X G n_moved_on) B_moved_on h_len g_MOST_PLACE g_MOST_WIDE F_short_in F_sure_many F_sure_lasso
  have U_put_ahead := fun_mk (st := s_put_ahead) l_put_ahead c_put_ahead k_put_ahead
  have B_put_ahead := U_put_ahead.binds (ps := ["text", "lasso"]) fun _ _ _ _ _ _ us hl => match us, hl with | [_, _], _ => rfl
  have F_put_ahead : Fn l.prog w K mg base "put_ahead" 11 2 m_put_ahead := ok_put_ahead U_put_ahead (PySem.W.mg_of X G n_put_ahead) B_put_ahead g_MOST_WIDE F_short_in F_is_text F_tuple_of F_sure_lasso
  have U_first_apart := fun_mk (st := s_first_apart) l_first_apart c_first_apart k_first_apart
  have B_first_apart := U_first_apart.binds (ps := ["one", "other"]) fun _ _ _ _ _ _ us hl => match us, hl with | [_, _], _ => rfl
  have F_first_apart : Fn l.prog w K mg base "first_apart" 11 2 m_first_apart := ok_first_apart U_first_apart (PySem.W.mg_of X G n_first_apart) B_first_apart h_range h_max h_len g_MOST_WIDE F_entry_at F_sure_lasso
  have U_endless_letters := fun_mk (st := s_endless_letters) l_endless_letters c_endless_letters k_endless_letters
  have B_endless_letters := U_endless_letters.binds (ps := ["lasso"]) fun _ _ _ _ _ _ us hl => match us, hl with | [_], _ => rfl
  have F_endless_letters : Fn l.prog w K mg base "endless_letters" 11 1 m_endless_letters := ok_endless_letters U_endless_letters (PySem.W.mg_of X G n_endless_letters) B_endless_letters h_tuple h_sorted h_set g_MOST_WIDE F_sure_lasso
  have U_sure_letters := fun_mk (st := s_sure_letters) l_sure_letters c_sure_letters k_sure_letters
  have B_sure_letters := U_sure_letters.binds (ps := ["letters"]) fun _ _ _ _ _ _ us hl => match us, hl with | [_], _ => rfl
  have F_sure_letters : Fn l.prog w K mg base "sure_letters" 10 1 m_sure_letters := ok_sure_letters U_sure_letters (PySem.W.mg_of X G n_sure_letters) B_sure_letters g_MOST_WIDE F_is_letters F_tuple_of
  have U_count_in := fun_mk (st := s_count_in) l_count_in c_count_in k_count_in
  have B_count_in := U_count_in.binds (ps := ["row", "some"]) fun _ _ _ _ _ _ us hl => match us, hl with | [_, _], _ => rfl
  have F_count_in : Fn l.prog w K mg base "count_in" 1 2 m_count_in := ok_count_in U_count_in (PySem.W.mg_of X G n_count_in) B_count_in h_len
  have U_how_often_to := fun_mk (st := s_how_often_to) l_how_often_to c_how_often_to k_how_often_to
  have B_how_often_to := U_how_often_to.binds (ps := ["lasso", "letters", "many"]) fun _ _ _ _ _ _ us hl => match us, hl with | [_, _, _], _ => rfl
  have F_how_often_to : Fn l.prog w K mg base "how_often_to" 11 3 m_how_often_to := ok_how_often_to U_how_often_to (PySem.W.mg_of X G n_how_often_to) B_how_often_to h_len g_MOST_PLACE g_MOST_WIDE F_count_in F_sure_many F_sure_letters F_sure_lasso
  have U_next_with := fun_mk (st := s_next_with) l_next_with c_next_with k_next_with
  have B_next_with := U_next_with.binds (ps := ["lasso", "letters", "place"]) fun _ _ _ _ _ _ us hl => match us, hl with | [_, _, _], _ => rfl
  have F_next_with : Fn l.prog w K mg base "next_with" 11 3 m_next_with := ok_next_with U_next_with (PySem.W.mg_of X G n_next_with) B_next_with h_range h_len g_MOST_PLACE g_MOST_WIDE F_entry_at F_sure_many F_sure_letters F_sure_lasso
  have U_law_box := fun_mk (st := s_law_box) l_law_box c_law_box k_law_box
  have B_law_box := U_law_box.binds (ps := ["script", "k"]) fun _ _ _ _ _ _ us hl => match us, hl with | [_, _], _ => rfl
  have F_law_box : Fn l.prog w K mg base "_law_box" 1 2 m_law_box := ok_law_box U_law_box (PySem.W.mg_of X G n_law_box) B_law_box h_int h_abs h_len
  have U_law_take := fun_mk (st := s_law_take) l_law_take c_law_take k_law_take
  have B_law_take := U_law_take.binds (ps := ["tin", "below"]) fun _ _ _ _ _ _ us hl => match us, hl with | [_, _], _ => rfl
  have F_law_take : Fn l.prog w K mg base "_law_take" 1 2 m_law_take := ok_law_take U_law_take (PySem.W.mg_of X G n_law_take) B_law_take h_int
  have U_law_cells := fun_mk (st := s_law_cells) l_law_cells c_law_cells k_law_cells
  have B_law_cells := U_law_cells.binds (ps := ["script", "most"]) fun _ _ _ _ _ _ us hl => match us, hl with | [_, _], _ => rfl
  have F_law_cells : Fn l.prog w K mg base "_law_cells" 1 2 m_law_cells := ok_law_cells U_law_cells (PySem.W.mg_of X G n_law_cells) B_law_cells h_enumerate h_int h_list
  have U_law_same := fun_mk (st := s_law_same) l_law_same c_law_same k_law_same
  have B_law_same := U_law_same.binds (ps := ["got", "goal"]) fun _ _ _ _ _ _ us hl => match us, hl with | [_, _], _ => rfl
  have F_law_same : Fn l.prog w K mg base "_law_same" 9 2 (m_law_same 8) := ok_law_same U_law_same (PySem.W.mg_of X G n_law_same) B_law_same h_isinstance h_bool h_int h_str h_list h_tuple h_all h_zip h_len 8
  have U_law_lists := fun_mk (st := s_law_lists) l_law_lists c_law_lists k_law_lists
  have B_law_lists := U_law_lists.binds (ps := ["matter"]) fun _ _ _ _ _ _ us hl => match us, hl with | [_], _ => rfl
  have F_law_lists : Fn l.prog w K mg base "_law_lists" 9 1 (m_law_lists 8) := ok_law_lists U_law_lists (PySem.W.mg_of X G n_law_lists) B_law_lists h_isinstance h_list h_tuple 8
  have U_law_of := fun_mk (st := s_law_of) l_law_of c_law_of k_law_of
  have B_law_of := U_law_of.binds (ps := ["tin", "goods"]) fun _ _ _ _ _ _ us hl => match us, hl with | [_, _], _ => rfl
  have F_law_of : Fn l.prog w K mg base "_law_of" 2 2 m_law_of := ok_law_of U_law_of (PySem.W.mg_of X G n_law_of) B_law_of h_len F_law_take
  have U_law_gap_subsets := fun_mk (st := s_law_gap_subsets) l_law_gap_subsets c_law_gap_subsets k_law_gap_subsets
  have B_law_gap_subsets := U_law_gap_subsets.binds (ps := ["some"]) fun _ _ _ _ _ _ us hl => match us, hl with | [_], _ => rfl
  have F_law_gap_subsets : Fn l.prog w K mg base "_law_gap_subsets" 1 1 m_law_gap_subsets := ok_law_gap_subsets U_law_gap_subsets (PySem.W.mg_of X G n_law_gap_subsets) B_law_gap_subsets
  have U_law_row := fun_mk (st := s_law_row) l_law_row c_law_row k_law_row
  have B_law_row := U_law_row.binds (ps := ["tin", "wide", "many"]) fun _ _ _ _ _ _ us hl => match us, hl with | [_, _, _], _ => rfl
  have F_law_row : Fn l.prog w K mg base "_law_row" 2 3 m_law_row := ok_law_row U_law_row (PySem.W.mg_of X G n_law_row) B_law_row h_tuple h_range F_law_take
  have U_law_lasso := fun_mk (st := s_law_lasso) l_law_lasso c_law_lasso k_law_lasso
  have B_law_lasso := U_law_lasso.binds (ps := ["tin", "wide", "ahead", "back"]) fun _ _ _ _ _ _ us hl => match us, hl with | [_, _, _, _], _ => rfl
  have F_law_lasso : Fn l.prog w K mg base "_law_lasso" 3 4 m_law_lasso := ok_law_lasso U_law_lasso (PySem.W.mg_of X G n_law_lasso) B_law_lasso F_law_row F_law_take
  have U_law_sets := fun_mk (st := s_law_sets) l_law_sets c_law_sets k_law_sets
  have B_law_sets := U_law_sets.binds (ps := ["wide"]) fun _ _ _ _ _ _ us hl => match us, hl with | [_], _ => rfl
  have F_law_sets : Fn l.prog w K mg base "_law_sets" 2 1 m_law_sets := ok_law_sets U_law_sets (PySem.W.mg_of X G n_law_sets) B_law_sets h_sorted h_list h_range h_tuple F_law_gap_subsets
  have U_law := fun_mk (st := s_law) l_law c_law k_law
  exact ok_law U_law h_tuple h_list h_sorted h_set h_range h_len h_int F_law_box F_law_cells F_law_same F_first_apart F_same_endless F_put_ahead F_moved_on F_beginning F_law_take F_endless_letters F_lasso_short F_letter_at F_is_short F_next_with F_how_often_to F_law_lists F_law_of F_law_sets F_law_lasso
end K39
end

section
set_option Elab.async false
set_option linter.all false
set_option maxRecDepth 100000
set_option maxHeartbeats 4000000
open PySem PySem.Spec PyProof.Rows L2 DL
namespace K39
theorem v_is_number (i : Int) : m_is_number [.int i] = M.pure (.bl true) := rfl
theorem v_tuple_int (n : Nat) (i : Int) : m_tuple_of (n + 1) [.int i] = M.pure (.int i) := rfl
theorem v_tuple_tup {α : Type} {n : Nat} {j t : α → D} {xs : List α} (hl : xs.length ≤ sizeLine) (h : ∀ x ∈ xs, m_tuple_of n [j x] = M.pure (t x)) : m_tuple_of (n + 1) [.tup (xs.map j)] = M.pure (.tup (xs.map t)) := by
  have hc : compM (gN 1) bYes (dCall 1 (m_tuple_of n) (aCons (dVar 1) aNil)) (xs.map j) [.d (.tup (xs.map j)), .un] = M.pure (xs.map t) := compM_ints xs fun x hx => by
    simp [DL.sSeq, DL.seqO, DL.sIf, DL.sRet, DL.sSet, DL.sExpr, DL.sNo, DL.sNil, DL.sMany, DL.setS, DL.sAsg, DL.bO_pure, DL.dVar, DL.dC, DL.dOp, DL.dCB, DL.dCall, DL.aCons, DL.aNil, DL.dB, DL.bAnd, DL.bOr, DL.bNot, DL.dAnd, DL.dOr, DL.dNot, DL.dNeg, DL.dChain, DL.dIsi, DL.dIsi2, DL.tyD, DL.Ty.isa, DL.dSlice, DL.pNone, DL.pSome, DL.dTup, DL.dOf, DL.fLst, DL.fComp, DL.fItems, DL.wipeS, DL.iSeq, DL.iR1, DL.iR2, DL.iZip, DL.itemsD, DL.xVal, DL.xNil, DL.dIf, DL.gN, DL.gT, DL.gsN, DL.gsC, DL.aStar, DL.M.pure_bind, DL.M.lift_some, DL.toB_bl, DL.toI_int, DL.ltD_int, DL.leD_int, DL.gtD_int, DL.geD_int, DL.subD_int, DL.addD_int, DL.negD_int, DL.maxD_int, DL.eqD_int, DL.neD_int, DL.eqD_tN, DL.neD_tN, DL.neD_tN0, DL.inD_tN, DL.slD_tN, DL.lenD_tN, DL.fits_map, DL.fits_nil, h x hx]
  refine runG_rt rfl fun τ => ?_
  simp [b_tuple_of, DL.sSeq, DL.seqO, DL.sIf, DL.sRet, DL.sSet, DL.sExpr, DL.sNo, DL.sNil, DL.sMany, DL.setS, DL.sAsg, DL.bO_pure, DL.dVar, DL.dC, DL.dOp, DL.dCB, DL.dCall, DL.aCons, DL.aNil, DL.dB, DL.bAnd, DL.bOr, DL.bNot, DL.dAnd, DL.dOr, DL.dNot, DL.dNeg, DL.dChain, DL.dIsi, DL.dIsi2, DL.tyD, DL.Ty.isa, DL.dSlice, DL.pNone, DL.pSome, DL.dTup, DL.dOf, DL.fLst, DL.fComp, DL.fItems, DL.wipeS, DL.iSeq, DL.iR1, DL.iR2, DL.iZip, DL.itemsD, DL.xVal, DL.xNil, DL.dIf, DL.gN, DL.gT, DL.gsN, DL.gsC, DL.aStar, DL.M.pure_bind, DL.M.lift_some, DL.toB_bl, DL.toI_int, DL.ltD_int, DL.leD_int, DL.gtD_int, DL.geD_int, DL.subD_int, DL.addD_int, DL.negD_int, DL.maxD_int, DL.eqD_int, DL.neD_int, DL.eqD_tN, DL.neD_tN, DL.neD_tN0, DL.inD_tN, DL.slD_tN, DL.lenD_tN, DL.fits_map, DL.fits_nil, hl, hc, tupleD]
theorem v_tuple_lst {α : Type} {n : Nat} {j t : α → D} {xs : List α} (hl : xs.length ≤ sizeLine) (h : ∀ x ∈ xs, m_tuple_of n [j x] = M.pure (t x)) : m_tuple_of (n + 1) [.lst (xs.map j)] = M.pure (.tup (xs.map t)) := by
  have hc : compM (gN 1) bYes (dCall 1 (m_tuple_of n) (aCons (dVar 1) aNil)) (xs.map j) [.d (.lst (xs.map j)), .un] = M.pure (xs.map t) := compM_ints xs fun x hx => by
    simp [DL.sSeq, DL.seqO, DL.sIf, DL.sRet, DL.sSet, DL.sExpr, DL.sNo, DL.sNil, DL.sMany, DL.setS, DL.sAsg, DL.bO_pure, DL.dVar, DL.dC, DL.dOp, DL.dCB, DL.dCall, DL.aCons, DL.aNil, DL.dB, DL.bAnd, DL.bOr, DL.bNot, DL.dAnd, DL.dOr, DL.dNot, DL.dNeg, DL.dChain, DL.dIsi, DL.dIsi2, DL.tyD, DL.Ty.isa, DL.dSlice, DL.pNone, DL.pSome, DL.dTup, DL.dOf, DL.fLst, DL.fComp, DL.fItems, DL.wipeS, DL.iSeq, DL.iR1, DL.iR2, DL.iZip, DL.itemsD, DL.xVal, DL.xNil, DL.dIf, DL.gN, DL.gT, DL.gsN, DL.gsC, DL.aStar, DL.M.pure_bind, DL.M.lift_some, DL.toB_bl, DL.toI_int, DL.ltD_int, DL.leD_int, DL.gtD_int, DL.geD_int, DL.subD_int, DL.addD_int, DL.negD_int, DL.maxD_int, DL.eqD_int, DL.neD_int, DL.eqD_tN, DL.neD_tN, DL.neD_tN0, DL.inD_tN, DL.slD_tN, DL.lenD_tN, DL.fits_map, DL.fits_nil, h x hx]
  refine runG_rt rfl fun τ => ?_
  simp [b_tuple_of, DL.sSeq, DL.seqO, DL.sIf, DL.sRet, DL.sSet, DL.sExpr, DL.sNo, DL.sNil, DL.sMany, DL.setS, DL.sAsg, DL.bO_pure, DL.dVar, DL.dC, DL.dOp, DL.dCB, DL.dCall, DL.aCons, DL.aNil, DL.dB, DL.bAnd, DL.bOr, DL.bNot, DL.dAnd, DL.dOr, DL.dNot, DL.dNeg, DL.dChain, DL.dIsi, DL.dIsi2, DL.tyD, DL.Ty.isa, DL.dSlice, DL.pNone, DL.pSome, DL.dTup, DL.dOf, DL.fLst, DL.fComp, DL.fItems, DL.wipeS, DL.iSeq, DL.iR1, DL.iR2, DL.iZip, DL.itemsD, DL.xVal, DL.xNil, DL.dIf, DL.gN, DL.gT, DL.gsN, DL.gsC, DL.aStar, DL.M.pure_bind, DL.M.lift_some, DL.toB_bl, DL.toI_int, DL.ltD_int, DL.leD_int, DL.gtD_int, DL.geD_int, DL.subD_int, DL.addD_int, DL.negD_int, DL.maxD_int, DL.eqD_int, DL.neD_int, DL.eqD_tN, DL.neD_tN, DL.neD_tN0, DL.inD_tN, DL.slD_tN, DL.lenD_tN, DL.fits_map, DL.fits_nil, hl, hc, tupleD]
theorem v_tuple_ints {n : Nat} {xs : List Int} (hl : xs.length ≤ sizeLine) : m_tuple_of (n + 2) [tN xs] = M.pure (tN xs) := v_tuple_tup hl fun x _ => v_tuple_int n x
theorem v_tuple_lints {n : Nat} {xs : List Int} (hl : xs.length ≤ sizeLine) : m_tuple_of (n + 2) [lN xs] = M.pure (tN xs) := v_tuple_lst hl fun x _ => v_tuple_int n x
theorem v_is_letter (w i : Int) : m_is_letter [.int w, .int i] = M.pure (.bl (decide (1 ≤ i) && decide (i ≤ w))) := by
  refine runG_rt rfl fun τ => ?_
  by_cases h : 1 ≤ i <;> simp [b_is_letter, DL.sSeq, DL.seqO, DL.sIf, DL.sRet, DL.sSet, DL.sExpr, DL.sNo, DL.sNil, DL.sMany, DL.setS, DL.sAsg, DL.bO_pure, DL.dVar, DL.dC, DL.dOp, DL.dCB, DL.dCall, DL.aCons, DL.aNil, DL.dB, DL.bAnd, DL.bOr, DL.bNot, DL.dAnd, DL.dOr, DL.dNot, DL.dNeg, DL.dChain, DL.dIsi, DL.dIsi2, DL.tyD, DL.Ty.isa, DL.dSlice, DL.pNone, DL.pSome, DL.dTup, DL.dOf, DL.fLst, DL.fComp, DL.fItems, DL.wipeS, DL.iSeq, DL.iR1, DL.iR2, DL.iZip, DL.itemsD, DL.xVal, DL.xNil, DL.dIf, DL.gN, DL.gT, DL.gsN, DL.gsC, DL.aStar, DL.M.pure_bind, DL.M.lift_some, DL.toB_bl, DL.toI_int, DL.ltD_int, DL.leD_int, DL.gtD_int, DL.geD_int, DL.subD_int, DL.addD_int, DL.negD_int, DL.maxD_int, DL.eqD_int, DL.neD_int, DL.eqD_tN, DL.neD_tN, DL.neD_tN0, DL.inD_tN, DL.slD_tN, DL.lenD_tN, DL.fits_map, DL.fits_nil, v_is_number, h]
/-- letters of the first w -/
def isT (w : Int) (xs : List Int) : Bool := xs.all fun i => decide (1 ≤ i) && decide (i ≤ w)
theorem v_is_text (w : Int) (xs : List Int) (hl : xs.length ≤ sizeLine) : m_is_text [.int w, tN xs] = M.pure (.bl (isT w xs)) := by
  have hc : compM (gN 2) bYes (dCall 2 m_is_letter (aCons (dVar 0) (aCons (dVar 2) aNil))) (xs.map D.int) [.d (.int w), .d (tN xs), .un] = M.pure (xs.map fun i => D.bl (decide (1 ≤ i) && decide (i ≤ w))) := compM_ints xs fun i _ => by
    simp [DL.sSeq, DL.seqO, DL.sIf, DL.sRet, DL.sSet, DL.sExpr, DL.sNo, DL.sNil, DL.sMany, DL.setS, DL.sAsg, DL.bO_pure, DL.dVar, DL.dC, DL.dOp, DL.dCB, DL.dCall, DL.aCons, DL.aNil, DL.dB, DL.bAnd, DL.bOr, DL.bNot, DL.dAnd, DL.dOr, DL.dNot, DL.dNeg, DL.dChain, DL.dIsi, DL.dIsi2, DL.tyD, DL.Ty.isa, DL.dSlice, DL.pNone, DL.pSome, DL.dTup, DL.dOf, DL.fLst, DL.fComp, DL.fItems, DL.wipeS, DL.iSeq, DL.iR1, DL.iR2, DL.iZip, DL.itemsD, DL.xVal, DL.xNil, DL.dIf, DL.gN, DL.gT, DL.gsN, DL.gsC, DL.aStar, DL.M.pure_bind, DL.M.lift_some, DL.toB_bl, DL.toI_int, DL.ltD_int, DL.leD_int, DL.gtD_int, DL.geD_int, DL.subD_int, DL.addD_int, DL.negD_int, DL.maxD_int, DL.eqD_int, DL.neD_int, DL.eqD_tN, DL.neD_tN, DL.neD_tN0, DL.inD_tN, DL.slD_tN, DL.lenD_tN, DL.fits_map, DL.fits_nil, v_is_letter]
  have ha := allD_map (fun i : Int => decide (1 ≤ i) && decide (i ≤ w)) xs
  refine runG_rt rfl fun τ => ?_
  simp [b_is_text, DL.sSeq, DL.seqO, DL.sIf, DL.sRet, DL.sSet, DL.sExpr, DL.sNo, DL.sNil, DL.sMany, DL.setS, DL.sAsg, DL.bO_pure, DL.dVar, DL.dC, DL.dOp, DL.dCB, DL.dCall, DL.aCons, DL.aNil, DL.dB, DL.bAnd, DL.bOr, DL.bNot, DL.dAnd, DL.dOr, DL.dNot, DL.dNeg, DL.dChain, DL.dIsi, DL.dIsi2, DL.tyD, DL.Ty.isa, DL.dSlice, DL.pNone, DL.pSome, DL.dTup, DL.dOf, DL.fLst, DL.fComp, DL.fItems, DL.wipeS, DL.iSeq, DL.iR1, DL.iR2, DL.iZip, DL.itemsD, DL.xVal, DL.xNil, DL.dIf, DL.gN, DL.gT, DL.gsN, DL.gsC, DL.aStar, DL.M.pure_bind, DL.M.lift_some, DL.toB_bl, DL.toI_int, DL.ltD_int, DL.leD_int, DL.gtD_int, DL.geD_int, DL.subD_int, DL.addD_int, DL.negD_int, DL.maxD_int, DL.eqD_int, DL.neD_int, DL.eqD_tN, DL.neD_tN, DL.neD_tN0, DL.inD_tN, DL.slD_tN, DL.lenD_tN, DL.fits_map, DL.fits_nil, hl, hc, ha, isT]

abbrev lasD (a b : List Int) : D := .tup [tN a, tN b]
abbrev lasL (a b : List Int) : D := .lst [lN a, lN b]
/-- a lasso of the three letters, of a modest size -/
structure Las (a b : List Int) : Prop where
  ta : isT 3 a = true
  tb : isT 3 b = true
  nb : b ≠ []
  la : a.length ≤ 90
  lb : b.length ≤ 90
theorem size_ge : 100000 ≤ sizeLine := by decide
theorem Las.sa {a b : List Int} (h : Las a b) : a.length ≤ sizeLine := Nat.le_trans h.la (by decide)
theorem Las.sb {a b : List Int} (h : Las a b) : b.length ≤ sizeLine := Nat.le_trans h.lb (by decide)
theorem Las.pb {a b : List Int} (h : Las a b) : 0 < b.length := List.length_pos_iff.mpr h.nb
theorem v_tuple_las {n : Nat} {a b : List Int} (ha : a.length ≤ sizeLine) (hb : b.length ≤ sizeLine) : m_tuple_of (n + 3) [lasD a b] = M.pure (lasD a b) :=
  v_tuple_tup (n := n + 2) (j := fun xs => tN xs) (t := fun xs => tN xs) (xs := [a, b]) (by show 2 ≤ sizeLine; decide) fun x hx => v_tuple_ints (by
    rcases List.mem_cons.mp hx with rfl | hx
    · exact ha
    · rw [List.mem_singleton.mp hx]; exact hb)
theorem v_tuple_lasL {n : Nat} {a b : List Int} (ha : a.length ≤ sizeLine) (hb : b.length ≤ sizeLine) : m_tuple_of (n + 3) [lasL a b] = M.pure (lasD a b) :=
  v_tuple_lst (n := n + 2) (j := fun xs => lN xs) (t := fun xs => tN xs) (xs := [a, b]) (by show 2 ≤ sizeLine; decide) fun x hx => v_tuple_lints (by
    rcases List.mem_cons.mp hx with rfl | hx
    · exact ha
    · rw [List.mem_singleton.mp hx]; exact hb)
theorem ix0 (a b : D) : ixD (.tup [a, b]) (.int 0) = some a := rfl
theorem ix1 (a b : D) : ixD (.tup [a, b]) (.int 1) = some b := rfl
theorem v_is_tuple2 (a b : D) : m_is_tuple_of [.tup [a, b], .int 2] = M.pure (.bl true) := by
  refine runG_rt rfl fun τ => ?_
  have : lenD [.tup [a, b]] = some (.int 2) := rfl
  simp [b_is_tuple_of, DL.sSeq, DL.seqO, DL.sIf, DL.sRet, DL.sSet, DL.sExpr, DL.sNo, DL.sNil, DL.sMany, DL.setS, DL.sAsg, DL.bO_pure, DL.dVar, DL.dC, DL.dOp, DL.dCB, DL.dCall, DL.aCons, DL.aNil, DL.dB, DL.bAnd, DL.bOr, DL.bNot, DL.dAnd, DL.dOr, DL.dNot, DL.dNeg, DL.dChain, DL.dIsi, DL.dIsi2, DL.tyD, DL.Ty.isa, DL.dSlice, DL.pNone, DL.pSome, DL.dTup, DL.dOf, DL.fLst, DL.fComp, DL.fItems, DL.wipeS, DL.iSeq, DL.iR1, DL.iR2, DL.iZip, DL.itemsD, DL.xVal, DL.xNil, DL.dIf, DL.gN, DL.gT, DL.gsN, DL.gsC, DL.aStar, DL.M.pure_bind, DL.M.lift_some, DL.toB_bl, DL.toI_int, DL.ltD_int, DL.leD_int, DL.gtD_int, DL.geD_int, DL.subD_int, DL.addD_int, DL.negD_int, DL.maxD_int, DL.eqD_int, DL.neD_int, DL.eqD_tN, DL.neD_tN, DL.neD_tN0, DL.inD_tN, DL.slD_tN, DL.lenD_tN, DL.fits_map, DL.fits_nil, this]
theorem v_is_lasso_form (a b : List Int) (ha : a.length ≤ sizeLine) (hb : b.length ≤ sizeLine) (k1 : isT 3 a = true) (k2 : isT 3 b = true) (k3 : b ≠ []) : m_is_lasso_form [.int 3, lasD a b] = M.pure (.bl true) := by
  have hc : compM (gN 2) bYes (dCall 2 m_is_text (aCons (dVar 0) (aCons (dVar 2) aNil))) [tN a, tN b] [.d (.int 3), .d (lasD a b), .un] = M.pure ([a, b].map fun xs => D.bl (isT 3 xs)) := compM_ints (j := fun xs => tN xs) [a, b] fun xs hx => by
    have : xs.length ≤ sizeLine := by
      rcases List.mem_cons.mp hx with rfl | hx
      · exact ha
      · rw [List.mem_singleton.mp hx]; exact hb
    simp [DL.sSeq, DL.seqO, DL.sIf, DL.sRet, DL.sSet, DL.sExpr, DL.sNo, DL.sNil, DL.sMany, DL.setS, DL.sAsg, DL.bO_pure, DL.dVar, DL.dC, DL.dOp, DL.dCB, DL.dCall, DL.aCons, DL.aNil, DL.dB, DL.bAnd, DL.bOr, DL.bNot, DL.dAnd, DL.dOr, DL.dNot, DL.dNeg, DL.dChain, DL.dIsi, DL.dIsi2, DL.tyD, DL.Ty.isa, DL.dSlice, DL.pNone, DL.pSome, DL.dTup, DL.dOf, DL.fLst, DL.fComp, DL.fItems, DL.wipeS, DL.iSeq, DL.iR1, DL.iR2, DL.iZip, DL.itemsD, DL.xVal, DL.xNil, DL.dIf, DL.gN, DL.gT, DL.gsN, DL.gsC, DL.aStar, DL.M.pure_bind, DL.M.lift_some, DL.toB_bl, DL.toI_int, DL.ltD_int, DL.leD_int, DL.gtD_int, DL.geD_int, DL.subD_int, DL.addD_int, DL.negD_int, DL.maxD_int, DL.eqD_int, DL.neD_int, DL.eqD_tN, DL.neD_tN, DL.neD_tN0, DL.inD_tN, DL.slD_tN, DL.lenD_tN, DL.fits_map, DL.fits_nil, v_is_text, this]
  have h2 := allD_map (fun xs : List Int => isT 3 xs) [a, b]
  have hf : fits [tN a, tN b] = true := rfl
  refine runG_rt rfl fun τ => ?_
  have h3 : allD [.lst [.bl true, .bl true]] = some (.bl true) := rfl
  simp only [List.map_cons, List.map_nil] at hc
  simp [b_is_lasso_form, DL.sSeq, DL.seqO, DL.sIf, DL.sRet, DL.sSet, DL.sExpr, DL.sNo, DL.sNil, DL.sMany, DL.setS, DL.sAsg, DL.bO_pure, DL.dVar, DL.dC, DL.dOp, DL.dCB, DL.dCall, DL.aCons, DL.aNil, DL.dB, DL.bAnd, DL.bOr, DL.bNot, DL.dAnd, DL.dOr, DL.dNot, DL.dNeg, DL.dChain, DL.dIsi, DL.dIsi2, DL.tyD, DL.Ty.isa, DL.dSlice, DL.pNone, DL.pSome, DL.dTup, DL.dOf, DL.fLst, DL.fComp, DL.fItems, DL.wipeS, DL.iSeq, DL.iR1, DL.iR2, DL.iZip, DL.itemsD, DL.xVal, DL.xNil, DL.dIf, DL.gN, DL.gT, DL.gsN, DL.gsC, DL.aStar, DL.M.pure_bind, DL.M.lift_some, DL.toB_bl, DL.toI_int, DL.ltD_int, DL.leD_int, DL.gtD_int, DL.geD_int, DL.subD_int, DL.addD_int, DL.negD_int, DL.maxD_int, DL.eqD_int, DL.neD_int, DL.eqD_tN, DL.neD_tN, DL.neD_tN0, DL.inD_tN, DL.slD_tN, DL.lenD_tN, DL.fits_map, DL.fits_nil, hc, h3, hf, v_is_tuple2, ix1, k1, k2, k3]
theorem v_sure_wide : m_sure_wide_of [.int 3] = M.pure .non := by
  refine runG_nx rfl fun τ => ?_
  simp [b_sure_wide_of, DL.sSeq, DL.seqO, DL.sIf, DL.sRet, DL.sSet, DL.sExpr, DL.sNo, DL.sNil, DL.sMany, DL.setS, DL.sAsg, DL.bO_pure, DL.dVar, DL.dC, DL.dOp, DL.dCB, DL.dCall, DL.aCons, DL.aNil, DL.dB, DL.bAnd, DL.bOr, DL.bNot, DL.dAnd, DL.dOr, DL.dNot, DL.dNeg, DL.dChain, DL.dIsi, DL.dIsi2, DL.tyD, DL.Ty.isa, DL.dSlice, DL.pNone, DL.pSome, DL.dTup, DL.dOf, DL.fLst, DL.fComp, DL.fItems, DL.wipeS, DL.iSeq, DL.iR1, DL.iR2, DL.iZip, DL.itemsD, DL.xVal, DL.xNil, DL.dIf, DL.gN, DL.gT, DL.gsN, DL.gsC, DL.aStar, DL.M.pure_bind, DL.M.lift_some, DL.toB_bl, DL.toI_int, DL.ltD_int, DL.leD_int, DL.gtD_int, DL.geD_int, DL.subD_int, DL.addD_int, DL.negD_int, DL.maxD_int, DL.eqD_int, DL.neD_int, DL.eqD_tN, DL.neD_tN, DL.neD_tN0, DL.inD_tN, DL.slD_tN, DL.lenD_tN, DL.fits_map, DL.fits_nil, v_is_number, c_MOST_WIDE]
theorem v_sure_lasso {d : D} {a b : List Int} (h : Las a b) (hd : m_tuple_of 8 [d] = M.pure (lasD a b)) : m_sure_lasso [.int 3, d] = M.pure (lasD a b) := by
  refine runG_rt rfl fun τ => ?_
  simp [b_sure_lasso, DL.sSeq, DL.seqO, DL.sIf, DL.sRet, DL.sSet, DL.sExpr, DL.sNo, DL.sNil, DL.sMany, DL.setS, DL.sAsg, DL.bO_pure, DL.dVar, DL.dC, DL.dOp, DL.dCB, DL.dCall, DL.aCons, DL.aNil, DL.dB, DL.bAnd, DL.bOr, DL.bNot, DL.dAnd, DL.dOr, DL.dNot, DL.dNeg, DL.dChain, DL.dIsi, DL.dIsi2, DL.tyD, DL.Ty.isa, DL.dSlice, DL.pNone, DL.pSome, DL.dTup, DL.dOf, DL.fLst, DL.fComp, DL.fItems, DL.wipeS, DL.iSeq, DL.iR1, DL.iR2, DL.iZip, DL.itemsD, DL.xVal, DL.xNil, DL.dIf, DL.gN, DL.gT, DL.gsN, DL.gsC, DL.aStar, DL.M.pure_bind, DL.M.lift_some, DL.toB_bl, DL.toI_int, DL.ltD_int, DL.leD_int, DL.gtD_int, DL.geD_int, DL.subD_int, DL.addD_int, DL.negD_int, DL.maxD_int, DL.eqD_int, DL.neD_int, DL.eqD_tN, DL.neD_tN, DL.neD_tN0, DL.inD_tN, DL.slD_tN, DL.lenD_tN, DL.fits_map, DL.fits_nil, v_sure_wide, hd, v_is_lasso_form a b h.sa h.sb h.ta h.tb h.nb]
theorem v_sure_many {i j : Int} (h : 0 ≤ i) (k : i ≤ j) : m_sure_many [.int i, .int j] = M.pure .non := by
  refine runG_nx rfl fun τ => ?_
  simp [b_sure_many, DL.sSeq, DL.seqO, DL.sIf, DL.sRet, DL.sSet, DL.sExpr, DL.sNo, DL.sNil, DL.sMany, DL.setS, DL.sAsg, DL.bO_pure, DL.dVar, DL.dC, DL.dOp, DL.dCB, DL.dCall, DL.aCons, DL.aNil, DL.dB, DL.bAnd, DL.bOr, DL.bNot, DL.dAnd, DL.dOr, DL.dNot, DL.dNeg, DL.dChain, DL.dIsi, DL.dIsi2, DL.tyD, DL.Ty.isa, DL.dSlice, DL.pNone, DL.pSome, DL.dTup, DL.dOf, DL.fLst, DL.fComp, DL.fItems, DL.wipeS, DL.iSeq, DL.iR1, DL.iR2, DL.iZip, DL.itemsD, DL.xVal, DL.xNil, DL.dIf, DL.gN, DL.gT, DL.gsN, DL.gsC, DL.aStar, DL.M.pure_bind, DL.M.lift_some, DL.toB_bl, DL.toI_int, DL.ltD_int, DL.leD_int, DL.gtD_int, DL.geD_int, DL.subD_int, DL.addD_int, DL.negD_int, DL.maxD_int, DL.eqD_int, DL.neD_int, DL.eqD_tN, DL.neD_tN, DL.neD_tN0, DL.inD_tN, DL.slD_tN, DL.lenD_tN, DL.fits_map, DL.fits_nil, v_is_number, h, k]
/-- the letter at a place, counted from 0 -/
def at0 (a b : List Int) (i : Nat) : Int := if i < a.length then a.getD i 0 else b.getD ((i - a.length) % b.length) 0
theorem v_entry_at {a b : List Int} {p : Int} (hp : 1 ≤ p) (hb : b ≠ []) : m_entry_at [tN a, tN b, .int p] = M.pure (.int (at0 a b (p - 1).toNat)) := by
  have hl : (0 : Int) < b.length := by have := List.length_pos_iff.mpr hb; omega
  refine runG_rt rfl fun τ => ?_
  by_cases h : p ≤ (a.length : Int)
  · have h1 := ixD_tN_at (xs := a) (i := p - 1) (by omega) (by omega)
    have h2 : at0 a b (p - 1).toNat = a.getD (p - 1).toNat 0 := by
      unfold at0
      rw [if_pos (by omega)]
    rw [h2]
    simp [b_entry_at, DL.sSeq, DL.seqO, DL.sIf, DL.sRet, DL.sSet, DL.sExpr, DL.sNo, DL.sNil, DL.sMany, DL.setS, DL.sAsg, DL.bO_pure, DL.dVar, DL.dC, DL.dOp, DL.dCB, DL.dCall, DL.aCons, DL.aNil, DL.dB, DL.bAnd, DL.bOr, DL.bNot, DL.dAnd, DL.dOr, DL.dNot, DL.dNeg, DL.dChain, DL.dIsi, DL.dIsi2, DL.tyD, DL.Ty.isa, DL.dSlice, DL.pNone, DL.pSome, DL.dTup, DL.dOf, DL.fLst, DL.fComp, DL.fItems, DL.wipeS, DL.iSeq, DL.iR1, DL.iR2, DL.iZip, DL.itemsD, DL.xVal, DL.xNil, DL.dIf, DL.gN, DL.gT, DL.gsN, DL.gsC, DL.aStar, DL.M.pure_bind, DL.M.lift_some, DL.toB_bl, DL.toI_int, DL.ltD_int, DL.leD_int, DL.gtD_int, DL.geD_int, DL.subD_int, DL.addD_int, DL.negD_int, DL.maxD_int, DL.eqD_int, DL.neD_int, DL.eqD_tN, DL.neD_tN, DL.neD_tN0, DL.inD_tN, DL.slD_tN, DL.lenD_tN, DL.fits_map, DL.fits_nil, h, h1]
  · have e : (p - (a.length : Int) - 1) % (b.length : Int) = (((p - 1).toNat - a.length) % b.length : Nat) := by
      have : p - (a.length : Int) - 1 = (((p - 1).toNat - a.length : Nat) : Int) := by omega
      rw [this]
      rfl
    have h3 : ((p - 1).toNat - a.length) % b.length < b.length := Nat.mod_lt _ (by omega)
    have h1 := ixD_tN_at (xs := b) (i := (p - (a.length : Int) - 1) % (b.length : Int)) (Int.emod_nonneg _ (by omega)) (Int.emod_lt_of_pos _ hl)
    have h2 : at0 a b (p - 1).toNat = b.getD ((p - (a.length : Int) - 1) % (b.length : Int)).toNat 0 := by
      unfold at0
      rw [if_neg (by omega), e]
      rfl
    rw [h2]
    simp [b_entry_at, DL.sSeq, DL.seqO, DL.sIf, DL.sRet, DL.sSet, DL.sExpr, DL.sNo, DL.sNil, DL.sMany, DL.setS, DL.sAsg, DL.bO_pure, DL.dVar, DL.dC, DL.dOp, DL.dCB, DL.dCall, DL.aCons, DL.aNil, DL.dB, DL.bAnd, DL.bOr, DL.bNot, DL.dAnd, DL.dOr, DL.dNot, DL.dNeg, DL.dChain, DL.dIsi, DL.dIsi2, DL.tyD, DL.Ty.isa, DL.dSlice, DL.pNone, DL.pSome, DL.dTup, DL.dOf, DL.fLst, DL.fComp, DL.fItems, DL.wipeS, DL.iSeq, DL.iR1, DL.iR2, DL.iZip, DL.itemsD, DL.xVal, DL.xNil, DL.dIf, DL.gN, DL.gT, DL.gsN, DL.gsC, DL.aStar, DL.M.pure_bind, DL.M.lift_some, DL.toB_bl, DL.toI_int, DL.ltD_int, DL.leD_int, DL.gtD_int, DL.geD_int, DL.subD_int, DL.addD_int, DL.negD_int, DL.maxD_int, DL.eqD_int, DL.neD_int, DL.eqD_tN, DL.neD_tN, DL.neD_tN0, DL.inD_tN, DL.slD_tN, DL.lenD_tN, DL.fits_map, DL.fits_nil, h, h1, modD_int hl]
theorem v_sure_spot {p : Int} (h : 1 ≤ p) (k : p ≤ 1000000000000000000000000000000) : m_sure_spot [.int p] = M.pure .non := by
  refine runG_nx rfl fun τ => ?_
  have h0 : p ≠ 0 := by omega
  simp [b_sure_spot, DL.sSeq, DL.seqO, DL.sIf, DL.sRet, DL.sSet, DL.sExpr, DL.sNo, DL.sNil, DL.sMany, DL.setS, DL.sAsg, DL.bO_pure, DL.dVar, DL.dC, DL.dOp, DL.dCB, DL.dCall, DL.aCons, DL.aNil, DL.dB, DL.bAnd, DL.bOr, DL.bNot, DL.dAnd, DL.dOr, DL.dNot, DL.dNeg, DL.dChain, DL.dIsi, DL.dIsi2, DL.tyD, DL.Ty.isa, DL.dSlice, DL.pNone, DL.pSome, DL.dTup, DL.dOf, DL.fLst, DL.fComp, DL.fItems, DL.wipeS, DL.iSeq, DL.iR1, DL.iR2, DL.iZip, DL.itemsD, DL.xVal, DL.xNil, DL.dIf, DL.gN, DL.gT, DL.gsN, DL.gsC, DL.aStar, DL.M.pure_bind, DL.M.lift_some, DL.toB_bl, DL.toI_int, DL.ltD_int, DL.leD_int, DL.gtD_int, DL.geD_int, DL.subD_int, DL.addD_int, DL.negD_int, DL.maxD_int, DL.eqD_int, DL.neD_int, DL.eqD_tN, DL.neD_tN, DL.neD_tN0, DL.inD_tN, DL.slD_tN, DL.lenD_tN, DL.fits_map, DL.fits_nil, c_MOST_PLACE, v_sure_many (show (0 : Int) ≤ p by omega) k, h0]
theorem v_letter_at {d : D} {a b : List Int} {p : Int} (h : Las a b) (hd : m_tuple_of 8 [d] = M.pure (lasD a b)) (h1 : 1 ≤ p) (k : p ≤ 1000000000000000000000000000000) : m_letter_at [d, .int p] = M.pure (.int (at0 a b (p - 1).toNat)) := by
  refine runG_rt rfl fun τ => ?_
  simp [b_letter_at, DL.sSeq, DL.seqO, DL.sIf, DL.sRet, DL.sSet, DL.sExpr, DL.sNo, DL.sNil, DL.sMany, DL.setS, DL.sAsg, DL.bO_pure, DL.dVar, DL.dC, DL.dOp, DL.dCB, DL.dCall, DL.aCons, DL.aNil, DL.dB, DL.bAnd, DL.bOr, DL.bNot, DL.dAnd, DL.dOr, DL.dNot, DL.dNeg, DL.dChain, DL.dIsi, DL.dIsi2, DL.tyD, DL.Ty.isa, DL.dSlice, DL.pNone, DL.pSome, DL.dTup, DL.dOf, DL.fLst, DL.fComp, DL.fItems, DL.wipeS, DL.iSeq, DL.iR1, DL.iR2, DL.iZip, DL.itemsD, DL.xVal, DL.xNil, DL.dIf, DL.gN, DL.gT, DL.gsN, DL.gsC, DL.aStar, DL.M.pure_bind, DL.M.lift_some, DL.toB_bl, DL.toI_int, DL.ltD_int, DL.leD_int, DL.gtD_int, DL.geD_int, DL.subD_int, DL.addD_int, DL.negD_int, DL.maxD_int, DL.eqD_int, DL.neD_int, DL.eqD_tN, DL.neD_tN, DL.neD_tN0, DL.inD_tN, DL.slD_tN, DL.lenD_tN, DL.fits_map, DL.fits_nil, c_MOST_WIDE, v_sure_lasso h hd, v_sure_spot h1 k, ix0, ix1, v_entry_at h1 h.nb]

/-- does the round consist of the first m letters, again and again -/
def isRep (b : List Int) (m : Nat) : Bool := decide (b.length % m = 0) && decide ((List.replicate (b.length / m) (b.take m)).flatten = b)
def root (b : List Int) : List Int := match (List.range b.length).find? (fun i => isRep b (i + 1)) with
  | some i => b.take (i + 1)
  | none => b
theorem v_shortest_round {b : List Int} (hb : b.length ≤ 1000) : m_shortest_round [tN b] = M.pure (tN (root b)) := by
  refine runG_rt rfl fun τ => ?_
  have hl := loop_findF (b := sIf (bAnd (dB (dOp eqD (dOp modD (dCB lenD (aCons (dVar 0) aNil)) (dVar 1)) (dC (.int 0)))) (dB (dOp eqD (dOp mulD (dSlice (dVar 0) pNone (pSome (dVar 1))) (dOp fdivD (dCB lenD (aCons (dVar 0) aNil)) (dVar 1))) (dVar 0)))) (sRet (dSlice (dVar 0) pNone (pSome (dVar 1)))) sNil)
    (p := fun i : Nat => isRep b (i + 1)) (v := fun i : Nat => tN (b.take (i + 1))) (j := fun i : Nat => D.int (1 + (i : Int))) (i := 1) (τ := τ) (List.range b.length) [.d (tN b), .un] fun i hi => by
    have hi := List.mem_range.mp hi
    have m0 : (0 : Int) < 1 + (i : Int) := by omega
    have e1 : ((b.length : Int) % (1 + (i : Int)) = 0) = (b.length % (i + 1) = 0) := by
      have : (1 + (i : Int)) = ((i + 1 : Nat) : Int) := by omega
      rw [this, ← Int.natCast_emod]
      apply propext
      omega
    have e2 : ((b.length : Int) / (1 + (i : Int))) = ((b.length / (i + 1) : Nat) : Int) := by
      have : (1 + (i : Int)) = ((i + 1 : Nat) : Int) := by omega
      rw [this, ← Int.natCast_ediv]
    have e3 : (1 + (i : Int)).toNat = i + 1 := by omega
    have e4 : cutL b none (some (1 + (i : Int))) = b.take (i + 1) := by rw [cutL_hi b (by omega), e3]
    by_cases h : b.length % (i + 1) = 0
    · have d1 : b.length / (i + 1) ≤ 1000 := Nat.le_trans (Nat.div_le_self _ _) hb
      have d2 : 1 ≤ b.length / (i + 1) := Nat.div_pos (by omega) (by omega)
      have hr : repOk (b.take (i + 1)).length ((b.length / (i + 1) : Nat) : Int) = true := by
        unfold repOk
        rw [List.length_take]
        simp only [Bool.or_eq_true, Bool.and_eq_true, decide_eq_true_eq]
        omega
      have hm : mulD (tN (b.take (i + 1))) (.int ((b.length : Int) / (1 + (i : Int)))) = some (tN (List.replicate (b.length / (i + 1)) (b.take (i + 1))).flatten) := by
        rw [e2]
        exact mulD_tN hr
      by_cases k : (List.replicate (b.length / (i + 1)) (b.take (i + 1))).flatten = b
      · have hp : isRep b (i + 1) = true := by unfold isRep; simp [h, k]
        rw [hp]
        simp [DL.sSeq, DL.seqO, DL.sIf, DL.sRet, DL.sSet, DL.sExpr, DL.sNo, DL.sNil, DL.sMany, DL.setS, DL.sAsg, DL.bO_pure, DL.dVar, DL.dC, DL.dOp, DL.dCB, DL.dCall, DL.aCons, DL.aNil, DL.dB, DL.bAnd, DL.bOr, DL.bNot, DL.dAnd, DL.dOr, DL.dNot, DL.dNeg, DL.dChain, DL.dIsi, DL.dIsi2, DL.tyD, DL.Ty.isa, DL.dSlice, DL.pNone, DL.pSome, DL.dTup, DL.dOf, DL.fLst, DL.fComp, DL.fItems, DL.wipeS, DL.iSeq, DL.iR1, DL.iR2, DL.iZip, DL.itemsD, DL.xVal, DL.xNil, DL.dIf, DL.gN, DL.gT, DL.gsN, DL.gsC, DL.aStar, DL.M.pure_bind, DL.M.lift_some, DL.toB_bl, DL.toI_int, DL.ltD_int, DL.leD_int, DL.gtD_int, DL.geD_int, DL.subD_int, DL.addD_int, DL.negD_int, DL.maxD_int, DL.eqD_int, DL.neD_int, DL.eqD_tN, DL.neD_tN, DL.neD_tN0, DL.inD_tN, DL.slD_tN, DL.lenD_tN, DL.fits_map, DL.fits_nil, modD_int m0, fdivD_int m0 (show 1 + (i : Int) < 1073741824 by omega), e1, e4, h, hm, k]
      · have hp : isRep b (i + 1) = false := by unfold isRep; simp [k]
        rw [hp]
        simp [DL.sSeq, DL.seqO, DL.sIf, DL.sRet, DL.sSet, DL.sExpr, DL.sNo, DL.sNil, DL.sMany, DL.setS, DL.sAsg, DL.bO_pure, DL.dVar, DL.dC, DL.dOp, DL.dCB, DL.dCall, DL.aCons, DL.aNil, DL.dB, DL.bAnd, DL.bOr, DL.bNot, DL.dAnd, DL.dOr, DL.dNot, DL.dNeg, DL.dChain, DL.dIsi, DL.dIsi2, DL.tyD, DL.Ty.isa, DL.dSlice, DL.pNone, DL.pSome, DL.dTup, DL.dOf, DL.fLst, DL.fComp, DL.fItems, DL.wipeS, DL.iSeq, DL.iR1, DL.iR2, DL.iZip, DL.itemsD, DL.xVal, DL.xNil, DL.dIf, DL.gN, DL.gT, DL.gsN, DL.gsC, DL.aStar, DL.M.pure_bind, DL.M.lift_some, DL.toB_bl, DL.toI_int, DL.ltD_int, DL.leD_int, DL.gtD_int, DL.geD_int, DL.subD_int, DL.addD_int, DL.negD_int, DL.maxD_int, DL.eqD_int, DL.neD_int, DL.eqD_tN, DL.neD_tN, DL.neD_tN0, DL.inD_tN, DL.slD_tN, DL.lenD_tN, DL.fits_map, DL.fits_nil, modD_int m0, fdivD_int m0 (show 1 + (i : Int) < 1073741824 by omega), e1, e4, h, hm, k]
    · have hp : isRep b (i + 1) = false := by unfold isRep; simp [h]
      rw [hp]
      simp [DL.sSeq, DL.seqO, DL.sIf, DL.sRet, DL.sSet, DL.sExpr, DL.sNo, DL.sNil, DL.sMany, DL.setS, DL.sAsg, DL.bO_pure, DL.dVar, DL.dC, DL.dOp, DL.dCB, DL.dCall, DL.aCons, DL.aNil, DL.dB, DL.bAnd, DL.bOr, DL.bNot, DL.dAnd, DL.dOr, DL.dNot, DL.dNeg, DL.dChain, DL.dIsi, DL.dIsi2, DL.tyD, DL.Ty.isa, DL.dSlice, DL.pNone, DL.pSome, DL.dTup, DL.dOf, DL.fLst, DL.fComp, DL.fItems, DL.wipeS, DL.iSeq, DL.iR1, DL.iR2, DL.iZip, DL.itemsD, DL.xVal, DL.xNil, DL.dIf, DL.gN, DL.gT, DL.gsN, DL.gsC, DL.aStar, DL.M.pure_bind, DL.M.lift_some, DL.toB_bl, DL.toI_int, DL.ltD_int, DL.leD_int, DL.gtD_int, DL.geD_int, DL.subD_int, DL.addD_int, DL.negD_int, DL.maxD_int, DL.eqD_int, DL.neD_int, DL.eqD_tN, DL.neD_tN, DL.neD_tN0, DL.inD_tN, DL.slD_tN, DL.lenD_tN, DL.fits_map, DL.fits_nil, modD_int m0, e1, h]
  have e5 : ((b.length : Int) + 1 - 1).toNat = b.length := by omega
  unfold root
  rcases hl with ⟨x, h1, h2⟩ | ⟨h1, ρ', h2, h3⟩
  · rw [h1]
    simp [b_shortest_round, DL.sSeq, DL.seqO, DL.sIf, DL.sRet, DL.sSet, DL.sExpr, DL.sNo, DL.sNil, DL.sMany, DL.setS, DL.sAsg, DL.bO_pure, DL.dVar, DL.dC, DL.dOp, DL.dCB, DL.dCall, DL.aCons, DL.aNil, DL.dB, DL.bAnd, DL.bOr, DL.bNot, DL.dAnd, DL.dOr, DL.dNot, DL.dNeg, DL.dChain, DL.dIsi, DL.dIsi2, DL.tyD, DL.Ty.isa, DL.dSlice, DL.pNone, DL.pSome, DL.dTup, DL.dOf, DL.fLst, DL.fComp, DL.fItems, DL.wipeS, DL.iSeq, DL.iR1, DL.iR2, DL.iZip, DL.itemsD, DL.xVal, DL.xNil, DL.dIf, DL.gN, DL.gT, DL.gsN, DL.gsC, DL.aStar, DL.M.pure_bind, DL.M.lift_some, DL.toB_bl, DL.toI_int, DL.ltD_int, DL.leD_int, DL.gtD_int, DL.geD_int, DL.subD_int, DL.addD_int, DL.negD_int, DL.maxD_int, DL.eqD_int, DL.neD_int, DL.eqD_tN, DL.neD_tN, DL.neD_tN0, DL.inD_tN, DL.slD_tN, DL.lenD_tN, DL.fits_map, DL.fits_nil, sFor, rangeD_eq, e5, h2]
  · rw [h1]
    rcases h3 with rfl | ⟨d, rfl⟩
    · simp [b_shortest_round, DL.sSeq, DL.seqO, DL.sIf, DL.sRet, DL.sSet, DL.sExpr, DL.sNo, DL.sNil, DL.sMany, DL.setS, DL.sAsg, DL.bO_pure, DL.dVar, DL.dC, DL.dOp, DL.dCB, DL.dCall, DL.aCons, DL.aNil, DL.dB, DL.bAnd, DL.bOr, DL.bNot, DL.dAnd, DL.dOr, DL.dNot, DL.dNeg, DL.dChain, DL.dIsi, DL.dIsi2, DL.tyD, DL.Ty.isa, DL.dSlice, DL.pNone, DL.pSome, DL.dTup, DL.dOf, DL.fLst, DL.fComp, DL.fItems, DL.wipeS, DL.iSeq, DL.iR1, DL.iR2, DL.iZip, DL.itemsD, DL.xVal, DL.xNil, DL.dIf, DL.gN, DL.gT, DL.gsN, DL.gsC, DL.aStar, DL.M.pure_bind, DL.M.lift_some, DL.toB_bl, DL.toI_int, DL.ltD_int, DL.leD_int, DL.gtD_int, DL.geD_int, DL.subD_int, DL.addD_int, DL.negD_int, DL.maxD_int, DL.eqD_int, DL.neD_int, DL.eqD_tN, DL.neD_tN, DL.neD_tN0, DL.inD_tN, DL.slD_tN, DL.lenD_tN, DL.fits_map, DL.fits_nil, sFor, rangeD_eq, e5, h2]
    · simp [b_shortest_round, DL.sSeq, DL.seqO, DL.sIf, DL.sRet, DL.sSet, DL.sExpr, DL.sNo, DL.sNil, DL.sMany, DL.setS, DL.sAsg, DL.bO_pure, DL.dVar, DL.dC, DL.dOp, DL.dCB, DL.dCall, DL.aCons, DL.aNil, DL.dB, DL.bAnd, DL.bOr, DL.bNot, DL.dAnd, DL.dOr, DL.dNot, DL.dNeg, DL.dChain, DL.dIsi, DL.dIsi2, DL.tyD, DL.Ty.isa, DL.dSlice, DL.pNone, DL.pSome, DL.dTup, DL.dOf, DL.fLst, DL.fComp, DL.fItems, DL.wipeS, DL.iSeq, DL.iR1, DL.iR2, DL.iZip, DL.itemsD, DL.xVal, DL.xNil, DL.dIf, DL.gN, DL.gT, DL.gsN, DL.gsC, DL.aStar, DL.M.pure_bind, DL.M.lift_some, DL.toB_bl, DL.toI_int, DL.ltD_int, DL.leD_int, DL.gtD_int, DL.geD_int, DL.subD_int, DL.addD_int, DL.negD_int, DL.maxD_int, DL.eqD_int, DL.neD_int, DL.eqD_tN, DL.neD_tN, DL.neD_tN0, DL.inD_tN, DL.slD_tN, DL.lenD_tN, DL.fits_map, DL.fits_nil, sFor, rangeD_eq, e5, h2]
theorem root_len (b : List Int) : (root b).length ≤ b.length := by
  unfold root
  split
  · rw [List.length_take]; omega
  · omega
theorem root_ne {b : List Int} (h : b ≠ []) : root b ≠ [] := by
  unfold root
  split
  · intro z
    rw [List.take_eq_nil_iff] at z
    rcases z with z | z
    · omega
    · exact h z
  · exact h
/-- letters go over from the front into the round -/
def shr : Nat → List Int → List Int → List Int × List Int
  | 0, f, k => (f, k)
  | n + 1, f, k => if f ≠ [] ∧ f.getLast? = k.getLast? then shr n f.dropLast ((k.getLast?.getD 0) :: k.dropLast) else (f, k)
def short (a b : List Int) : List Int × List Int := shr a.length a (root b)
theorem v_short_while {a b : D} {τ : Tin} : ∀ (n m : Nat) (f k : List Int), f.length ≤ m → m < n → k ≠ [] → k.length ≤ 1000 →
    whileO (bAnd (dB (dOp neD (dVar 2) (dTup aNil))) (dB (dOp eqD (dOp ixD (dVar 2) (dNeg (dC (.int 1)))) (dOp ixD (dVar 3) (dNeg (dC (.int 1)))))))
      (sMany [2, 3] (xVal (dSlice (dVar 2) pNone (pSome (dNeg (dC (.int 1))))) (xVal (dTup (aCons (dOp ixD (dVar 3) (dNeg (dC (.int 1)))) (aStar (dSlice (dVar 3) pNone (pSome (dNeg (dC (.int 1))))) aNil))) xNil))) n [.d a, .d b, .d (tN f), .d (tN k)] τ =
      .nx [.d a, .d b, .d (tN (shr m f k).1), .d (tN (shr m f k).2)] τ
  | 0, m, f, k, _, h, _, _ => absurd h (by omega)
  | n + 1, m, f, k, h1, h2, h3, h4 => by
    rw [whileO]
    cases m with
    | zero =>
      have : f = [] := List.eq_nil_of_length_eq_zero (by omega)
      subst this
      have e : neD (.tup []) (.tup []) = some (.bl false) := rfl
      simp [DL.sSeq, DL.seqO, DL.sIf, DL.sRet, DL.sSet, DL.sExpr, DL.sNo, DL.sNil, DL.sMany, DL.setS, DL.sAsg, DL.bO_pure, DL.dVar, DL.dC, DL.dOp, DL.dCB, DL.dCall, DL.aCons, DL.aNil, DL.dB, DL.bAnd, DL.bOr, DL.bNot, DL.dAnd, DL.dOr, DL.dNot, DL.dNeg, DL.dChain, DL.dIsi, DL.dIsi2, DL.tyD, DL.Ty.isa, DL.dSlice, DL.pNone, DL.pSome, DL.dTup, DL.dOf, DL.fLst, DL.fComp, DL.fItems, DL.wipeS, DL.iSeq, DL.iR1, DL.iR2, DL.iZip, DL.itemsD, DL.xVal, DL.xNil, DL.dIf, DL.gN, DL.gT, DL.gsN, DL.gsC, DL.aStar, DL.M.pure_bind, DL.M.lift_some, DL.toB_bl, DL.toI_int, DL.ltD_int, DL.leD_int, DL.gtD_int, DL.geD_int, DL.subD_int, DL.addD_int, DL.negD_int, DL.maxD_int, DL.eqD_int, DL.neD_int, DL.eqD_tN, DL.neD_tN, DL.neD_tN0, DL.inD_tN, DL.slD_tN, DL.lenD_tN, DL.fits_map, DL.fits_nil, shr, e]
    | succ m =>
      by_cases hf : f = []
      · subst hf
        have e : neD (.tup []) (.tup []) = some (.bl false) := rfl
        simp [DL.sSeq, DL.seqO, DL.sIf, DL.sRet, DL.sSet, DL.sExpr, DL.sNo, DL.sNil, DL.sMany, DL.setS, DL.sAsg, DL.bO_pure, DL.dVar, DL.dC, DL.dOp, DL.dCB, DL.dCall, DL.aCons, DL.aNil, DL.dB, DL.bAnd, DL.bOr, DL.bNot, DL.dAnd, DL.dOr, DL.dNot, DL.dNeg, DL.dChain, DL.dIsi, DL.dIsi2, DL.tyD, DL.Ty.isa, DL.dSlice, DL.pNone, DL.pSome, DL.dTup, DL.dOf, DL.fLst, DL.fComp, DL.fItems, DL.wipeS, DL.iSeq, DL.iR1, DL.iR2, DL.iZip, DL.itemsD, DL.xVal, DL.xNil, DL.dIf, DL.gN, DL.gT, DL.gsN, DL.gsC, DL.aStar, DL.M.pure_bind, DL.M.lift_some, DL.toB_bl, DL.toI_int, DL.ltD_int, DL.leD_int, DL.gtD_int, DL.geD_int, DL.subD_int, DL.addD_int, DL.negD_int, DL.maxD_int, DL.eqD_int, DL.neD_int, DL.eqD_tN, DL.neD_tN, DL.neD_tN0, DL.inD_tN, DL.slD_tN, DL.lenD_tN, DL.fits_map, DL.fits_nil, shr, e]
      · obtain ⟨x, hx⟩ : ∃ x, f.getLast? = some x := ⟨_, List.getLast?_eq_some_getLast hf⟩
        obtain ⟨y, hy⟩ : ∃ y, k.getLast? = some y := ⟨_, List.getLast?_eq_some_getLast h3⟩
        by_cases hxy : x = y
        · subst hxy
          have ih := v_short_while (a := a) (b := b) (τ := τ) n m f.dropLast (x :: k.dropLast) (by rw [List.length_dropLast]; omega) (by omega) (by simp) (by rw [List.length_cons, List.length_dropLast]; have := List.length_pos_iff.mpr h3; omega)
          have e : shr (m + 1) f k = shr m f.dropLast (x :: k.dropLast) := by rw [shr, if_pos ⟨hf, by rw [hx, hy]⟩, hy]; rfl
          have hfit : fits (D.int x :: k.dropLast.map D.int) = true := by
            unfold fits
            rw [List.length_cons, List.length_map, List.length_dropLast]
            have : 1000 < sizeLine := by decide
            simp only [decide_eq_true_eq]
            omega
          rw [e]
          simp [DL.sSeq, DL.seqO, DL.sIf, DL.sRet, DL.sSet, DL.sExpr, DL.sNo, DL.sNil, DL.sMany, DL.setS, DL.sAsg, DL.bO_pure, DL.dVar, DL.dC, DL.dOp, DL.dCB, DL.dCall, DL.aCons, DL.aNil, DL.dB, DL.bAnd, DL.bOr, DL.bNot, DL.dAnd, DL.dOr, DL.dNot, DL.dNeg, DL.dChain, DL.dIsi, DL.dIsi2, DL.tyD, DL.Ty.isa, DL.dSlice, DL.pNone, DL.pSome, DL.dTup, DL.dOf, DL.fLst, DL.fComp, DL.fItems, DL.wipeS, DL.iSeq, DL.iR1, DL.iR2, DL.iZip, DL.itemsD, DL.xVal, DL.xNil, DL.dIf, DL.gN, DL.gT, DL.gsN, DL.gsC, DL.aStar, DL.M.pure_bind, DL.M.lift_some, DL.toB_bl, DL.toI_int, DL.ltD_int, DL.leD_int, DL.gtD_int, DL.geD_int, DL.subD_int, DL.addD_int, DL.negD_int, DL.maxD_int, DL.eqD_int, DL.neD_int, DL.eqD_tN, DL.neD_tN, DL.neD_tN0, DL.inD_tN, DL.slD_tN, DL.lenD_tN, DL.fits_map, DL.fits_nil, hf, ixD_tN_last, hx, hy, cutL_last, hfit, turnO, -List.map_dropLast]
          exact ih
        · have e : shr (m + 1) f k = (f, k) := by
            rw [shr, if_neg]
            rintro ⟨_, z⟩
            rw [hx, hy] at z
            exact hxy (Option.some.inj z)
          rw [e]
          simp [DL.sSeq, DL.seqO, DL.sIf, DL.sRet, DL.sSet, DL.sExpr, DL.sNo, DL.sNil, DL.sMany, DL.setS, DL.sAsg, DL.bO_pure, DL.dVar, DL.dC, DL.dOp, DL.dCB, DL.dCall, DL.aCons, DL.aNil, DL.dB, DL.bAnd, DL.bOr, DL.bNot, DL.dAnd, DL.dOr, DL.dNot, DL.dNeg, DL.dChain, DL.dIsi, DL.dIsi2, DL.tyD, DL.Ty.isa, DL.dSlice, DL.pNone, DL.pSome, DL.dTup, DL.dOf, DL.fLst, DL.fComp, DL.fItems, DL.wipeS, DL.iSeq, DL.iR1, DL.iR2, DL.iZip, DL.itemsD, DL.xVal, DL.xNil, DL.dIf, DL.gN, DL.gT, DL.gsN, DL.gsC, DL.aStar, DL.M.pure_bind, DL.M.lift_some, DL.toB_bl, DL.toI_int, DL.ltD_int, DL.leD_int, DL.gtD_int, DL.geD_int, DL.subD_int, DL.addD_int, DL.negD_int, DL.maxD_int, DL.eqD_int, DL.neD_int, DL.eqD_tN, DL.neD_tN, DL.neD_tN0, DL.inD_tN, DL.slD_tN, DL.lenD_tN, DL.fits_map, DL.fits_nil, hf, ixD_tN_last, hx, hy, hxy]

theorem eqD_las (a b c d : List Int) : eqD (lasD a b) (lasD c d) = some (.bl (decide ((a, b) = (c, d)))) := (cod_int.tup.pair cod_int.tup).eqD (by omega) (a, b) (c, d)
abbrev lasP (p : List Int × List Int) : D := lasD p.1 p.2
theorem shr_len : ∀ (n : Nat) (f k : List Int), k ≠ [] → (shr n f k).1.length ≤ f.length ∧ (shr n f k).2.length = k.length
  | 0, f, k, _ => ⟨Nat.le_refl _, rfl⟩
  | n + 1, f, k, h => by
    rw [shr]
    split
    · obtain ⟨h1, h2⟩ := shr_len n f.dropLast ((k.getLast?.getD 0) :: k.dropLast) (by simp)
      have := List.length_pos_iff.mpr h
      rw [List.length_dropLast] at h1
      rw [List.length_cons, List.length_dropLast] at h2
      omega
    · exact ⟨Nat.le_refl _, rfl⟩
theorem v_short_in {a b : List Int} (ha : a.length ≤ 90) (hb : b ≠ []) (lb : b.length ≤ 90) : m_short_in [tN a, tN b] = M.pure (lasP (short a b)) := by
  have hr := root_len b
  have hw := fun τ => v_short_while (a := tN a) (b := tN b) (τ := τ) fuel a.length a (root b) (Nat.le_refl _) (by show a.length < 100; omega) (root_ne hb) (by omega)
  refine runG_rt rfl fun τ => ?_
  have hf : fits [tN (short a b).1, tN (short a b).2] = true := rfl
  have hw := hw τ
  have e : shr a.length a (root b) = short a b := rfl
  rw [e] at hw
  simp [b_short_in, DL.sSeq, DL.seqO, DL.sIf, DL.sRet, DL.sSet, DL.sExpr, DL.sNo, DL.sNil, DL.sMany, DL.setS, DL.sAsg, DL.bO_pure, DL.dVar, DL.dC, DL.dOp, DL.dCB, DL.dCall, DL.aCons, DL.aNil, DL.dB, DL.bAnd, DL.bOr, DL.bNot, DL.dAnd, DL.dOr, DL.dNot, DL.dNeg, DL.dChain, DL.dIsi, DL.dIsi2, DL.tyD, DL.Ty.isa, DL.dSlice, DL.pNone, DL.pSome, DL.dTup, DL.dOf, DL.fLst, DL.fComp, DL.fItems, DL.wipeS, DL.iSeq, DL.iR1, DL.iR2, DL.iZip, DL.itemsD, DL.xVal, DL.xNil, DL.dIf, DL.gN, DL.gT, DL.gsN, DL.gsC, DL.aStar, DL.M.pure_bind, DL.M.lift_some, DL.toB_bl, DL.toI_int, DL.ltD_int, DL.leD_int, DL.gtD_int, DL.geD_int, DL.subD_int, DL.addD_int, DL.negD_int, DL.maxD_int, DL.eqD_int, DL.neD_int, DL.eqD_tN, DL.neD_tN, DL.neD_tN0, DL.inD_tN, DL.slD_tN, DL.lenD_tN, DL.fits_map, DL.fits_nil, v_shortest_round (show b.length ≤ 1000 by omega), sWhile, hw, hf]
theorem v_lasso_short {d : D} {a b : List Int} (h : Las a b) (hd : m_tuple_of 8 [d] = M.pure (lasD a b)) : m_lasso_short [d] = M.pure (lasP (short a b)) := by
  refine runG_rt rfl fun τ => ?_
  simp [b_lasso_short, DL.sSeq, DL.seqO, DL.sIf, DL.sRet, DL.sSet, DL.sExpr, DL.sNo, DL.sNil, DL.sMany, DL.setS, DL.sAsg, DL.bO_pure, DL.dVar, DL.dC, DL.dOp, DL.dCB, DL.dCall, DL.aCons, DL.aNil, DL.dB, DL.bAnd, DL.bOr, DL.bNot, DL.dAnd, DL.dOr, DL.dNot, DL.dNeg, DL.dChain, DL.dIsi, DL.dIsi2, DL.tyD, DL.Ty.isa, DL.dSlice, DL.pNone, DL.pSome, DL.dTup, DL.dOf, DL.fLst, DL.fComp, DL.fItems, DL.wipeS, DL.iSeq, DL.iR1, DL.iR2, DL.iZip, DL.itemsD, DL.xVal, DL.xNil, DL.dIf, DL.gN, DL.gT, DL.gsN, DL.gsC, DL.aStar, DL.M.pure_bind, DL.M.lift_some, DL.toB_bl, DL.toI_int, DL.ltD_int, DL.leD_int, DL.gtD_int, DL.geD_int, DL.subD_int, DL.addD_int, DL.negD_int, DL.maxD_int, DL.eqD_int, DL.neD_int, DL.eqD_tN, DL.neD_tN, DL.neD_tN0, DL.inD_tN, DL.slD_tN, DL.lenD_tN, DL.fits_map, DL.fits_nil, c_MOST_WIDE, v_sure_lasso h hd, ix0, ix1, v_short_in h.la h.nb h.lb]
theorem v_is_short {d : D} {a b : List Int} (h : Las a b) (hd : m_tuple_of 8 [d] = M.pure (lasD a b)) : m_is_short [d] = M.pure (.bl (decide (short a b = (a, b)))) := by
  refine runG_rt rfl fun τ => ?_
  simp only [b_is_short, DL.sSeq, DL.seqO, DL.sIf, DL.sRet, DL.sSet, DL.sExpr, DL.sNo, DL.sNil, DL.sMany, DL.setS, DL.sAsg, DL.bO_pure, DL.dVar, DL.dC, DL.dOp, DL.dCB, DL.dCall, DL.aCons, DL.aNil, DL.dB, DL.bAnd, DL.bOr, DL.bNot, DL.dAnd, DL.dOr, DL.dNot, DL.dNeg, DL.dChain, DL.dIsi, DL.dIsi2, DL.tyD, DL.Ty.isa, DL.dSlice, DL.pNone, DL.pSome, DL.dTup, DL.dOf, DL.fLst, DL.fComp, DL.fItems, DL.wipeS, DL.iSeq, DL.iR1, DL.iR2, DL.iZip, DL.itemsD, DL.xVal, DL.xNil, DL.dIf, DL.gN, DL.gT, DL.gsN, DL.gsC, DL.aStar, DL.M.pure_bind, DL.M.lift_some, DL.toB_bl, DL.toI_int, DL.ltD_int, DL.leD_int, DL.gtD_int, DL.geD_int, DL.subD_int, DL.addD_int, DL.negD_int, DL.maxD_int, DL.eqD_int, DL.neD_int, DL.eqD_tN, DL.neD_tN, DL.neD_tN0, DL.inD_tN, DL.slD_tN, DL.lenD_tN, DL.fits_map, DL.fits_nil, c_MOST_WIDE, List.map_cons, List.map_nil, List.replicate, List.cons_append, List.nil_append, Nat.sub_zero, Nat.reduceSub, List.getElem?_cons_zero, List.getElem?_cons_succ, List.length_cons, List.length_nil, Nat.zero_add, Nat.reduceAdd, v_sure_lasso h hd, ix0, ix1, v_short_in h.la h.nb h.lb, eqD_las, if_true, List.set_cons_zero, List.set_cons_succ]
theorem v_same_endless {d e : D} {a b a' b' : List Int} (h : Las a b) (hd : m_tuple_of 8 [d] = M.pure (lasD a b)) (h' : Las a' b') (hd' : m_tuple_of 8 [e] = M.pure (lasD a' b')) : m_same_endless [d, e] = M.pure (.bl (decide (short a b = short a' b'))) := by
  refine runG_rt rfl fun τ => ?_
  simp only [b_same_endless, DL.sSeq, DL.seqO, DL.sIf, DL.sRet, DL.sSet, DL.sExpr, DL.sNo, DL.sNil, DL.sMany, DL.setS, DL.sAsg, DL.bO_pure, DL.dVar, DL.dC, DL.dOp, DL.dCB, DL.dCall, DL.aCons, DL.aNil, DL.dB, DL.bAnd, DL.bOr, DL.bNot, DL.dAnd, DL.dOr, DL.dNot, DL.dNeg, DL.dChain, DL.dIsi, DL.dIsi2, DL.tyD, DL.Ty.isa, DL.dSlice, DL.pNone, DL.pSome, DL.dTup, DL.dOf, DL.fLst, DL.fComp, DL.fItems, DL.wipeS, DL.iSeq, DL.iR1, DL.iR2, DL.iZip, DL.itemsD, DL.xVal, DL.xNil, DL.dIf, DL.gN, DL.gT, DL.gsN, DL.gsC, DL.aStar, DL.M.pure_bind, DL.M.lift_some, DL.toB_bl, DL.toI_int, DL.ltD_int, DL.leD_int, DL.gtD_int, DL.geD_int, DL.subD_int, DL.addD_int, DL.negD_int, DL.maxD_int, DL.eqD_int, DL.neD_int, DL.eqD_tN, DL.neD_tN, DL.neD_tN0, DL.inD_tN, DL.slD_tN, DL.lenD_tN, DL.fits_map, DL.fits_nil, c_MOST_WIDE, List.map_cons, List.map_nil, List.replicate, List.cons_append, List.nil_append, Nat.sub_zero, Nat.reduceSub, List.getElem?_cons_zero, List.getElem?_cons_succ, List.length_cons, List.length_nil, Nat.zero_add, Nat.reduceAdd, v_sure_lasso h hd, v_sure_lasso h' hd', ix0, ix1, v_short_in h.la h.nb h.lb, v_short_in h'.la h'.nb h'.lb, eqD_las, if_true, List.set_cons_zero, List.set_cons_succ]
theorem v_first_letters {a b : List Int} {n : Nat} (h : Las a b) (hn : n ≤ 2000) : m_first_letters [lasD a b, .int n] = M.pure (tN ((List.range n).map (at0 a b))) := by
  refine runG_rt rfl fun τ => ?_
  have hc : compM (gN 2) bYes (dCall 3 m_entry_at (aCons (dOp ixD (dVar 0) (dC (.int 0))) (aCons (dOp ixD (dVar 0) (dC (.int 1))) (aCons (dVar 2) aNil)))) ((List.range n).map fun i : Nat => D.int (1 + (i : Int))) [.d (lasD a b), .d (.int n), .un] =
      M.pure ((List.range n).map fun i => D.int (at0 a b i)) := compM_ints _ fun i _ => by
    have e : (1 + (i : Int) - 1).toNat = i := by omega
    have hv := v_entry_at (a := a) (b := b) (p := 1 + (i : Int)) (by omega) h.nb
    rw [e] at hv
    simp [DL.sSeq, DL.seqO, DL.sIf, DL.sRet, DL.sSet, DL.sExpr, DL.sNo, DL.sNil, DL.sMany, DL.setS, DL.sAsg, DL.bO_pure, DL.dVar, DL.dC, DL.dOp, DL.dCB, DL.dCall, DL.aCons, DL.aNil, DL.dB, DL.bAnd, DL.bOr, DL.bNot, DL.dAnd, DL.dOr, DL.dNot, DL.dNeg, DL.dChain, DL.dIsi, DL.dIsi2, DL.tyD, DL.Ty.isa, DL.dSlice, DL.pNone, DL.pSome, DL.dTup, DL.dOf, DL.fLst, DL.fComp, DL.fItems, DL.wipeS, DL.iSeq, DL.iR1, DL.iR2, DL.iZip, DL.itemsD, DL.xVal, DL.xNil, DL.dIf, DL.gN, DL.gT, DL.gsN, DL.gsC, DL.aStar, DL.M.pure_bind, DL.M.lift_some, DL.toB_bl, DL.toI_int, DL.ltD_int, DL.leD_int, DL.gtD_int, DL.geD_int, DL.subD_int, DL.addD_int, DL.negD_int, DL.maxD_int, DL.eqD_int, DL.neD_int, DL.eqD_tN, DL.neD_tN, DL.neD_tN0, DL.inD_tN, DL.slD_tN, DL.lenD_tN, DL.fits_map, DL.fits_nil, ix0, ix1, hv]
  have e : ((n : Int) + 1 - 1).toNat = n := by omega
  have hf : fits ((List.range n).map fun i : Nat => D.int (1 + (i : Int))) = true := fits_map (by rw [List.length_range]; exact Nat.le_trans hn (by decide))
  have ht : tupleD [.lst ((List.range n).map fun i => D.int (at0 a b i))] = some (tN ((List.range n).map (at0 a b))) := by
    show some (D.tup _) = some (D.tup (((List.range n).map (at0 a b)).map D.int))
    rw [List.map_map]
    rfl
  simp only [b_first_letters, DL.sSeq, DL.seqO, DL.sIf, DL.sRet, DL.sSet, DL.sExpr, DL.sNo, DL.sNil, DL.sMany, DL.setS, DL.sAsg, DL.bO_pure, DL.dVar, DL.dC, DL.dOp, DL.dCB, DL.dCall, DL.aCons, DL.aNil, DL.dB, DL.bAnd, DL.bOr, DL.bNot, DL.dAnd, DL.dOr, DL.dNot, DL.dNeg, DL.dChain, DL.dIsi, DL.dIsi2, DL.tyD, DL.Ty.isa, DL.dSlice, DL.pNone, DL.pSome, DL.dTup, DL.dOf, DL.fLst, DL.fComp, DL.fItems, DL.wipeS, DL.iSeq, DL.iR1, DL.iR2, DL.iZip, DL.itemsD, DL.xVal, DL.xNil, DL.dIf, DL.gN, DL.gT, DL.gsN, DL.gsC, DL.aStar, DL.M.pure_bind, DL.M.lift_some, DL.toB_bl, DL.toI_int, DL.ltD_int, DL.leD_int, DL.gtD_int, DL.geD_int, DL.subD_int, DL.addD_int, DL.negD_int, DL.maxD_int, DL.eqD_int, DL.neD_int, DL.eqD_tN, DL.neD_tN, DL.neD_tN0, DL.inD_tN, DL.slD_tN, DL.lenD_tN, DL.fits_map, DL.fits_nil, List.map_cons, List.map_nil, List.replicate, List.cons_append, List.nil_append, Nat.sub_zero, Nat.reduceSub, List.getElem?_cons_zero, List.getElem?_cons_succ, List.length_cons, List.length_nil, Nat.zero_add, Nat.reduceAdd, rangeD_eq, e, hf, hc, ht, if_true, List.set_cons_zero, List.set_cons_succ]
theorem v_beginning {d : D} {a b : List Int} {n : Nat} (h : Las a b) (hd : m_tuple_of 8 [d] = M.pure (lasD a b)) (hn : n ≤ 2000) : m_beginning [d, .int n] = M.pure (tN ((List.range n).map (at0 a b))) := by
  refine runG_rt rfl fun τ => ?_
  have h2 := v_sure_many (i := (n : Int)) (j := 2000) (by omega) (by omega)
  simp only [b_beginning, DL.sSeq, DL.seqO, DL.sIf, DL.sRet, DL.sSet, DL.sExpr, DL.sNo, DL.sNil, DL.sMany, DL.setS, DL.sAsg, DL.bO_pure, DL.dVar, DL.dC, DL.dOp, DL.dCB, DL.dCall, DL.aCons, DL.aNil, DL.dB, DL.bAnd, DL.bOr, DL.bNot, DL.dAnd, DL.dOr, DL.dNot, DL.dNeg, DL.dChain, DL.dIsi, DL.dIsi2, DL.tyD, DL.Ty.isa, DL.dSlice, DL.pNone, DL.pSome, DL.dTup, DL.dOf, DL.fLst, DL.fComp, DL.fItems, DL.wipeS, DL.iSeq, DL.iR1, DL.iR2, DL.iZip, DL.itemsD, DL.xVal, DL.xNil, DL.dIf, DL.gN, DL.gT, DL.gsN, DL.gsC, DL.aStar, DL.M.pure_bind, DL.M.lift_some, DL.toB_bl, DL.toI_int, DL.ltD_int, DL.leD_int, DL.gtD_int, DL.geD_int, DL.subD_int, DL.addD_int, DL.negD_int, DL.maxD_int, DL.eqD_int, DL.neD_int, DL.eqD_tN, DL.neD_tN, DL.neD_tN0, DL.inD_tN, DL.slD_tN, DL.lenD_tN, DL.fits_map, DL.fits_nil, c_MOST_WIDE, c_MOST_BEGINNING, List.map_cons, List.map_nil, List.replicate, List.cons_append, List.nil_append, Nat.sub_zero, Nat.reduceSub, List.getElem?_cons_zero, List.getElem?_cons_succ, List.length_cons, List.length_nil, Nat.zero_add, Nat.reduceAdd, v_sure_lasso h hd, h2, v_first_letters h hn, if_true, List.set_cons_zero, List.set_cons_succ]

/-! ### moved on, put ahead -/
def moved (a b : List Int) (n : Nat) : List Int × List Int := if n ≤ a.length then short (a.drop n) b else short [] (b.drop ((n - a.length) % b.length) ++ b.take ((n - a.length) % b.length))
theorem v_moved_on {d : D} {a b : List Int} {n : Nat} (h : Las a b) (hd : m_tuple_of 8 [d] = M.pure (lasD a b)) (hn : (n : Int) ≤ 1000000000000000000000000000000) : m_moved_on [d, .int n] = M.pure (lasP (moved a b n)) := by
  have h2 := v_sure_many (i := (n : Int)) (j := 1000000000000000000000000000000) (by omega) hn
  have hl : (0 : Int) < b.length := by have := h.pb; omega
  have lb := h.lb
  have la := h.la
  refine runG_rt rfl fun τ => ?_
  unfold moved
  by_cases hk : n ≤ a.length
  · have hk' : ((n : Int) ≤ (a.length : Int)) = True := by simp [hk]
    have hc : cutL a (some (n : Int)) none = a.drop n := by rw [cutL_lo a (by omega)]; rfl
    have hs := v_short_in (a := a.drop n) (b := b) (by rw [List.length_drop]; omega) h.nb h.lb
    rw [if_pos hk]
    simp only [b_moved_on, DL.sSeq, DL.seqO, DL.sIf, DL.sRet, DL.sSet, DL.sExpr, DL.sNo, DL.sNil, DL.sMany, DL.setS, DL.sAsg, DL.bO_pure, DL.dVar, DL.dC, DL.dOp, DL.dCB, DL.dCall, DL.aCons, DL.aNil, DL.dB, DL.bAnd, DL.bOr, DL.bNot, DL.dAnd, DL.dOr, DL.dNot, DL.dNeg, DL.dChain, DL.dIsi, DL.dIsi2, DL.tyD, DL.Ty.isa, DL.dSlice, DL.pNone, DL.pSome, DL.dTup, DL.dOf, DL.fLst, DL.fComp, DL.fItems, DL.wipeS, DL.iSeq, DL.iR1, DL.iR2, DL.iZip, DL.itemsD, DL.xVal, DL.xNil, DL.dIf, DL.gN, DL.gT, DL.gsN, DL.gsC, DL.aStar, DL.M.pure_bind, DL.M.lift_some, DL.toB_bl, DL.toI_int, DL.ltD_int, DL.leD_int, DL.gtD_int, DL.geD_int, DL.subD_int, DL.addD_int, DL.negD_int, DL.maxD_int, DL.eqD_int, DL.neD_int, DL.eqD_tN, DL.neD_tN, DL.neD_tN0, DL.inD_tN, DL.slD_tN, DL.lenD_tN, DL.fits_map, DL.fits_nil, List.map_cons, List.map_nil, List.replicate, List.cons_append, List.nil_append, Nat.sub_zero, Nat.reduceSub, List.getElem?_cons_zero, List.getElem?_cons_succ, List.length_cons, List.length_nil, Nat.zero_add, Nat.reduceAdd, if_true, List.set_cons_zero, List.set_cons_succ, Option.bind_some, c_MOST_WIDE, c_MOST_PLACE, v_sure_lasso h hd, h2, hk', decide_true, hc, hs]
  · have hk' : ((n : Int) ≤ (a.length : Int)) = False := by simp; omega
    have em : ((n : Int) - (a.length : Int)) % (b.length : Int) = (((n - a.length) % b.length : Nat) : Int) := by
      have : (n : Int) - (a.length : Int) = ((n - a.length : Nat) : Int) := by omega
      rw [this, Int.natCast_emod]
    have hm := Nat.mod_lt (n - a.length) h.pb
    have hc : cutL b (some (((n - a.length) % b.length : Nat) : Int)) none = b.drop ((n - a.length) % b.length) := by rw [cutL_lo b (by omega)]; rfl
    have hc2 : cutL b none (some (((n - a.length) % b.length : Nat) : Int)) = b.take ((n - a.length) % b.length) := by rw [cutL_hi b (by omega)]; rfl
    have hz : (b.drop ((n - a.length) % b.length)).length + (b.take ((n - a.length) % b.length)).length = b.length := by rw [List.length_drop, List.length_take]; omega
    have hadd := addD_tN (b.drop ((n - a.length) % b.length)) (b.take ((n - a.length) % b.length)) (by rw [hz]; exact h.sb)
    have hs := v_short_in (a := []) (b := b.drop ((n - a.length) % b.length) ++ b.take ((n - a.length) % b.length)) (by simp) (by
      intro z
      have := congrArg List.length z
      rw [List.length_append, hz, List.length_nil] at this
      omega) (by rw [List.length_append, hz]; exact h.lb)
    rw [if_neg hk]
    have hs' : m_short_in [.tup [], tN (b.drop ((n - a.length) % b.length) ++ b.take ((n - a.length) % b.length))] = _ := hs
    have hmod : modD (.int ((n : Int) - (a.length : Int))) (.int (b.length : Int)) = some (.int (((n - a.length) % b.length : Nat) : Int)) := by rw [modD_int hl, em]
    simp only [b_moved_on, DL.sSeq, DL.seqO, DL.sIf, DL.sRet, DL.sSet, DL.sExpr, DL.sNo, DL.sNil, DL.sMany, DL.setS, DL.sAsg, DL.bO_pure, DL.dVar, DL.dC, DL.dOp, DL.dCB, DL.dCall, DL.aCons, DL.aNil, DL.dB, DL.bAnd, DL.bOr, DL.bNot, DL.dAnd, DL.dOr, DL.dNot, DL.dNeg, DL.dChain, DL.dIsi, DL.dIsi2, DL.tyD, DL.Ty.isa, DL.dSlice, DL.pNone, DL.pSome, DL.dTup, DL.dOf, DL.fLst, DL.fComp, DL.fItems, DL.wipeS, DL.iSeq, DL.iR1, DL.iR2, DL.iZip, DL.itemsD, DL.xVal, DL.xNil, DL.dIf, DL.gN, DL.gT, DL.gsN, DL.gsC, DL.aStar, DL.M.pure_bind, DL.M.lift_some, DL.toB_bl, DL.toI_int, DL.ltD_int, DL.leD_int, DL.gtD_int, DL.geD_int, DL.subD_int, DL.addD_int, DL.negD_int, DL.maxD_int, DL.eqD_int, DL.neD_int, DL.eqD_tN, DL.neD_tN, DL.neD_tN0, DL.inD_tN, DL.slD_tN, DL.lenD_tN, DL.fits_map, DL.fits_nil, List.map_cons, List.map_nil, List.replicate, List.cons_append, List.nil_append, Nat.sub_zero, Nat.reduceSub, List.getElem?_cons_zero, List.getElem?_cons_succ, List.length_cons, List.length_nil, Nat.zero_add, Nat.reduceAdd, if_true, List.set_cons_zero, List.set_cons_succ, Option.bind_some, c_MOST_WIDE, c_MOST_PLACE, v_sure_lasso h hd, h2, hk', decide_false, hmod, hc, hc2, hadd, hs', Bool.false_eq_true, if_false]
theorem v_put_ahead {d e : D} {a b t : List Int} (h : Las a b) (hd : m_tuple_of 8 [d] = M.pure (lasD a b)) (ht : m_tuple_of 8 [e] = M.pure (tN t)) (it : isT 3 t = true) (lt : t.length + a.length ≤ 90) : m_put_ahead [e, d] = M.pure (lasP (short (t ++ a) b)) := by
  have hl : t.length ≤ sizeLine := Nat.le_trans (by omega) size_ge
  have hadd := addD_tN t a (Nat.le_trans (by omega) size_ge)
  have hs := v_short_in (a := t ++ a) (b := b) (by rw [List.length_append]; omega) h.nb h.lb
  refine runG_rt rfl fun τ => ?_
  simp only [b_put_ahead, DL.sSeq, DL.seqO, DL.sIf, DL.sRet, DL.sSet, DL.sExpr, DL.sNo, DL.sNil, DL.sMany, DL.setS, DL.sAsg, DL.bO_pure, DL.dVar, DL.dC, DL.dOp, DL.dCB, DL.dCall, DL.aCons, DL.aNil, DL.dB, DL.bAnd, DL.bOr, DL.bNot, DL.dAnd, DL.dOr, DL.dNot, DL.dNeg, DL.dChain, DL.dIsi, DL.dIsi2, DL.tyD, DL.Ty.isa, DL.dSlice, DL.pNone, DL.pSome, DL.dTup, DL.dOf, DL.fLst, DL.fComp, DL.fItems, DL.wipeS, DL.iSeq, DL.iR1, DL.iR2, DL.iZip, DL.itemsD, DL.xVal, DL.xNil, DL.dIf, DL.gN, DL.gT, DL.gsN, DL.gsC, DL.aStar, DL.M.pure_bind, DL.M.lift_some, DL.toB_bl, DL.toI_int, DL.ltD_int, DL.leD_int, DL.gtD_int, DL.geD_int, DL.subD_int, DL.addD_int, DL.negD_int, DL.maxD_int, DL.eqD_int, DL.neD_int, DL.eqD_tN, DL.neD_tN, DL.neD_tN0, DL.inD_tN, DL.slD_tN, DL.lenD_tN, DL.fits_map, DL.fits_nil, List.map_cons, List.map_nil, List.replicate, List.cons_append, List.nil_append, Nat.sub_zero, Nat.reduceSub, List.getElem?_cons_zero, List.getElem?_cons_succ, List.length_cons, List.length_nil, Nat.zero_add, Nat.reduceAdd, if_true, List.set_cons_zero, List.set_cons_succ, Option.bind_some, c_MOST_WIDE, v_sure_lasso h hd, ht, v_is_text 3 t hl, it, hadd, ix0, ix1, hs, Bool.not_true, Bool.false_eq_true, if_false]
/-! ### the first place apart -/
def mostApart (a b a' b' : List Int) : Nat := max a.length a'.length + b.length + b'.length
def apart (a b a' b' : List Int) : Option Nat := (List.range (mostApart a b a' b')).find? fun i => !decide (at0 a b i = at0 a' b' i)
def apartD : Option Nat → D
  | some i => .int (1 + (i : Int))
  | none => .non
theorem v_first_apart {d e : D} {a b a' b' : List Int} (h : Las a b) (hd : m_tuple_of 8 [d] = M.pure (lasD a b)) (h' : Las a' b') (hd' : m_tuple_of 8 [e] = M.pure (lasD a' b')) : m_first_apart [d, e] = M.pure (apartD (apart a b a' b')) := by
  refine runG_rt rfl fun τ => ?_
  have hl := loop_findF (b := sIf (dB (dOp neD (dCall 3 m_entry_at (aCons (dOp ixD (dVar 2) (dC (.int 0))) (aCons (dOp ixD (dVar 2) (dC (.int 1))) (aCons (dVar 5) aNil)))) (dCall 3 m_entry_at (aCons (dOp ixD (dVar 3) (dC (.int 0))) (aCons (dOp ixD (dVar 3) (dC (.int 1))) (aCons (dVar 5) aNil)))))) (sRet (dVar 5)) sNil)
    (p := fun i : Nat => !decide (at0 a b i = at0 a' b' i)) (v := fun i : Nat => .int (1 + (i : Int))) (j := fun i : Nat => D.int (1 + (i : Int))) (i := 5) (τ := τ) (List.range (mostApart a b a' b')) [.d d, .d e, .d (lasD a b), .d (lasD a' b'), .d (.int (mostApart a b a' b')), .un] fun i _ => by
    have e1 : (1 + (i : Int) - 1).toNat = i := by omega
    have hv := v_entry_at (a := a) (b := b) (p := 1 + (i : Int)) (by omega) h.nb
    have hv' := v_entry_at (a := a') (b := b') (p := 1 + (i : Int)) (by omega) h'.nb
    rw [e1] at hv hv'
    simp only [DL.sSeq, DL.seqO, DL.sIf, DL.sRet, DL.sSet, DL.sExpr, DL.sNo, DL.sNil, DL.sMany, DL.setS, DL.sAsg, DL.bO_pure, DL.dVar, DL.dC, DL.dOp, DL.dCB, DL.dCall, DL.aCons, DL.aNil, DL.dB, DL.bAnd, DL.bOr, DL.bNot, DL.dAnd, DL.dOr, DL.dNot, DL.dNeg, DL.dChain, DL.dIsi, DL.dIsi2, DL.tyD, DL.Ty.isa, DL.dSlice, DL.pNone, DL.pSome, DL.dTup, DL.dOf, DL.fLst, DL.fComp, DL.fItems, DL.wipeS, DL.iSeq, DL.iR1, DL.iR2, DL.iZip, DL.itemsD, DL.xVal, DL.xNil, DL.dIf, DL.gN, DL.gT, DL.gsN, DL.gsC, DL.aStar, DL.M.pure_bind, DL.M.lift_some, DL.toB_bl, DL.toI_int, DL.ltD_int, DL.leD_int, DL.gtD_int, DL.geD_int, DL.subD_int, DL.addD_int, DL.negD_int, DL.maxD_int, DL.eqD_int, DL.neD_int, DL.eqD_tN, DL.neD_tN, DL.neD_tN0, DL.inD_tN, DL.slD_tN, DL.lenD_tN, DL.fits_map, DL.fits_nil, List.map_cons, List.map_nil, List.replicate, List.cons_append, List.nil_append, Nat.sub_zero, Nat.reduceSub, List.getElem?_cons_zero, List.getElem?_cons_succ, List.length_cons, List.length_nil, Nat.zero_add, Nat.reduceAdd, if_true, List.set_cons_zero, List.set_cons_succ, Option.bind_some, ix0, ix1, hv, hv']
  have em : (if (a'.length : Int) > (a.length : Int) then (a'.length : Int) else (a.length : Int)) + (b.length : Int) + (b'.length : Int) = ((mostApart a b a' b' : Nat) : Int) := by
    unfold mostApart
    split <;> omega
  have e5 : (((mostApart a b a' b' : Nat) : Int) + 1 - 1).toNat = mostApart a b a' b' := by omega
  unfold apart
  rcases hl with ⟨x, h1, h2⟩ | ⟨h1, ρ', h2, h3⟩
  · rw [h1]
    simp only [b_first_apart, DL.sSeq, DL.seqO, DL.sIf, DL.sRet, DL.sSet, DL.sExpr, DL.sNo, DL.sNil, DL.sMany, DL.setS, DL.sAsg, DL.bO_pure, DL.dVar, DL.dC, DL.dOp, DL.dCB, DL.dCall, DL.aCons, DL.aNil, DL.dB, DL.bAnd, DL.bOr, DL.bNot, DL.dAnd, DL.dOr, DL.dNot, DL.dNeg, DL.dChain, DL.dIsi, DL.dIsi2, DL.tyD, DL.Ty.isa, DL.dSlice, DL.pNone, DL.pSome, DL.dTup, DL.dOf, DL.fLst, DL.fComp, DL.fItems, DL.wipeS, DL.iSeq, DL.iR1, DL.iR2, DL.iZip, DL.itemsD, DL.xVal, DL.xNil, DL.dIf, DL.gN, DL.gT, DL.gsN, DL.gsC, DL.aStar, DL.M.pure_bind, DL.M.lift_some, DL.toB_bl, DL.toI_int, DL.ltD_int, DL.leD_int, DL.gtD_int, DL.geD_int, DL.subD_int, DL.addD_int, DL.negD_int, DL.maxD_int, DL.eqD_int, DL.neD_int, DL.eqD_tN, DL.neD_tN, DL.neD_tN0, DL.inD_tN, DL.slD_tN, DL.lenD_tN, DL.fits_map, DL.fits_nil, List.map_cons, List.map_nil, List.replicate, List.cons_append, List.nil_append, Nat.sub_zero, Nat.reduceSub, List.getElem?_cons_zero, List.getElem?_cons_succ, List.length_cons, List.length_nil, Nat.zero_add, Nat.reduceAdd, if_true, List.set_cons_zero, List.set_cons_succ, Option.bind_some, c_MOST_WIDE, sFor, rangeD_eq, v_sure_lasso h hd, v_sure_lasso h' hd', ix0, ix1, em, e5, h2]
    rfl
  · rw [h1]
    simp only [b_first_apart, DL.sSeq, DL.seqO, DL.sIf, DL.sRet, DL.sSet, DL.sExpr, DL.sNo, DL.sNil, DL.sMany, DL.setS, DL.sAsg, DL.bO_pure, DL.dVar, DL.dC, DL.dOp, DL.dCB, DL.dCall, DL.aCons, DL.aNil, DL.dB, DL.bAnd, DL.bOr, DL.bNot, DL.dAnd, DL.dOr, DL.dNot, DL.dNeg, DL.dChain, DL.dIsi, DL.dIsi2, DL.tyD, DL.Ty.isa, DL.dSlice, DL.pNone, DL.pSome, DL.dTup, DL.dOf, DL.fLst, DL.fComp, DL.fItems, DL.wipeS, DL.iSeq, DL.iR1, DL.iR2, DL.iZip, DL.itemsD, DL.xVal, DL.xNil, DL.dIf, DL.gN, DL.gT, DL.gsN, DL.gsC, DL.aStar, DL.M.pure_bind, DL.M.lift_some, DL.toB_bl, DL.toI_int, DL.ltD_int, DL.leD_int, DL.gtD_int, DL.geD_int, DL.subD_int, DL.addD_int, DL.negD_int, DL.maxD_int, DL.eqD_int, DL.neD_int, DL.eqD_tN, DL.neD_tN, DL.neD_tN0, DL.inD_tN, DL.slD_tN, DL.lenD_tN, DL.fits_map, DL.fits_nil, List.map_cons, List.map_nil, List.replicate, List.cons_append, List.nil_append, Nat.sub_zero, Nat.reduceSub, List.getElem?_cons_zero, List.getElem?_cons_succ, List.length_cons, List.length_nil, Nat.zero_add, Nat.reduceAdd, if_true, List.set_cons_zero, List.set_cons_succ, Option.bind_some, c_MOST_WIDE, sFor, rangeD_eq, v_sure_lasso h hd, v_sure_lasso h' hd', ix0, ix1, em, e5, h2]
    rfl
/-! ### letters -/
theorem fSortSetT_eq {fa : DL.Env → M D} {ρ : DL.Env} {xs : List Int} (h : fa ρ = M.pure (tN xs)) (hl : xs.length < 64) : fSortSetT fa ρ = M.pure ((sortI xs).map .int) := by
  unfold fSortSetT
  rw [h, M.pure_bind]
  show (match intsOf (xs.map D.int) with | some ns => if ns.length < 64 then M.pure ((sortI ns).map D.int) else M.no | none => M.no) = _
  rw [intsOf_map]
  show (if xs.length < 64 then M.pure ((sortI xs).map D.int) else M.no) = _
  rw [if_pos hl]
theorem tupleD_lst (xs : List D) : tupleD [.lst xs] = some (.tup xs) := rfl
theorem v_endless {d : D} {a b : List Int} (h : Las a b) (hd : m_tuple_of 8 [d] = M.pure (lasD a b)) (hl : a.length + b.length < 64) : m_endless_letters [d] = M.pure (lasD (sortI (a ++ b)) (sortI b)) := by
  have hadd := addD_tN a b (Nat.le_trans (show _ ≤ 100000 by omega) size_ge)
  have e1 : fSortSetT (dOp addD (dOp ixD (dVar 1) (dC (.int 0))) (dOp ixD (dVar 1) (dC (.int 1)))) [.d d, .d (lasD a b)] = M.pure ((sortI (a ++ b)).map .int) := fSortSetT_eq (by simp only [DL.sSeq, DL.seqO, DL.sIf, DL.sRet, DL.sSet, DL.sExpr, DL.sNo, DL.sNil, DL.sMany, DL.setS, DL.sAsg, DL.bO_pure, DL.dVar, DL.dC, DL.dOp, DL.dCB, DL.dCall, DL.aCons, DL.aNil, DL.dB, DL.bAnd, DL.bOr, DL.bNot, DL.dAnd, DL.dOr, DL.dNot, DL.dNeg, DL.dChain, DL.dIsi, DL.dIsi2, DL.tyD, DL.Ty.isa, DL.dSlice, DL.pNone, DL.pSome, DL.dTup, DL.dOf, DL.fLst, DL.fComp, DL.fItems, DL.wipeS, DL.iSeq, DL.iR1, DL.iR2, DL.iZip, DL.itemsD, DL.xVal, DL.xNil, DL.dIf, DL.gN, DL.gT, DL.gsN, DL.gsC, DL.aStar, DL.M.pure_bind, DL.M.lift_some, DL.toB_bl, DL.toI_int, DL.ltD_int, DL.leD_int, DL.gtD_int, DL.geD_int, DL.subD_int, DL.addD_int, DL.negD_int, DL.maxD_int, DL.eqD_int, DL.neD_int, DL.eqD_tN, DL.neD_tN, DL.neD_tN0, DL.inD_tN, DL.slD_tN, DL.lenD_tN, DL.fits_map, DL.fits_nil, List.map_cons, List.map_nil, List.replicate, List.cons_append, List.nil_append, Nat.sub_zero, Nat.reduceSub, List.getElem?_cons_zero, List.getElem?_cons_succ, List.length_cons, List.length_nil, Nat.zero_add, Nat.reduceAdd, if_true, List.set_cons_zero, List.set_cons_succ, Option.bind_some, ix0, ix1, hadd]) (by rw [List.length_append]; exact hl)
  have e2 : fSortSetT (dOp ixD (dVar 1) (dC (.int 1))) [.d d, .d (lasD a b)] = M.pure ((sortI b).map .int) := fSortSetT_eq (by simp only [DL.sSeq, DL.seqO, DL.sIf, DL.sRet, DL.sSet, DL.sExpr, DL.sNo, DL.sNil, DL.sMany, DL.setS, DL.sAsg, DL.bO_pure, DL.dVar, DL.dC, DL.dOp, DL.dCB, DL.dCall, DL.aCons, DL.aNil, DL.dB, DL.bAnd, DL.bOr, DL.bNot, DL.dAnd, DL.dOr, DL.dNot, DL.dNeg, DL.dChain, DL.dIsi, DL.dIsi2, DL.tyD, DL.Ty.isa, DL.dSlice, DL.pNone, DL.pSome, DL.dTup, DL.dOf, DL.fLst, DL.fComp, DL.fItems, DL.wipeS, DL.iSeq, DL.iR1, DL.iR2, DL.iZip, DL.itemsD, DL.xVal, DL.xNil, DL.dIf, DL.gN, DL.gT, DL.gsN, DL.gsC, DL.aStar, DL.M.pure_bind, DL.M.lift_some, DL.toB_bl, DL.toI_int, DL.ltD_int, DL.leD_int, DL.gtD_int, DL.geD_int, DL.subD_int, DL.addD_int, DL.negD_int, DL.maxD_int, DL.eqD_int, DL.neD_int, DL.eqD_tN, DL.neD_tN, DL.neD_tN0, DL.inD_tN, DL.slD_tN, DL.lenD_tN, DL.fits_map, DL.fits_nil, List.map_cons, List.map_nil, List.replicate, List.cons_append, List.nil_append, Nat.sub_zero, Nat.reduceSub, List.getElem?_cons_zero, List.getElem?_cons_succ, List.length_cons, List.length_nil, Nat.zero_add, Nat.reduceAdd, if_true, List.set_cons_zero, List.set_cons_succ, Option.bind_some, ix0, ix1]) (by omega)
  have hf : fits [tN (sortI (a ++ b)), tN (sortI b)] = true := rfl
  refine runG_rt rfl fun τ => ?_
  simp only [b_endless_letters, DL.sSeq, DL.seqO, DL.sIf, DL.sRet, DL.sSet, DL.sExpr, DL.sNo, DL.sNil, DL.sMany, DL.setS, DL.sAsg, DL.bO_pure, DL.dVar, DL.dC, DL.dOp, DL.dCB, DL.dCall, DL.aCons, DL.aNil, DL.dB, DL.bAnd, DL.bOr, DL.bNot, DL.dAnd, DL.dOr, DL.dNot, DL.dNeg, DL.dChain, DL.dIsi, DL.dIsi2, DL.tyD, DL.Ty.isa, DL.dSlice, DL.pNone, DL.pSome, DL.dTup, DL.dOf, DL.fLst, DL.fComp, DL.fItems, DL.wipeS, DL.iSeq, DL.iR1, DL.iR2, DL.iZip, DL.itemsD, DL.xVal, DL.xNil, DL.dIf, DL.gN, DL.gT, DL.gsN, DL.gsC, DL.aStar, DL.M.pure_bind, DL.M.lift_some, DL.toB_bl, DL.toI_int, DL.ltD_int, DL.leD_int, DL.gtD_int, DL.geD_int, DL.subD_int, DL.addD_int, DL.negD_int, DL.maxD_int, DL.eqD_int, DL.neD_int, DL.eqD_tN, DL.neD_tN, DL.neD_tN0, DL.inD_tN, DL.slD_tN, DL.lenD_tN, DL.fits_map, DL.fits_nil, List.map_cons, List.map_nil, List.replicate, List.cons_append, List.nil_append, Nat.sub_zero, Nat.reduceSub, List.getElem?_cons_zero, List.getElem?_cons_succ, List.length_cons, List.length_nil, Nat.zero_add, Nat.reduceAdd, if_true, List.set_cons_zero, List.set_cons_succ, Option.bind_some, c_MOST_WIDE, v_sure_lasso h hd, e1, e2, tupleD_lst, hf]
theorem v_sure_letters {d : D} {s : List Int} (hd : m_tuple_of 8 [d] = M.pure (tN s)) (hs : m_is_letters [.int 3, tN s] = M.pure (.bl true)) : m_sure_letters [d] = M.pure (tN s) := by
  refine runG_rt rfl fun τ => ?_
  simp only [b_sure_letters, DL.sSeq, DL.seqO, DL.sIf, DL.sRet, DL.sSet, DL.sExpr, DL.sNo, DL.sNil, DL.sMany, DL.setS, DL.sAsg, DL.bO_pure, DL.dVar, DL.dC, DL.dOp, DL.dCB, DL.dCall, DL.aCons, DL.aNil, DL.dB, DL.bAnd, DL.bOr, DL.bNot, DL.dAnd, DL.dOr, DL.dNot, DL.dNeg, DL.dChain, DL.dIsi, DL.dIsi2, DL.tyD, DL.Ty.isa, DL.dSlice, DL.pNone, DL.pSome, DL.dTup, DL.dOf, DL.fLst, DL.fComp, DL.fItems, DL.wipeS, DL.iSeq, DL.iR1, DL.iR2, DL.iZip, DL.itemsD, DL.xVal, DL.xNil, DL.dIf, DL.gN, DL.gT, DL.gsN, DL.gsC, DL.aStar, DL.M.pure_bind, DL.M.lift_some, DL.toB_bl, DL.toI_int, DL.ltD_int, DL.leD_int, DL.gtD_int, DL.geD_int, DL.subD_int, DL.addD_int, DL.negD_int, DL.maxD_int, DL.eqD_int, DL.neD_int, DL.eqD_tN, DL.neD_tN, DL.neD_tN0, DL.inD_tN, DL.slD_tN, DL.lenD_tN, DL.fits_map, DL.fits_nil, List.map_cons, List.map_nil, List.replicate, List.cons_append, List.nil_append, Nat.sub_zero, Nat.reduceSub, List.getElem?_cons_zero, List.getElem?_cons_succ, List.length_cons, List.length_nil, Nat.zero_add, Nat.reduceAdd, if_true, List.set_cons_zero, List.set_cons_succ, Option.bind_some, c_MOST_WIDE, hd, hs, Bool.not_true, Bool.false_eq_true, if_false]
/-- how many of the row are of s -/
def cnt (s row : List Int) : Nat := (row.filter fun x => decide (x ∈ s)).length
theorem v_count_in {row s : List Int} (hl : row.length ≤ sizeLine) : m_count_in [tN row, tN s] = M.pure (.int (cnt s row)) := by
  have hc : compM (gN 2) (dB (dOp inD (dVar 2) (dVar 1))) (dVar 2) (row.map D.int) [.d (tN row), .d (tN s), .un] = M.pure ((row.filter fun x => decide (x ∈ s)).map D.int) := compM_if (h := D.int) row (fun x _ => by simp only [DL.sSeq, DL.seqO, DL.sIf, DL.sRet, DL.sSet, DL.sExpr, DL.sNo, DL.sNil, DL.sMany, DL.setS, DL.sAsg, DL.bO_pure, DL.dVar, DL.dC, DL.dOp, DL.dCB, DL.dCall, DL.aCons, DL.aNil, DL.dB, DL.bAnd, DL.bOr, DL.bNot, DL.dAnd, DL.dOr, DL.dNot, DL.dNeg, DL.dChain, DL.dIsi, DL.dIsi2, DL.tyD, DL.Ty.isa, DL.dSlice, DL.pNone, DL.pSome, DL.dTup, DL.dOf, DL.fLst, DL.fComp, DL.fItems, DL.wipeS, DL.iSeq, DL.iR1, DL.iR2, DL.iZip, DL.itemsD, DL.xVal, DL.xNil, DL.dIf, DL.gN, DL.gT, DL.gsN, DL.gsC, DL.aStar, DL.M.pure_bind, DL.M.lift_some, DL.toB_bl, DL.toI_int, DL.ltD_int, DL.leD_int, DL.gtD_int, DL.geD_int, DL.subD_int, DL.addD_int, DL.negD_int, DL.maxD_int, DL.eqD_int, DL.neD_int, DL.eqD_tN, DL.neD_tN, DL.neD_tN0, DL.inD_tN, DL.slD_tN, DL.lenD_tN, DL.fits_map, DL.fits_nil, List.map_cons, List.map_nil, List.replicate, List.cons_append, List.nil_append, Nat.sub_zero, Nat.reduceSub, List.getElem?_cons_zero, List.getElem?_cons_succ, List.length_cons, List.length_nil, Nat.zero_add, Nat.reduceAdd, if_true, List.set_cons_zero, List.set_cons_succ, Option.bind_some]) fun x _ _ => by simp only [DL.sSeq, DL.seqO, DL.sIf, DL.sRet, DL.sSet, DL.sExpr, DL.sNo, DL.sNil, DL.sMany, DL.setS, DL.sAsg, DL.bO_pure, DL.dVar, DL.dC, DL.dOp, DL.dCB, DL.dCall, DL.aCons, DL.aNil, DL.dB, DL.bAnd, DL.bOr, DL.bNot, DL.dAnd, DL.dOr, DL.dNot, DL.dNeg, DL.dChain, DL.dIsi, DL.dIsi2, DL.tyD, DL.Ty.isa, DL.dSlice, DL.pNone, DL.pSome, DL.dTup, DL.dOf, DL.fLst, DL.fComp, DL.fItems, DL.wipeS, DL.iSeq, DL.iR1, DL.iR2, DL.iZip, DL.itemsD, DL.xVal, DL.xNil, DL.dIf, DL.gN, DL.gT, DL.gsN, DL.gsC, DL.aStar, DL.M.pure_bind, DL.M.lift_some, DL.toB_bl, DL.toI_int, DL.ltD_int, DL.leD_int, DL.gtD_int, DL.geD_int, DL.subD_int, DL.addD_int, DL.negD_int, DL.maxD_int, DL.eqD_int, DL.neD_int, DL.eqD_tN, DL.neD_tN, DL.neD_tN0, DL.inD_tN, DL.slD_tN, DL.lenD_tN, DL.fits_map, DL.fits_nil, List.map_cons, List.map_nil, List.replicate, List.cons_append, List.nil_append, Nat.sub_zero, Nat.reduceSub, List.getElem?_cons_zero, List.getElem?_cons_succ, List.length_cons, List.length_nil, Nat.zero_add, Nat.reduceAdd, if_true, List.set_cons_zero, List.set_cons_succ, Option.bind_some]
  have hn : lenD [.lst ((row.filter fun x => decide (x ∈ s)).map D.int)] = some (.int (cnt s row)) := by
    show some (D.int (((row.filter fun x => decide (x ∈ s)).map D.int).length : Nat)) = _
    rw [List.length_map]
    rfl
  have hf := fits_map (f := D.int) hl
  refine runG_rt rfl fun τ => ?_
  simp only [b_count_in, DL.sSeq, DL.seqO, DL.sIf, DL.sRet, DL.sSet, DL.sExpr, DL.sNo, DL.sNil, DL.sMany, DL.setS, DL.sAsg, DL.bO_pure, DL.dVar, DL.dC, DL.dOp, DL.dCB, DL.dCall, DL.aCons, DL.aNil, DL.dB, DL.bAnd, DL.bOr, DL.bNot, DL.dAnd, DL.dOr, DL.dNot, DL.dNeg, DL.dChain, DL.dIsi, DL.dIsi2, DL.tyD, DL.Ty.isa, DL.dSlice, DL.pNone, DL.pSome, DL.dTup, DL.dOf, DL.fLst, DL.fComp, DL.fItems, DL.wipeS, DL.iSeq, DL.iR1, DL.iR2, DL.iZip, DL.itemsD, DL.xVal, DL.xNil, DL.dIf, DL.gN, DL.gT, DL.gsN, DL.gsC, DL.aStar, DL.M.pure_bind, DL.M.lift_some, DL.toB_bl, DL.toI_int, DL.ltD_int, DL.leD_int, DL.gtD_int, DL.geD_int, DL.subD_int, DL.addD_int, DL.negD_int, DL.maxD_int, DL.eqD_int, DL.neD_int, DL.eqD_tN, DL.neD_tN, DL.neD_tN0, DL.inD_tN, DL.slD_tN, DL.lenD_tN, DL.fits_map, DL.fits_nil, List.map_cons, List.map_nil, List.replicate, List.cons_append, List.nil_append, Nat.sub_zero, Nat.reduceSub, List.getElem?_cons_zero, List.getElem?_cons_succ, List.length_cons, List.length_nil, Nat.zero_add, Nat.reduceAdd, if_true, List.set_cons_zero, List.set_cons_succ, Option.bind_some, hf, hc, hn]

/-- how many of the first n letters are of s -/
def often (a b s : List Int) (n : Nat) : Nat := if n ≤ a.length then cnt s (a.take n) else cnt s a + ((n - a.length) / b.length) * cnt s b + cnt s (b.take ((n - a.length) % b.length))
theorem cnt_le (s row : List Int) : cnt s row ≤ row.length := List.length_filter_le _ _
theorem v_how_often {d e : D} {a b s : List Int} {n : Nat} (h : Las a b) (hd : m_tuple_of 8 [d] = M.pure (lasD a b)) (he : m_tuple_of 8 [e] = M.pure (tN s)) (hs : m_is_letters [.int 3, tN s] = M.pure (.bl true)) (hn : (n : Int) ≤ 1000000000000000000000000000000) :
    m_how_often_to [d, e, .int n] = M.pure (.int (often a b s n)) := by
  have h2 := v_sure_many (i := (n : Int)) (j := 1000000000000000000000000000000) (by omega) hn
  have hl : (0 : Int) < b.length := by have := h.pb; omega
  have lb := h.lb
  have la := h.la
  refine runG_rt rfl fun τ => ?_
  unfold often
  by_cases hk : n ≤ a.length
  · have hk' : ((n : Int) ≤ (a.length : Int)) = True := by simp [hk]
    have hc : cutL a none (some (n : Int)) = a.take n := by rw [cutL_hi a (by omega)]; rfl
    have hv := v_count_in (row := a.take n) (s := s) (by rw [List.length_take]; exact Nat.le_trans (show _ ≤ 100000 by omega) size_ge)
    rw [if_pos hk]
    simp only [b_how_often_to, DL.sSeq, DL.seqO, DL.sIf, DL.sRet, DL.sSet, DL.sExpr, DL.sNo, DL.sNil, DL.sMany, DL.setS, DL.sAsg, DL.bO_pure, DL.dVar, DL.dC, DL.dOp, DL.dCB, DL.dCall, DL.aCons, DL.aNil, DL.dB, DL.bAnd, DL.bOr, DL.bNot, DL.dAnd, DL.dOr, DL.dNot, DL.dNeg, DL.dChain, DL.dIsi, DL.dIsi2, DL.tyD, DL.Ty.isa, DL.dSlice, DL.pNone, DL.pSome, DL.dTup, DL.dOf, DL.fLst, DL.fComp, DL.fItems, DL.wipeS, DL.iSeq, DL.iR1, DL.iR2, DL.iZip, DL.itemsD, DL.xVal, DL.xNil, DL.dIf, DL.gN, DL.gT, DL.gsN, DL.gsC, DL.aStar, DL.M.pure_bind, DL.M.lift_some, DL.toB_bl, DL.toI_int, DL.ltD_int, DL.leD_int, DL.gtD_int, DL.geD_int, DL.subD_int, DL.addD_int, DL.negD_int, DL.maxD_int, DL.eqD_int, DL.neD_int, DL.eqD_tN, DL.neD_tN, DL.neD_tN0, DL.inD_tN, DL.slD_tN, DL.lenD_tN, DL.fits_map, DL.fits_nil, List.map_cons, List.map_nil, List.replicate, List.cons_append, List.nil_append, Nat.sub_zero, Nat.reduceSub, List.getElem?_cons_zero, List.getElem?_cons_succ, List.length_cons, List.length_nil, Nat.zero_add, Nat.reduceAdd, if_true, List.set_cons_zero, List.set_cons_succ, Option.bind_some, c_MOST_WIDE, c_MOST_PLACE, v_sure_lasso h hd, v_sure_letters he hs, h2, hk', decide_true, hc, hv]
  · have hk' : ((n : Int) ≤ (a.length : Int)) = False := by simp; omega
    have e0 : (n : Int) - (a.length : Int) = ((n - a.length : Nat) : Int) := by omega
    have hmod : modD (.int ((n : Int) - (a.length : Int))) (.int (b.length : Int)) = some (.int (((n - a.length) % b.length : Nat) : Int)) := by rw [modD_int hl, e0, Int.natCast_emod]
    have hdiv : fdivD (.int ((n : Int) - (a.length : Int))) (.int (b.length : Int)) = some (.int (((n - a.length) / b.length : Nat) : Int)) := by rw [fdivD_int hl (by omega), e0, Int.natCast_ediv]
    have hc2 : cutL b none (some (((n - a.length) % b.length : Nat) : Int)) = b.take ((n - a.length) % b.length) := by rw [cutL_hi b (by omega)]; rfl
    have hva := v_count_in (row := a) (s := s) h.sa
    have hvb := v_count_in (row := b) (s := s) h.sb
    have hvc := v_count_in (row := b.take ((n - a.length) % b.length)) (s := s) (by rw [List.length_take]; exact Nat.le_trans (show _ ≤ 100000 by omega) size_ge)
    have hm : mulD (.int (((n - a.length) / b.length : Nat) : Int)) (.int ((cnt s b : Nat) : Int)) = some (.int ((((n - a.length) / b.length) * cnt s b : Nat) : Int)) := by
      rw [mulD_int (.inr (small64_nat (Nat.le_trans (cnt_le s b) (Nat.le_trans lb (by decide))))), Int.natCast_mul]
    rw [if_neg hk]
    simp (implicitDefEqProofs := false) only [b_how_often_to, DL.sSeq, DL.seqO, DL.sIf, DL.sRet, DL.sSet, DL.sExpr, DL.sNo, DL.sNil, DL.sMany, DL.setS, DL.sAsg, DL.bO_pure, DL.dVar, DL.dC, DL.dOp, DL.dCB, DL.dCall, DL.aCons, DL.aNil, DL.dB, DL.bAnd, DL.bOr, DL.bNot, DL.dAnd, DL.dOr, DL.dNot, DL.dNeg, DL.dChain, DL.dIsi, DL.dIsi2, DL.tyD, DL.Ty.isa, DL.dSlice, DL.pNone, DL.pSome, DL.dTup, DL.dOf, DL.fLst, DL.fComp, DL.fItems, DL.wipeS, DL.iSeq, DL.iR1, DL.iR2, DL.iZip, DL.itemsD, DL.xVal, DL.xNil, DL.dIf, DL.gN, DL.gT, DL.gsN, DL.gsC, DL.aStar, DL.M.pure_bind, DL.M.lift_some, DL.toB_bl, DL.toI_int, DL.ltD_int, DL.leD_int, DL.gtD_int, DL.geD_int, DL.subD_int, DL.addD_int, DL.negD_int, DL.maxD_int, DL.eqD_int, DL.neD_int, DL.eqD_tN, DL.neD_tN, DL.neD_tN0, DL.inD_tN, DL.slD_tN, DL.lenD_tN, DL.fits_map, DL.fits_nil, List.map_cons, List.map_nil, List.replicate, List.cons_append, List.nil_append, Nat.sub_zero, Nat.reduceSub, List.getElem?_cons_zero, List.getElem?_cons_succ, List.length_cons, List.length_nil, Nat.zero_add, Nat.reduceAdd, if_true, List.set_cons_zero, List.set_cons_succ, Option.bind_some, c_MOST_WIDE, c_MOST_PLACE, v_sure_lasso h hd, v_sure_letters he hs, h2, hk', decide_false, hmod, hdiv, hc2, hva, hvb, hvc, hm, Bool.false_eq_true, if_false, Int.natCast_add]
/-- the next place with a letter of s, as counted from 1, behind n -/
def nextW (a b s : List Int) (n : Nat) : Option Nat := (List.range (a.length + b.length)).find? fun i => decide (at0 a b (n + i) ∈ s)
def nextD (n : Nat) : Option Nat → D
  | some i => .int ((n : Int) + 1 + (i : Int))
  | none => .non
theorem v_next_with {d e : D} {a b s : List Int} {n : Nat} (h : Las a b) (hd : m_tuple_of 8 [d] = M.pure (lasD a b)) (he : m_tuple_of 8 [e] = M.pure (tN s)) (hs : m_is_letters [.int 3, tN s] = M.pure (.bl true)) (hn : (n : Int) ≤ 1000000000000000000000000000000) :
    m_next_with [d, e, .int n] = M.pure (nextD n (nextW a b s n)) := by
  have h2 := v_sure_many (i := (n : Int)) (j := 1000000000000000000000000000000) (by omega) hn
  refine runG_rt rfl fun τ => ?_
  have hl := loop_findF (b := sIf (dB (dOp inD (dCall 3 m_entry_at (aCons (dOp ixD (dVar 3) (dC (.int 0))) (aCons (dOp ixD (dVar 3) (dC (.int 1))) (aCons (dVar 5) aNil)))) (dVar 4))) (sRet (dVar 5)) sNil)
    (p := fun i : Nat => decide (at0 a b (n + i) ∈ s)) (v := fun i : Nat => .int ((n : Int) + 1 + (i : Int))) (j := fun i : Nat => D.int ((n : Int) + 1 + (i : Int))) (i := 5) (τ := τ) (List.range (a.length + b.length)) [.d d, .d e, .d (.int n), .d (lasD a b), .d (tN s), .un] fun i _ => by
    have e1 : ((n : Int) + 1 + (i : Int) - 1).toNat = n + i := by omega
    have hv := v_entry_at (a := a) (b := b) (p := (n : Int) + 1 + (i : Int)) (by omega) h.nb
    rw [e1] at hv
    simp only [DL.sSeq, DL.seqO, DL.sIf, DL.sRet, DL.sSet, DL.sExpr, DL.sNo, DL.sNil, DL.sMany, DL.setS, DL.sAsg, DL.bO_pure, DL.dVar, DL.dC, DL.dOp, DL.dCB, DL.dCall, DL.aCons, DL.aNil, DL.dB, DL.bAnd, DL.bOr, DL.bNot, DL.dAnd, DL.dOr, DL.dNot, DL.dNeg, DL.dChain, DL.dIsi, DL.dIsi2, DL.tyD, DL.Ty.isa, DL.dSlice, DL.pNone, DL.pSome, DL.dTup, DL.dOf, DL.fLst, DL.fComp, DL.fItems, DL.wipeS, DL.iSeq, DL.iR1, DL.iR2, DL.iZip, DL.itemsD, DL.xVal, DL.xNil, DL.dIf, DL.gN, DL.gT, DL.gsN, DL.gsC, DL.aStar, DL.M.pure_bind, DL.M.lift_some, DL.toB_bl, DL.toI_int, DL.ltD_int, DL.leD_int, DL.gtD_int, DL.geD_int, DL.subD_int, DL.addD_int, DL.negD_int, DL.maxD_int, DL.eqD_int, DL.neD_int, DL.eqD_tN, DL.neD_tN, DL.neD_tN0, DL.inD_tN, DL.slD_tN, DL.lenD_tN, DL.fits_map, DL.fits_nil, List.map_cons, List.map_nil, List.replicate, List.cons_append, List.nil_append, Nat.sub_zero, Nat.reduceSub, List.getElem?_cons_zero, List.getElem?_cons_succ, List.length_cons, List.length_nil, Nat.zero_add, Nat.reduceAdd, if_true, List.set_cons_zero, List.set_cons_succ, Option.bind_some, ix0, ix1, hv]
  have e5 : ((n : Int) + (a.length : Int) + (b.length : Int) + 1 - ((n : Int) + 1)).toNat = a.length + b.length := by omega
  unfold nextW
  rcases hl with ⟨x, h1, h3⟩ | ⟨h1, ρ', h3, h4⟩
  · rw [h1]
    simp only [b_next_with, DL.sSeq, DL.seqO, DL.sIf, DL.sRet, DL.sSet, DL.sExpr, DL.sNo, DL.sNil, DL.sMany, DL.setS, DL.sAsg, DL.bO_pure, DL.dVar, DL.dC, DL.dOp, DL.dCB, DL.dCall, DL.aCons, DL.aNil, DL.dB, DL.bAnd, DL.bOr, DL.bNot, DL.dAnd, DL.dOr, DL.dNot, DL.dNeg, DL.dChain, DL.dIsi, DL.dIsi2, DL.tyD, DL.Ty.isa, DL.dSlice, DL.pNone, DL.pSome, DL.dTup, DL.dOf, DL.fLst, DL.fComp, DL.fItems, DL.wipeS, DL.iSeq, DL.iR1, DL.iR2, DL.iZip, DL.itemsD, DL.xVal, DL.xNil, DL.dIf, DL.gN, DL.gT, DL.gsN, DL.gsC, DL.aStar, DL.M.pure_bind, DL.M.lift_some, DL.toB_bl, DL.toI_int, DL.ltD_int, DL.leD_int, DL.gtD_int, DL.geD_int, DL.subD_int, DL.addD_int, DL.negD_int, DL.maxD_int, DL.eqD_int, DL.neD_int, DL.eqD_tN, DL.neD_tN, DL.neD_tN0, DL.inD_tN, DL.slD_tN, DL.lenD_tN, DL.fits_map, DL.fits_nil, List.map_cons, List.map_nil, List.replicate, List.cons_append, List.nil_append, Nat.sub_zero, Nat.reduceSub, List.getElem?_cons_zero, List.getElem?_cons_succ, List.length_cons, List.length_nil, Nat.zero_add, Nat.reduceAdd, if_true, List.set_cons_zero, List.set_cons_succ, Option.bind_some, c_MOST_WIDE, c_MOST_PLACE, sFor, rangeD_eq, v_sure_lasso h hd, v_sure_letters he hs, h2, ix0, ix1, e5, h3]
    rfl
  · rw [h1]
    simp only [b_next_with, DL.sSeq, DL.seqO, DL.sIf, DL.sRet, DL.sSet, DL.sExpr, DL.sNo, DL.sNil, DL.sMany, DL.setS, DL.sAsg, DL.bO_pure, DL.dVar, DL.dC, DL.dOp, DL.dCB, DL.dCall, DL.aCons, DL.aNil, DL.dB, DL.bAnd, DL.bOr, DL.bNot, DL.dAnd, DL.dOr, DL.dNot, DL.dNeg, DL.dChain, DL.dIsi, DL.dIsi2, DL.tyD, DL.Ty.isa, DL.dSlice, DL.pNone, DL.pSome, DL.dTup, DL.dOf, DL.fLst, DL.fComp, DL.fItems, DL.wipeS, DL.iSeq, DL.iR1, DL.iR2, DL.iZip, DL.itemsD, DL.xVal, DL.xNil, DL.dIf, DL.gN, DL.gT, DL.gsN, DL.gsC, DL.aStar, DL.M.pure_bind, DL.M.lift_some, DL.toB_bl, DL.toI_int, DL.ltD_int, DL.leD_int, DL.gtD_int, DL.geD_int, DL.subD_int, DL.addD_int, DL.negD_int, DL.maxD_int, DL.eqD_int, DL.neD_int, DL.eqD_tN, DL.neD_tN, DL.neD_tN0, DL.inD_tN, DL.slD_tN, DL.lenD_tN, DL.fits_map, DL.fits_nil, List.map_cons, List.map_nil, List.replicate, List.cons_append, List.nil_append, Nat.sub_zero, Nat.reduceSub, List.getElem?_cons_zero, List.getElem?_cons_succ, List.length_cons, List.length_nil, Nat.zero_add, Nat.reduceAdd, if_true, List.set_cons_zero, List.set_cons_succ, Option.bind_some, c_MOST_WIDE, c_MOST_PLACE, sFor, rangeD_eq, v_sure_lasso h hd, v_sure_letters he hs, h2, ix0, ix1, e5, h3]
    rfl
end K39
end

section
set_option Elab.async false
set_option linter.all false
set_option maxHeartbeats 4000000
/-! MW: words without end, their shortest lassos -/
namespace K39
def rp (b : List Int) (i : Nat) : Int := b.getD (i % b.length) 0
theorem at0_lt {a b : List Int} {i : Nat} (h : i < a.length) : at0 a b i = a.getD i 0 := if_pos h
theorem at0_ge {a b : List Int} {i : Nat} (h : a.length ≤ i) : at0 a b i = rp b (i - a.length) := if_neg (by omega)
theorem at0_add (a b : List Int) (i : Nat) : at0 a b (a.length + i) = rp b i := by
  rw [at0_ge (by omega)]
  congr 1
  omega
theorem at0_nil (b : List Int) (i : Nat) : at0 [] b i = rp b i := by
  rw [at0_ge (by simp)]
  rfl
theorem rp_lt {b : List Int} {i : Nat} (h : i < b.length) : rp b i = b.getD i 0 := by
  unfold rp
  rw [Nat.mod_eq_of_lt h]
def Per (w : Nat → Int) (p : Nat) : Prop := ∀ i, w (i + p) = w i
theorem per_len (b : List Int) : Per (rp b) b.length := fun i => by
  unfold rp
  rw [Nat.add_mod_right]
theorem Per.mul {w : Nat → Int} {p : Nat} (h : Per w p) : ∀ k, Per w (p * k)
  | 0 => fun i => rfl
  | k + 1 => fun i => by
    rw [Nat.mul_succ, ← Nat.add_assoc, h (i + p * k), Per.mul h k i]
theorem Per.sub {w : Nat → Int} {p q : Nat} (h : Per w p) (k : Per w q) (l : p ≤ q) : Per w (q - p) := fun i => by
  rw [← h (i + (q - p)), Nat.add_assoc, Nat.sub_add_cancel l, k i]
theorem Per.mod {w : Nat → Int} {p q : Nat} (h : Per w p) (k : Per w q) : Per w (q % p) := by
  have e : q % p = q - p * (q / p) := by
    have := Nat.div_add_mod q p
    omega
  rw [e]
  exact (h.mul _).sub k (Nat.mul_div_le q p)
theorem Per.gcd {w : Nat → Int} (m n : Nat) : Per w m → Per w n → Per w (Nat.gcd m n) := by
  refine Nat.gcd.induction (P := fun m n => Per w m → Per w n → Per w (Nat.gcd m n)) m n (fun n _ h => by rw [Nat.gcd_zero_left]; exact h) fun m n _ ih h k => ?_
  rw [Nat.gcd_rec]
  exact ih (h.mod k) h
theorem Per.at {w : Nat → Int} {p : Nat} (h : Per w p) (i : Nat) : w i = w (i % p) := by
  have := h.mul (i / p) (i % p)
  rw [Nat.mod_add_div] at this
  exact this
theorem getD_app_left {a b : List Int} {i : Nat} (h : i < a.length) : (a ++ b).getD i 0 = a.getD i 0 := by
  rw [List.getD_eq_getElem?_getD, List.getD_eq_getElem?_getD, List.getElem?_append_left h]
theorem getD_app_right {a b : List Int} {i : Nat} (h : a.length ≤ i) : (a ++ b).getD i 0 = b.getD (i - a.length) 0 := by
  rw [List.getD_eq_getElem?_getD, List.getD_eq_getElem?_getD, List.getElem?_append_right h]
theorem getD_take {b : List Int} {m i : Nat} (h : i < m) : (b.take m).getD i 0 = b.getD i 0 := by
  rw [List.getD_eq_getElem?_getD, List.getD_eq_getElem?_getD, List.getElem?_take_of_lt h]
theorem getD_drop (b : List Int) (m i : Nat) : (b.drop m).getD i 0 = b.getD (m + i) 0 := by
  rw [List.getD_eq_getElem?_getD, List.getD_eq_getElem?_getD, List.getElem?_drop]
theorem ext_getD {a b : List Int} (hl : a.length = b.length) (h : ∀ i, i < a.length → a.getD i 0 = b.getD i 0) : a = b := by
  refine List.ext_getElem hl fun i h1 h2 => ?_
  have := h i h1
  rw [List.getD_eq_getElem?_getD, List.getD_eq_getElem?_getD, List.getElem?_eq_getElem h1, List.getElem?_eq_getElem h2] at this
  exact this
theorem flat_len (xs : List Int) : ∀ k, (List.replicate k xs).flatten.length = k * xs.length
  | 0 => by simp
  | k + 1 => by rw [List.replicate_succ, List.flatten_cons, List.length_append, flat_len xs k, Nat.succ_mul, Nat.add_comm]
theorem flat_getD (xs : List Int) : ∀ (k i : Nat), i < k * xs.length → (List.replicate k xs).flatten.getD i 0 = rp xs i
  | 0, i, h => by omega
  | k + 1, i, h => by
    rw [List.replicate_succ, List.flatten_cons]
    by_cases hi : i < xs.length
    · rw [getD_app_left hi, rp_lt hi]
    · rw [Nat.succ_mul] at h
      rw [getD_app_right (by omega), flat_getD xs k (i - xs.length) (by omega)]
      have := per_len xs (i - xs.length)
      rw [Nat.sub_add_cancel (by omega)] at this
      exact this.symm
/-- the round is its first m letters, again and again: a period that goes into its length -/
theorem isRep_word {b : List Int} {m : Nat} (h0 : 0 < m) (hm : m ≤ b.length) (h : isRep b m = true) (i : Nat) : rp (b.take m) i = rp b i := by
  unfold isRep at h
  simp only [Bool.and_eq_true, decide_eq_true_eq] at h
  obtain ⟨h1, h2⟩ := h
  have hl : (b.take m).length = m := by rw [List.length_take]; omega
  have hd : b.length / m * (b.take m).length = b.length := by
    rw [hl]
    exact Nat.div_mul_cancel (Nat.dvd_of_mod_eq_zero h1)
  have hk : ∀ j, j < b.length → b.getD j 0 = rp (b.take m) j := fun j hj => by
    have := flat_getD (b.take m) (b.length / m) j (by rw [hd]; exact hj)
    rw [h2] at this
    exact this
  have hb : 0 < b.length := by omega
  show _ = b.getD (i % b.length) 0
  rw [hk _ (Nat.mod_lt _ hb)]
  have hp : Per (rp (b.take m)) b.length := by
    have := (per_len (b.take m)).mul (b.length / m)
    rw [hl, Nat.mul_comm, Nat.div_mul_cancel (Nat.dvd_of_mod_eq_zero h1)] at this
    exact this
  exact hp.at i
theorem isRep_of {b : List Int} {m : Nat} (h0 : 0 < m) (hm : m ≤ b.length) (hd : m ∣ b.length) (hp : Per (rp b) m) : isRep b m = true := by
  unfold isRep
  simp only [Bool.and_eq_true, decide_eq_true_eq]
  have hl : (b.take m).length = m := by rw [List.length_take]; omega
  have hq : b.length / m * (b.take m).length = b.length := by
    rw [hl]
    exact Nat.div_mul_cancel hd
  refine ⟨Nat.mod_eq_zero_of_dvd hd, ext_getD (by rw [flat_len, hq]) fun i hi => ?_⟩
  rw [flat_len, hq] at hi
  rw [flat_getD _ _ _ (by rw [hq]; exact hi)]
  show (b.take m).getD (i % (b.take m).length) 0 = _
  rw [hl, getD_take (Nat.mod_lt _ h0), ← rp_lt hi, hp.at i, rp_lt (Nat.lt_of_lt_of_le (Nat.mod_lt _ h0) hm)]
/-- no shorter round tells the same -/
def Prim (k : List Int) : Prop := ∀ p, 0 < p → Per (rp k) p → k.length ≤ p
theorem root_word {b : List Int} (hb : b ≠ []) (i : Nat) : rp (root b) i = rp b i := by
  unfold root
  cases h : (List.range b.length).find? (fun i => isRep b (i + 1)) with
  | none => rfl
  | some m =>
    have h1 := List.find?_some h
    have h2 := List.mem_range.mp (List.mem_of_find?_eq_some h)
    exact isRep_word (by omega) (by omega) h1 i
theorem root_prim {b : List Int} (hb : b ≠ []) : Prim (root b) := by
  intro p hp h
  have hw : Per (rp b) p := fun i => by rw [← root_word hb, ← root_word hb]; exact h i
  have hl := List.length_pos_iff.mpr hb
  have hg : Per (rp b) (Nat.gcd p b.length) := Per.gcd _ _ hw (per_len b)
  have g0 : 0 < Nat.gcd p b.length := Nat.gcd_pos_of_pos_left _ hp
  have g1 : Nat.gcd p b.length ≤ p := Nat.gcd_le_left _ hp
  have g2 : Nat.gcd p b.length ≤ b.length := Nat.gcd_le_right _ hl
  have hr := isRep_of g0 g2 (Nat.gcd_dvd_right _ _) hg
  unfold root
  cases e : (List.range b.length).find? (fun i => isRep b (i + 1)) with
  | none =>
    have := List.find?_eq_none.mp e (Nat.gcd p b.length - 1) (List.mem_range.mpr (by omega))
    rw [Nat.sub_add_cancel g0] at this
    exact absurd hr this
  | some m =>
    show (b.take (m + 1)).length ≤ p
    rw [List.length_take]
    have : m ≤ Nat.gcd p b.length - 1 := by
      rcases Nat.lt_or_ge (Nat.gcd p b.length - 1) m with hlt | hge
      · obtain ⟨_, as, bs, e1, e2⟩ := List.find?_eq_some_iff_append.mp e
        have hlen : as.length = m := by
          have h3 : (List.range b.length)[as.length]? = some m := by rw [e1, List.getElem?_append_right (Nat.le_refl _)]; simp
          have h4 : as.length < (List.range b.length).length := by
            rw [e1, List.length_append, List.length_cons]
            omega
          rw [List.getElem?_eq_getElem h4, List.getElem_range] at h3
          exact Option.some.inj h3
        have hmem : Nat.gcd p b.length - 1 ∈ as := by
          have h5 : (List.range b.length)[Nat.gcd p b.length - 1]? = as[Nat.gcd p b.length - 1]? := by rw [e1, List.getElem?_append_left (by omega)]
          rw [List.getElem?_range (by omega)] at h5
          exact List.mem_of_getElem? h5.symm
        have := e2 _ hmem
        rw [Nat.sub_add_cancel g0] at this
        rw [hr] at this
        cases this
      · exact hge
    omega
/-! ### a letter goes over -/
theorem rp_turn (k : List Int) (x : Int) (i : Nat) : rp (x :: k) (i + 1) = rp (k ++ [x]) i := by
  unfold rp
  rw [List.length_cons, List.length_append]
  show (x :: k).getD ((i + 1) % (k.length + 1)) 0 = (k ++ [x]).getD (i % (k.length + 1)) 0
  have h : i % (k.length + 1) < k.length + 1 := Nat.mod_lt i (Nat.succ_pos k.length)
  by_cases hl : i % (k.length + 1) = k.length
  · have : (i + 1) % (k.length + 1) = 0 := by rw [Nat.add_mod, hl]; by_cases h0 : k.length = 0 <;> simp [h0, Nat.mod_eq_of_lt]
    rw [this, hl, getD_app_right (Nat.le_refl _), Nat.sub_self]
    rfl
  · have : (i + 1) % (k.length + 1) = i % (k.length + 1) + 1 := by
      rw [Nat.add_mod, Nat.mod_eq_of_lt (show 1 < k.length + 1 by omega), Nat.mod_eq_of_lt (by omega)]
    rw [this, getD_app_left (by omega)]
    simp
theorem at0_turn (f k : List Int) (x : Int) (i : Nat) : at0 f (x :: k) i = at0 (f ++ [x]) (k ++ [x]) i := by
  rcases Nat.lt_trichotomy i f.length with h | h | h
  · rw [at0_lt h, at0_lt (by rw [List.length_append]; omega), getD_app_left h]
  · rw [at0_ge (by omega), at0_lt (by rw [List.length_append, List.length_singleton]; omega), getD_app_right (by omega), h, Nat.sub_self, rp_lt (by simp)]
    simp
  · rw [at0_ge (by omega), at0_ge (by rw [List.length_append, List.length_singleton]; omega), List.length_append, List.length_singleton, ← rp_turn]
    congr 1
    omega
theorem prim_turn {k : List Int} {x : Int} (h : Prim (k ++ [x])) : Prim (x :: k) := fun p hp hper => by
  have := h p hp fun i => by rw [← rp_turn, ← rp_turn, ← hper (i + 1)]; congr 1; omega
  rw [List.length_append, List.length_singleton] at this
  exact this
def Red (f k : List Int) : Prop := f = [] ∨ f.getLast? ≠ k.getLast?
theorem shr_ok : ∀ (n : Nat) (f k : List Int), f.length ≤ n → k ≠ [] → Prim k → (∀ i, at0 (shr n f k).1 (shr n f k).2 i = at0 f k i) ∧ Prim (shr n f k).2 ∧ Red (shr n f k).1 (shr n f k).2 ∧ (shr n f k).2 ≠ []
  | 0, f, k, h, hk, hp => ⟨fun _ => rfl, hp, .inl (List.eq_nil_of_length_eq_zero (by show f.length = 0; omega)), hk⟩
  | n + 1, f, k, h, hk, hp => by
    rw [shr]
    split
    · rename_i hc
      obtain ⟨hf, hx⟩ := hc
      have ef := List.dropLast_concat_getLast hf
      have ek := List.dropLast_concat_getLast hk
      rw [List.getLast?_eq_some_getLast hf, List.getLast?_eq_some_getLast hk] at hx
      have hx := Option.some.inj hx
      rw [List.getLast?_eq_some_getLast hk]
      show (∀ i, at0 (shr n f.dropLast (k.getLast hk :: k.dropLast)).1 (shr n f.dropLast (k.getLast hk :: k.dropLast)).2 i = at0 f k i) ∧ Prim (shr n f.dropLast (k.getLast hk :: k.dropLast)).2 ∧ _
      obtain ⟨r1, r2, r3, r4⟩ := shr_ok n f.dropLast (k.getLast hk :: k.dropLast) (by rw [List.length_dropLast]; omega) (by simp) (prim_turn (by rw [ek]; exact hp))
      refine ⟨fun i => ?_, r2, r3, r4⟩
      have e := at0_turn f.dropLast k.dropLast (k.getLast hk) i
      rw [r1, e, ek, ← hx, ef]
    · rename_i hc
      refine ⟨fun _ => rfl, hp, ?_, hk⟩
      by_cases hf : f = []
      · exact .inl hf
      · exact .inr fun z => hc ⟨hf, z⟩
/-- the shortest lasso of the word -/
structure Norm (f k : List Int) : Prop where
  ne : k ≠ []
  prim : Prim k
  red : Red f k
theorem short_word {a b : List Int} (hb : b ≠ []) (i : Nat) : at0 (short a b).1 (short a b).2 i = at0 a b i := by
  have := (shr_ok a.length a (root b) (Nat.le_refl _) (root_ne hb) (root_prim hb)).1 i
  rw [show short a b = shr a.length a (root b) from rfl, this]
  unfold at0
  split
  · rfl
  · exact root_word hb _
theorem short_norm {a b : List Int} (hb : b ≠ []) : Norm (short a b).1 (short a b).2 := by
  obtain ⟨_, r2, r3, r4⟩ := shr_ok a.length a (root b) (Nat.le_refl _) (root_ne hb) (root_prim hb)
  exact ⟨r4, r2, r3⟩
theorem rp_shift {k k' : List Int} {c : Nat} (hk : k ≠ []) (h : ∀ i, rp k' i = rp k (c + i)) {p : Nat} : Per (rp k') p ↔ Per (rp k) p := by
  have hl := List.length_pos_iff.mpr hk
  have e : ∀ j, rp k j = rp k' (j + c * (k.length - 1)) := fun j => by
    rw [h]
    have := (per_len k).mul c j
    rw [← this]
    congr 1
    have : c + c * (k.length - 1) = k.length * c := by
      rw [Nat.mul_comm k.length, Nat.mul_sub, Nat.mul_one]
      have : c ≤ c * k.length := Nat.le_mul_of_pos_right _ hl
      omega
    omega
  constructor
  · intro hp j
    rw [e, e, ← hp (j + c * (k.length - 1))]
    congr 1
    omega
  · intro hp i
    rw [h, h, ← hp (c + i)]
    congr 1
    omega
theorem norm_le {f k f' k' : List Int} (n : Norm f k) (n' : Norm f' k') (h : ∀ i, at0 f k i = at0 f' k' i) (hle : f.length ≤ f'.length) : f = f' ∧ k = k' := by
  have hs : ∀ i, rp k' i = rp k ((f'.length - f.length) + i) := fun i => by
    rw [← at0_add f' k' i, ← h, at0_ge (by omega)]
    congr 1
    omega
  have hlk := List.length_pos_iff.mpr n.ne
  have hlk' := List.length_pos_iff.mpr n'.ne
  have l1 := n.prim k'.length hlk' ((rp_shift n.ne hs).mp (per_len k'))
  have l2 := n'.prim k.length hlk ((rp_shift n.ne hs).mpr (per_len k))
  have el : k.length = k'.length := by omega
  by_cases hlt : f.length < f'.length
  · exfalso
    have hf' : f' ≠ [] := fun z => by rw [z] at hlt; simp at hlt
    rcases n'.red with z | z
    · exact hf' z
    · apply z
      have e1 : f'.getD (f'.length - 1) 0 = k'.getD (k'.length - 1) 0 := by
        rw [← at0_lt (b := k') (by omega), ← h, at0_ge (by omega), ← rp_lt (b := k') (i := k'.length - 1) (by omega), hs, ← per_len k (f'.length - 1 - f.length)]
        congr 1
        omega
      rw [List.getLast?_eq_getElem?, List.getLast?_eq_getElem?]
      rw [List.getD_eq_getElem?_getD, List.getD_eq_getElem?_getD, List.getElem?_eq_getElem (by omega), List.getElem?_eq_getElem (by omega)] at e1
      rw [List.getElem?_eq_getElem (by omega), List.getElem?_eq_getElem (by omega)]
      exact congrArg some e1
  · have ef : f.length = f'.length := by omega
    refine ⟨ext_getD ef fun i hi => ?_, ext_getD el fun i hi => ?_⟩
    · rw [← at0_lt (b := k) hi, ← at0_lt (b := k') (by omega), h]
    · rw [← rp_lt hi, ← rp_lt (by omega), hs]
      congr 1
      omega
theorem norm_one {f k f' k' : List Int} (n : Norm f k) (n' : Norm f' k') (h : ∀ i, at0 f k i = at0 f' k' i) : f = f' ∧ k = k' := by
  rcases Nat.le_total f.length f'.length with hle | hle
  · exact norm_le n n' h hle
  · obtain ⟨e1, e2⟩ := norm_le n' n (fun i => (h i).symm) hle
    exact ⟨e1.symm, e2.symm⟩
/-- two lassos have one shortest lasso if they tell one word -/
theorem short_eq {a b a' b' : List Int} (hb : b ≠ []) (hb' : b' ≠ []) (h : ∀ i, at0 a b i = at0 a' b' i) : short a b = short a' b' := by
  obtain ⟨e1, e2⟩ := norm_one (short_norm (a := a) hb) (short_norm (a := a') hb') fun i => by rw [short_word hb, short_word hb', h]
  exact Prod.ext e1 e2
theorem short_word_of {a b a' b' : List Int} (hb : b ≠ []) (hb' : b' ≠ []) (h : short a b = short a' b') (i : Nat) : at0 a b i = at0 a' b' i := by
  rw [← short_word hb, ← short_word hb', h]
theorem short_short {a b : List Int} (hb : b ≠ []) : short (short a b).1 (short a b).2 = short a b := short_eq (short_norm hb).ne hb (short_word hb)
/-! ### words that agree long enough -/
theorem agree {a b a' b' : List Int} (hb : b ≠ []) (hb' : b' ≠ []) (h : ∀ i, i < mostApart a b a' b' → at0 a b i = at0 a' b' i) (i : Nat) : at0 a b i = at0 a' b' i := by
  have hl := List.length_pos_iff.mpr hb
  have hl' := List.length_pos_iff.mpr hb'
  have hN : ∃ N, N = max a.length a'.length ∧ a.length ≤ N ∧ a'.length ≤ N := ⟨_, rfl, by omega, by omega⟩
  obtain ⟨N, eN, h1, h2⟩ := hN
  unfold mostApart at h
  rw [← eN] at h
  have pu : Per (fun j => at0 a b (N + j)) b.length := fun j => by
    show at0 a b (N + (j + b.length)) = at0 a b (N + j)
    rw [at0_ge (by omega), at0_ge (by omega), ← per_len b (N + j - a.length)]
    congr 1
    omega
  have pv : Per (fun j => at0 a' b' (N + j)) b'.length := fun j => by
    show at0 a' b' (N + (j + b'.length)) = at0 a' b' (N + j)
    rw [at0_ge (by omega), at0_ge (by omega), ← per_len b' (N + j - a'.length)]
    congr 1
    omega
  have pv2 : Per (fun j => at0 a' b' (N + j)) b.length := fun j => by
    show at0 a' b' (N + (j + b.length)) = at0 a' b' (N + j)
    have e1 : at0 a' b' (N + (j + b.length)) = at0 a' b' (N + (j % b'.length + b.length)) := by
      have q := pv.mul (j / b'.length) (j % b'.length + b.length)
      have q : at0 a' b' (N + (j % b'.length + b.length + b'.length * (j / b'.length))) = at0 a' b' (N + (j % b'.length + b.length)) := q
      rw [← q]
      congr 1
      have := Nat.mod_add_div j b'.length
      omega
    have e2 : at0 a' b' (N + j) = at0 a' b' (N + j % b'.length) := pv.at j
    have hm := Nat.mod_lt j hl'
    rw [e1, e2, ← h _ (by omega), ← h _ (by omega)]
    exact pu _
  by_cases hi : i < N
  · exact h i (by omega)
  · have e1 : at0 a b i = at0 a b (N + (i - N) % b.length) := by
      have := pu.at (i - N)
      have : at0 a b (N + (i - N)) = at0 a b (N + (i - N) % b.length) := this
      rw [← this]
      congr 1
      omega
    have e2 : at0 a' b' i = at0 a' b' (N + (i - N) % b.length) := by
      have := pv2.at (i - N)
      have : at0 a' b' (N + (i - N)) = at0 a' b' (N + (i - N) % b.length) := this
      rw [← this]
      congr 1
      omega
    have hm := Nat.mod_lt (i - N) hl
    rw [e1, e2]
    exact h _ (by omega)
theorem find_first {p : Nat → Bool} {n m : Nat} (hm : m < n) (h : p m = true) (hl : ∀ i, i < m → p i = false) : (List.range n).find? p = some m := by
  rw [List.find?_range_eq_some]
  exact ⟨h, List.mem_range.mpr hm, fun j hj => by rw [hl j hj]; rfl⟩
theorem apart_same {a b a' b' : List Int} (h : ∀ i, at0 a b i = at0 a' b' i) : apart a b a' b' = none := by
  unfold apart
  rw [List.find?_eq_none]
  intro i _
  simp [h i]
theorem apart_at {a b a' b' : List Int} (hb : b ≠ []) (hb' : b' ≠ []) {m : Nat} (hl : ∀ i, i < m → at0 a b i = at0 a' b' i) (hm : at0 a b m ≠ at0 a' b' m) : apart a b a' b' = some m := by
  unfold apart
  refine find_first ?_ (by simp [hm]) fun i hi => by simp [hl i hi]
  rcases Nat.lt_or_ge m (mostApart a b a' b') with h | h
  · exact h
  · exact absurd (agree hb hb' (fun i hi => hl i (by omega)) m) hm
/-! ### moved on -/
theorem at0_drop {a b : List Int} {n : Nat} (h : n ≤ a.length) (i : Nat) : at0 (a.drop n) b i = at0 a b (n + i) := by
  by_cases hi : i < a.length - n
  · rw [at0_lt (by rw [List.length_drop]; exact hi), at0_lt (by omega), getD_drop]
  · rw [at0_ge (by rw [List.length_drop]; omega), at0_ge (by omega), List.length_drop]
    congr 1
    omega
theorem rp_rot {b : List Int} {r : Nat} (h : r < b.length) (i : Nat) : rp (b.drop r ++ b.take r) i = rp b (r + i) := by
  have hl : (b.drop r ++ b.take r).length = b.length := by rw [List.length_append, List.length_drop, List.length_take]; omega
  have hm := Nat.mod_lt i (show 0 < b.length by omega)
  have e : rp b (r + i) = b.getD ((r + i % b.length) % b.length) 0 := by
    unfold rp
    rw [Nat.add_mod r i, Nat.add_mod r (i % b.length), Nat.mod_mod]
  rw [e]
  unfold rp
  rw [hl]
  by_cases hi : i % b.length < b.length - r
  · rw [getD_app_left (by rw [List.length_drop]; exact hi), getD_drop, Nat.mod_eq_of_lt (show r + i % b.length < b.length by omega)]
  · rw [getD_app_right (by rw [List.length_drop]; omega), List.length_drop, getD_take (by omega)]
    have e2 : (r + i % b.length) % b.length = r + i % b.length - b.length := by
      rw [Nat.mod_eq_sub_mod (show b.length ≤ r + i % b.length by omega), Nat.mod_eq_of_lt (show r + i % b.length - b.length < b.length by omega)]
    rw [e2]
    congr 1
    omega
theorem moved_word {a b : List Int} (hb : b ≠ []) (n i : Nat) : at0 (moved a b n).1 (moved a b n).2 i = at0 a b (n + i) := by
  have hl := List.length_pos_iff.mpr hb
  unfold moved
  split
  · rename_i h
    rw [short_word hb, at0_drop h]
  · rename_i h
    have hm := Nat.mod_lt (n - a.length) hl
    rw [short_word (by
      intro z
      have := congrArg List.length z
      rw [List.length_append, List.length_drop, List.length_take, List.length_nil] at this
      omega), at0_nil, rp_rot hm, at0_ge (by omega)]
    have := (per_len b).mul ((n - a.length) / b.length) ((n - a.length) % b.length + i)
    rw [← this]
    congr 1
    have := Nat.mod_add_div (n - a.length) b.length
    omega
theorem moved_norm {a b : List Int} (hb : b ≠ []) (n : Nat) : Norm (moved a b n).1 (moved a b n).2 := by
  unfold moved
  split
  · exact short_norm hb
  · refine short_norm fun z => ?_
    have hl := List.length_pos_iff.mpr hb
    have := congrArg List.length z
    have hm := Nat.mod_lt (n - a.length) hl
    rw [List.length_append, List.length_drop, List.length_take, List.length_nil] at this
    omega
end K39
end

section
set_option Elab.async false
set_option linter.all false
set_option maxRecDepth 100000
set_option maxHeartbeats 4000000
open PySem PySem.Spec PyProof.Rows L2 DL
namespace K39
/-! ### the law's own helpers -/
/-- the drawing list after n draws -/
def TinOk (n : Nat) (τ : Tin) : Prop := 0 ≤ τ.2.1 ∧ τ.2.1 < 2 ^ 63 ∧ 0 ≤ τ.2.2 ∧ τ.2.2 ≤ (n : Int)
theorem v_take {τ : Tin} {n : Nat} {k : Int} (h : TinOk n τ) (hn : n ≤ 100000) (h0 : 0 < k) (hk : k < 1073741824) : ∃ r τ', m_law_take [.tin, .int k] τ = .ok (.int r) τ' ∧ 0 ≤ r ∧ r < k ∧ TinOk (n + 1) τ' := by
  obtain ⟨x, y, z⟩ := τ
  obtain ⟨t1, t2, t3, t4⟩ := h
  simp only at t1 t2 t3 t4
  by_cases hx : 0 < x
  · refine ⟨x % k, (x / k, y, z), ?_, Int.emod_nonneg _ (by omega), Int.emod_lt_of_pos _ h0, t1, t2, t3, by simp only; omega⟩
    have e1 : modD (.int x) (.int k) = some (.int (x % k)) := modD_int h0
    have e2 : fdivD (.int x) (.int k) = some (.int (x / k)) := fdivD_int h0 hk
    refine runG_at rfl ?_
    simp only [b_law_take, DL.sSeq, DL.seqO, DL.sIf, DL.sRet, DL.sSet, DL.sExpr, DL.sNo, DL.sNil, DL.sMany, DL.setS, DL.sAsg, DL.bO_pure, DL.dVar, DL.dC, DL.dOp, DL.dCB, DL.dCall, DL.aCons, DL.aNil, DL.dB, DL.bAnd, DL.bOr, DL.bNot, DL.dAnd, DL.dOr, DL.dNot, DL.dNeg, DL.dChain, DL.dIsi, DL.dIsi2, DL.tyD, DL.Ty.isa, DL.dSlice, DL.pNone, DL.pSome, DL.dTup, DL.dOf, DL.fLst, DL.fComp, DL.fItems, DL.wipeS, DL.iSeq, DL.iR1, DL.iR2, DL.iZip, DL.itemsD, DL.xVal, DL.xNil, DL.dIf, DL.gN, DL.gT, DL.gsN, DL.gsC, DL.aStar, DL.M.pure_bind, DL.M.lift_some, DL.toB_bl, DL.toI_int, DL.ltD_int, DL.leD_int, DL.gtD_int, DL.geD_int, DL.subD_int, DL.addD_int, DL.negD_int, DL.maxD_int, DL.eqD_int, DL.neD_int, DL.eqD_tN, DL.neD_tN, DL.neD_tN0, DL.inD_tN, DL.slD_tN, DL.lenD_tN, DL.fits_map, DL.fits_nil, List.map_cons, List.map_nil, List.replicate, List.cons_append, List.nil_append, Nat.sub_zero, Nat.reduceSub, List.getElem?_cons_zero, List.getElem?_cons_succ, List.length_cons, List.length_nil, Nat.zero_add, Nat.reduceAdd, if_true, List.set_cons_zero, List.set_cons_succ, Option.bind_some, M.bind_assoc, bO_tin, sTin, isTin, tinB, tinAt, tinSet, hx, decide_true, intD_int, e1, e2]
  · have e1 : ∀ i, modD (.int i) (.int k) = some (.int (i % k)) := fun i => modD_int h0
    have m1 : ∀ i, modD (.int i) (.int 2147483647) = some (.int (i % 2147483647)) := fun i => modD_int (by decide)
    have m2 : ∀ i, modD (.int i) (.int 40009) = some (.int (i % 40009)) := fun i => modD_int (by decide)
    have m3 : ∀ i, modD (.int i) (.int 2147483629) = some (.int (i % 2147483629)) := fun i => modD_int (by decide)
    have m4 : ∀ i, modD (.int i) (.int 2147483587) = some (.int (i % 2147483587)) := fun i => modD_int (by decide)
    have d1 : ∀ i, fdivD (.int i) (.int 1000003) = some (.int (i / 1000003)) := fun i => fdivD_int (by decide) (by decide)
    have d2 : ∀ i, fdivD (.int i) (.int 64) = some (.int (i / 64)) := fun i => fdivD_int (by decide) (by decide)
    have u1 : ∀ i, mulD (.int 48271) (.int i) = some (.int (48271 * i)) := fun i => mulD_int (.inl rfl)
    have u2 : ∀ i, mulD (.int i) (.int 48271) = some (.int (i * 48271)) := fun i => mulD_int (.inr rfl)
    have u3 : ∀ i, mulD (.int i) (.int (39373 + (z + 1))) = some (.int (i * (39373 + (z + 1)))) := fun i => mulD_int (.inr (small64_of (by omega) (by omega)))
    have u4 : ∀ i j, mulD (.int i) (.int (j % 40009 + 7)) = some (.int (i * (j % 40009 + 7))) := fun i j => mulD_int (.inr (small64_of (by have := Int.emod_nonneg j (show (40009 : Int) ≠ 0 by decide); omega) (by have := Int.emod_lt_of_pos j (show (0 : Int) < 40009 by decide); omega)))
    obtain ⟨v, hv⟩ : ∃ v, m_law_take [.tin, .int k] (x, y, z) = .ok (.int (v % k)) (x, y, z + 1) := by
      refine ⟨?v, runG_at rfl ?h⟩
      case h =>
        simp only [b_law_take, DL.sSeq, DL.seqO, DL.sIf, DL.sRet, DL.sSet, DL.sExpr, DL.sNo, DL.sNil, DL.sMany, DL.setS, DL.sAsg, DL.bO_pure, DL.dVar, DL.dC, DL.dOp, DL.dCB, DL.dCall, DL.aCons, DL.aNil, DL.dB, DL.bAnd, DL.bOr, DL.bNot, DL.dAnd, DL.dOr, DL.dNot, DL.dNeg, DL.dChain, DL.dIsi, DL.dIsi2, DL.tyD, DL.Ty.isa, DL.dSlice, DL.pNone, DL.pSome, DL.dTup, DL.dOf, DL.fLst, DL.fComp, DL.fItems, DL.wipeS, DL.iSeq, DL.iR1, DL.iR2, DL.iZip, DL.itemsD, DL.xVal, DL.xNil, DL.dIf, DL.gN, DL.gT, DL.gsN, DL.gsC, DL.aStar, DL.M.pure_bind, DL.M.lift_some, DL.toB_bl, DL.toI_int, DL.ltD_int, DL.leD_int, DL.gtD_int, DL.geD_int, DL.subD_int, DL.addD_int, DL.negD_int, DL.maxD_int, DL.eqD_int, DL.neD_int, DL.eqD_tN, DL.neD_tN, DL.neD_tN0, DL.inD_tN, DL.slD_tN, DL.lenD_tN, DL.fits_map, DL.fits_nil, List.map_cons, List.map_nil, List.replicate, List.cons_append, List.nil_append, Nat.sub_zero, Nat.reduceSub, List.getElem?_cons_zero, List.getElem?_cons_succ, List.length_cons, List.length_nil, Nat.zero_add, Nat.reduceAdd, if_true, List.set_cons_zero, List.set_cons_succ, Option.bind_some, M.bind_assoc, bO_tin, sTin, isTin, tinB, tinAt, tinSet, hx, decide_false, Bool.false_eq_true, if_false, intD_int, e1, m1, m2, m3, m4, d1, d2, u1, u2, u3, u4]
        rfl
    exact ⟨_, _, hv, Int.emod_nonneg _ (by omega), Int.emod_lt_of_pos _ h0, t1, t2, by simp only; omega, by simp only; omega⟩
/-! ### the helpers of a law: the drawing list -/
theorem eqD_bl (a b : Bool) : eqD (.bl a) (.bl b) = some (.bl (a == b)) := by cases a <;> cases b <;> rfl
theorem neD_bl (a b : Bool) : neD (.bl a) (.bl b) = some (.bl (!(a == b))) := by cases a <;> cases b <;> rfl
theorem pairD_eq (n : Nat) (xs : List Int) : DL.pairD (numD n) (xs.map .int) = ((List.range n).zip xs).map fun p : Nat × Int => D.tup [.int (p.1 : Nat), .int p.2] := by
  unfold DL.pairD numD
  rw [List.zip_map, List.map_map]
  rfl
theorem v_cells_loop {a b : D} {τ : Tin} : ∀ (ps : List (Nat × Int)) (z : Int) (s3 s4 s5 : S), (∀ p ∈ ps, p.1 < 1000) → ∃ z' t3 t4 t5,
    loopO (gT 2 (gsC (gN 3) (gsC (gN 4) gsN))) (sSeq (sSet 5 (dOp modD (dCB DL.intD (aCons (dVar 3) aNil)) (dVar 1)))
    (ownAt 2 (sSetI 2 (dVar 5) (dOp addD (dOp ixD (dTop 2) (dVar 5)) (dOp mulD (dVar 4) (dOp addD (dVar 3) (dC (.int 2)))))))) (ps.map fun p : Nat × Int => D.tup [.int (p.1 : Nat), .int p.2]) [.d a, .d (.int 1), .own [.int z], s3, s4, s5] τ = .nx [.d a, .d (.int 1), .own [.int z'], t3, t4, t5] τ
  | [], z, s3, s4, s5, _ => ⟨z, s3, s4, s5, rfl⟩
  | (k, c) :: ps, z, s3, s4, s5, h => by
    have hk := h (k, c) List.mem_cons_self
    have hk : k < 1000 := hk
    obtain ⟨z', t3, t4, t5, e⟩ := v_cells_loop (a := a) (b := b) (τ := τ) ps (z + c * ((k : Int) + 2)) (.d (.int k)) (.d (.int c)) (.d (.int 0)) fun p hp => h p (List.mem_cons_of_mem _ hp)
    refine ⟨z', t3, t4, t5, ?_⟩
    rw [← e]
    have e1 : modD (.int (k : Int)) (.int 1) = some (.int 0) := by rw [modD_int (by decide), Int.emod_one]
    have e2 : mulD (.int c) (.int ((k : Int) + 2)) = some (.int (c * ((k : Int) + 2))) := mulD_int (.inr (small64_of (by omega) (by omega)))
    have e3 : ixD (.lst [.int z]) (.int 0) = some (.int z) := rfl
    rw [List.map_cons]
    show turnO ((sSeq _ _) [.d a, .d (.int 1), .own [.int z], .d (.int k), .d (.int c), s5] τ) _ = _
    simp (implicitDefEqProofs := false) only [DL.sSeq, DL.seqO, DL.sIf, DL.sRet, DL.sSet, DL.sExpr, DL.sNo, DL.sNil, DL.sMany, DL.setS, DL.sAsg, DL.bO_pure, DL.dVar, DL.dC, DL.dOp, DL.dCB, DL.dCall, DL.aCons, DL.aNil, DL.dB, DL.bAnd, DL.bOr, DL.bNot, DL.dAnd, DL.dOr, DL.dNot, DL.dNeg, DL.dChain, DL.dIsi, DL.dIsi2, DL.tyD, DL.Ty.isa, DL.dSlice, DL.pNone, DL.pSome, DL.dTup, DL.dOf, DL.fLst, DL.fComp, DL.fItems, DL.wipeS, DL.iSeq, DL.iR1, DL.iR2, DL.iZip, DL.itemsD, DL.xVal, DL.xNil, DL.dIf, DL.gN, DL.gT, DL.gsN, DL.gsC, DL.aStar, DL.M.pure_bind, DL.M.lift_some, DL.toB_bl, DL.toI_int, DL.ltD_int, DL.leD_int, DL.gtD_int, DL.geD_int, DL.subD_int, DL.addD_int, DL.negD_int, DL.maxD_int, DL.eqD_int, DL.neD_int, DL.eqD_tN, DL.neD_tN, DL.neD_tN0, DL.inD_tN, DL.slD_tN, DL.lenD_tN, DL.fits_map, DL.fits_nil, List.map_cons, List.map_nil, List.replicate, List.cons_append, List.nil_append, Nat.sub_zero, Nat.reduceSub, List.getElem?_cons_zero, List.getElem?_cons_succ, List.length_cons, List.length_nil, Nat.zero_add, Nat.reduceAdd, if_true, List.set_cons_zero, List.set_cons_succ, Option.bind_some, intD_int, e1, ownAt, sSetI, dTop, e2, e3, upOwn, ixN]
    rfl
theorem v_cells {ns : List Int} (τ : Tin) (hl : ns.length ≤ 63) : ∃ z, m_law_cells [.scr ns, .int 1] τ = .ok (.lst [.int z]) τ := by
  have h1 : slD none (some 1) (.scr ns) = some (.lst ((ns.take 1).map .int)) := by
    show some (D.lst ((cutL ns none (some 1)).map .int)) = _
    rw [cutL_hi ns (by decide)]
    rfl
  have h2 : ∃ xs : List Int, slD (some 1) (some 63) (.scr ns) = some (.lst (xs.map .int)) ∧ xs.length ≤ 63 := by
    refine ⟨_, rfl, ?_⟩
    unfold cutL
    rw [List.length_take, List.length_drop]
    omega
  obtain ⟨xs, h2, h3⟩ := h2
  obtain ⟨z0, h4⟩ : ∃ z0, fOr (fItems (dSlice (dVar 0) pNone (pSome (dVar 1)))) (fLst (aCons (dC (.int 0)) aNil)) [.d (.scr ns), .d (.int 1), .un, .un, .un, .un] = M.pure [.int z0] := by
    cases ns with
    | nil =>
      have h1 : slD none (some 1) (.scr []) = some (.lst []) := rfl
      have hf : fits [.int 0] = true := rfl
      refine ⟨0, ?_⟩
      simp (implicitDefEqProofs := false) only [fOr, DL.sSeq, DL.seqO, DL.sIf, DL.sRet, DL.sSet, DL.sExpr, DL.sNo, DL.sNil, DL.sMany, DL.setS, DL.sAsg, DL.bO_pure, DL.dVar, DL.dC, DL.dOp, DL.dCB, DL.dCall, DL.aCons, DL.aNil, DL.dB, DL.bAnd, DL.bOr, DL.bNot, DL.dAnd, DL.dOr, DL.dNot, DL.dNeg, DL.dChain, DL.dIsi, DL.dIsi2, DL.tyD, DL.Ty.isa, DL.dSlice, DL.pNone, DL.pSome, DL.dTup, DL.dOf, DL.fLst, DL.fComp, DL.fItems, DL.wipeS, DL.iSeq, DL.iR1, DL.iR2, DL.iZip, DL.itemsD, DL.xVal, DL.xNil, DL.dIf, DL.gN, DL.gT, DL.gsN, DL.gsC, DL.aStar, DL.M.pure_bind, DL.M.lift_some, DL.toB_bl, DL.toI_int, DL.ltD_int, DL.leD_int, DL.gtD_int, DL.geD_int, DL.subD_int, DL.addD_int, DL.negD_int, DL.maxD_int, DL.eqD_int, DL.neD_int, DL.eqD_tN, DL.neD_tN, DL.neD_tN0, DL.inD_tN, DL.slD_tN, DL.lenD_tN, DL.fits_map, DL.fits_nil, List.map_cons, List.map_nil, List.replicate, List.cons_append, List.nil_append, Nat.sub_zero, Nat.reduceSub, List.getElem?_cons_zero, List.getElem?_cons_succ, List.length_cons, List.length_nil, Nat.zero_add, Nat.reduceAdd, if_true, List.set_cons_zero, List.set_cons_succ, Option.bind_some, h1, hf, List.isEmpty_nil]
    | cons n ns =>
      have h1 : slD none (some 1) (.scr (n :: ns)) = some (.lst [.int n]) := by rw [h1]; rfl
      refine ⟨n, ?_⟩
      simp (implicitDefEqProofs := false) only [fOr, DL.sSeq, DL.seqO, DL.sIf, DL.sRet, DL.sSet, DL.sExpr, DL.sNo, DL.sNil, DL.sMany, DL.setS, DL.sAsg, DL.bO_pure, DL.dVar, DL.dC, DL.dOp, DL.dCB, DL.dCall, DL.aCons, DL.aNil, DL.dB, DL.bAnd, DL.bOr, DL.bNot, DL.dAnd, DL.dOr, DL.dNot, DL.dNeg, DL.dChain, DL.dIsi, DL.dIsi2, DL.tyD, DL.Ty.isa, DL.dSlice, DL.pNone, DL.pSome, DL.dTup, DL.dOf, DL.fLst, DL.fComp, DL.fItems, DL.wipeS, DL.iSeq, DL.iR1, DL.iR2, DL.iZip, DL.itemsD, DL.xVal, DL.xNil, DL.dIf, DL.gN, DL.gT, DL.gsN, DL.gsC, DL.aStar, DL.M.pure_bind, DL.M.lift_some, DL.toB_bl, DL.toI_int, DL.ltD_int, DL.leD_int, DL.gtD_int, DL.geD_int, DL.subD_int, DL.addD_int, DL.negD_int, DL.maxD_int, DL.eqD_int, DL.neD_int, DL.eqD_tN, DL.neD_tN, DL.neD_tN0, DL.inD_tN, DL.slD_tN, DL.lenD_tN, DL.fits_map, DL.fits_nil, List.map_cons, List.map_nil, List.replicate, List.cons_append, List.nil_append, Nat.sub_zero, Nat.reduceSub, List.getElem?_cons_zero, List.getElem?_cons_succ, List.length_cons, List.length_nil, Nat.zero_add, Nat.reduceAdd, if_true, List.set_cons_zero, List.set_cons_succ, Option.bind_some, h1, List.isEmpty_cons, Bool.false_eq_true, if_false]
  obtain ⟨z', t3, t4, t5, e⟩ := v_cells_loop (a := .scr ns) (b := .int 1) (τ := τ) ((List.range xs.length).zip xs) z0 .un .un .un fun p hp => by
    have := List.mem_range.mp (List.of_mem_zip hp).1
    omega
  have he : iEnumL (dSlice (dVar 0) (pSome (dVar 1)) (pSome (dC (.int 63)))) [.d (.scr ns), .d (.int 1), .own [.int z0], .un, .un, .un] = M.pure (((List.range xs.length).zip xs).map fun p : Nat × Int => D.tup [.int (p.1 : Nat), .int p.2]) := by
    unfold iEnumL
    simp (implicitDefEqProofs := false) only [DL.sSeq, DL.seqO, DL.sIf, DL.sRet, DL.sSet, DL.sExpr, DL.sNo, DL.sNil, DL.sMany, DL.setS, DL.sAsg, DL.bO_pure, DL.dVar, DL.dC, DL.dOp, DL.dCB, DL.dCall, DL.aCons, DL.aNil, DL.dB, DL.bAnd, DL.bOr, DL.bNot, DL.dAnd, DL.dOr, DL.dNot, DL.dNeg, DL.dChain, DL.dIsi, DL.dIsi2, DL.tyD, DL.Ty.isa, DL.dSlice, DL.pNone, DL.pSome, DL.dTup, DL.dOf, DL.fLst, DL.fComp, DL.fItems, DL.wipeS, DL.iSeq, DL.iR1, DL.iR2, DL.iZip, DL.itemsD, DL.xVal, DL.xNil, DL.dIf, DL.gN, DL.gT, DL.gsN, DL.gsC, DL.aStar, DL.M.pure_bind, DL.M.lift_some, DL.toB_bl, DL.toI_int, DL.ltD_int, DL.leD_int, DL.gtD_int, DL.geD_int, DL.subD_int, DL.addD_int, DL.negD_int, DL.maxD_int, DL.eqD_int, DL.neD_int, DL.eqD_tN, DL.neD_tN, DL.neD_tN0, DL.inD_tN, DL.slD_tN, DL.lenD_tN, DL.fits_map, DL.fits_nil, List.map_cons, List.map_nil, List.replicate, List.cons_append, List.nil_append, Nat.sub_zero, Nat.reduceSub, List.getElem?_cons_zero, List.getElem?_cons_succ, List.length_cons, List.length_nil, Nat.zero_add, Nat.reduceAdd, if_true, List.set_cons_zero, List.set_cons_succ, Option.bind_some, h2]
    rw [← pairD_eq, List.length_map]
  refine ⟨z', runG_at rfl ?_⟩
  simp (implicitDefEqProofs := false) only [b_law_cells, sOwn, sFor, DL.sSeq, DL.seqO, DL.sIf, DL.sRet, DL.sSet, DL.sExpr, DL.sNo, DL.sNil, DL.sMany, DL.setS, DL.sAsg, DL.bO_pure, DL.dVar, DL.dC, DL.dOp, DL.dCB, DL.dCall, DL.aCons, DL.aNil, DL.dB, DL.bAnd, DL.bOr, DL.bNot, DL.dAnd, DL.dOr, DL.dNot, DL.dNeg, DL.dChain, DL.dIsi, DL.dIsi2, DL.tyD, DL.Ty.isa, DL.dSlice, DL.pNone, DL.pSome, DL.dTup, DL.dOf, DL.fLst, DL.fComp, DL.fItems, DL.wipeS, DL.iSeq, DL.iR1, DL.iR2, DL.iZip, DL.itemsD, DL.xVal, DL.xNil, DL.dIf, DL.gN, DL.gT, DL.gsN, DL.gsC, DL.aStar, DL.M.pure_bind, DL.M.lift_some, DL.toB_bl, DL.toI_int, DL.ltD_int, DL.leD_int, DL.gtD_int, DL.geD_int, DL.subD_int, DL.addD_int, DL.negD_int, DL.maxD_int, DL.eqD_int, DL.neD_int, DL.eqD_tN, DL.neD_tN, DL.neD_tN0, DL.inD_tN, DL.slD_tN, DL.lenD_tN, DL.fits_map, DL.fits_nil, List.map_cons, List.map_nil, List.replicate, List.cons_append, List.nil_append, Nat.sub_zero, Nat.reduceSub, List.getElem?_cons_zero, List.getElem?_cons_succ, List.length_cons, List.length_nil, Nat.zero_add, Nat.reduceAdd, if_true, List.set_cons_zero, List.set_cons_succ, Option.bind_some, h4, he, e, sFrz, frz]
theorem v_box (z : Int) : ∃ x y, m_law_box [.lst [.int z], .int 0] = M.pure (.lst [.int x, .int y, .int 0]) ∧ 0 ≤ y ∧ y < 2 ^ 63 := by
  refine ⟨(if z < 0 then -z else z) * (if decide (1000000000000000000 ≤ (if z < 0 then -z else z)) = true then 1 else 0), z % 2305843009213693951 + 0 + 2632284, runG_rt rfl fun τ => ?_, ?_, ?_⟩
  · have e0 : lenD [.lst [.int z]] = some (.int 1) := rfl
    have e1 : ixD (.lst [.int z]) (.int 0) = some (.int z) := rfl
    have e2 : powD (.int 10) (.int 18) = some (.int 1000000000000000000) := rfl
    have e3 : absD [.int z] = some (.int (if z < 0 then -z else z)) := rfl
    have e4 : ∀ b : Bool, DL.intD [.bl b] = some (.int (if b then 1 else 0)) := fun _ => rfl
    have e5 : ∀ (i : Int) (b : Bool), mulD (.int i) (.int (if b then 1 else 0)) = some (.int (i * (if b then 1 else 0))) := fun i b => mulD_int (.inr (by cases b <;> rfl))
    have e6 : modD (.int z) (.int 2305843009213693951) = some (.int (z % 2305843009213693951)) := modD_int (by decide)
    have e7 : mulD (.int 39373) (.int 0) = some (.int 0) := rfl
    have hf : ∀ a b c : D, fits [a, b, c] = true := fun _ _ _ => rfl
    simp (implicitDefEqProofs := false) only [b_law_box, DL.sSeq, DL.seqO, DL.sIf, DL.sRet, DL.sSet, DL.sExpr, DL.sNo, DL.sNil, DL.sMany, DL.setS, DL.sAsg, DL.bO_pure, DL.dVar, DL.dC, DL.dOp, DL.dCB, DL.dCall, DL.aCons, DL.aNil, DL.dB, DL.bAnd, DL.bOr, DL.bNot, DL.dAnd, DL.dOr, DL.dNot, DL.dNeg, DL.dChain, DL.dIsi, DL.dIsi2, DL.tyD, DL.Ty.isa, DL.dSlice, DL.pNone, DL.pSome, DL.dTup, DL.dOf, DL.fLst, DL.fComp, DL.fItems, DL.wipeS, DL.iSeq, DL.iR1, DL.iR2, DL.iZip, DL.itemsD, DL.xVal, DL.xNil, DL.dIf, DL.gN, DL.gT, DL.gsN, DL.gsC, DL.aStar, DL.M.pure_bind, DL.M.lift_some, DL.toB_bl, DL.toI_int, DL.ltD_int, DL.leD_int, DL.gtD_int, DL.geD_int, DL.subD_int, DL.addD_int, DL.negD_int, DL.maxD_int, DL.eqD_int, DL.neD_int, DL.eqD_tN, DL.neD_tN, DL.neD_tN0, DL.inD_tN, DL.slD_tN, DL.lenD_tN, DL.fits_map, DL.fits_nil, List.map_cons, List.map_nil, List.replicate, List.cons_append, List.nil_append, Nat.sub_zero, Nat.reduceSub, List.getElem?_cons_zero, List.getElem?_cons_succ, List.length_cons, List.length_nil, Nat.zero_add, Nat.reduceAdd, if_true, List.set_cons_zero, List.set_cons_succ, Option.bind_some, e0, e1, e2, e3, e4, e5, e6, e7, intD_int, hf, show decide ((0 : Int) < 1) = true from rfl]
  · have := Int.emod_nonneg z (show (2305843009213693951 : Int) ≠ 0 by decide)
    omega
  · have := Int.emod_lt_of_pos z (show (0 : Int) < 2305843009213693951 by decide)
    omega

/-! ### the helpers of a law: comparing -/
theorem compM_gen {g : D → DL.Env → Option DL.Env} {f : DL.Env → M D} {h : D → D} {ρ : DL.Env} : ∀ ds : List D, (∀ d ∈ ds, ∃ ρ1, g d ρ = some ρ1 ∧ f ρ1 = M.pure (h d)) → compM g bYes f ds ρ = M.pure (ds.map h)
  | [], _ => rfl
  | d :: ds, k => by
    obtain ⟨ρ1, h1, h2⟩ := k d List.mem_cons_self
    have ih := compM_gen ds fun x hx => k x (List.mem_cons_of_mem _ hx)
    funext τ
    have ih := congrFun ih τ
    have h2 := congrFun h2 τ
    rw [compM, h1]
    show M.bind (calm (bYes ρ1)) (fun c => if c = true then M.bind (calm (f ρ1)) fun x => M.bind (compM g bYes f ds ρ) fun xs => M.pure (x :: xs) else compM g bYes f ds ρ) τ = _
    have e : calm (f ρ1) τ = .ok (h d) τ := calm_ok h2
    show M.bind (calm (f ρ1)) (fun x => M.bind (compM g bYes f ds ρ) fun xs => M.pure (x :: xs)) τ = _
    rw [M.bind_ok e, M.bind_ok ih]
    rfl
/-- data that _law_same compares, at most n deep -/
def okS : Nat → D → Prop
  | 0, _ => False
  | n + 1, d => match d with
    | .non => True
    | .bl _ => True
    | .int _ => True
    | .tup xs => xs.length ≤ 1000 ∧ ∀ x ∈ xs, okS n x
    | .lst xs => xs.length ≤ 1000 ∧ ∀ x ∈ xs, okS n x
    | _ => False
theorem okS_int (n : Nat) (i : Int) : okS (n + 1) (.int i) := trivial
theorem okS_bl (n : Nat) (i : Bool) : okS (n + 1) (.bl i) := trivial
theorem okS_non (n : Nat) : okS (n + 1) .non := trivial
theorem okS_tN (n : Nat) {xs : List Int} (h : xs.length ≤ 1000) : okS (n + 2) (tN xs) := ⟨by rw [List.length_map]; exact h, fun x hx => by
  obtain ⟨i, _, rfl⟩ := List.mem_map.mp hx
  trivial⟩
theorem okS_list {n : Nat} {xs : List D} (hl : xs.length ≤ 1000) (h : ∀ x ∈ xs, okS n x) : okS (n + 1) (.lst xs) := ⟨hl, h⟩
theorem okS_tup {n : Nat} {xs : List D} (hl : xs.length ≤ 1000) (h : ∀ x ∈ xs, okS n x) : okS (n + 1) (.tup xs) := ⟨hl, h⟩
theorem all_true {α : Type} (xs : List α) : allD [.lst (xs.map fun _ => D.bl true)] = some (.bl true) := by
  have := allD_map (fun _ : α => true) xs
  rw [this]
  congr 2
  induction xs with
  | nil => rfl
  | cons x xs ih => rw [List.all_cons, ih (allD_map _ _)]; rfl
theorem pairD_self (xs : List D) : DL.pairD xs xs = xs.map fun x => .tup [x, x] := by
  unfold DL.pairD
  rw [show xs.zip xs = xs.map fun x => (x, x) from by induction xs with | nil => rfl | cons x xs ih => rw [List.zip_cons_cons, ih]; rfl, List.map_map]
  rfl
theorem v_same : ∀ (n : Nat) (d : D), okS n d → m_law_same n [d, d] = M.pure (.bl true)
  | 0, _, h => h.elim
  | n + 1, .non, _ => by
    refine runG_rt rfl fun τ => ?_
    have e1 : isND .non .non = some (.bl true) := rfl
    have e2 : eqD .non .non = some (.bl true) := rfl
    simp [b_law_same, DL.sSeq, DL.seqO, DL.sIf, DL.sRet, DL.sSet, DL.sExpr, DL.sNo, DL.sNil, DL.sMany, DL.setS, DL.sAsg, DL.bO_pure, DL.dVar, DL.dC, DL.dOp, DL.dCB, DL.dCall, DL.aCons, DL.aNil, DL.dB, DL.bAnd, DL.bOr, DL.bNot, DL.dAnd, DL.dOr, DL.dNot, DL.dNeg, DL.dChain, DL.dIsi, DL.dIsi2, DL.tyD, DL.Ty.isa, DL.dSlice, DL.pNone, DL.pSome, DL.dTup, DL.dOf, DL.fLst, DL.fComp, DL.fItems, DL.wipeS, DL.iSeq, DL.iR1, DL.iR2, DL.iZip, DL.itemsD, DL.xVal, DL.xNil, DL.dIf, DL.gN, DL.gT, DL.gsN, DL.gsC, DL.aStar, DL.M.pure_bind, DL.M.lift_some, DL.toB_bl, DL.toI_int, DL.ltD_int, DL.leD_int, DL.gtD_int, DL.geD_int, DL.subD_int, DL.addD_int, DL.negD_int, DL.maxD_int, DL.eqD_int, DL.neD_int, DL.eqD_tN, DL.neD_tN, DL.neD_tN0, DL.inD_tN, DL.slD_tN, DL.lenD_tN, DL.fits_map, DL.fits_nil, e1, e2, eqD_bl]
  | n + 1, .bl b, _ => by
    refine runG_rt rfl fun τ => ?_
    have e1 : isND (.bl b) .non = some (.bl false) := rfl
    simp [b_law_same, DL.sSeq, DL.seqO, DL.sIf, DL.sRet, DL.sSet, DL.sExpr, DL.sNo, DL.sNil, DL.sMany, DL.setS, DL.sAsg, DL.bO_pure, DL.dVar, DL.dC, DL.dOp, DL.dCB, DL.dCall, DL.aCons, DL.aNil, DL.dB, DL.bAnd, DL.bOr, DL.bNot, DL.dAnd, DL.dOr, DL.dNot, DL.dNeg, DL.dChain, DL.dIsi, DL.dIsi2, DL.tyD, DL.Ty.isa, DL.dSlice, DL.pNone, DL.pSome, DL.dTup, DL.dOf, DL.fLst, DL.fComp, DL.fItems, DL.wipeS, DL.iSeq, DL.iR1, DL.iR2, DL.iZip, DL.itemsD, DL.xVal, DL.xNil, DL.dIf, DL.gN, DL.gT, DL.gsN, DL.gsC, DL.aStar, DL.M.pure_bind, DL.M.lift_some, DL.toB_bl, DL.toI_int, DL.ltD_int, DL.leD_int, DL.gtD_int, DL.geD_int, DL.subD_int, DL.addD_int, DL.negD_int, DL.maxD_int, DL.eqD_int, DL.neD_int, DL.eqD_tN, DL.neD_tN, DL.neD_tN0, DL.inD_tN, DL.slD_tN, DL.lenD_tN, DL.fits_map, DL.fits_nil, e1, eqD_bl]
  | n + 1, .int i, _ => by
    refine runG_rt rfl fun τ => ?_
    have e1 : isND (.int i) .non = some (.bl false) := rfl
    simp [b_law_same, DL.sSeq, DL.seqO, DL.sIf, DL.sRet, DL.sSet, DL.sExpr, DL.sNo, DL.sNil, DL.sMany, DL.setS, DL.sAsg, DL.bO_pure, DL.dVar, DL.dC, DL.dOp, DL.dCB, DL.dCall, DL.aCons, DL.aNil, DL.dB, DL.bAnd, DL.bOr, DL.bNot, DL.dAnd, DL.dOr, DL.dNot, DL.dNeg, DL.dChain, DL.dIsi, DL.dIsi2, DL.tyD, DL.Ty.isa, DL.dSlice, DL.pNone, DL.pSome, DL.dTup, DL.dOf, DL.fLst, DL.fComp, DL.fItems, DL.wipeS, DL.iSeq, DL.iR1, DL.iR2, DL.iZip, DL.itemsD, DL.xVal, DL.xNil, DL.dIf, DL.gN, DL.gT, DL.gsN, DL.gsC, DL.aStar, DL.M.pure_bind, DL.M.lift_some, DL.toB_bl, DL.toI_int, DL.ltD_int, DL.leD_int, DL.gtD_int, DL.geD_int, DL.subD_int, DL.addD_int, DL.negD_int, DL.maxD_int, DL.eqD_int, DL.neD_int, DL.eqD_tN, DL.neD_tN, DL.neD_tN0, DL.inD_tN, DL.slD_tN, DL.lenD_tN, DL.fits_map, DL.fits_nil, e1, eqD_bl]
  | n + 1, .tup xs, h => by
    obtain ⟨h1, h2⟩ := h
    refine runG_rt rfl fun τ => ?_
    have e1 : lenD [.tup xs] = some (.int (xs.length : Nat)) := rfl
    have hz : zipOf (.tup xs) (.tup xs) = some (xs.map fun x => .tup [x, x]) := by rw [← pairD_self]; rfl
    have hc : compM (gT 2 (gsC (gN 2) (gsC (gN 3) gsN))) bYes (dCall 2 (m_law_same n) (aCons (dVar 2) (aCons (dVar 3) aNil))) (xs.map fun x => .tup [x, x]) [.d (.tup xs), .d (.tup xs), .un, .un] = M.pure ((xs.map fun x => D.tup [x, x]).map fun _ => .bl true) := compM_gen _ fun d hd => by
      obtain ⟨x, hx, rfl⟩ := List.mem_map.mp hd
      have := v_same n x (h2 x hx)
      exact ⟨_, rfl, by simp [DL.sSeq, DL.seqO, DL.sIf, DL.sRet, DL.sSet, DL.sExpr, DL.sNo, DL.sNil, DL.sMany, DL.setS, DL.sAsg, DL.bO_pure, DL.dVar, DL.dC, DL.dOp, DL.dCB, DL.dCall, DL.aCons, DL.aNil, DL.dB, DL.bAnd, DL.bOr, DL.bNot, DL.dAnd, DL.dOr, DL.dNot, DL.dNeg, DL.dChain, DL.dIsi, DL.dIsi2, DL.tyD, DL.Ty.isa, DL.dSlice, DL.pNone, DL.pSome, DL.dTup, DL.dOf, DL.fLst, DL.fComp, DL.fItems, DL.wipeS, DL.iSeq, DL.iR1, DL.iR2, DL.iZip, DL.itemsD, DL.xVal, DL.xNil, DL.dIf, DL.gN, DL.gT, DL.gsN, DL.gsC, DL.aStar, DL.M.pure_bind, DL.M.lift_some, DL.toB_bl, DL.toI_int, DL.ltD_int, DL.leD_int, DL.gtD_int, DL.geD_int, DL.subD_int, DL.addD_int, DL.negD_int, DL.maxD_int, DL.eqD_int, DL.neD_int, DL.eqD_tN, DL.neD_tN, DL.neD_tN0, DL.inD_tN, DL.slD_tN, DL.lenD_tN, DL.fits_map, DL.fits_nil, this]⟩
    have hf : fits (xs.map fun x => D.tup [x, x]) = true := fits_map (Nat.le_trans h1 (by decide))
    have ha := all_true (xs.map fun x => D.tup [x, x])
    simp (implicitDefEqProofs := false) only [b_law_same, DL.sSeq, DL.seqO, DL.sIf, DL.sRet, DL.sSet, DL.sExpr, DL.sNo, DL.sNil, DL.sMany, DL.setS, DL.sAsg, DL.bO_pure, DL.dVar, DL.dC, DL.dOp, DL.dCB, DL.dCall, DL.aCons, DL.aNil, DL.dB, DL.bAnd, DL.bOr, DL.bNot, DL.dAnd, DL.dOr, DL.dNot, DL.dNeg, DL.dChain, DL.dIsi, DL.dIsi2, DL.tyD, DL.Ty.isa, DL.dSlice, DL.pNone, DL.pSome, DL.dTup, DL.dOf, DL.fLst, DL.fComp, DL.fItems, DL.wipeS, DL.iSeq, DL.iR1, DL.iR2, DL.iZip, DL.itemsD, DL.xVal, DL.xNil, DL.dIf, DL.gN, DL.gT, DL.gsN, DL.gsC, DL.aStar, DL.M.pure_bind, DL.M.lift_some, DL.toB_bl, DL.toI_int, DL.ltD_int, DL.leD_int, DL.gtD_int, DL.geD_int, DL.subD_int, DL.addD_int, DL.negD_int, DL.maxD_int, DL.eqD_int, DL.neD_int, DL.eqD_tN, DL.neD_tN, DL.neD_tN0, DL.inD_tN, DL.slD_tN, DL.lenD_tN, DL.fits_map, DL.fits_nil, List.map_cons, List.map_nil, List.replicate, List.cons_append, List.nil_append, Nat.sub_zero, Nat.reduceSub, List.getElem?_cons_zero, List.getElem?_cons_succ, List.length_cons, List.length_nil, Nat.zero_add, Nat.reduceAdd, if_true, List.set_cons_zero, List.set_cons_succ, Option.bind_some, e1, neD_bl, hz, hc, hf, ha, Bool.or_true, Bool.or_false, Bool.true_or, beq_self_eq_true, Bool.not_true, Bool.false_eq_true, if_false, decide_true]
  | n + 1, .lst xs, h => by
    obtain ⟨h1, h2⟩ := h
    refine runG_rt rfl fun τ => ?_
    have e1 : lenD [.lst xs] = some (.int (xs.length : Nat)) := rfl
    have hz : zipOf (.lst xs) (.lst xs) = some (xs.map fun x => .tup [x, x]) := by rw [← pairD_self]; rfl
    have hc : compM (gT 2 (gsC (gN 2) (gsC (gN 3) gsN))) bYes (dCall 2 (m_law_same n) (aCons (dVar 2) (aCons (dVar 3) aNil))) (xs.map fun x => .tup [x, x]) [.d (.lst xs), .d (.lst xs), .un, .un] = M.pure ((xs.map fun x => D.tup [x, x]).map fun _ => .bl true) := compM_gen _ fun d hd => by
      obtain ⟨x, hx, rfl⟩ := List.mem_map.mp hd
      have := v_same n x (h2 x hx)
      exact ⟨_, rfl, by simp [DL.sSeq, DL.seqO, DL.sIf, DL.sRet, DL.sSet, DL.sExpr, DL.sNo, DL.sNil, DL.sMany, DL.setS, DL.sAsg, DL.bO_pure, DL.dVar, DL.dC, DL.dOp, DL.dCB, DL.dCall, DL.aCons, DL.aNil, DL.dB, DL.bAnd, DL.bOr, DL.bNot, DL.dAnd, DL.dOr, DL.dNot, DL.dNeg, DL.dChain, DL.dIsi, DL.dIsi2, DL.tyD, DL.Ty.isa, DL.dSlice, DL.pNone, DL.pSome, DL.dTup, DL.dOf, DL.fLst, DL.fComp, DL.fItems, DL.wipeS, DL.iSeq, DL.iR1, DL.iR2, DL.iZip, DL.itemsD, DL.xVal, DL.xNil, DL.dIf, DL.gN, DL.gT, DL.gsN, DL.gsC, DL.aStar, DL.M.pure_bind, DL.M.lift_some, DL.toB_bl, DL.toI_int, DL.ltD_int, DL.leD_int, DL.gtD_int, DL.geD_int, DL.subD_int, DL.addD_int, DL.negD_int, DL.maxD_int, DL.eqD_int, DL.neD_int, DL.eqD_tN, DL.neD_tN, DL.neD_tN0, DL.inD_tN, DL.slD_tN, DL.lenD_tN, DL.fits_map, DL.fits_nil, this]⟩
    have hf : fits (xs.map fun x => D.tup [x, x]) = true := fits_map (Nat.le_trans h1 (by decide))
    have ha := all_true (xs.map fun x => D.tup [x, x])
    simp (implicitDefEqProofs := false) only [b_law_same, DL.sSeq, DL.seqO, DL.sIf, DL.sRet, DL.sSet, DL.sExpr, DL.sNo, DL.sNil, DL.sMany, DL.setS, DL.sAsg, DL.bO_pure, DL.dVar, DL.dC, DL.dOp, DL.dCB, DL.dCall, DL.aCons, DL.aNil, DL.dB, DL.bAnd, DL.bOr, DL.bNot, DL.dAnd, DL.dOr, DL.dNot, DL.dNeg, DL.dChain, DL.dIsi, DL.dIsi2, DL.tyD, DL.Ty.isa, DL.dSlice, DL.pNone, DL.pSome, DL.dTup, DL.dOf, DL.fLst, DL.fComp, DL.fItems, DL.wipeS, DL.iSeq, DL.iR1, DL.iR2, DL.iZip, DL.itemsD, DL.xVal, DL.xNil, DL.dIf, DL.gN, DL.gT, DL.gsN, DL.gsC, DL.aStar, DL.M.pure_bind, DL.M.lift_some, DL.toB_bl, DL.toI_int, DL.ltD_int, DL.leD_int, DL.gtD_int, DL.geD_int, DL.subD_int, DL.addD_int, DL.negD_int, DL.maxD_int, DL.eqD_int, DL.neD_int, DL.eqD_tN, DL.neD_tN, DL.neD_tN0, DL.inD_tN, DL.slD_tN, DL.lenD_tN, DL.fits_map, DL.fits_nil, List.map_cons, List.map_nil, List.replicate, List.cons_append, List.nil_append, Nat.sub_zero, Nat.reduceSub, List.getElem?_cons_zero, List.getElem?_cons_succ, List.length_cons, List.length_nil, Nat.zero_add, Nat.reduceAdd, if_true, List.set_cons_zero, List.set_cons_succ, Option.bind_some, e1, neD_bl, hz, hc, hf, ha, Bool.or_true, Bool.or_false, Bool.true_or, beq_self_eq_true, Bool.not_true, Bool.false_eq_true, if_false, decide_true]
  | _ + 1, .str _, h => h.elim
  | _ + 1, .scr _, h => h.elim
  | _ + 1, .tin, h => h.elim
/-! ### the helpers of a law: tuples as lists -/
theorem v_lists_int (n : Nat) (i : Int) : m_law_lists (n + 1) [.int i] = M.pure (.int i) := rfl
theorem v_lists_tup {α : Type} {n : Nat} {j t : α → D} {xs : List α} (hl : xs.length ≤ sizeLine) (h : ∀ x ∈ xs, m_law_lists n [j x] = M.pure (t x)) : m_law_lists (n + 1) [.tup (xs.map j)] = M.pure (.lst (xs.map t)) := by
  have hc : compM (gN 1) bYes (dCall 1 (m_law_lists n) (aCons (dVar 1) aNil)) (xs.map j) [.d (.tup (xs.map j)), .un] = M.pure (xs.map t) := compM_ints xs fun x hx => by
    simp [DL.sSeq, DL.seqO, DL.sIf, DL.sRet, DL.sSet, DL.sExpr, DL.sNo, DL.sNil, DL.sMany, DL.setS, DL.sAsg, DL.bO_pure, DL.dVar, DL.dC, DL.dOp, DL.dCB, DL.dCall, DL.aCons, DL.aNil, DL.dB, DL.bAnd, DL.bOr, DL.bNot, DL.dAnd, DL.dOr, DL.dNot, DL.dNeg, DL.dChain, DL.dIsi, DL.dIsi2, DL.tyD, DL.Ty.isa, DL.dSlice, DL.pNone, DL.pSome, DL.dTup, DL.dOf, DL.fLst, DL.fComp, DL.fItems, DL.wipeS, DL.iSeq, DL.iR1, DL.iR2, DL.iZip, DL.itemsD, DL.xVal, DL.xNil, DL.dIf, DL.gN, DL.gT, DL.gsN, DL.gsC, DL.aStar, DL.M.pure_bind, DL.M.lift_some, DL.toB_bl, DL.toI_int, DL.ltD_int, DL.leD_int, DL.gtD_int, DL.geD_int, DL.subD_int, DL.addD_int, DL.negD_int, DL.maxD_int, DL.eqD_int, DL.neD_int, DL.eqD_tN, DL.neD_tN, DL.neD_tN0, DL.inD_tN, DL.slD_tN, DL.lenD_tN, DL.fits_map, DL.fits_nil, h x hx]
  refine runG_rt rfl fun τ => ?_
  simp [b_law_lists, DL.sSeq, DL.seqO, DL.sIf, DL.sRet, DL.sSet, DL.sExpr, DL.sNo, DL.sNil, DL.sMany, DL.setS, DL.sAsg, DL.bO_pure, DL.dVar, DL.dC, DL.dOp, DL.dCB, DL.dCall, DL.aCons, DL.aNil, DL.dB, DL.bAnd, DL.bOr, DL.bNot, DL.dAnd, DL.dOr, DL.dNot, DL.dNeg, DL.dChain, DL.dIsi, DL.dIsi2, DL.tyD, DL.Ty.isa, DL.dSlice, DL.pNone, DL.pSome, DL.dTup, DL.dOf, DL.fLst, DL.fComp, DL.fItems, DL.wipeS, DL.iSeq, DL.iR1, DL.iR2, DL.iZip, DL.itemsD, DL.xVal, DL.xNil, DL.dIf, DL.gN, DL.gT, DL.gsN, DL.gsC, DL.aStar, DL.M.pure_bind, DL.M.lift_some, DL.toB_bl, DL.toI_int, DL.ltD_int, DL.leD_int, DL.gtD_int, DL.geD_int, DL.subD_int, DL.addD_int, DL.negD_int, DL.maxD_int, DL.eqD_int, DL.neD_int, DL.eqD_tN, DL.neD_tN, DL.neD_tN0, DL.inD_tN, DL.slD_tN, DL.lenD_tN, DL.fits_map, DL.fits_nil, hl, hc]
theorem v_lists_tN {n : Nat} {xs : List Int} (hl : xs.length ≤ sizeLine) : m_law_lists (n + 2) [tN xs] = M.pure (lN xs) := v_lists_tup hl fun x _ => v_lists_int n x

end K39
end

section
set_option Elab.async false
set_option linter.all false
set_option maxRecDepth 100000
set_option maxHeartbeats 4000000
open PySem PySem.Spec PyProof.Rows L2 DL
namespace K39
theorem comp_draw {w : Int} {q : D} (h0 : 0 < w) (hw : w < 1000000) : ∀ (ds : List D) (n : Nat) (τ : Tin), TinOk n τ → n + ds.length ≤ 100000 →
    ∃ (xs : List Int) (τ' : Tin), compM (gN 3) bYes (dOp addD (dC (.int 1)) (dCall 2 m_law_take (aCons (dVar 0) (aCons (dVar 1) aNil)))) ds [.d .tin, .d (.int w), .d q, .un] τ = .ok (xs.map D.int) τ' ∧ xs.length = ds.length ∧ (∀ x ∈ xs, 1 ≤ x ∧ x ≤ w) ∧ TinOk (n + ds.length) τ'
  | [], n, τ, h, _ => ⟨[], τ, rfl, rfl, by simp, h⟩
  | d :: ds, n, τ, h, hn => by
    rw [List.length_cons] at hn
    obtain ⟨r, τ1, t1, t2, t3, t4⟩ := v_take h (by omega) h0 (by omega)
    obtain ⟨xs, τ2, c1, c2, c3, c4⟩ := comp_draw (q := q) h0 hw ds (n + 1) τ1 t4 (by omega)
    refine ⟨(1 + r) :: xs, τ2, ?_, by rw [List.length_cons, List.length_cons, c2], fun x hx => ?_, by rw [List.length_cons, show n + (ds.length + 1) = n + 1 + ds.length by omega]; exact c4⟩
    · have e : dOp addD (dC (.int 1)) (dCall 2 m_law_take (aCons (dVar 0) (aCons (dVar 1) aNil))) [.d .tin, .d (.int w), .d q, .d d] τ = .ok (.int (1 + r)) τ1 := by
        simp only [DL.sSeq, DL.seqO, DL.sIf, DL.sRet, DL.sSet, DL.sExpr, DL.sNo, DL.sNil, DL.sMany, DL.setS, DL.sAsg, DL.bO_pure, DL.dVar, DL.dC, DL.dOp, DL.dCB, DL.dCall, DL.aCons, DL.aNil, DL.dB, DL.bAnd, DL.bOr, DL.bNot, DL.dAnd, DL.dOr, DL.dNot, DL.dNeg, DL.dChain, DL.dIsi, DL.dIsi2, DL.tyD, DL.Ty.isa, DL.dSlice, DL.pNone, DL.pSome, DL.dTup, DL.dOf, DL.fLst, DL.fComp, DL.fItems, DL.wipeS, DL.iSeq, DL.iR1, DL.iR2, DL.iZip, DL.itemsD, DL.xVal, DL.xNil, DL.dIf, DL.gN, DL.gT, DL.gsN, DL.gsC, DL.aStar, DL.M.pure_bind, DL.M.lift_some, DL.toB_bl, DL.toI_int, DL.ltD_int, DL.leD_int, DL.gtD_int, DL.geD_int, DL.subD_int, DL.addD_int, DL.negD_int, DL.maxD_int, DL.eqD_int, DL.neD_int, DL.eqD_tN, DL.neD_tN, DL.neD_tN0, DL.inD_tN, DL.slD_tN, DL.lenD_tN, DL.fits_map, DL.fits_nil, List.map_cons, List.map_nil, List.replicate, List.cons_append, List.nil_append, Nat.sub_zero, Nat.reduceSub, List.getElem?_cons_zero, List.getElem?_cons_succ, List.length_cons, List.length_nil, Nat.zero_add, Nat.reduceAdd, if_true, List.set_cons_zero, List.set_cons_succ, Option.bind_some]
        rw [M.bind_ok t1]
        rfl
      show M.bind (calm (dOp addD (dC (.int 1)) (dCall 2 m_law_take (aCons (dVar 0) (aCons (dVar 1) aNil))) [.d .tin, .d (.int w), .d q, .d d])) (fun x => M.bind (compM (gN 3) bYes _ ds [.d .tin, .d (.int w), .d q, .un]) fun xs => M.pure (x :: xs)) τ = _
      rw [M.bind_ok (calm_ok e), M.bind_ok c1]
      rfl
    · rcases List.mem_cons.mp hx with rfl | hx
      · omega
      · exact c3 x hx
theorem v_row {w : Int} {m n : Nat} {τ : Tin} (h0 : 0 < w) (hw : w < 1000000) (hm : m ≤ 1000) (h : TinOk n τ) (hn : n + m ≤ 100000) :
    ∃ (xs : List Int) (τ' : Tin), m_law_row [.tin, .int w, .int (m : Int)] τ = .ok (tN xs) τ' ∧ xs.length = m ∧ (∀ x ∈ xs, 1 ≤ x ∧ x ≤ w) ∧ TinOk (n + m) τ' := by
  have el : ((List.range m).map fun i : Nat => D.int (0 + (i : Int))).length = m := by rw [List.length_map, List.length_range]
  obtain ⟨xs, τ', c1, c2, c3, c4⟩ := comp_draw (q := .int (m : Int)) h0 hw ((List.range m).map fun i : Nat => D.int (0 + (i : Int))) n τ h (by rw [el]; exact hn)
  rw [el] at c2 c4
  refine ⟨xs, τ', runG_at rfl ?_, c2, c3, c4⟩
  have hf : fits ((List.range m).map fun i : Nat => D.int (0 + (i : Int))) = true := fits_map (by rw [List.length_range]; exact Nat.le_trans hm (by decide))
  have e : ((m : Int)).toNat = m := by omega
  simp only [b_law_row, DL.sSeq, DL.seqO, DL.sIf, DL.sRet, DL.sSet, DL.sExpr, DL.sNo, DL.sNil, DL.sMany, DL.setS, DL.sAsg, DL.bO_pure, DL.dVar, DL.dC, DL.dOp, DL.dCB, DL.dCall, DL.aCons, DL.aNil, DL.dB, DL.bAnd, DL.bOr, DL.bNot, DL.dAnd, DL.dOr, DL.dNot, DL.dNeg, DL.dChain, DL.dIsi, DL.dIsi2, DL.tyD, DL.Ty.isa, DL.dSlice, DL.pNone, DL.pSome, DL.dTup, DL.dOf, DL.fLst, DL.fComp, DL.fItems, DL.wipeS, DL.iSeq, DL.iR1, DL.iR2, DL.iZip, DL.itemsD, DL.xVal, DL.xNil, DL.dIf, DL.gN, DL.gT, DL.gsN, DL.gsC, DL.aStar, DL.M.pure_bind, DL.M.lift_some, DL.toB_bl, DL.toI_int, DL.ltD_int, DL.leD_int, DL.gtD_int, DL.geD_int, DL.subD_int, DL.addD_int, DL.negD_int, DL.maxD_int, DL.eqD_int, DL.neD_int, DL.eqD_tN, DL.neD_tN, DL.neD_tN0, DL.inD_tN, DL.slD_tN, DL.lenD_tN, DL.fits_map, DL.fits_nil, List.map_cons, List.map_nil, List.replicate, List.cons_append, List.nil_append, Nat.sub_zero, Nat.reduceSub, List.getElem?_cons_zero, List.getElem?_cons_succ, List.length_cons, List.length_nil, Nat.zero_add, Nat.reduceAdd, if_true, List.set_cons_zero, List.set_cons_succ, Option.bind_some, rangeD_eq, e, hf, M.bind_assoc]
  rw [bO_do c1]
  simp only [DL.sSeq, DL.seqO, DL.sIf, DL.sRet, DL.sSet, DL.sExpr, DL.sNo, DL.sNil, DL.sMany, DL.setS, DL.sAsg, DL.bO_pure, DL.dVar, DL.dC, DL.dOp, DL.dCB, DL.dCall, DL.aCons, DL.aNil, DL.dB, DL.bAnd, DL.bOr, DL.bNot, DL.dAnd, DL.dOr, DL.dNot, DL.dNeg, DL.dChain, DL.dIsi, DL.dIsi2, DL.tyD, DL.Ty.isa, DL.dSlice, DL.pNone, DL.pSome, DL.dTup, DL.dOf, DL.fLst, DL.fComp, DL.fItems, DL.wipeS, DL.iSeq, DL.iR1, DL.iR2, DL.iZip, DL.itemsD, DL.xVal, DL.xNil, DL.dIf, DL.gN, DL.gT, DL.gsN, DL.gsC, DL.aStar, DL.M.pure_bind, DL.M.lift_some, DL.toB_bl, DL.toI_int, DL.ltD_int, DL.leD_int, DL.gtD_int, DL.geD_int, DL.subD_int, DL.addD_int, DL.negD_int, DL.maxD_int, DL.eqD_int, DL.neD_int, DL.eqD_tN, DL.neD_tN, DL.neD_tN0, DL.inD_tN, DL.slD_tN, DL.lenD_tN, DL.fits_map, DL.fits_nil, List.map_cons, List.map_nil, List.replicate, List.cons_append, List.nil_append, Nat.sub_zero, Nat.reduceSub, List.getElem?_cons_zero, List.getElem?_cons_succ, List.length_cons, List.length_nil, Nat.zero_add, Nat.reduceAdd, if_true, List.set_cons_zero, List.set_cons_succ, Option.bind_some, tupleD_lst]
theorem v_lasso {n : Nat} {τ : Tin} (h : TinOk n τ) (hn : n ≤ 1000) : ∃ (a b : List Int) (τ' : Tin), m_law_lasso [.tin, .int 3, .int 6, .int 5] τ = .ok (lasD a b) τ' ∧ a.length ≤ 6 ∧ 1 ≤ b.length ∧ b.length ≤ 5 ∧ (∀ x ∈ a, 1 ≤ x ∧ x ≤ 3) ∧ (∀ x ∈ b, 1 ≤ x ∧ x ≤ 3) ∧ TinOk (n + 100) τ' := by
  obtain ⟨r, τ1, t1, t2, t3, t4⟩ := v_take (k := 6 + 1) h (by omega) (by decide) (by decide)
  obtain ⟨a, τ2, a1, a2, a3, a4⟩ := v_row (w := 3) (m := r.toNat) (n := n + 1) (τ := τ1) (by decide) (by decide) (by omega) t4 (by omega)
  obtain ⟨u, τ3, u1, u2, u3, u4⟩ := v_take (k := 5) a4 (by omega) (by decide) (by decide)
  obtain ⟨b, τ4, b1, b2, b3, b4⟩ := v_row (w := 3) (m := (1 + u).toNat) (τ := τ3) (by decide) (by decide) (by omega) u4 (by omega)
  rw [show ((r.toNat : Nat) : Int) = r by omega] at a1
  rw [show (((1 + u).toNat : Nat) : Int) = 1 + u by omega] at b1
  refine ⟨a, b, τ4, runG_at rfl ?_, by omega, by omega, by omega, a3, b3, ?_⟩
  · have hf : fits [tN a, tN b] = true := rfl
    simp only [b_law_lasso, DL.sSeq, DL.seqO, DL.sIf, DL.sRet, DL.sSet, DL.sExpr, DL.sNo, DL.sNil, DL.sMany, DL.setS, DL.sAsg, DL.bO_pure, DL.dVar, DL.dC, DL.dOp, DL.dCB, DL.dCall, DL.aCons, DL.aNil, DL.dB, DL.bAnd, DL.bOr, DL.bNot, DL.dAnd, DL.dOr, DL.dNot, DL.dNeg, DL.dChain, DL.dIsi, DL.dIsi2, DL.tyD, DL.Ty.isa, DL.dSlice, DL.pNone, DL.pSome, DL.dTup, DL.dOf, DL.fLst, DL.fComp, DL.fItems, DL.wipeS, DL.iSeq, DL.iR1, DL.iR2, DL.iZip, DL.itemsD, DL.xVal, DL.xNil, DL.dIf, DL.gN, DL.gT, DL.gsN, DL.gsC, DL.aStar, DL.M.pure_bind, DL.M.lift_some, DL.toB_bl, DL.toI_int, DL.ltD_int, DL.leD_int, DL.gtD_int, DL.geD_int, DL.subD_int, DL.addD_int, DL.negD_int, DL.maxD_int, DL.eqD_int, DL.neD_int, DL.eqD_tN, DL.neD_tN, DL.neD_tN0, DL.inD_tN, DL.slD_tN, DL.lenD_tN, DL.fits_map, DL.fits_nil, List.map_cons, List.map_nil, List.replicate, List.cons_append, List.nil_append, Nat.sub_zero, Nat.reduceSub, List.getElem?_cons_zero, List.getElem?_cons_succ, List.length_cons, List.length_nil, Nat.zero_add, Nat.reduceAdd, if_true, List.set_cons_zero, List.set_cons_succ, Option.bind_some, M.bind_assoc]
    rw [bO_do t1, bO_do a1, bO_do u1]
    simp only [DL.sSeq, DL.seqO, DL.sIf, DL.sRet, DL.sSet, DL.sExpr, DL.sNo, DL.sNil, DL.sMany, DL.setS, DL.sAsg, DL.bO_pure, DL.dVar, DL.dC, DL.dOp, DL.dCB, DL.dCall, DL.aCons, DL.aNil, DL.dB, DL.bAnd, DL.bOr, DL.bNot, DL.dAnd, DL.dOr, DL.dNot, DL.dNeg, DL.dChain, DL.dIsi, DL.dIsi2, DL.tyD, DL.Ty.isa, DL.dSlice, DL.pNone, DL.pSome, DL.dTup, DL.dOf, DL.fLst, DL.fComp, DL.fItems, DL.wipeS, DL.iSeq, DL.iR1, DL.iR2, DL.iZip, DL.itemsD, DL.xVal, DL.xNil, DL.dIf, DL.gN, DL.gT, DL.gsN, DL.gsC, DL.aStar, DL.M.pure_bind, DL.M.lift_some, DL.toB_bl, DL.toI_int, DL.ltD_int, DL.leD_int, DL.gtD_int, DL.geD_int, DL.subD_int, DL.addD_int, DL.negD_int, DL.maxD_int, DL.eqD_int, DL.neD_int, DL.eqD_tN, DL.neD_tN, DL.neD_tN0, DL.inD_tN, DL.slD_tN, DL.lenD_tN, DL.fits_map, DL.fits_nil, List.map_cons, List.map_nil, List.replicate, List.cons_append, List.nil_append, Nat.sub_zero, Nat.reduceSub, List.getElem?_cons_zero, List.getElem?_cons_succ, List.length_cons, List.length_nil, Nat.zero_add, Nat.reduceAdd, if_true, List.set_cons_zero, List.set_cons_succ, Option.bind_some]
    rw [bO_do b1]
    simp only [DL.sSeq, DL.seqO, DL.sIf, DL.sRet, DL.sSet, DL.sExpr, DL.sNo, DL.sNil, DL.sMany, DL.setS, DL.sAsg, DL.bO_pure, DL.dVar, DL.dC, DL.dOp, DL.dCB, DL.dCall, DL.aCons, DL.aNil, DL.dB, DL.bAnd, DL.bOr, DL.bNot, DL.dAnd, DL.dOr, DL.dNot, DL.dNeg, DL.dChain, DL.dIsi, DL.dIsi2, DL.tyD, DL.Ty.isa, DL.dSlice, DL.pNone, DL.pSome, DL.dTup, DL.dOf, DL.fLst, DL.fComp, DL.fItems, DL.wipeS, DL.iSeq, DL.iR1, DL.iR2, DL.iZip, DL.itemsD, DL.xVal, DL.xNil, DL.dIf, DL.gN, DL.gT, DL.gsN, DL.gsC, DL.aStar, DL.M.pure_bind, DL.M.lift_some, DL.toB_bl, DL.toI_int, DL.ltD_int, DL.leD_int, DL.gtD_int, DL.geD_int, DL.subD_int, DL.addD_int, DL.negD_int, DL.maxD_int, DL.eqD_int, DL.neD_int, DL.eqD_tN, DL.neD_tN, DL.neD_tN0, DL.inD_tN, DL.slD_tN, DL.lenD_tN, DL.fits_map, DL.fits_nil, List.map_cons, List.map_nil, List.replicate, List.cons_append, List.nil_append, Nat.sub_zero, Nat.reduceSub, List.getElem?_cons_zero, List.getElem?_cons_succ, List.length_cons, List.length_nil, Nat.zero_add, Nat.reduceAdd, if_true, List.set_cons_zero, List.set_cons_succ, Option.bind_some, hf]
  · obtain ⟨q1, q2, q3, q4⟩ := b4
    exact ⟨q1, q2, q3, by omega⟩
theorem v_of {xs : List D} {n : Nat} {τ : Tin} (h : TinOk n τ) (hn : n ≤ 10000) (h0 : xs ≠ []) (hl : xs.length ≤ 1000) : ∃ x ∈ xs, ∃ τ', m_law_of [.tin, .lst xs] τ = .ok x τ' ∧ TinOk (n + 1) τ' := by
  have hp := List.length_pos_iff.mpr h0
  obtain ⟨r, τ1, t1, t2, t3, t4⟩ := v_take (k := (xs.length : Int)) h (by omega) (by omega) (by omega)
  have hi : r.toNat < xs.length := by omega
  refine ⟨xs[r.toNat], List.getElem_mem hi, τ1, runG_at rfl ?_, t4⟩
  have e : lenD [.lst xs] = some (.int (xs.length : Int)) := rfl
  have e2 : ixD (.lst xs) (.int r) = some xs[r.toNat] := by
    show atI xs r = _
    rw [atI_pos t2, List.getElem?_eq_getElem hi]
  simp only [b_law_of, DL.sSeq, DL.seqO, DL.sIf, DL.sRet, DL.sSet, DL.sExpr, DL.sNo, DL.sNil, DL.sMany, DL.setS, DL.sAsg, DL.bO_pure, DL.dVar, DL.dC, DL.dOp, DL.dCB, DL.dCall, DL.aCons, DL.aNil, DL.dB, DL.bAnd, DL.bOr, DL.bNot, DL.dAnd, DL.dOr, DL.dNot, DL.dNeg, DL.dChain, DL.dIsi, DL.dIsi2, DL.tyD, DL.Ty.isa, DL.dSlice, DL.pNone, DL.pSome, DL.dTup, DL.dOf, DL.fLst, DL.fComp, DL.fItems, DL.wipeS, DL.iSeq, DL.iR1, DL.iR2, DL.iZip, DL.itemsD, DL.xVal, DL.xNil, DL.dIf, DL.gN, DL.gT, DL.gsN, DL.gsC, DL.aStar, DL.M.pure_bind, DL.M.lift_some, DL.toB_bl, DL.toI_int, DL.ltD_int, DL.leD_int, DL.gtD_int, DL.geD_int, DL.subD_int, DL.addD_int, DL.negD_int, DL.maxD_int, DL.eqD_int, DL.neD_int, DL.eqD_tN, DL.neD_tN, DL.neD_tN0, DL.inD_tN, DL.slD_tN, DL.lenD_tN, DL.fits_map, DL.fits_nil, List.map_cons, List.map_nil, List.replicate, List.cons_append, List.nil_append, Nat.sub_zero, Nat.reduceSub, List.getElem?_cons_zero, List.getElem?_cons_succ, List.length_cons, List.length_nil, Nat.zero_add, Nat.reduceAdd, if_true, List.set_cons_zero, List.set_cons_succ, Option.bind_some, e, M.bind_assoc]
  rw [bO_do t1]
  simp only [DL.sSeq, DL.seqO, DL.sIf, DL.sRet, DL.sSet, DL.sExpr, DL.sNo, DL.sNil, DL.sMany, DL.setS, DL.sAsg, DL.bO_pure, DL.dVar, DL.dC, DL.dOp, DL.dCB, DL.dCall, DL.aCons, DL.aNil, DL.dB, DL.bAnd, DL.bOr, DL.bNot, DL.dAnd, DL.dOr, DL.dNot, DL.dNeg, DL.dChain, DL.dIsi, DL.dIsi2, DL.tyD, DL.Ty.isa, DL.dSlice, DL.pNone, DL.pSome, DL.dTup, DL.dOf, DL.fLst, DL.fComp, DL.fItems, DL.wipeS, DL.iSeq, DL.iR1, DL.iR2, DL.iZip, DL.itemsD, DL.xVal, DL.xNil, DL.dIf, DL.gN, DL.gT, DL.gsN, DL.gsC, DL.aStar, DL.M.pure_bind, DL.M.lift_some, DL.toB_bl, DL.toI_int, DL.ltD_int, DL.leD_int, DL.gtD_int, DL.geD_int, DL.subD_int, DL.addD_int, DL.negD_int, DL.maxD_int, DL.eqD_int, DL.neD_int, DL.eqD_tN, DL.neD_tN, DL.neD_tN0, DL.inD_tN, DL.slD_tN, DL.lenD_tN, DL.fits_map, DL.fits_nil, List.map_cons, List.map_nil, List.replicate, List.cons_append, List.nil_append, Nat.sub_zero, Nat.reduceSub, List.getElem?_cons_zero, List.getElem?_cons_succ, List.length_cons, List.length_nil, Nat.zero_add, Nat.reduceAdd, if_true, List.set_cons_zero, List.set_cons_succ, Option.bind_some, e2]
/-! ### the sets of letters -/
def SETS : List (List Int) := [[1], [1, 2], [1, 2, 3], [1, 3], [2], [2, 3], [3]]
theorem v_gap : m_law_gap_subsets [lN [1, 2, 3]] = M.pure (.lst ([[], [1], [2], [1, 2], [3], [1, 3], [2, 3], [1, 2, 3]].map fun s : List Int => tN s)) := rfl

theorem perm_sorted {α : Type} {le : α → α → Bool} : ∀ {l m : List α}, (∀ a ∈ l, ∀ b ∈ m, le a b = true → le b a = true → a = b) → l.Pairwise (fun a b => le a b = true) → m.Pairwise (fun a b => le a b = true) → l.Perm m → (∀ a ∈ l, le a a = true) → l = m
  | [], m, _, _, _, p, _ => (List.Perm.nil_eq p)
  | x :: l, [], _, _, _, p, _ => absurd p.length_eq (by simp)
  | x :: l, y :: m, h, hl, hm, p, hr => by
    have hx : x ∈ y :: m := p.mem_iff.mp List.mem_cons_self
    have hy : y ∈ x :: l := p.mem_iff.mpr List.mem_cons_self
    have e : x = y := by
      have h1 : le x y = true := by
        rcases List.mem_cons.mp hy with e | hy
        · rw [e]; exact hr x List.mem_cons_self
        · exact (List.pairwise_cons.mp hl).1 y hy
      have h2 : le y x = true := by
        rcases List.mem_cons.mp hx with e | hx
        · rw [← e]; exact hr x List.mem_cons_self
        · exact (List.pairwise_cons.mp hm).1 x hx
      exact h x List.mem_cons_self y List.mem_cons_self h1 h2
    subst e
    rw [perm_sorted (fun a ha b hb => h a (List.mem_cons_of_mem _ ha) b (List.mem_cons_of_mem _ hb)) (List.pairwise_cons.mp hl).2 (List.pairwise_cons.mp hm).2 (List.perm_cons _ |>.mp p) fun a ha => hr a (List.mem_cons_of_mem _ ha)]
def leS : List Int → List Int → Bool := leP fun s : List Int => pD (tN s)
theorem sets_sorted : ([[1], [2], [1, 2], [3], [1, 3], [2, 3], [1, 2, 3]] : List (List Int)).mergeSort leS = SETS := by
  have T : PySem.W.TotalLe leS := PySem.W.sortLe_total (PyProof.Rows.listOrd PyProof.Rows.itemOrd) false (fun z : List Int => PySem.W.keyToks (pD (tN z)))
  have hp := List.mergeSort_perm ([[1], [2], [1, 2], [3], [1, 3], [2, 3], [1, 2, 3]] : List (List Int)) leS
  have hq : SETS.Perm [[1], [2], [1, 2], [3], [1, 3], [2, 3], [1, 2, 3]] := by decide
  refine perm_sorted (fun a ha b hb => ?_) (PySem.W.sort_pairwise T _) (by decide +kernel) (hp.trans hq.symm) fun a _ => T.refl a
  have ha := hq.mem_iff.mpr (hp.mem_iff.mp ha)
  have key : ∀ a ∈ SETS, ∀ b ∈ SETS, leS a b = true → leS b a = true → a = b := by decide +kernel
  exact key a ha b hb
theorem v_sets : m_law_sets [.int 3] = M.pure (.lst (SETS.map fun s : List Int => tN s)) := by
  refine runG_rt rfl fun τ => ?_
  have h1 : fRange (rg2 (dC (.int 1)) (dOp addD (dVar 0) (dC (.int 1)))) [.d (.int 3), .un] = M.pure [.int 1, .int 2, .int 3] := rfl
  have h2 : m_law_gap_subsets [.lst [.int 1, .int 2, .int 3]] = M.pure (.lst ([[], [1], [2], [1, 2], [3], [1, 3], [2, 3], [1, 2, 3]].map fun s : List Int => tN s)) := v_gap
  have h3 : compM (gN 1) (dB (dOp neD (dVar 1) (dTup aNil))) (dCB tupleD (aCons (dVar 1) aNil)) ([[], [1], [2], [1, 2], [3], [1, 3], [2, 3], [1, 2, 3]].map fun s : List Int => tN s) [.d (.int 3), .un] = M.pure ([[1], [2], [1, 2], [3], [1, 3], [2, 3], [1, 2, 3]].map fun s : List Int => tN s) :=
    compM_if (p := fun s : List Int => !decide (s = [])) (h := fun s => tN s) _ (fun s _ => by simp only [DL.sSeq, DL.seqO, DL.sIf, DL.sRet, DL.sSet, DL.sExpr, DL.sNo, DL.sNil, DL.sMany, DL.setS, DL.sAsg, DL.bO_pure, DL.dVar, DL.dC, DL.dOp, DL.dCB, DL.dCall, DL.aCons, DL.aNil, DL.dB, DL.bAnd, DL.bOr, DL.bNot, DL.dAnd, DL.dOr, DL.dNot, DL.dNeg, DL.dChain, DL.dIsi, DL.dIsi2, DL.tyD, DL.Ty.isa, DL.dSlice, DL.pNone, DL.pSome, DL.dTup, DL.dOf, DL.fLst, DL.fComp, DL.fItems, DL.wipeS, DL.iSeq, DL.iR1, DL.iR2, DL.iZip, DL.itemsD, DL.xVal, DL.xNil, DL.dIf, DL.gN, DL.gT, DL.gsN, DL.gsC, DL.aStar, DL.M.pure_bind, DL.M.lift_some, DL.toB_bl, DL.toI_int, DL.ltD_int, DL.leD_int, DL.gtD_int, DL.geD_int, DL.subD_int, DL.addD_int, DL.negD_int, DL.maxD_int, DL.eqD_int, DL.neD_int, DL.eqD_tN, DL.neD_tN, DL.neD_tN0, DL.inD_tN, DL.slD_tN, DL.lenD_tN, DL.fits_map, DL.fits_nil, List.map_cons, List.map_nil, List.replicate, List.cons_append, List.nil_append, Nat.sub_zero, Nat.reduceSub, List.getElem?_cons_zero, List.getElem?_cons_succ, List.length_cons, List.length_nil, Nat.zero_add, Nat.reduceAdd, if_true, List.set_cons_zero, List.set_cons_succ, Option.bind_some]) fun s _ _ => by simp only [DL.sSeq, DL.seqO, DL.sIf, DL.sRet, DL.sSet, DL.sExpr, DL.sNo, DL.sNil, DL.sMany, DL.setS, DL.sAsg, DL.bO_pure, DL.dVar, DL.dC, DL.dOp, DL.dCB, DL.dCall, DL.aCons, DL.aNil, DL.dB, DL.bAnd, DL.bOr, DL.bNot, DL.dAnd, DL.dOr, DL.dNot, DL.dNeg, DL.dChain, DL.dIsi, DL.dIsi2, DL.tyD, DL.Ty.isa, DL.dSlice, DL.pNone, DL.pSome, DL.dTup, DL.dOf, DL.fLst, DL.fComp, DL.fItems, DL.wipeS, DL.iSeq, DL.iR1, DL.iR2, DL.iZip, DL.itemsD, DL.xVal, DL.xNil, DL.dIf, DL.gN, DL.gT, DL.gsN, DL.gsC, DL.aStar, DL.M.pure_bind, DL.M.lift_some, DL.toB_bl, DL.toI_int, DL.ltD_int, DL.leD_int, DL.gtD_int, DL.geD_int, DL.subD_int, DL.addD_int, DL.negD_int, DL.maxD_int, DL.eqD_int, DL.neD_int, DL.eqD_tN, DL.neD_tN, DL.neD_tN0, DL.inD_tN, DL.slD_tN, DL.lenD_tN, DL.fits_map, DL.fits_nil, List.map_cons, List.map_nil, List.replicate, List.cons_append, List.nil_append, Nat.sub_zero, Nat.reduceSub, List.getElem?_cons_zero, List.getElem?_cons_succ, List.length_cons, List.length_nil, Nat.zero_add, Nat.reduceAdd, if_true, List.set_cons_zero, List.set_cons_succ, Option.bind_some]; rfl
  have h4 : sortL ([[1], [2], [1, 2], [3], [1, 3], [2, 3], [1, 2, 3]].map fun s : List Int => tN s) = M.pure (SETS.map fun s : List Int => tN s) := by
    have e : sortD ([[1], [2], [1, 2], [3], [1, 3], [2, 3], [1, 2, 3]].map fun s : List Int => tN s) = SETS.map fun s : List Int => tN s := by
      unfold sortD
      rw [← sort_snd (fun s : List Int => tN s) pD]
      exact congrArg _ sets_sorted
    rw [← e]
    rfl
  have hf : fits ([[], [1], [2], [1, 2], [3], [1, 3], [2, 3], [1, 2, 3]].map fun s : List Int => tN s) = true := rfl
  have h5 : fSort (dOf (fComp (iSeq (dCall 1 m_law_gap_subsets (aCons (dOf (fRange (rg2 (dC (.int 1)) (dOp addD (dVar 0) (dC (.int 1)))))) aNil))) [1] (gN 1) (dB (dOp neD (dVar 1) (dTup aNil))) (dCB tupleD (aCons (dVar 1) aNil)))) [.d (.int 3), .un] = M.pure (SETS.map fun s : List Int => tN s) := by
    unfold fSort
    simp (implicitDefEqProofs := false) only [dOf, fComp, iSeq, dCall, aCons, aNil, wipeS, h1, h2, M.pure_bind, M.lift_some, itemsD, List.length_cons, List.length_nil, Nat.zero_add, if_true, List.set_cons_succ, List.set_cons_zero, hf, h3]
    exact h4
  simp (implicitDefEqProofs := false) only [b_law_sets, sRet, dOf, List.map_cons, List.map_nil, List.replicate, List.cons_append, List.nil_append, Nat.reduceSub, h5, M.pure_bind, bO_pure]
theorem sets_letters : ∀ s ∈ SETS, m_is_letters [.int 3, tN s] = M.pure (.bl true) := by
  intro s hs
  simp only [SETS, List.mem_cons, List.not_mem_nil, or_false] at hs
  rcases hs with rfl | rfl | rfl | rfl | rfl | rfl | rfl <;> rfl
end K39
end

section
set_option Elab.async false
set_option linter.all false
set_option maxHeartbeats 4000000
/-! ML: what the law asks, in plain words -/
namespace K39
theorem isT_iff (xs : List Int) : isT 3 xs = true ↔ ∀ x ∈ xs, 1 ≤ x ∧ x ≤ 3 := by
  unfold isT
  rw [List.all_eq_true]
  constructor
  · intro h x hx
    have := h x hx
    simpa using this
  · intro h x hx
    simpa using h x hx
theorem getD_mem {b : List Int} {i : Nat} (h : i < b.length) : b.getD i 0 ∈ b := by
  rw [List.getD_eq_getElem?_getD, List.getElem?_eq_getElem h]
  exact List.getElem_mem h
theorem mem_getD {b : List Int} {x : Int} (h : x ∈ b) : ∃ i, i < b.length ∧ b.getD i 0 = x := by
  obtain ⟨i, hi, e⟩ := List.mem_iff_getElem.mp h
  exact ⟨i, hi, by rw [List.getD_eq_getElem?_getD, List.getElem?_eq_getElem hi]; exact e⟩
theorem mem_rp {b : List Int} (hb : b ≠ []) (x : Int) : x ∈ b ↔ ∃ i, rp b i = x := by
  constructor
  · intro h
    obtain ⟨i, hi, e⟩ := mem_getD h
    exact ⟨i, by rw [rp_lt hi, e]⟩
  · rintro ⟨i, rfl⟩
    exact getD_mem (Nat.mod_lt _ (List.length_pos_iff.mpr hb))
theorem word_T {f k : List Int} (hk : k ≠ []) (h : ∀ i, 1 ≤ at0 f k i ∧ at0 f k i ≤ 3) : isT 3 f = true ∧ isT 3 k = true := by
  refine ⟨(isT_iff f).mpr fun x hx => ?_, (isT_iff k).mpr fun x hx => ?_⟩
  · obtain ⟨i, hi, e⟩ := mem_getD hx
    have := h i
    rw [at0_lt hi, e] at this
    exact this
  · obtain ⟨i, e⟩ := (mem_rp hk x).mp hx
    have := h (f.length + i)
    rw [at0_add, e] at this
    exact this
theorem T_word {a b : List Int} (ha : isT 3 a = true) (hb : isT 3 b = true) (nb : b ≠ []) (i : Nat) : 1 ≤ at0 a b i ∧ at0 a b i ≤ 3 := by
  unfold at0
  split
  · rename_i h
    exact (isT_iff a).mp ha _ (getD_mem h)
  · exact (isT_iff b).mp hb _ (getD_mem (Nat.mod_lt _ (List.length_pos_iff.mpr nb)))
theorem short_len {a b : List Int} (hb : b ≠ []) : (short a b).1.length ≤ a.length ∧ (short a b).2.length ≤ b.length := by
  obtain ⟨h1, h2⟩ := shr_len a.length a (root b) (root_ne hb)
  exact ⟨h1, by rw [show short a b = shr a.length a (root b) from rfl, h2]; exact root_len b⟩
theorem las_short {a b : List Int} (h : Las a b) : Las (short a b).1 (short a b).2 := by
  obtain ⟨t1, t2⟩ := word_T (short_norm (a := a) h.nb).ne fun i => by
    rw [short_word h.nb]
    exact T_word h.ta h.tb h.nb i
  obtain ⟨l1, l2⟩ := short_len (a := a) h.nb
  exact ⟨t1, t2, (short_norm h.nb).ne, Nat.le_trans l1 h.la, Nat.le_trans l2 h.lb⟩
theorem moved_len {a b : List Int} (h : b ≠ []) (n : Nat) : (moved a b n).1.length ≤ a.length ∧ (moved a b n).2.length ≤ b.length := by
  have hl := List.length_pos_iff.mpr h
  unfold moved
  split
  · obtain ⟨l1, l2⟩ := short_len (a := a.drop n) h
    rw [List.length_drop] at l1
    exact ⟨by omega, l2⟩
  · have hm := Nat.mod_lt (n - a.length) hl
    have e : (b.drop ((n - a.length) % b.length) ++ b.take ((n - a.length) % b.length)).length = b.length := by rw [List.length_append, List.length_drop, List.length_take]; omega
    obtain ⟨l1, l2⟩ := short_len (a := []) (b := b.drop ((n - a.length) % b.length) ++ b.take ((n - a.length) % b.length)) fun z => by
      rw [z] at e
      simp at e
      omega
    rw [e] at l2
    exact ⟨by simp only [List.length_nil] at l1; omega, l2⟩
theorem las_moved {a b : List Int} (h : Las a b) (n : Nat) : Las (moved a b n).1 (moved a b n).2 := by
  obtain ⟨t1, t2⟩ := word_T (moved_norm (a := a) h.nb n).ne fun i => by
    rw [moved_word h.nb]
    exact T_word h.ta h.tb h.nb _
  obtain ⟨l1, l2⟩ := moved_len (a := a) h.nb n
  exact ⟨t1, t2, (moved_norm h.nb n).ne, Nat.le_trans l1 h.la, Nat.le_trans l2 h.lb⟩
theorem norm_short {f k : List Int} (n : Norm f k) : short f k = (f, k) := by
  obtain ⟨e1, e2⟩ := norm_one (short_norm (a := f) n.ne) n (short_word n.ne)
  exact Prod.ext e1 e2
/-! ### counting -/
theorem cnt_app (s x y : List Int) : cnt s (x ++ y) = cnt s x + cnt s y := by
  unfold cnt
  rw [List.filter_append, List.length_append]
def one (s : List Int) (x : Int) : Nat := if x ∈ s then 1 else 0
theorem cnt_one (s : List Int) (x : Int) : cnt s [x] = one s x := by
  unfold cnt one
  by_cases h : x ∈ s <;> simp [h]
theorem take_succ' {b : List Int} {r : Nat} (h : r < b.length) : b.take (r + 1) = b.take r ++ [b.getD r 0] := by
  rw [List.take_succ_eq_append_getElem h, List.getD_eq_getElem?_getD, List.getElem?_eq_getElem h]
  rfl
theorem often_step {a b s : List Int} {n : Nat} (hb : b ≠ []) (h : a.length < n) : often a b s (n + 1) = often a b s n + one s (at0 a b n) := by
  have hl := List.length_pos_iff.mpr hb
  unfold often
  rw [if_neg (by omega), if_neg (by omega), at0_ge (by omega)]
  have e : n + 1 - a.length = n - a.length + 1 := by omega
  rw [e]
  obtain ⟨N, hN⟩ : ∃ N, N = n - a.length := ⟨_, rfl⟩
  rw [← hN]
  have hm := Nat.mod_lt N hl
  have hd := Nat.mod_add_div N b.length
  have hr : rp b N = b.getD (N % b.length) 0 := rfl
  rw [hr]
  by_cases hk : N % b.length + 1 < b.length
  · have e1 : (N + 1) % b.length = N % b.length + 1 := by
      rw [Nat.add_mod, Nat.mod_eq_of_lt (show 1 < b.length by omega), Nat.mod_eq_of_lt hk]
    have e2 : (N + 1) / b.length = N / b.length := by
      have := Nat.mod_add_div (N + 1) b.length
      rw [e1] at this
      have : b.length * ((N + 1) / b.length) = b.length * (N / b.length) := by omega
      exact Nat.eq_of_mul_eq_mul_left hl this
    rw [e1, e2, take_succ' hm, cnt_app, cnt_one]
    omega
  · have e1 : (N + 1) % b.length = 0 := by
      have : N + 1 = b.length * (N / b.length + 1) := by rw [Nat.mul_add, Nat.mul_one]; omega
      rw [this]
      exact Nat.mul_mod_right _ _
    have e2 : (N + 1) / b.length = N / b.length + 1 := by
      have : N + 1 = b.length * (N / b.length + 1) := by rw [Nat.mul_add, Nat.mul_one]; omega
      rw [this, Nat.mul_div_cancel_left _ hl]
    have e3 : cnt s b = cnt s (b.take (N % b.length)) + one s (b.getD (N % b.length) 0) := by
      rw [← cnt_one, ← cnt_app, ← take_succ' hm, List.take_of_length_le (by omega)]
    rw [e1, e2, Nat.add_mul, List.take_zero]
    have e4 : cnt s [] = 0 := rfl
    rw [e4, e3]
    omega
theorem cnt_full {s row : List Int} (h : ∀ x ∈ row, x ∈ s) : cnt s row = row.length := by
  unfold cnt
  rw [List.filter_eq_self.mpr fun x hx => by simpa using h x hx]
theorem often_full {a b s : List Int} {n : Nat} (nb : b ≠ []) (ha : ∀ x ∈ a, x ∈ s) (hb : ∀ x ∈ b, x ∈ s) (h : a.length < n) : often a b s n = n := by
  unfold often
  rw [if_neg (by omega), cnt_full ha, cnt_full hb, cnt_full fun x hx => hb x (List.mem_of_mem_take hx), List.length_take]
  have hl := List.length_pos_iff.mpr nb
  have hm := Nat.mod_lt (n - a.length) hl
  have hd := Nat.mod_add_div (n - a.length) b.length
  rw [Nat.min_eq_left (by omega), Nat.mul_comm]
  omega
theorem often_zero (a b s : List Int) : often a b s 0 = 0 := by
  unfold often
  rw [if_pos (Nat.zero_le _)]
  rfl
/-! ### the next place -/
theorem next_gap {a b s : List Int} {n : Nat} (hb : b ≠ []) (h : a.length ≤ n) : nextW a b s n = ((List.range b.length).filter fun i => decide (at0 a b (n + i) ∈ s)).head? := by
  have hl := List.length_pos_iff.mpr hb
  rw [List.head?_filter]
  unfold nextW
  have hp : ∀ i, at0 a b (n + i) = at0 a b (n + i % b.length) := fun i => by
    rw [at0_ge (by omega), at0_ge (by omega)]
    have := (per_len b).mul (i / b.length) (n + i % b.length - a.length)
    rw [← this]
    congr 1
    have := Nat.mod_add_div i b.length
    omega
  cases e : (List.range b.length).find? fun i => decide (at0 a b (n + i) ∈ s) with
  | none =>
    rw [List.find?_eq_none]
    intro i hi
    have := List.find?_eq_none.mp e (i % b.length) (List.mem_range.mpr (Nat.mod_lt _ hl))
    rw [← hp i] at this
    exact this
  | some m =>
    rw [List.find?_range_eq_some] at e
    obtain ⟨e1, e2, e3⟩ := e
    rw [List.find?_range_eq_some]
    have := List.mem_range.mp e2
    exact ⟨e1, List.mem_range.mpr (by omega), e3⟩
/-! ### other lassos of the word -/
theorem at0_other {a b : List Int} (hb : b ≠ []) (i : Nat) : at0 (a ++ b.take 1) (b.drop 1 ++ b.take 1) i = at0 a b i := by
  cases b with
  | nil => exact absurd rfl hb
  | cons x k => exact (at0_turn a k x i).symm
theorem at0_app (t f k : List Int) (i : Nat) : at0 (t ++ f) k i = if i < t.length then t.getD i 0 else at0 f k (i - t.length) := by
  by_cases h : i < t.length
  · rw [if_pos h, at0_lt (by rw [List.length_append]; omega), getD_app_left h]
  · rw [if_neg h]
    by_cases h2 : i - t.length < f.length
    · rw [at0_lt (by rw [List.length_append]; omega), at0_lt h2, getD_app_right (by omega)]
    · rw [at0_ge (by rw [List.length_append]; omega), at0_ge (by omega), List.length_append]
      congr 1
      omega
/-! ### the letters that come again and again -/
theorem moved_far {a b : List Int} (hb : b ≠ []) {n : Nat} (h : a.length < n) : (moved a b n).1 = [] ∧ ∀ x, x ∈ (moved a b n).2 ↔ x ∈ b := by
  have e : (moved a b n).1 = [] := by
    unfold moved
    rw [if_neg (by omega)]
    rfl
  refine ⟨e, fun x => ?_⟩
  have hw : ∀ i, rp (moved a b n).2 i = rp b (n - a.length + i) := fun i => by
    have := moved_word (a := a) hb n i
    rw [e, at0_nil, at0_ge (by omega)] at this
    rw [this]
    congr 1
    omega
  rw [mem_rp (moved_norm hb n).ne, mem_rp hb]
  have hl := List.length_pos_iff.mpr hb
  constructor
  · rintro ⟨i, e⟩
    exact ⟨_, (hw i).symm.trans e⟩
  · rintro ⟨i, e⟩
    obtain ⟨c, hc⟩ : ∃ c, c = n - a.length := ⟨_, rfl⟩
    rw [← hc] at hw
    refine ⟨i + c * (b.length - 1), ?_⟩
    rw [hw, ← e, ← (per_len b).mul c i]
    congr 1
    have : c + c * (b.length - 1) = b.length * c := by
      rw [Nat.mul_comm b.length, Nat.mul_sub, Nat.mul_one]
      have : c ≤ c * b.length := Nat.le_mul_of_pos_right _ hl
      omega
    omega
theorem sortI_same {xs ys : List Int} (h : ∀ x, x ∈ xs ↔ x ∈ ys) : DL.sortI xs = DL.sortI ys :=
  DL.sorted_one (DL.sortI_lt xs) (DL.sortI_lt ys) fun z => by rw [DL.mem_sortI, DL.mem_sortI]; exact h z
end K39
end

section
set_option Elab.async false
set_option linter.all false
set_option maxRecDepth 100000
set_option maxHeartbeats 8000000
open PySem PySem.Spec PyProof.Rows L2 DL
namespace K39
theorem c_ones {s : List Int} : ∀ e0 e1 e2 e4 e5 e6 e7 e8 e9 e10 e11 e12 e13 e14 e15 e16 e17 e18 : S, ∀ row : List Int, compM (gN 19) (dB (dOp inD (dVar 19) (dVar 3))) (dC (.int 1)) (row.map D.int) [e0, e1, e2, .d (tN s), e4, e5, e6, e7, e8, e9, e10, e11, e12, e13, e14, e15, e16, e17, e18, .un] = M.pure ((row.filter fun x => decide (x ∈ s)).map fun _ => D.int 1) := by
  intros
  exact compM_if (j := D.int) (p := fun x : Int => decide (x ∈ s)) (h := fun _ => .int 1) _ (fun x _ => by simp only [DL.sSeq, DL.seqO, DL.sIf, DL.sRet, DL.sSet, DL.sExpr, DL.sNo, DL.sNil, DL.sMany, DL.setS, DL.sAsg, DL.bO_pure, DL.dVar, DL.dC, DL.dOp, DL.dCB, DL.dCall, DL.aCons, DL.aNil, DL.dB, DL.bAnd, DL.bOr, DL.bNot, DL.dAnd, DL.dOr, DL.dNot, DL.dNeg, DL.dChain, DL.dIsi, DL.dIsi2, DL.tyD, DL.Ty.isa, DL.dSlice, DL.pNone, DL.pSome, DL.dTup, DL.dOf, DL.fLst, DL.fComp, DL.fItems, DL.wipeS, DL.iSeq, DL.iR1, DL.iR2, DL.iZip, DL.itemsD, DL.xVal, DL.xNil, DL.dIf, DL.gN, DL.gT, DL.gsN, DL.gsC, DL.aStar, DL.M.pure_bind, DL.M.lift_some, DL.toB_bl, DL.toI_int, DL.ltD_int, DL.leD_int, DL.gtD_int, DL.geD_int, DL.subD_int, DL.addD_int, DL.negD_int, DL.maxD_int, DL.eqD_int, DL.neD_int, DL.eqD_tN, DL.neD_tN, DL.neD_tN0, DL.inD_tN, DL.slD_tN, DL.lenD_tN, DL.fits_map, DL.fits_nil, List.map_cons, List.map_nil, List.replicate, List.cons_append, List.nil_append, Nat.sub_zero, Nat.reduceSub, List.getElem?_cons_zero, List.getElem?_cons_succ, List.length_cons, List.length_nil, Nat.zero_add, Nat.reduceAdd, if_true, List.set_cons_zero, List.set_cons_succ, Option.bind_some]) fun x _ _ => by simp only [DL.sSeq, DL.seqO, DL.sIf, DL.sRet, DL.sSet, DL.sExpr, DL.sNo, DL.sNil, DL.sMany, DL.setS, DL.sAsg, DL.bO_pure, DL.dVar, DL.dC, DL.dOp, DL.dCB, DL.dCall, DL.aCons, DL.aNil, DL.dB, DL.bAnd, DL.bOr, DL.bNot, DL.dAnd, DL.dOr, DL.dNot, DL.dNeg, DL.dChain, DL.dIsi, DL.dIsi2, DL.tyD, DL.Ty.isa, DL.dSlice, DL.pNone, DL.pSome, DL.dTup, DL.dOf, DL.fLst, DL.fComp, DL.fItems, DL.wipeS, DL.iSeq, DL.iR1, DL.iR2, DL.iZip, DL.itemsD, DL.xVal, DL.xNil, DL.dIf, DL.gN, DL.gT, DL.gsN, DL.gsC, DL.aStar, DL.M.pure_bind, DL.M.lift_some, DL.toB_bl, DL.toI_int, DL.ltD_int, DL.leD_int, DL.gtD_int, DL.geD_int, DL.subD_int, DL.addD_int, DL.negD_int, DL.maxD_int, DL.eqD_int, DL.neD_int, DL.eqD_tN, DL.neD_tN, DL.neD_tN0, DL.inD_tN, DL.slD_tN, DL.lenD_tN, DL.fits_map, DL.fits_nil, List.map_cons, List.map_nil, List.replicate, List.cons_append, List.nil_append, Nat.sub_zero, Nat.reduceSub, List.getElem?_cons_zero, List.getElem?_cons_succ, List.length_cons, List.length_nil, Nat.zero_add, Nat.reduceAdd, if_true, List.set_cons_zero, List.set_cons_succ, Option.bind_some]
theorem len_ones {α : Type} (xs : List α) : lenD [.lst (xs.map fun _ => D.int 1)] = some (.int (xs.length : Nat)) := by
  show some (D.int ((xs.map fun _ => D.int 1).length : Nat)) = _
  rw [List.length_map]
theorem c_gaps {a b s : List Int} {n : Nat} (hb : b ≠ []) (h : a.length < n) : ∀ e0 e1 e2 e7 e8 e9 e10 e11 e12 e13 e14 e15 e16 e17 e19 : S, compM (gN 18) (dB (dOp inD (dOp ixD (dVar 6) (dOp modD (dOp addD (dOp subD (dOp subD (dVar 4) (dCB lenD (aCons (dVar 5) aNil))) (dC (.int 1))) (dVar 18)) (dCB lenD (aCons (dVar 6) aNil)))) (dVar 3))) (dVar 18) ((List.range b.length).map fun i : Nat => D.int (1 + (i : Int))) [e0, e1, e2, .d (tN s), .d (.int (n : Int)), .d (tN a), .d (tN b), e7, e8, e9, e10, e11, e12, e13, e14, e15, e16, e17, .un, e19] =
    M.pure (((List.range b.length).filter fun i => decide (at0 a b (n + i) ∈ s)).map fun i : Nat => D.int (1 + (i : Int))) := by
  intros
  have hl : (0 : Int) < b.length := by have := List.length_pos_iff.mpr hb; omega
  refine compM_if (p := fun i : Nat => decide (at0 a b (n + i) ∈ s)) (h := fun i : Nat => D.int (1 + (i : Int))) _ (fun i _ => ?_) fun i _ _ => by simp only [DL.sSeq, DL.seqO, DL.sIf, DL.sRet, DL.sSet, DL.sExpr, DL.sNo, DL.sNil, DL.sMany, DL.setS, DL.sAsg, DL.bO_pure, DL.dVar, DL.dC, DL.dOp, DL.dCB, DL.dCall, DL.aCons, DL.aNil, DL.dB, DL.bAnd, DL.bOr, DL.bNot, DL.dAnd, DL.dOr, DL.dNot, DL.dNeg, DL.dChain, DL.dIsi, DL.dIsi2, DL.tyD, DL.Ty.isa, DL.dSlice, DL.pNone, DL.pSome, DL.dTup, DL.dOf, DL.fLst, DL.fComp, DL.fItems, DL.wipeS, DL.iSeq, DL.iR1, DL.iR2, DL.iZip, DL.itemsD, DL.xVal, DL.xNil, DL.dIf, DL.gN, DL.gT, DL.gsN, DL.gsC, DL.aStar, DL.M.pure_bind, DL.M.lift_some, DL.toB_bl, DL.toI_int, DL.ltD_int, DL.leD_int, DL.gtD_int, DL.geD_int, DL.subD_int, DL.addD_int, DL.negD_int, DL.maxD_int, DL.eqD_int, DL.neD_int, DL.eqD_tN, DL.neD_tN, DL.neD_tN0, DL.inD_tN, DL.slD_tN, DL.lenD_tN, DL.fits_map, DL.fits_nil, List.map_cons, List.map_nil, List.replicate, List.cons_append, List.nil_append, Nat.sub_zero, Nat.reduceSub, List.getElem?_cons_zero, List.getElem?_cons_succ, List.length_cons, List.length_nil, Nat.zero_add, Nat.reduceAdd, if_true, List.set_cons_zero, List.set_cons_succ, Option.bind_some]
  have e1 : (n : Int) - (a.length : Int) - 1 + (1 + (i : Int)) = ((n + i - a.length : Nat) : Int) := by omega
  have hm := Nat.mod_lt (n + i - a.length) (List.length_pos_iff.mpr hb)
  have e2 : modD (.int ((n : Int) - (a.length : Int) - 1 + (1 + (i : Int)))) (.int (b.length : Int)) = some (.int (((n + i - a.length) % b.length : Nat) : Int)) := by
    rw [modD_int hl, e1, Int.natCast_emod]
  have e3 : ixD (tN b) (.int (((n + i - a.length) % b.length : Nat) : Int)) = some (.int (at0 a b (n + i))) := by
    rw [ixD_tN_at (by omega) (by omega), at0_ge (by omega)]
    rfl
  simp (implicitDefEqProofs := false) only [DL.sSeq, DL.seqO, DL.sIf, DL.sRet, DL.sSet, DL.sExpr, DL.sNo, DL.sNil, DL.sMany, DL.setS, DL.sAsg, DL.bO_pure, DL.dVar, DL.dC, DL.dOp, DL.dCB, DL.dCall, DL.aCons, DL.aNil, DL.dB, DL.bAnd, DL.bOr, DL.bNot, DL.dAnd, DL.dOr, DL.dNot, DL.dNeg, DL.dChain, DL.dIsi, DL.dIsi2, DL.tyD, DL.Ty.isa, DL.dSlice, DL.pNone, DL.pSome, DL.dTup, DL.dOf, DL.fLst, DL.fComp, DL.fItems, DL.wipeS, DL.iSeq, DL.iR1, DL.iR2, DL.iZip, DL.itemsD, DL.xVal, DL.xNil, DL.dIf, DL.gN, DL.gT, DL.gsN, DL.gsC, DL.aStar, DL.M.pure_bind, DL.M.lift_some, DL.toB_bl, DL.toI_int, DL.ltD_int, DL.leD_int, DL.gtD_int, DL.geD_int, DL.subD_int, DL.addD_int, DL.negD_int, DL.maxD_int, DL.eqD_int, DL.neD_int, DL.eqD_tN, DL.neD_tN, DL.neD_tN0, DL.inD_tN, DL.slD_tN, DL.lenD_tN, DL.fits_map, DL.fits_nil, List.map_cons, List.map_nil, List.replicate, List.cons_append, List.nil_append, Nat.sub_zero, Nat.reduceSub, List.getElem?_cons_zero, List.getElem?_cons_succ, List.length_cons, List.length_nil, Nat.zero_add, Nat.reduceAdd, if_true, List.set_cons_zero, List.set_cons_succ, Option.bind_some, e2, e3]
theorem c_letters {a b : List Int} {n : Nat} (h : Las a b) (hn : (n : Int) + 100 ≤ 1000000000000000000000000000000) : ∀ e0 e1 e3 e5 e6 e7 e8 e9 e10 e11 e12 e13 e14 e15 e16 e17 e18 : S, compM (gN 19) bYes (dCall 2 m_letter_at (aCons (dVar 2) (aCons (dOp addD (dVar 4) (dVar 19)) aNil))) ((List.range 12).map fun i : Nat => D.int (1 + (i : Int))) [e0, e1, .d (lasD a b), e3, .d (.int (n : Int)), e5, e6, e7, e8, e9, e10, e11, e12, e13, e14, e15, e16, e17, e18, .un] =
    M.pure ((List.range 12).map fun i : Nat => D.int (at0 a b (n + i))) := by
  intros
  refine compM_ints _ fun i hi => ?_
  have hi := List.mem_range.mp hi
  have e := v_letter_at (d := lasD a b) (p := (n : Int) + (1 + (i : Int))) h (v_tuple_las h.sa h.sb) (by omega) (by omega)
  have e2 : ((n : Int) + (1 + (i : Int)) - 1).toNat = n + i := by omega
  rw [e2] at e
  simp (implicitDefEqProofs := false) only [DL.sSeq, DL.seqO, DL.sIf, DL.sRet, DL.sSet, DL.sExpr, DL.sNo, DL.sNil, DL.sMany, DL.setS, DL.sAsg, DL.bO_pure, DL.dVar, DL.dC, DL.dOp, DL.dCB, DL.dCall, DL.aCons, DL.aNil, DL.dB, DL.bAnd, DL.bOr, DL.bNot, DL.dAnd, DL.dOr, DL.dNot, DL.dNeg, DL.dChain, DL.dIsi, DL.dIsi2, DL.tyD, DL.Ty.isa, DL.dSlice, DL.pNone, DL.pSome, DL.dTup, DL.dOf, DL.fLst, DL.fComp, DL.fItems, DL.wipeS, DL.iSeq, DL.iR1, DL.iR2, DL.iZip, DL.itemsD, DL.xVal, DL.xNil, DL.dIf, DL.gN, DL.gT, DL.gsN, DL.gsC, DL.aStar, DL.M.pure_bind, DL.M.lift_some, DL.toB_bl, DL.toI_int, DL.ltD_int, DL.leD_int, DL.gtD_int, DL.geD_int, DL.subD_int, DL.addD_int, DL.negD_int, DL.maxD_int, DL.eqD_int, DL.neD_int, DL.eqD_tN, DL.neD_tN, DL.neD_tN0, DL.inD_tN, DL.slD_tN, DL.lenD_tN, DL.fits_map, DL.fits_nil, List.map_cons, List.map_nil, List.replicate, List.cons_append, List.nil_append, Nat.sub_zero, Nat.reduceSub, List.getElem?_cons_zero, List.getElem?_cons_succ, List.length_cons, List.length_nil, Nat.zero_add, Nat.reduceAdd, if_true, List.set_cons_zero, List.set_cons_succ, Option.bind_some, e]
theorem c_sort1 {a b : List Int} (h : a.length + b.length < 64) : ∀ e0 e1 e2 e3 e4 e7 e8 e9 e10 e11 e12 e13 e14 e15 e16 e17 e18 e19 : S, fSortSetT (dOp addD (dVar 5) (dVar 6)) [e0, e1, e2, e3, e4, .d (tN a), .d (tN b), e7, e8, e9, e10, e11, e12, e13, e14, e15, e16, e17, e18, e19] = M.pure ((DL.sortI (a ++ b)).map D.int) := by
  intros
  have hadd := addD_tN a b (Nat.le_trans (show _ ≤ 100000 by omega) size_ge)
  exact fSortSetT_eq (by simp only [DL.sSeq, DL.seqO, DL.sIf, DL.sRet, DL.sSet, DL.sExpr, DL.sNo, DL.sNil, DL.sMany, DL.setS, DL.sAsg, DL.bO_pure, DL.dVar, DL.dC, DL.dOp, DL.dCB, DL.dCall, DL.aCons, DL.aNil, DL.dB, DL.bAnd, DL.bOr, DL.bNot, DL.dAnd, DL.dOr, DL.dNot, DL.dNeg, DL.dChain, DL.dIsi, DL.dIsi2, DL.tyD, DL.Ty.isa, DL.dSlice, DL.pNone, DL.pSome, DL.dTup, DL.dOf, DL.fLst, DL.fComp, DL.fItems, DL.wipeS, DL.iSeq, DL.iR1, DL.iR2, DL.iZip, DL.itemsD, DL.xVal, DL.xNil, DL.dIf, DL.gN, DL.gT, DL.gsN, DL.gsC, DL.aStar, DL.M.pure_bind, DL.M.lift_some, DL.toB_bl, DL.toI_int, DL.ltD_int, DL.leD_int, DL.gtD_int, DL.geD_int, DL.subD_int, DL.addD_int, DL.negD_int, DL.maxD_int, DL.eqD_int, DL.neD_int, DL.eqD_tN, DL.neD_tN, DL.neD_tN0, DL.inD_tN, DL.slD_tN, DL.lenD_tN, DL.fits_map, DL.fits_nil, List.map_cons, List.map_nil, List.replicate, List.cons_append, List.nil_append, Nat.sub_zero, Nat.reduceSub, List.getElem?_cons_zero, List.getElem?_cons_succ, List.length_cons, List.length_nil, Nat.zero_add, Nat.reduceAdd, if_true, List.set_cons_zero, List.set_cons_succ, Option.bind_some, hadd]) (by rw [List.length_append]; exact h)
theorem c_sort2 {b : List Int} (h : b.length < 64) : ∀ e0 e1 e2 e3 e4 e5 e7 e8 e9 e10 e11 e12 e13 e14 e15 e16 e17 e18 e19 : S, fSortSetT (dVar 6) [e0, e1, e2, e3, e4, e5, .d (tN b), e7, e8, e9, e10, e11, e12, e13, e14, e15, e16, e17, e18, e19] = M.pure ((DL.sortI b).map D.int) := by
  intros
  exact fSortSetT_eq (by simp only [DL.sSeq, DL.seqO, DL.sIf, DL.sRet, DL.sSet, DL.sExpr, DL.sNo, DL.sNil, DL.sMany, DL.setS, DL.sAsg, DL.bO_pure, DL.dVar, DL.dC, DL.dOp, DL.dCB, DL.dCall, DL.aCons, DL.aNil, DL.dB, DL.bAnd, DL.bOr, DL.bNot, DL.dAnd, DL.dOr, DL.dNot, DL.dNeg, DL.dChain, DL.dIsi, DL.dIsi2, DL.tyD, DL.Ty.isa, DL.dSlice, DL.pNone, DL.pSome, DL.dTup, DL.dOf, DL.fLst, DL.fComp, DL.fItems, DL.wipeS, DL.iSeq, DL.iR1, DL.iR2, DL.iZip, DL.itemsD, DL.xVal, DL.xNil, DL.dIf, DL.gN, DL.gT, DL.gsN, DL.gsC, DL.aStar, DL.M.pure_bind, DL.M.lift_some, DL.toB_bl, DL.toI_int, DL.ltD_int, DL.leD_int, DL.gtD_int, DL.geD_int, DL.subD_int, DL.addD_int, DL.negD_int, DL.maxD_int, DL.eqD_int, DL.neD_int, DL.eqD_tN, DL.neD_tN, DL.neD_tN0, DL.inD_tN, DL.slD_tN, DL.lenD_tN, DL.fits_map, DL.fits_nil, List.map_cons, List.map_nil, List.replicate, List.cons_append, List.nil_append, Nat.sub_zero, Nat.reduceSub, List.getElem?_cons_zero, List.getElem?_cons_succ, List.length_cons, List.length_nil, Nat.zero_add, Nat.reduceAdd, if_true, List.set_cons_zero, List.set_cons_succ, Option.bind_some]) h
theorem tup_map {α : Type} (f : α → Int) (xs : List α) : D.tup (xs.map fun i => D.int (f i)) = tN (xs.map f) := by
  show _ = D.tup (List.map D.int (List.map f xs))
  rw [List.map_map]
  rfl
theorem ix_head (d : D) (ds : List D) : ixD (.lst (d :: ds)) (.int 0) = some d := by
  show atI (d :: ds) 0 = some d
  rw [atI_pos (by decide)]
  rfl
theorem ne_gaps (i : Nat) (L : List Nat) : neD (.lst (D.int (1 + (i : Int)) :: L.map fun i : Nat => D.int (1 + (i : Int)))) (.lst []) = some (.bl true) := by
  have h : ∀ xs : List Int, xs ≠ [] → neD (lN xs) (.lst []) = some (.bl true) := fun xs hx => by
    have := cod_int.lst.neD (by omega) xs []
    rw [show decide (xs = []) = false by simpa using hx] at this
    exact this
  have e : (D.int (1 + (i : Int)) :: L.map fun i : Nat => D.int (1 + (i : Int))) = ((1 + (i : Int)) :: L.map fun i : Nat => 1 + (i : Int)).map D.int := by
    rw [List.map_cons, List.map_map]
    rfl
  rw [e]
  exact h _ (by simp)
theorem law_rest {ns : List Int} {x y : Int} (hy : 0 ≤ y) (hy2 : y < 2 ^ 63) : ∃ τ', b_law [.d (.scr ns), .d .tin, .un, .un, .un, .un, .un, .un, .un, .un, .un, .un, .un, .un, .un, .un, .un, .un, .un, .un] (x, y, 0) = .rt (.bl true) τ' := by
  -- what is drawn
  obtain ⟨a, b, τ1, t1, la, lb0, lb, ta, tb, k1⟩ := v_lasso (n := 0) (τ := (x, y, 0)) ⟨hy, hy2, by simp, by simp⟩ (by decide)
  obtain ⟨sd, hsd, τ2, t2, k2⟩ := v_of (xs := SETS.map fun s : List Int => tN s) k1 (by decide) (by decide) (by decide)
  obtain ⟨s, hs, rfl⟩ := List.mem_map.mp hsd
  obtain ⟨r1, τ3, t3, r1a, r1b, k3⟩ := v_take (k := 99) k2 (by decide) (by decide) (by decide)
  obtain ⟨r2, τ4, t4, r2a, r2b, k4⟩ := v_take (k := 1000000) k3 (by decide) (by decide) (by decide)
  obtain ⟨q, τ5, t5, qa, qb, k5⟩ := v_take (k := 12) k4 (by decide) (by decide) (by decide)
  obtain ⟨n, hn⟩ : ∃ n : Nat, (n : Int) = 100000000000000000000 * (1 + r1) + r2 := ⟨(100000000000000000000 * (1 + r1) + r2).toNat, by omega⟩
  obtain ⟨m, hm⟩ : ∃ m : Nat, (m : Int) = q := ⟨q.toNat, by omega⟩
  subst hm
  have nb : b ≠ [] := fun z => by rw [z] at lb0; simp at lb0
  have hla : Las a b := ⟨(isT_iff a).mpr ta, (isT_iff b).mpr tb, nb, by omega, by omega⟩
  have hsl := sets_letters s hs
  have n1 : 1000 < n := by omega
  have n2 : (n : Int) + 100 ≤ 1000000000000000000000000000000 := by omega
  have pl : (0 : Int) < b.length := by omega
  have dl : m_tuple_of 8 [lasD a b] = M.pure (lasD a b) := v_tuple_las hla.sa hla.sb
  have s3 : s.length ≤ 3 := by
    simp only [SETS, List.mem_cons, List.not_mem_nil, or_false] at hs
    rcases hs with rfl | rfl | rfl | rfl | rfl | rfl | rfl <;> decide
  have ss : s.length ≤ sizeLine := Nat.le_trans s3 (by decide)
  have ds : m_tuple_of 8 [tN s] = M.pure (tN s) := v_tuple_ints ss
  refine ⟨τ5, ?_⟩
  unfold b_law
  refine st_manyE (ss := [.d (lasD a b), .d (tN s)]) (τ' := τ2) ?_ rfl ?_
  · simp (implicitDefEqProofs := false) only [DL.sSeq, DL.seqO, DL.sIf, DL.sRet, DL.sSet, DL.sExpr, DL.sNo, DL.sNil, DL.sMany, DL.setS, DL.sAsg, DL.bO_pure, DL.dVar, DL.dC, DL.dOp, DL.dCB, DL.dCall, DL.aCons, DL.aNil, DL.dB, DL.bAnd, DL.bOr, DL.bNot, DL.dAnd, DL.dOr, DL.dNot, DL.dNeg, DL.dChain, DL.dIsi, DL.dIsi2, DL.tyD, DL.Ty.isa, DL.dSlice, DL.pNone, DL.pSome, DL.dTup, DL.dOf, DL.fLst, DL.fComp, DL.fItems, DL.wipeS, DL.iSeq, DL.iR1, DL.iR2, DL.iZip, DL.itemsD, DL.xVal, DL.xNil, DL.dIf, DL.gN, DL.gT, DL.gsN, DL.gsC, DL.aStar, DL.M.pure_bind, DL.M.lift_some, DL.toB_bl, DL.toI_int, DL.ltD_int, DL.leD_int, DL.gtD_int, DL.geD_int, DL.subD_int, DL.addD_int, DL.negD_int, DL.maxD_int, DL.eqD_int, DL.neD_int, DL.eqD_tN, DL.neD_tN, DL.neD_tN0, DL.inD_tN, DL.slD_tN, DL.lenD_tN, DL.fits_map, DL.fits_nil, List.map_cons, List.map_nil, List.replicate, List.cons_append, List.nil_append, Nat.sub_zero, Nat.reduceSub, List.getElem?_cons_zero, List.getElem?_cons_succ, List.length_cons, List.length_nil, Nat.zero_add, Nat.reduceAdd, if_true, List.set_cons_zero, List.set_cons_succ, Option.bind_some, v_sets, M.bind_assoc]
    rw [M.bind_ok t1, M.bind_ok t2]
    rfl
  simp only [setS, List.set_cons_succ, List.set_cons_zero]
  refine st_setE (d := .int (n : Int)) (τ' := τ4) ?_ ?_
  · have p1 : powD (.int 10) (.int 20) = some (.int 100000000000000000000) := rfl
    have p2 : powD (.int 10) (.int 6) = some (.int 1000000) := rfl
    have hmul : mulD (.int 100000000000000000000) (.int (1 + r1)) = some (.int (100000000000000000000 * (1 + r1))) := mulD_int (.inr (small64_of (by omega) (by omega)))
    simp (implicitDefEqProofs := false) only [DL.sSeq, DL.seqO, DL.sIf, DL.sRet, DL.sSet, DL.sExpr, DL.sNo, DL.sNil, DL.sMany, DL.setS, DL.sAsg, DL.bO_pure, DL.dVar, DL.dC, DL.dOp, DL.dCB, DL.dCall, DL.aCons, DL.aNil, DL.dB, DL.bAnd, DL.bOr, DL.bNot, DL.dAnd, DL.dOr, DL.dNot, DL.dNeg, DL.dChain, DL.dIsi, DL.dIsi2, DL.tyD, DL.Ty.isa, DL.dSlice, DL.pNone, DL.pSome, DL.dTup, DL.dOf, DL.fLst, DL.fComp, DL.fItems, DL.wipeS, DL.iSeq, DL.iR1, DL.iR2, DL.iZip, DL.itemsD, DL.xVal, DL.xNil, DL.dIf, DL.gN, DL.gT, DL.gsN, DL.gsC, DL.aStar, DL.M.pure_bind, DL.M.lift_some, DL.toB_bl, DL.toI_int, DL.ltD_int, DL.leD_int, DL.gtD_int, DL.geD_int, DL.subD_int, DL.addD_int, DL.negD_int, DL.maxD_int, DL.eqD_int, DL.neD_int, DL.eqD_tN, DL.neD_tN, DL.neD_tN0, DL.inD_tN, DL.slD_tN, DL.lenD_tN, DL.fits_map, DL.fits_nil, List.map_cons, List.map_nil, List.replicate, List.cons_append, List.nil_append, Nat.sub_zero, Nat.reduceSub, List.getElem?_cons_zero, List.getElem?_cons_succ, List.length_cons, List.length_nil, Nat.zero_add, Nat.reduceAdd, if_true, List.set_cons_zero, List.set_cons_succ, Option.bind_some, p1, p2, M.bind_assoc]
    rw [M.bind_ok t3]
    simp (implicitDefEqProofs := false) only [DL.sSeq, DL.seqO, DL.sIf, DL.sRet, DL.sSet, DL.sExpr, DL.sNo, DL.sNil, DL.sMany, DL.setS, DL.sAsg, DL.bO_pure, DL.dVar, DL.dC, DL.dOp, DL.dCB, DL.dCall, DL.aCons, DL.aNil, DL.dB, DL.bAnd, DL.bOr, DL.bNot, DL.dAnd, DL.dOr, DL.dNot, DL.dNeg, DL.dChain, DL.dIsi, DL.dIsi2, DL.tyD, DL.Ty.isa, DL.dSlice, DL.pNone, DL.pSome, DL.dTup, DL.dOf, DL.fLst, DL.fComp, DL.fItems, DL.wipeS, DL.iSeq, DL.iR1, DL.iR2, DL.iZip, DL.itemsD, DL.xVal, DL.xNil, DL.dIf, DL.gN, DL.gT, DL.gsN, DL.gsC, DL.aStar, DL.M.pure_bind, DL.M.lift_some, DL.toB_bl, DL.toI_int, DL.ltD_int, DL.leD_int, DL.gtD_int, DL.geD_int, DL.subD_int, DL.addD_int, DL.negD_int, DL.maxD_int, DL.eqD_int, DL.neD_int, DL.eqD_tN, DL.neD_tN, DL.neD_tN0, DL.inD_tN, DL.slD_tN, DL.lenD_tN, DL.fits_map, DL.fits_nil, List.map_cons, List.map_nil, List.replicate, List.cons_append, List.nil_append, Nat.sub_zero, Nat.reduceSub, List.getElem?_cons_zero, List.getElem?_cons_succ, List.length_cons, List.length_nil, Nat.zero_add, Nat.reduceAdd, if_true, List.set_cons_zero, List.set_cons_succ, Option.bind_some, hmul]
    rw [M.bind_ok t4, hn]
    rfl
  simp only [setS, List.set_cons_succ, List.set_cons_zero]
  refine st_asg (d := lasD a b) (ρ1 := [.d (.scr ns), .d .tin, .d (lasD a b), .d (tN s), .d (.int (n : Int)), .d (tN a), .d (tN b), .un, .un, .un, .un, .un, .un, .un, .un, .un, .un, .un, .un, .un]) (by simp only [DL.sSeq, DL.seqO, DL.sIf, DL.sRet, DL.sSet, DL.sExpr, DL.sNo, DL.sNil, DL.sMany, DL.setS, DL.sAsg, DL.bO_pure, DL.dVar, DL.dC, DL.dOp, DL.dCB, DL.dCall, DL.aCons, DL.aNil, DL.dB, DL.bAnd, DL.bOr, DL.bNot, DL.dAnd, DL.dOr, DL.dNot, DL.dNeg, DL.dChain, DL.dIsi, DL.dIsi2, DL.tyD, DL.Ty.isa, DL.dSlice, DL.pNone, DL.pSome, DL.dTup, DL.dOf, DL.fLst, DL.fComp, DL.fItems, DL.wipeS, DL.iSeq, DL.iR1, DL.iR2, DL.iZip, DL.itemsD, DL.xVal, DL.xNil, DL.dIf, DL.gN, DL.gT, DL.gsN, DL.gsC, DL.aStar, DL.M.pure_bind, DL.M.lift_some, DL.toB_bl, DL.toI_int, DL.ltD_int, DL.leD_int, DL.gtD_int, DL.geD_int, DL.subD_int, DL.addD_int, DL.negD_int, DL.maxD_int, DL.eqD_int, DL.neD_int, DL.eqD_tN, DL.neD_tN, DL.neD_tN0, DL.inD_tN, DL.slD_tN, DL.lenD_tN, DL.fits_map, DL.fits_nil, List.map_cons, List.map_nil, List.replicate, List.cons_append, List.nil_append, Nat.sub_zero, Nat.reduceSub, List.getElem?_cons_zero, List.getElem?_cons_succ, List.length_cons, List.length_nil, Nat.zero_add, Nat.reduceAdd, if_true, List.set_cons_zero, List.set_cons_succ, Option.bind_some]) rfl ?_
  have e0 : (n : Int) - (a.length : Int) = ((n - a.length : Nat) : Int) := by omega
  have hmod : modD (.int ((n : Int) - (a.length : Int))) (.int (b.length : Int)) = some (.int (((n - a.length) % b.length : Nat) : Int)) := by rw [modD_int pl, e0, Int.natCast_emod]
  have hdiv : fdivD (.int ((n : Int) - (a.length : Int))) (.int (b.length : Int)) = some (.int (((n - a.length) / b.length : Nat) : Int)) := by rw [fdivD_int pl (by omega), e0, Int.natCast_ediv]
  have hm0 := Nat.mod_lt (n - a.length) (show 0 < b.length by omega)
  refine st_manyE (ss := [.d (.int (((n - a.length) / b.length : Nat) : Int)), .d (.int (((n - a.length) % b.length : Nat) : Int))]) (τ' := τ4) ?_ rfl ?_
  · simp (implicitDefEqProofs := false) only [DL.sSeq, DL.seqO, DL.sIf, DL.sRet, DL.sSet, DL.sExpr, DL.sNo, DL.sNil, DL.sMany, DL.setS, DL.sAsg, DL.bO_pure, DL.dVar, DL.dC, DL.dOp, DL.dCB, DL.dCall, DL.aCons, DL.aNil, DL.dB, DL.bAnd, DL.bOr, DL.bNot, DL.dAnd, DL.dOr, DL.dNot, DL.dNeg, DL.dChain, DL.dIsi, DL.dIsi2, DL.tyD, DL.Ty.isa, DL.dSlice, DL.pNone, DL.pSome, DL.dTup, DL.dOf, DL.fLst, DL.fComp, DL.fItems, DL.wipeS, DL.iSeq, DL.iR1, DL.iR2, DL.iZip, DL.itemsD, DL.xVal, DL.xNil, DL.dIf, DL.gN, DL.gT, DL.gsN, DL.gsC, DL.aStar, DL.M.pure_bind, DL.M.lift_some, DL.toB_bl, DL.toI_int, DL.ltD_int, DL.leD_int, DL.gtD_int, DL.geD_int, DL.subD_int, DL.addD_int, DL.negD_int, DL.maxD_int, DL.eqD_int, DL.neD_int, DL.eqD_tN, DL.neD_tN, DL.neD_tN0, DL.inD_tN, DL.slD_tN, DL.lenD_tN, DL.fits_map, DL.fits_nil, List.map_cons, List.map_nil, List.replicate, List.cons_append, List.nil_append, Nat.sub_zero, Nat.reduceSub, List.getElem?_cons_zero, List.getElem?_cons_succ, List.length_cons, List.length_nil, Nat.zero_add, Nat.reduceAdd, if_true, List.set_cons_zero, List.set_cons_succ, Option.bind_some, hmod, hdiv]
    rfl
  simp only [setS, List.set_cons_succ, List.set_cons_zero]
  have hc2 : cutL b none (some (((n - a.length) % b.length : Nat) : Int)) = b.take ((n - a.length) % b.length) := by rw [cutL_hi b (by omega)]; rfl
  have cn : ∀ row : List Int, (row.filter fun x => decide (x ∈ s)).length = cnt s row := fun _ => rfl
  have hmul2 : mulD (.int (((n - a.length) / b.length : Nat) : Int)) (.int ((cnt s b : Nat) : Int)) = some (.int ((((n - a.length) / b.length) * cnt s b : Nat) : Int)) := by
    rw [mulD_int (.inr (small64_nat (Nat.le_trans (cnt_le s b) (Nat.le_trans lb (by decide))))), Int.natCast_mul]
  have hoft : ((cnt s a : Nat) : Int) + ((((n - a.length) / b.length) * cnt s b : Nat) : Int) + ((cnt s (b.take ((n - a.length) % b.length)) : Nat) : Int) = ((often a b s n : Nat) : Int) := by
    unfold often
    rw [if_neg (by omega)]
    omega
  have fa : fits (a.map D.int) = true := fits_map hla.sa
  have fb : fits (b.map D.int) = true := fits_map hla.sb
  have ft : fits ((b.take ((n - a.length) % b.length)).map D.int) = true := fits_map (by rw [List.length_take]; exact Nat.le_trans (Nat.min_le_right _ _) hla.sb)
  refine st_set (d := .int (often a b s n : Nat)) ?_ ?_
  · simp (implicitDefEqProofs := false) only [DL.sSeq, DL.seqO, DL.sIf, DL.sRet, DL.sSet, DL.sExpr, DL.sNo, DL.sNil, DL.sMany, DL.setS, DL.sAsg, DL.bO_pure, DL.dVar, DL.dC, DL.dOp, DL.dCB, DL.dCall, DL.aCons, DL.aNil, DL.dB, DL.bAnd, DL.bOr, DL.bNot, DL.dAnd, DL.dOr, DL.dNot, DL.dNeg, DL.dChain, DL.dIsi, DL.dIsi2, DL.tyD, DL.Ty.isa, DL.dSlice, DL.pNone, DL.pSome, DL.dTup, DL.dOf, DL.fLst, DL.fComp, DL.fItems, DL.wipeS, DL.iSeq, DL.iR1, DL.iR2, DL.iZip, DL.itemsD, DL.xVal, DL.xNil, DL.dIf, DL.gN, DL.gT, DL.gsN, DL.gsC, DL.aStar, DL.M.pure_bind, DL.M.lift_some, DL.toB_bl, DL.toI_int, DL.ltD_int, DL.leD_int, DL.gtD_int, DL.geD_int, DL.subD_int, DL.addD_int, DL.negD_int, DL.maxD_int, DL.eqD_int, DL.neD_int, DL.eqD_tN, DL.neD_tN, DL.neD_tN0, DL.inD_tN, DL.slD_tN, DL.lenD_tN, DL.fits_map, DL.fits_nil, List.map_cons, List.map_nil, List.replicate, List.cons_append, List.nil_append, Nat.sub_zero, Nat.reduceSub, List.getElem?_cons_zero, List.getElem?_cons_succ, List.length_cons, List.length_nil, Nat.zero_add, Nat.reduceAdd, if_true, List.set_cons_zero, List.set_cons_succ, Option.bind_some, c_ones, len_ones, cn, hc2, fa, fb, ft, hmul2, hoft]
  simp only [setS, List.set_cons_succ, List.set_cons_zero]
  have hmod3 : modD (.int ((n : Int) - (a.length : Int) - 1)) (.int (b.length : Int)) = some (.int (((n - 1 - a.length) % b.length : Nat) : Int)) := by
    have : (n : Int) - (a.length : Int) - 1 = ((n - 1 - a.length : Nat) : Int) := by omega
    rw [modD_int pl, this, Int.natCast_emod]
  have hix : ixD (tN b) (.int (((n - 1 - a.length) % b.length : Nat) : Int)) = some (.int (at0 a b (n - 1))) := by
    have := Nat.mod_lt (n - 1 - a.length) (show 0 < b.length by omega)
    rw [ixD_tN_at (by omega) (by omega), at0_ge (by omega)]
    rfl
  refine st_set (d := .int (at0 a b (n - 1))) ?_ ?_
  · simp (implicitDefEqProofs := false) only [DL.sSeq, DL.seqO, DL.sIf, DL.sRet, DL.sSet, DL.sExpr, DL.sNo, DL.sNil, DL.sMany, DL.setS, DL.sAsg, DL.bO_pure, DL.dVar, DL.dC, DL.dOp, DL.dCB, DL.dCall, DL.aCons, DL.aNil, DL.dB, DL.bAnd, DL.bOr, DL.bNot, DL.dAnd, DL.dOr, DL.dNot, DL.dNeg, DL.dChain, DL.dIsi, DL.dIsi2, DL.tyD, DL.Ty.isa, DL.dSlice, DL.pNone, DL.pSome, DL.dTup, DL.dOf, DL.fLst, DL.fComp, DL.fItems, DL.wipeS, DL.iSeq, DL.iR1, DL.iR2, DL.iZip, DL.itemsD, DL.xVal, DL.xNil, DL.dIf, DL.gN, DL.gT, DL.gsN, DL.gsC, DL.aStar, DL.M.pure_bind, DL.M.lift_some, DL.toB_bl, DL.toI_int, DL.ltD_int, DL.leD_int, DL.gtD_int, DL.geD_int, DL.subD_int, DL.addD_int, DL.negD_int, DL.maxD_int, DL.eqD_int, DL.neD_int, DL.eqD_tN, DL.neD_tN, DL.neD_tN0, DL.inD_tN, DL.slD_tN, DL.lenD_tN, DL.fits_map, DL.fits_nil, List.map_cons, List.map_nil, List.replicate, List.cons_append, List.nil_append, Nat.sub_zero, Nat.reduceSub, List.getElem?_cons_zero, List.getElem?_cons_succ, List.length_cons, List.length_nil, Nat.zero_add, Nat.reduceAdd, if_true, List.set_cons_zero, List.set_cons_succ, Option.bind_some, hmod3, hix]
  simp only [setS, List.set_cons_succ, List.set_cons_zero]
  have ll : m_law_lists 8 [tN s] = M.pure (lN s) := v_lists_tN ss
  have ll2 : m_law_lists 8 [lasD a b] = M.pure (lasL a b) := v_lists_tup (n := 7) (j := fun xs : List Int => tN xs) (t := fun xs : List Int => lN xs) (xs := [a, b]) (by show 2 ≤ sizeLine; decide) fun xs hx => v_lists_tN (by
    rcases List.mem_cons.mp hx with rfl | hx
    · exact hla.sa
    · rw [List.mem_singleton.mp hx]; exact hla.sb)
  have o1 : m_how_often_to [lasD a b, lN s, .int (n : Int)] = M.pure (.int (often a b s n : Nat)) := v_how_often hla dl (v_tuple_lints ss) hsl (by omega)
  have e1 : ((n : Int) - 1).toNat = n - 1 := by omega
  have e2 : (n : Int) - 1 = ((n - 1 : Nat) : Int) := by omega
  have o2 : m_letter_at [lasL a b, .int (n : Int)] = M.pure (.int (at0 a b (n - 1))) := by
    have := v_letter_at (d := lasL a b) (p := (n : Int)) hla (v_tuple_lasL hla.sa hla.sb) (by omega) (by omega)
    rw [e1] at this
    exact this
  have o3 : m_how_often_to [lasD a b, tN s, .int ((n : Int) - 1)] = M.pure (.int (often a b s (n - 1) : Nat)) := by
    rw [e2]
    exact v_how_often hla dl ds hsl (by omega)
  have all3 : ∀ x : Int, 1 ≤ x ∧ x ≤ 3 → x ∈ ([1, 2, 3] : List Int) := fun x hx => by
    simp only [List.mem_cons, List.not_mem_nil, or_false]
    omega
  have o4 : m_how_often_to [lasD a b, .tup [.int 1, .int 2, .int 3], .int (n : Int)] = M.pure (.int (n : Int)) := by
    have := v_how_often (d := lasD a b) (e := tN [1, 2, 3]) (s := [1, 2, 3]) (n := n) hla dl (v_tuple_ints (by decide)) (sets_letters _ (by decide)) (by omega)
    rw [often_full nb (fun x hx => all3 x (ta x hx)) (fun x hx => all3 x (tb x hx)) (by omega)] at this
    exact this
  have o5 : m_how_often_to [lasD a b, tN s, .int 0] = M.pure (.int 0) := by
    have := v_how_often (d := lasD a b) (e := tN s) (s := s) (n := 0) hla dl ds hsl (by omega)
    rw [often_zero] at this
    exact this
  have f3 : fits [.int 1, .int 2, .int 3] = true := rfl
  have f4 : ∀ p q r t : D, fits [p, q, r, t] = true := fun _ _ _ _ => rfl
  have f5 : ∀ p q r t u : D, fits [p, q, r, t, u] = true := fun _ _ _ _ _ => rfl
  have f1 : ∀ p : D, fits [p] = true := fun _ => rfl
  refine st_set (d := .lst [.int (often a b s n : Nat), .int (at0 a b (n - 1)), .int (often a b s (n - 1) : Nat), .int (n : Int)]) ?_ ?_
  · simp (implicitDefEqProofs := false) only [DL.sSeq, DL.seqO, DL.sIf, DL.sRet, DL.sSet, DL.sExpr, DL.sNo, DL.sNil, DL.sMany, DL.setS, DL.sAsg, DL.bO_pure, DL.dVar, DL.dC, DL.dOp, DL.dCB, DL.dCall, DL.aCons, DL.aNil, DL.dB, DL.bAnd, DL.bOr, DL.bNot, DL.dAnd, DL.dOr, DL.dNot, DL.dNeg, DL.dChain, DL.dIsi, DL.dIsi2, DL.tyD, DL.Ty.isa, DL.dSlice, DL.pNone, DL.pSome, DL.dTup, DL.dOf, DL.fLst, DL.fComp, DL.fItems, DL.wipeS, DL.iSeq, DL.iR1, DL.iR2, DL.iZip, DL.itemsD, DL.xVal, DL.xNil, DL.dIf, DL.gN, DL.gT, DL.gsN, DL.gsC, DL.aStar, DL.M.pure_bind, DL.M.lift_some, DL.toB_bl, DL.toI_int, DL.ltD_int, DL.leD_int, DL.gtD_int, DL.geD_int, DL.subD_int, DL.addD_int, DL.negD_int, DL.maxD_int, DL.eqD_int, DL.neD_int, DL.eqD_tN, DL.neD_tN, DL.neD_tN0, DL.inD_tN, DL.slD_tN, DL.lenD_tN, DL.fits_map, DL.fits_nil, List.map_cons, List.map_nil, List.replicate, List.cons_append, List.nil_append, Nat.sub_zero, Nat.reduceSub, List.getElem?_cons_zero, List.getElem?_cons_succ, List.length_cons, List.length_nil, Nat.zero_add, Nat.reduceAdd, if_true, List.set_cons_zero, List.set_cons_succ, Option.bind_some, ll, ll2, o1, o2, o3, o4, f3, f4]
  simp only [setS, List.set_cons_succ, List.set_cons_zero]
  have ad : ∀ p q r t u : D, addD (.lst [p, q, r, t]) (.lst [u]) = some (.lst [p, q, r, t, u]) := fun _ _ _ _ _ => rfl
  refine st_set (d := .lst [.int (often a b s n : Nat), .int (at0 a b (n - 1)), .int (often a b s (n - 1) : Nat), .int (n : Int), .int 0]) ?_ ?_
  · simp (implicitDefEqProofs := false) only [DL.sSeq, DL.seqO, DL.sIf, DL.sRet, DL.sSet, DL.sExpr, DL.sNo, DL.sNil, DL.sMany, DL.setS, DL.sAsg, DL.bO_pure, DL.dVar, DL.dC, DL.dOp, DL.dCB, DL.dCall, DL.aCons, DL.aNil, DL.dB, DL.bAnd, DL.bOr, DL.bNot, DL.dAnd, DL.dOr, DL.dNot, DL.dNeg, DL.dChain, DL.dIsi, DL.dIsi2, DL.tyD, DL.Ty.isa, DL.dSlice, DL.pNone, DL.pSome, DL.dTup, DL.dOf, DL.fLst, DL.fComp, DL.fItems, DL.wipeS, DL.iSeq, DL.iR1, DL.iR2, DL.iZip, DL.itemsD, DL.xVal, DL.xNil, DL.dIf, DL.gN, DL.gT, DL.gsN, DL.gsC, DL.aStar, DL.M.pure_bind, DL.M.lift_some, DL.toB_bl, DL.toI_int, DL.ltD_int, DL.leD_int, DL.gtD_int, DL.geD_int, DL.subD_int, DL.addD_int, DL.negD_int, DL.maxD_int, DL.eqD_int, DL.neD_int, DL.eqD_tN, DL.neD_tN, DL.neD_tN0, DL.inD_tN, DL.slD_tN, DL.lenD_tN, DL.fits_map, DL.fits_nil, List.map_cons, List.map_nil, List.replicate, List.cons_append, List.nil_append, Nat.sub_zero, Nat.reduceSub, List.getElem?_cons_zero, List.getElem?_cons_succ, List.length_cons, List.length_nil, Nat.zero_add, Nat.reduceAdd, if_true, List.set_cons_zero, List.set_cons_succ, Option.bind_some, o5, f1, ad]
  simp only [setS, List.set_cons_succ, List.set_cons_zero]
  have i4 : ∀ c : Bool, DL.intD [.bl c] = some (.int (if c = true then 1 else 0)) := fun c => by cases c <;> rfl
  have hst : ((often a b s n : Nat) : Int) - (if decide (at0 a b (n - 1) ∈ s) = true then 1 else 0) = ((often a b s (n - 1) : Nat) : Int) := by
    have := often_step (s := s) nb (show a.length < n - 1 by omega)
    rw [show n - 1 + 1 = n by omega] at this
    rw [this]
    unfold one
    by_cases h : at0 a b (n - 1) ∈ s
    · rw [if_pos h, if_pos (by simpa using h)]
      omega
    · rw [if_neg h, if_neg (by simpa using h)]
      omega
  have sm : m_law_same 8 [.lst [.int (often a b s n : Nat), .int (at0 a b (n - 1)), .int (often a b s (n - 1) : Nat), .int (n : Int), .int 0], .lst [.int (often a b s n : Nat), .int (at0 a b (n - 1)), .int (often a b s (n - 1) : Nat), .int (n : Int), .int 0]] = M.pure (.bl true) := v_same 8 _ (okS_list (by show 5 ≤ 1000; decide) fun x hx => by
    simp only [List.mem_cons, List.not_mem_nil, or_false] at hx
    rcases hx with rfl | rfl | rfl | rfl | rfl <;> exact okS_int _ _)
  refine st_ifn ?_ ?_
  · simp (implicitDefEqProofs := false) only [DL.sSeq, DL.seqO, DL.sIf, DL.sRet, DL.sSet, DL.sExpr, DL.sNo, DL.sNil, DL.sMany, DL.setS, DL.sAsg, DL.bO_pure, DL.dVar, DL.dC, DL.dOp, DL.dCB, DL.dCall, DL.aCons, DL.aNil, DL.dB, DL.bAnd, DL.bOr, DL.bNot, DL.dAnd, DL.dOr, DL.dNot, DL.dNeg, DL.dChain, DL.dIsi, DL.dIsi2, DL.tyD, DL.Ty.isa, DL.dSlice, DL.pNone, DL.pSome, DL.dTup, DL.dOf, DL.fLst, DL.fComp, DL.fItems, DL.wipeS, DL.iSeq, DL.iR1, DL.iR2, DL.iZip, DL.itemsD, DL.xVal, DL.xNil, DL.dIf, DL.gN, DL.gT, DL.gsN, DL.gsC, DL.aStar, DL.M.pure_bind, DL.M.lift_some, DL.toB_bl, DL.toI_int, DL.ltD_int, DL.leD_int, DL.gtD_int, DL.geD_int, DL.subD_int, DL.addD_int, DL.negD_int, DL.maxD_int, DL.eqD_int, DL.neD_int, DL.eqD_tN, DL.neD_tN, DL.neD_tN0, DL.inD_tN, DL.slD_tN, DL.lenD_tN, DL.fits_map, DL.fits_nil, List.map_cons, List.map_nil, List.replicate, List.cons_append, List.nil_append, Nat.sub_zero, Nat.reduceSub, List.getElem?_cons_zero, List.getElem?_cons_succ, List.length_cons, List.length_nil, Nat.zero_add, Nat.reduceAdd, if_true, List.set_cons_zero, List.set_cons_succ, Option.bind_some, i4, hst, f5, sm, Bool.not_true]
  obtain ⟨L, hL⟩ : ∃ L, L = (List.range b.length).filter fun i => decide (at0 a b (n + i) ∈ s) := ⟨_, rfl⟩
  have e5 : ((b.length : Int) + 1 - 1).toNat = b.length := by omega
  have fr : fits ((List.range b.length).map fun i : Nat => D.int (1 + (i : Int))) = true := fits_map (by rw [List.length_range]; exact hla.sb)
  have hg := fun e0 e1 e2 e7 e8 e9 e10 e11 e12 e13 e14 e15 e16 e17 e19 => c_gaps (s := s) (n := n) nb (show a.length < n by omega) e0 e1 e2 e7 e8 e9 e10 e11 e12 e13 e14 e15 e16 e17 e19
  rw [← hL] at hg
  refine st_setF (ds := L.map fun i : Nat => D.int (1 + (i : Int))) ?_ ?_
  · simp (implicitDefEqProofs := false) only [DL.sSeq, DL.seqO, DL.sIf, DL.sRet, DL.sSet, DL.sExpr, DL.sNo, DL.sNil, DL.sMany, DL.setS, DL.sAsg, DL.bO_pure, DL.dVar, DL.dC, DL.dOp, DL.dCB, DL.dCall, DL.aCons, DL.aNil, DL.dB, DL.bAnd, DL.bOr, DL.bNot, DL.dAnd, DL.dOr, DL.dNot, DL.dNeg, DL.dChain, DL.dIsi, DL.dIsi2, DL.tyD, DL.Ty.isa, DL.dSlice, DL.pNone, DL.pSome, DL.dTup, DL.dOf, DL.fLst, DL.fComp, DL.fItems, DL.wipeS, DL.iSeq, DL.iR1, DL.iR2, DL.iZip, DL.itemsD, DL.xVal, DL.xNil, DL.dIf, DL.gN, DL.gT, DL.gsN, DL.gsC, DL.aStar, DL.M.pure_bind, DL.M.lift_some, DL.toB_bl, DL.toI_int, DL.ltD_int, DL.leD_int, DL.gtD_int, DL.geD_int, DL.subD_int, DL.addD_int, DL.negD_int, DL.maxD_int, DL.eqD_int, DL.neD_int, DL.eqD_tN, DL.neD_tN, DL.neD_tN0, DL.inD_tN, DL.slD_tN, DL.lenD_tN, DL.fits_map, DL.fits_nil, List.map_cons, List.map_nil, List.replicate, List.cons_append, List.nil_append, Nat.sub_zero, Nat.reduceSub, List.getElem?_cons_zero, List.getElem?_cons_succ, List.length_cons, List.length_nil, Nat.zero_add, Nat.reduceAdd, if_true, List.set_cons_zero, List.set_cons_succ, Option.bind_some, rangeD_eq, e5, fr, hg]
  simp only [setS, List.set_cons_succ, List.set_cons_zero]
  have nw : m_next_with [lasD a b, tN s, .int (n : Int)] = M.pure (nextD n L.head?) := by
    rw [v_next_with hla dl ds hsl (by omega), next_gap nb (by omega), hL]
  have f0 : fits [] = true := rfl
  refine st_ifn ?_ ?_
  · cases L with
    | nil =>
      have g1 : neD (.lst []) (.lst []) = some (.bl false) := rfl
      have g2 : m_law_same 8 [nextD n ([] : List Nat).head?, .non] = M.pure (.bl true) := v_same 8 _ (okS_non 7)
      simp (implicitDefEqProofs := false) only [DL.sSeq, DL.seqO, DL.sIf, DL.sRet, DL.sSet, DL.sExpr, DL.sNo, DL.sNil, DL.sMany, DL.setS, DL.sAsg, DL.bO_pure, DL.dVar, DL.dC, DL.dOp, DL.dCB, DL.dCall, DL.aCons, DL.aNil, DL.dB, DL.bAnd, DL.bOr, DL.bNot, DL.dAnd, DL.dOr, DL.dNot, DL.dNeg, DL.dChain, DL.dIsi, DL.dIsi2, DL.tyD, DL.Ty.isa, DL.dSlice, DL.pNone, DL.pSome, DL.dTup, DL.dOf, DL.fLst, DL.fComp, DL.fItems, DL.wipeS, DL.iSeq, DL.iR1, DL.iR2, DL.iZip, DL.itemsD, DL.xVal, DL.xNil, DL.dIf, DL.gN, DL.gT, DL.gsN, DL.gsC, DL.aStar, DL.M.pure_bind, DL.M.lift_some, DL.toB_bl, DL.toI_int, DL.ltD_int, DL.leD_int, DL.gtD_int, DL.geD_int, DL.subD_int, DL.addD_int, DL.negD_int, DL.maxD_int, DL.eqD_int, DL.neD_int, DL.eqD_tN, DL.neD_tN, DL.neD_tN0, DL.inD_tN, DL.slD_tN, DL.lenD_tN, DL.fits_map, DL.fits_nil, List.map_cons, List.map_nil, List.replicate, List.cons_append, List.nil_append, Nat.sub_zero, Nat.reduceSub, List.getElem?_cons_zero, List.getElem?_cons_succ, List.length_cons, List.length_nil, Nat.zero_add, Nat.reduceAdd, if_true, List.set_cons_zero, List.set_cons_succ, Option.bind_some, nw, f0, g1, g2, Bool.not_true, Bool.false_eq_true, if_false]
    | cons i L =>
      have g1 := ne_gaps i L
      have g3 : ∀ ds, ixD (.lst (D.int (1 + (i : Int)) :: ds)) (.int 0) = some (.int (1 + (i : Int))) := ix_head _
      have g2 : m_law_same 8 [nextD n (i :: L).head?, .int ((n : Int) + (1 + (i : Int)))] = M.pure (.bl true) := by
        rw [show ((n : Int) + (1 + (i : Int))) = (n : Int) + 1 + (i : Int) by omega]
        exact v_same 8 _ (okS_int 7 _)
      simp (implicitDefEqProofs := false) only [DL.sSeq, DL.seqO, DL.sIf, DL.sRet, DL.sSet, DL.sExpr, DL.sNo, DL.sNil, DL.sMany, DL.setS, DL.sAsg, DL.bO_pure, DL.dVar, DL.dC, DL.dOp, DL.dCB, DL.dCall, DL.aCons, DL.aNil, DL.dB, DL.bAnd, DL.bOr, DL.bNot, DL.dAnd, DL.dOr, DL.dNot, DL.dNeg, DL.dChain, DL.dIsi, DL.dIsi2, DL.tyD, DL.Ty.isa, DL.dSlice, DL.pNone, DL.pSome, DL.dTup, DL.dOf, DL.fLst, DL.fComp, DL.fItems, DL.wipeS, DL.iSeq, DL.iR1, DL.iR2, DL.iZip, DL.itemsD, DL.xVal, DL.xNil, DL.dIf, DL.gN, DL.gT, DL.gsN, DL.gsC, DL.aStar, DL.M.pure_bind, DL.M.lift_some, DL.toB_bl, DL.toI_int, DL.ltD_int, DL.leD_int, DL.gtD_int, DL.geD_int, DL.subD_int, DL.addD_int, DL.negD_int, DL.maxD_int, DL.eqD_int, DL.neD_int, DL.eqD_tN, DL.neD_tN, DL.neD_tN0, DL.inD_tN, DL.slD_tN, DL.lenD_tN, DL.fits_map, DL.fits_nil, List.map_cons, List.map_nil, List.replicate, List.cons_append, List.nil_append, Nat.sub_zero, Nat.reduceSub, List.getElem?_cons_zero, List.getElem?_cons_succ, List.length_cons, List.length_nil, Nat.zero_add, Nat.reduceAdd, if_true, List.set_cons_zero, List.set_cons_succ, Option.bind_some, nw, f0, g1, g2, g3, Bool.not_true]
  have hmv := las_moved hla n
  have dm : m_tuple_of 8 [lasP (moved a b n)] = M.pure (lasP (moved a b n)) := v_tuple_las hmv.sa hmv.sb
  have mo := v_moved_on hla dl (show (n : Int) ≤ 1000000000000000000000000000000 by omega)
  refine st_set (d := lasP (moved a b n)) ?_ ?_
  · simp (implicitDefEqProofs := false) only [DL.sSeq, DL.seqO, DL.sIf, DL.sRet, DL.sSet, DL.sExpr, DL.sNo, DL.sNil, DL.sMany, DL.setS, DL.sAsg, DL.bO_pure, DL.dVar, DL.dC, DL.dOp, DL.dCB, DL.dCall, DL.aCons, DL.aNil, DL.dB, DL.bAnd, DL.bOr, DL.bNot, DL.dAnd, DL.dOr, DL.dNot, DL.dNeg, DL.dChain, DL.dIsi, DL.dIsi2, DL.tyD, DL.Ty.isa, DL.dSlice, DL.pNone, DL.pSome, DL.dTup, DL.dOf, DL.fLst, DL.fComp, DL.fItems, DL.wipeS, DL.iSeq, DL.iR1, DL.iR2, DL.iZip, DL.itemsD, DL.xVal, DL.xNil, DL.dIf, DL.gN, DL.gT, DL.gsN, DL.gsC, DL.aStar, DL.M.pure_bind, DL.M.lift_some, DL.toB_bl, DL.toI_int, DL.ltD_int, DL.leD_int, DL.gtD_int, DL.geD_int, DL.subD_int, DL.addD_int, DL.negD_int, DL.maxD_int, DL.eqD_int, DL.neD_int, DL.eqD_tN, DL.neD_tN, DL.neD_tN0, DL.inD_tN, DL.slD_tN, DL.lenD_tN, DL.fits_map, DL.fits_nil, List.map_cons, List.map_nil, List.replicate, List.cons_append, List.nil_append, Nat.sub_zero, Nat.reduceSub, List.getElem?_cons_zero, List.getElem?_cons_succ, List.length_cons, List.length_nil, Nat.zero_add, Nat.reduceAdd, if_true, List.set_cons_zero, List.set_cons_succ, Option.bind_some, mo]
  simp only [setS, List.set_cons_succ, List.set_cons_zero]
  have b1 : m_beginning [lasP (moved a b n), .int 12] = M.pure (.tup ((List.range 12).map fun i : Nat => D.int (at0 a b (n + i)))) := by
    have := v_beginning (d := lasP (moved a b n)) (n := 12) hmv dm (by decide)
    rw [show (List.range 12).map (at0 (moved a b n).1 (moved a b n).2) = (List.range 12).map fun i => at0 a b (n + i) from List.map_congr_left fun i _ => moved_word nb n i] at this
    exact this
  have b2 : m_is_short [lasP (moved a b n)] = M.pure (.bl true) := by
    rw [v_is_short hmv dm, norm_short (moved_norm nb n)]
    simp
  have hl0 : Las [] b := ⟨rfl, hla.tb, nb, by simp, hla.lb⟩
  have b3 : m_put_ahead [tN a, .tup [.tup [], tN b]] = M.pure (lasP (short a b)) := by
    have := v_put_ahead (d := lasD [] b) (e := tN a) (t := a) hl0 (v_tuple_las (by simp) hla.sb) (v_tuple_ints hla.sa) hla.ta (by simp only [List.length_nil]; omega)
    rw [List.append_nil] at this
    exact this
  have b4 : m_lasso_short [lasD a b] = M.pure (lasP (short a b)) := v_lasso_short hla dl
  have e13 : ((13 : Int) - 1).toNat = 12 := rfl
  have f12 : fits ((List.range 12).map fun i : Nat => D.int (1 + (i : Int))) = true := rfl
  have fq3 : ∀ p q r : D, fits [p, q, r] = true := fun _ _ _ => rfl
  have fq2 : ∀ p q : D, fits [p, q] = true := fun _ _ => rfl
  have hls := las_short hla
  have okl : ∀ (k : Nat) (u v : List Int), u.length ≤ 1000 → v.length ≤ 1000 → okS (k + 3) (lasD u v) := fun k u v hu hv => okS_tup (by show 2 ≤ 1000; decide) fun x hx => by
    rcases List.mem_cons.mp hx with rfl | hx
    · exact okS_tN k hu
    · rw [List.mem_singleton.mp hx]; exact okS_tN k hv
  have b5 : m_law_same 8 [.lst [.tup ((List.range 12).map fun i : Nat => D.int (at0 a b (n + i))), .bl true, lasP (short a b)], .lst [.tup ((List.range 12).map fun i : Nat => D.int (at0 a b (n + i))), .bl true, lasP (short a b)]] = M.pure (.bl true) := v_same 8 _ (okS_list (by show 3 ≤ 1000; decide) fun x hx => by
    simp only [List.mem_cons, List.not_mem_nil, or_false] at hx
    rcases hx with rfl | rfl | rfl
    · have := okS_tN 5 (xs := (List.range 12).map fun i => at0 a b (n + i)) (by rw [List.length_map, List.length_range]; decide)
      rw [tup_map]
      exact this
    · exact okS_bl _ _
    · exact okl 4 _ _ (Nat.le_trans hls.la (by decide)) (Nat.le_trans hls.lb (by decide)))
  have cl := fun e0 e1 e3 e5 e6 e7 e8 e9 e10 e11 e12 e13 e14 e15 e16 e17 e18 => c_letters (a := a) (b := b) (n := n) hla n2 e0 e1 e3 e5 e6 e7 e8 e9 e10 e11 e12 e13 e14 e15 e16 e17 e18
  refine st_ifn ?_ ?_
  · simp (implicitDefEqProofs := false) only [DL.sSeq, DL.seqO, DL.sIf, DL.sRet, DL.sSet, DL.sExpr, DL.sNo, DL.sNil, DL.sMany, DL.setS, DL.sAsg, DL.bO_pure, DL.dVar, DL.dC, DL.dOp, DL.dCB, DL.dCall, DL.aCons, DL.aNil, DL.dB, DL.bAnd, DL.bOr, DL.bNot, DL.dAnd, DL.dOr, DL.dNot, DL.dNeg, DL.dChain, DL.dIsi, DL.dIsi2, DL.tyD, DL.Ty.isa, DL.dSlice, DL.pNone, DL.pSome, DL.dTup, DL.dOf, DL.fLst, DL.fComp, DL.fItems, DL.wipeS, DL.iSeq, DL.iR1, DL.iR2, DL.iZip, DL.itemsD, DL.xVal, DL.xNil, DL.dIf, DL.gN, DL.gT, DL.gsN, DL.gsC, DL.aStar, DL.M.pure_bind, DL.M.lift_some, DL.toB_bl, DL.toI_int, DL.ltD_int, DL.leD_int, DL.gtD_int, DL.geD_int, DL.subD_int, DL.addD_int, DL.negD_int, DL.maxD_int, DL.eqD_int, DL.neD_int, DL.eqD_tN, DL.neD_tN, DL.neD_tN0, DL.inD_tN, DL.slD_tN, DL.lenD_tN, DL.fits_map, DL.fits_nil, List.map_cons, List.map_nil, List.replicate, List.cons_append, List.nil_append, Nat.sub_zero, Nat.reduceSub, List.getElem?_cons_zero, List.getElem?_cons_succ, List.length_cons, List.length_nil, Nat.zero_add, Nat.reduceAdd, if_true, List.set_cons_zero, List.set_cons_succ, Option.bind_some, b1, b2, b3, b4, b5, rangeD_eq, e13, f12, fq3, fq2, cl, tupleD_lst, Bool.not_true]
  obtain ⟨mf1, mf2⟩ := moved_far nb (show a.length < n by omega)
  have en1 : m_endless_letters [lasP (moved a b n)] = M.pure (lasD (DL.sortI b) (DL.sortI b)) := by
    rw [v_endless hmv dm (by have := moved_len (a := a) nb n; omega), mf1, List.nil_append, sortI_same mf2]
  have en2 : m_endless_letters [lasD a b] = M.pure (lasD (DL.sortI (a ++ b)) (DL.sortI b)) := v_endless hla dl (by omega)
  have mu2 : mulD (.tup [tN (DL.sortI b)]) (.int 2) = some (lasD (DL.sortI b) (DL.sortI b)) := rfl
  have nl : ∀ u v : List Int, neD (lasD u v) (lasD u v) = some (.bl false) := fun u v => by
    have := (cod_int.tup.pair cod_int.tup).neD (by omega) (u, v) (u, v)
    simpa using this
  have nl2 : ∀ u v : List Int, neD (lasD u v) (.tup [.tup (u.map D.int), .tup (v.map D.int)]) = some (.bl false) := nl
  have so1 := fun e0 e1 e2 e3 e4 e7 e8 e9 e10 e11 e12 e13 e14 e15 e16 e17 e18 e19 => c_sort1 (a := a) (b := b) (by omega) e0 e1 e2 e3 e4 e7 e8 e9 e10 e11 e12 e13 e14 e15 e16 e17 e18 e19
  have so2 := fun e0 e1 e2 e3 e4 e5 e7 e8 e9 e10 e11 e12 e13 e14 e15 e16 e17 e18 e19 => c_sort2 (b := b) (by omega) e0 e1 e2 e3 e4 e5 e7 e8 e9 e10 e11 e12 e13 e14 e15 e16 e17 e18 e19
  refine st_ifn ?_ ?_
  · simp (implicitDefEqProofs := false) only [DL.sSeq, DL.seqO, DL.sIf, DL.sRet, DL.sSet, DL.sExpr, DL.sNo, DL.sNil, DL.sMany, DL.setS, DL.sAsg, DL.bO_pure, DL.dVar, DL.dC, DL.dOp, DL.dCB, DL.dCall, DL.aCons, DL.aNil, DL.dB, DL.bAnd, DL.bOr, DL.bNot, DL.dAnd, DL.dOr, DL.dNot, DL.dNeg, DL.dChain, DL.dIsi, DL.dIsi2, DL.tyD, DL.Ty.isa, DL.dSlice, DL.pNone, DL.pSome, DL.dTup, DL.dOf, DL.fLst, DL.fComp, DL.fItems, DL.wipeS, DL.iSeq, DL.iR1, DL.iR2, DL.iZip, DL.itemsD, DL.xVal, DL.xNil, DL.dIf, DL.gN, DL.gT, DL.gsN, DL.gsC, DL.aStar, DL.M.pure_bind, DL.M.lift_some, DL.toB_bl, DL.toI_int, DL.ltD_int, DL.leD_int, DL.gtD_int, DL.geD_int, DL.subD_int, DL.addD_int, DL.negD_int, DL.maxD_int, DL.eqD_int, DL.neD_int, DL.eqD_tN, DL.neD_tN, DL.neD_tN0, DL.inD_tN, DL.slD_tN, DL.lenD_tN, DL.fits_map, DL.fits_nil, List.map_cons, List.map_nil, List.replicate, List.cons_append, List.nil_append, Nat.sub_zero, Nat.reduceSub, List.getElem?_cons_zero, List.getElem?_cons_succ, List.length_cons, List.length_nil, Nat.zero_add, Nat.reduceAdd, if_true, List.set_cons_zero, List.set_cons_succ, Option.bind_some, en1, en2, ix1, f1, fq2, mu2, nl, so1, so2, tupleD_lst, nl2, Bool.false_eq_true, if_false]
  have t1' : cutL b none (some 1) = b.take 1 := by rw [cutL_hi b (by decide)]; rfl
  have t2' : cutL b (some 1) none = b.drop 1 := by rw [cutL_lo b (by decide)]; rfl
  have ad1 := addD_tN a (b.take 1) (by rw [List.length_take]; exact Nat.le_trans (show _ ≤ 100000 by omega) size_ge)
  have ad2 := addD_tN (b.drop 1) (b.take 1) (by rw [List.length_take, List.length_drop]; exact Nat.le_trans (show _ ≤ 100000 by omega) size_ge)
  refine st_set (d := lasD (a ++ b.take 1) (b.drop 1 ++ b.take 1)) ?_ ?_
  · simp (implicitDefEqProofs := false) only [DL.sSeq, DL.seqO, DL.sIf, DL.sRet, DL.sSet, DL.sExpr, DL.sNo, DL.sNil, DL.sMany, DL.setS, DL.sAsg, DL.bO_pure, DL.dVar, DL.dC, DL.dOp, DL.dCB, DL.dCall, DL.aCons, DL.aNil, DL.dB, DL.bAnd, DL.bOr, DL.bNot, DL.dAnd, DL.dOr, DL.dNot, DL.dNeg, DL.dChain, DL.dIsi, DL.dIsi2, DL.tyD, DL.Ty.isa, DL.dSlice, DL.pNone, DL.pSome, DL.dTup, DL.dOf, DL.fLst, DL.fComp, DL.fItems, DL.wipeS, DL.iSeq, DL.iR1, DL.iR2, DL.iZip, DL.itemsD, DL.xVal, DL.xNil, DL.dIf, DL.gN, DL.gT, DL.gsN, DL.gsC, DL.aStar, DL.M.pure_bind, DL.M.lift_some, DL.toB_bl, DL.toI_int, DL.ltD_int, DL.leD_int, DL.gtD_int, DL.geD_int, DL.subD_int, DL.addD_int, DL.negD_int, DL.maxD_int, DL.eqD_int, DL.neD_int, DL.eqD_tN, DL.neD_tN, DL.neD_tN0, DL.inD_tN, DL.slD_tN, DL.lenD_tN, DL.fits_map, DL.fits_nil, List.map_cons, List.map_nil, List.replicate, List.cons_append, List.nil_append, Nat.sub_zero, Nat.reduceSub, List.getElem?_cons_zero, List.getElem?_cons_succ, List.length_cons, List.length_nil, Nat.zero_add, Nat.reduceAdd, if_true, List.set_cons_zero, List.set_cons_succ, Option.bind_some, t1', t2', ad1, ad2, fq2]
  simp only [setS, List.set_cons_succ, List.set_cons_zero]
  refine st_setE (d := .int (m : Int)) (τ' := τ5) ?_ ?_
  · simp (implicitDefEqProofs := false) only [DL.sSeq, DL.seqO, DL.sIf, DL.sRet, DL.sSet, DL.sExpr, DL.sNo, DL.sNil, DL.sMany, DL.setS, DL.sAsg, DL.bO_pure, DL.dVar, DL.dC, DL.dOp, DL.dCB, DL.dCall, DL.aCons, DL.aNil, DL.dB, DL.bAnd, DL.bOr, DL.bNot, DL.dAnd, DL.dOr, DL.dNot, DL.dNeg, DL.dChain, DL.dIsi, DL.dIsi2, DL.tyD, DL.Ty.isa, DL.dSlice, DL.pNone, DL.pSome, DL.dTup, DL.dOf, DL.fLst, DL.fComp, DL.fItems, DL.wipeS, DL.iSeq, DL.iR1, DL.iR2, DL.iZip, DL.itemsD, DL.xVal, DL.xNil, DL.dIf, DL.gN, DL.gT, DL.gsN, DL.gsC, DL.aStar, DL.M.pure_bind, DL.M.lift_some, DL.toB_bl, DL.toI_int, DL.ltD_int, DL.leD_int, DL.gtD_int, DL.geD_int, DL.subD_int, DL.addD_int, DL.negD_int, DL.maxD_int, DL.eqD_int, DL.neD_int, DL.eqD_tN, DL.neD_tN, DL.neD_tN0, DL.inD_tN, DL.slD_tN, DL.lenD_tN, DL.fits_map, DL.fits_nil, List.map_cons, List.map_nil, List.replicate, List.cons_append, List.nil_append, Nat.sub_zero, Nat.reduceSub, List.getElem?_cons_zero, List.getElem?_cons_succ, List.length_cons, List.length_nil, Nat.zero_add, Nat.reduceAdd, if_true, List.set_cons_zero, List.set_cons_succ, Option.bind_some]
    exact t5
  simp only [setS, List.set_cons_succ, List.set_cons_zero]
  have e3 : (m : Int) + 1 = ((m + 1 : Nat) : Int) := by omega
  have be : m_beginning [lasD a b, .int ((m : Int) + 1)] = M.pure (tN ((List.range (m + 1)).map (at0 a b))) := by
    rw [e3]
    exact v_beginning hla dl (by omega)
  obtain ⟨T, hT⟩ : ∃ T, T = (List.range (m + 1)).map (at0 a b) := ⟨_, rfl⟩
  have lT : T.length = m + 1 := by rw [hT, List.length_map, List.length_range]
  rw [← hT] at be
  refine st_own (ds := T.map D.int) ?_ ?_
  · simp (implicitDefEqProofs := false) only [DL.sSeq, DL.seqO, DL.sIf, DL.sRet, DL.sSet, DL.sExpr, DL.sNo, DL.sNil, DL.sMany, DL.setS, DL.sAsg, DL.bO_pure, DL.dVar, DL.dC, DL.dOp, DL.dCB, DL.dCall, DL.aCons, DL.aNil, DL.dB, DL.bAnd, DL.bOr, DL.bNot, DL.dAnd, DL.dOr, DL.dNot, DL.dNeg, DL.dChain, DL.dIsi, DL.dIsi2, DL.tyD, DL.Ty.isa, DL.dSlice, DL.pNone, DL.pSome, DL.dTup, DL.dOf, DL.fLst, DL.fComp, DL.fItems, DL.wipeS, DL.iSeq, DL.iR1, DL.iR2, DL.iZip, DL.itemsD, DL.xVal, DL.xNil, DL.dIf, DL.gN, DL.gT, DL.gsN, DL.gsC, DL.aStar, DL.M.pure_bind, DL.M.lift_some, DL.toB_bl, DL.toI_int, DL.ltD_int, DL.leD_int, DL.gtD_int, DL.geD_int, DL.subD_int, DL.addD_int, DL.negD_int, DL.maxD_int, DL.eqD_int, DL.neD_int, DL.eqD_tN, DL.neD_tN, DL.neD_tN0, DL.inD_tN, DL.slD_tN, DL.lenD_tN, DL.fits_map, DL.fits_nil, List.map_cons, List.map_nil, List.replicate, List.cons_append, List.nil_append, Nat.sub_zero, Nat.reduceSub, List.getElem?_cons_zero, List.getElem?_cons_succ, List.length_cons, List.length_nil, Nat.zero_add, Nat.reduceAdd, if_true, List.set_cons_zero, List.set_cons_succ, Option.bind_some, be]
  simp only [setS, List.set_cons_succ, List.set_cons_zero]
  have Tm : T.getD m 0 = at0 a b m := by
    rw [hT, List.getD_eq_getElem?_getD, List.getElem?_map, List.getElem?_range (by omega)]
    rfl
  have ixT : ixD (.lst (T.map D.int)) (.int (m : Int)) = some (.int (at0 a b m)) := by
    rw [ixD_lN, atI_pos (by omega), ← Tm, List.getD_eq_getElem?_getD, show ((m : Int)).toNat = m by omega, List.getElem?_eq_getElem (by omega)]
    rfl
  have mo3 : modD (.int (at0 a b m)) (.int 3) = some (.int (at0 a b m % 3)) := modD_int (by decide)
  have ixm : ixN (T.map D.int).length (m : Int) = some m := by rw [List.length_map, lT]; exact DL.ixN_nat (by omega)
  refine st_do (ρ1 := [.d (.scr ns), .d .tin, .d (lasD a b), .d (tN s), .d (.int (n : Int)), .d (tN a), .d (tN b), .d (.int (((n - a.length) / b.length : Nat) : Int)), .d (.int (((n - a.length) % b.length : Nat) : Int)), .d (.int (often a b s n : Nat)), .d (.int (at0 a b (n - 1))), .d (.lst [.int (often a b s n : Nat), .int (at0 a b (n - 1)), .int (often a b s (n - 1) : Nat), .int (n : Int), .int 0]), .d (.lst (L.map fun i : Nat => D.int (1 + (i : Int)))), .d (lasP (moved a b n)), .d (lasD (a ++ b.take 1) (b.drop 1 ++ b.take 1)), .d (.int (m : Int)), .own ((T.set m (1 + at0 a b m % 3)).map D.int), .un, .un, .un]) (τ' := τ5) ?_ ?_
  · simp (implicitDefEqProofs := false) only [DL.sSeq, DL.seqO, DL.sIf, DL.sRet, DL.sSet, DL.sExpr, DL.sNo, DL.sNil, DL.sMany, DL.setS, DL.sAsg, DL.bO_pure, DL.dVar, DL.dC, DL.dOp, DL.dCB, DL.dCall, DL.aCons, DL.aNil, DL.dB, DL.bAnd, DL.bOr, DL.bNot, DL.dAnd, DL.dOr, DL.dNot, DL.dNeg, DL.dChain, DL.dIsi, DL.dIsi2, DL.tyD, DL.Ty.isa, DL.dSlice, DL.pNone, DL.pSome, DL.dTup, DL.dOf, DL.fLst, DL.fComp, DL.fItems, DL.wipeS, DL.iSeq, DL.iR1, DL.iR2, DL.iZip, DL.itemsD, DL.xVal, DL.xNil, DL.dIf, DL.gN, DL.gT, DL.gsN, DL.gsC, DL.aStar, DL.M.pure_bind, DL.M.lift_some, DL.toB_bl, DL.toI_int, DL.ltD_int, DL.leD_int, DL.gtD_int, DL.geD_int, DL.subD_int, DL.addD_int, DL.negD_int, DL.maxD_int, DL.eqD_int, DL.neD_int, DL.eqD_tN, DL.neD_tN, DL.neD_tN0, DL.inD_tN, DL.slD_tN, DL.lenD_tN, DL.fits_map, DL.fits_nil, List.map_cons, List.map_nil, List.replicate, List.cons_append, List.nil_append, Nat.sub_zero, Nat.reduceSub, List.getElem?_cons_zero, List.getElem?_cons_succ, List.length_cons, List.length_nil, Nat.zero_add, Nat.reduceAdd, if_true, List.set_cons_zero, List.set_cons_succ, Option.bind_some, ownAt, sSetI, dTop, upOwn, ixT, mo3, ixm, Option.map_some, List.map_set]
  obtain ⟨c, hc⟩ : ∃ c, c = 1 + at0 a b m % 3 := ⟨_, rfl⟩
  have hw := T_word hla.ta hla.tb nb
  have c1 : c ≠ at0 a b m ∧ 1 ≤ c ∧ c ≤ 3 := by have := hw m; omega
  rw [← hc]
  obtain ⟨U, hU⟩ : ∃ U, U = T.set m c := ⟨_, rfl⟩
  rw [← hU]
  have lU : U.length = m + 1 := by rw [hU, List.length_set, lT]
  have Ui : ∀ i, i < m → U.getD i 0 = at0 a b i := fun i hi => by
    rw [hU, List.getD_eq_getElem?_getD, List.getElem?_set_ne (by omega), hT, List.getElem?_map, List.getElem?_range (by omega)]
    rfl
  have Um : U.getD m 0 = c := by
    rw [hU, List.getD_eq_getElem?_getD, List.getElem?_set_self (by omega)]
    rfl
  have tU : isT 3 U = true := (isT_iff U).mpr fun x hx => by
    obtain ⟨i, hi, e⟩ := mem_getD hx
    by_cases h : i = m
    · subst h
      rw [Um] at e
      omega
    · rw [Ui i (by omega)] at e
      rw [← e]
      exact hw i
  have hmq := las_moved hla (m + 1)
  have lmq := moved_len (a := a) nb (m + 1)
  have dq : m_tuple_of 8 [lasP (moved a b (m + 1))] = M.pure (lasP (moved a b (m + 1))) := v_tuple_las hmq.sa hmq.sb
  have mq : m_moved_on [lasD a b, .int ((m : Int) + 1)] = M.pure (lasP (moved a b (m + 1))) := by
    rw [e3]
    exact v_moved_on hla dl (by omega)
  have pq : m_put_ahead [.tup (U.map D.int), lasP (moved a b (m + 1))] = M.pure (lasP (short (U ++ (moved a b (m + 1)).1) (moved a b (m + 1)).2)) :=
    v_put_ahead hmq dq (v_tuple_ints (by rw [lU]; exact Nat.le_trans (show _ ≤ 100000 by omega) size_ge)) tU (by omega)
  refine st_set (d := lasP (short (U ++ (moved a b (m + 1)).1) (moved a b (m + 1)).2)) ?_ ?_
  · simp (implicitDefEqProofs := false) only [DL.sSeq, DL.seqO, DL.sIf, DL.sRet, DL.sSet, DL.sExpr, DL.sNo, DL.sNil, DL.sMany, DL.setS, DL.sAsg, DL.bO_pure, DL.dVar, DL.dC, DL.dOp, DL.dCB, DL.dCall, DL.aCons, DL.aNil, DL.dB, DL.bAnd, DL.bOr, DL.bNot, DL.dAnd, DL.dOr, DL.dNot, DL.dNeg, DL.dChain, DL.dIsi, DL.dIsi2, DL.tyD, DL.Ty.isa, DL.dSlice, DL.pNone, DL.pSome, DL.dTup, DL.dOf, DL.fLst, DL.fComp, DL.fItems, DL.wipeS, DL.iSeq, DL.iR1, DL.iR2, DL.iZip, DL.itemsD, DL.xVal, DL.xNil, DL.dIf, DL.gN, DL.gT, DL.gsN, DL.gsC, DL.aStar, DL.M.pure_bind, DL.M.lift_some, DL.toB_bl, DL.toI_int, DL.ltD_int, DL.leD_int, DL.gtD_int, DL.geD_int, DL.subD_int, DL.addD_int, DL.negD_int, DL.maxD_int, DL.eqD_int, DL.neD_int, DL.eqD_tN, DL.neD_tN, DL.neD_tN0, DL.inD_tN, DL.slD_tN, DL.lenD_tN, DL.fits_map, DL.fits_nil, List.map_cons, List.map_nil, List.replicate, List.cons_append, List.nil_append, Nat.sub_zero, Nat.reduceSub, List.getElem?_cons_zero, List.getElem?_cons_succ, List.length_cons, List.length_nil, Nat.zero_add, Nat.reduceAdd, if_true, List.set_cons_zero, List.set_cons_succ, Option.bind_some, dTop, tupleD_lst, mq, pq]
  simp only [setS, List.set_cons_succ, List.set_cons_zero]
  have hun : Las (U ++ (moved a b (m + 1)).1) (moved a b (m + 1)).2 := ⟨(isT_iff _).mpr fun x hx => by
    rcases List.mem_append.mp hx with h | h
    · exact (isT_iff U).mp tU x h
    · exact (isT_iff _).mp hmq.ta x h, hmq.tb, hmq.nb, by rw [List.length_append]; omega, hmq.lb⟩
  obtain ⟨V, hV⟩ : ∃ V, V = short (U ++ (moved a b (m + 1)).1) (moved a b (m + 1)).2 := ⟨_, rfl⟩
  have hlV : Las V.1 V.2 := by rw [hV]; exact las_short hun
  have wV : ∀ i, at0 V.1 V.2 i = if i < m + 1 then U.getD i 0 else at0 a b i := fun i => by
    rw [hV, short_word hmq.nb, at0_app, lU]
    split
    · rfl
    · rename_i hni
      rw [moved_word nb, show m + 1 + (i - (m + 1)) = i by omega]
  rw [← hV]
  have dV : m_tuple_of 8 [lasP V] = M.pure (lasP V) := v_tuple_las hlV.sa hlV.sb
  have lo : Las (a ++ b.take 1) (b.drop 1 ++ b.take 1) := by
    have nb2 : b.drop 1 ++ b.take 1 ≠ [] := fun z => by
      have := congrArg List.length z
      rw [List.length_append, List.length_drop, List.length_take, List.length_nil] at this
      omega
    obtain ⟨u1, u2⟩ := word_T (f := a ++ b.take 1) nb2 fun i => by rw [at0_other nb]; exact hw i
    exact ⟨u1, u2, nb2, by rw [List.length_append, List.length_take]; omega, by rw [List.length_append, List.length_take, List.length_drop]; omega⟩
  have do' : m_tuple_of 8 [lasD (a ++ b.take 1) (b.drop 1 ++ b.take 1)] = M.pure (lasD (a ++ b.take 1) (b.drop 1 ++ b.take 1)) := v_tuple_las lo.sa lo.sb
  have z1 : m_same_endless [lasD a b, lasD (a ++ b.take 1) (b.drop 1 ++ b.take 1)] = M.pure (.bl true) := by
    rw [v_same_endless hla dl lo do', short_eq lo.nb nb (at0_other nb)]
    simp
  have z2 : m_first_apart [lasD a b, lasD (a ++ b.take 1) (b.drop 1 ++ b.take 1)] = M.pure .non := by
    rw [v_first_apart hla dl lo do', apart_same fun i => (at0_other nb i).symm]
    rfl
  have hap : at0 a b m ≠ at0 V.1 V.2 m := by
    rw [wV, if_pos (by omega), Um]
    exact fun z => c1.1 z.symm
  have z3 : m_first_apart [lasD a b, lasP V] = M.pure (.int ((m : Int) + 1)) := by
    rw [v_first_apart hla dl hlV dV, apart_at nb hlV.nb (m := m) (fun i hi => by rw [wV, if_pos (by omega), Ui i hi]) hap]
    show M.pure (D.int (1 + (m : Int))) = _
    rw [Int.add_comm]
  have z4 : m_same_endless [lasP V, lasD a b] = M.pure (.bl false) := by
    rw [v_same_endless hlV dV hla dl]
    have : short V.1 V.2 ≠ short a b := fun z => hap (short_word_of hlV.nb nb z m).symm
    simp [this]
  have z5 : m_first_apart [lasP V, lasP V] = M.pure .non := by
    rw [v_first_apart hlV dV hlV dV, apart_same fun i => rfl]
    rfl
  refine st_set (d := .lst [.bl true, .non, .int ((m : Int) + 1), .bl false, .non]) ?_ ?_
  · simp (implicitDefEqProofs := false) only [DL.sSeq, DL.seqO, DL.sIf, DL.sRet, DL.sSet, DL.sExpr, DL.sNo, DL.sNil, DL.sMany, DL.setS, DL.sAsg, DL.bO_pure, DL.dVar, DL.dC, DL.dOp, DL.dCB, DL.dCall, DL.aCons, DL.aNil, DL.dB, DL.bAnd, DL.bOr, DL.bNot, DL.dAnd, DL.dOr, DL.dNot, DL.dNeg, DL.dChain, DL.dIsi, DL.dIsi2, DL.tyD, DL.Ty.isa, DL.dSlice, DL.pNone, DL.pSome, DL.dTup, DL.dOf, DL.fLst, DL.fComp, DL.fItems, DL.wipeS, DL.iSeq, DL.iR1, DL.iR2, DL.iZip, DL.itemsD, DL.xVal, DL.xNil, DL.dIf, DL.gN, DL.gT, DL.gsN, DL.gsC, DL.aStar, DL.M.pure_bind, DL.M.lift_some, DL.toB_bl, DL.toI_int, DL.ltD_int, DL.leD_int, DL.gtD_int, DL.geD_int, DL.subD_int, DL.addD_int, DL.negD_int, DL.maxD_int, DL.eqD_int, DL.neD_int, DL.eqD_tN, DL.neD_tN, DL.neD_tN0, DL.inD_tN, DL.slD_tN, DL.lenD_tN, DL.fits_map, DL.fits_nil, List.map_cons, List.map_nil, List.replicate, List.cons_append, List.nil_append, Nat.sub_zero, Nat.reduceSub, List.getElem?_cons_zero, List.getElem?_cons_succ, List.length_cons, List.length_nil, Nat.zero_add, Nat.reduceAdd, if_true, List.set_cons_zero, List.set_cons_succ, Option.bind_some, z1, z2, z3, z4, z5, f5]
  simp only [setS, List.set_cons_succ, List.set_cons_zero]
  have z6 : m_law_same 8 [.lst [.bl true, .non, .int ((m : Int) + 1), .bl false, .non], .lst [.bl true, .non, .int ((m : Int) + 1), .bl false, .non]] = M.pure (.bl true) := v_same 8 _ (okS_list (by show 5 ≤ 1000; decide) fun x hx => by
    simp only [List.mem_cons, List.not_mem_nil, or_false] at hx
    rcases hx with rfl | rfl | rfl | rfl | rfl
    · exact okS_bl _ _
    · exact okS_non _
    · exact okS_int _ _
    · exact okS_bl _ _
    · exact okS_non _)
  refine st_ret ?_
  simp (implicitDefEqProofs := false) only [DL.sSeq, DL.seqO, DL.sIf, DL.sRet, DL.sSet, DL.sExpr, DL.sNo, DL.sNil, DL.sMany, DL.setS, DL.sAsg, DL.bO_pure, DL.dVar, DL.dC, DL.dOp, DL.dCB, DL.dCall, DL.aCons, DL.aNil, DL.dB, DL.bAnd, DL.bOr, DL.bNot, DL.dAnd, DL.dOr, DL.dNot, DL.dNeg, DL.dChain, DL.dIsi, DL.dIsi2, DL.tyD, DL.Ty.isa, DL.dSlice, DL.pNone, DL.pSome, DL.dTup, DL.dOf, DL.fLst, DL.fComp, DL.fItems, DL.wipeS, DL.iSeq, DL.iR1, DL.iR2, DL.iZip, DL.itemsD, DL.xVal, DL.xNil, DL.dIf, DL.gN, DL.gT, DL.gsN, DL.gsC, DL.aStar, DL.M.pure_bind, DL.M.lift_some, DL.toB_bl, DL.toI_int, DL.ltD_int, DL.leD_int, DL.gtD_int, DL.geD_int, DL.subD_int, DL.addD_int, DL.negD_int, DL.maxD_int, DL.eqD_int, DL.neD_int, DL.eqD_tN, DL.neD_tN, DL.neD_tN0, DL.inD_tN, DL.slD_tN, DL.lenD_tN, DL.fits_map, DL.fits_nil, List.map_cons, List.map_nil, List.replicate, List.cons_append, List.nil_append, Nat.sub_zero, Nat.reduceSub, List.getElem?_cons_zero, List.getElem?_cons_succ, List.length_cons, List.length_nil, Nat.zero_add, Nat.reduceAdd, if_true, List.set_cons_zero, List.set_cons_succ, Option.bind_some, f5, z6]
theorem law_true (ns : List Int) (hl : ns.length ≤ 63) : lawGood f_law b_law 20 ns := by
  obtain ⟨z, hz⟩ := v_cells (ns := ns) (0, 0, 0) hl
  obtain ⟨x, y, hb, hy, hy2⟩ := v_box z
  obtain ⟨τ', h⟩ := law_rest (ns := ns) (x := x) (y := y) hy hy2
  refine ⟨x, y, 0, (0, 0, 0), τ', ?_, h⟩
  show f_law [.d (.scr ns), .un, .un, .un, .un, .un, .un, .un, .un, .un, .un, .un, .un, .un, .un, .un, .un, .un, .un, .un] (0, 0, 0) = _
  simp (implicitDefEqProofs := false) only [f_law, DL.sSeq, DL.seqO, DL.sIf, DL.sRet, DL.sSet, DL.sExpr, DL.sNo, DL.sNil, DL.sMany, DL.setS, DL.sAsg, DL.bO_pure, DL.dVar, DL.dC, DL.dOp, DL.dCB, DL.dCall, DL.aCons, DL.aNil, DL.dB, DL.bAnd, DL.bOr, DL.bNot, DL.dAnd, DL.dOr, DL.dNot, DL.dNeg, DL.dChain, DL.dIsi, DL.dIsi2, DL.tyD, DL.Ty.isa, DL.dSlice, DL.pNone, DL.pSome, DL.dTup, DL.dOf, DL.fLst, DL.fComp, DL.fItems, DL.wipeS, DL.iSeq, DL.iR1, DL.iR2, DL.iZip, DL.itemsD, DL.xVal, DL.xNil, DL.dIf, DL.gN, DL.gT, DL.gsN, DL.gsC, DL.aStar, DL.M.pure_bind, DL.M.lift_some, DL.toB_bl, DL.toI_int, DL.ltD_int, DL.leD_int, DL.gtD_int, DL.geD_int, DL.subD_int, DL.addD_int, DL.negD_int, DL.maxD_int, DL.eqD_int, DL.neD_int, DL.eqD_tN, DL.neD_tN, DL.neD_tN0, DL.inD_tN, DL.slD_tN, DL.lenD_tN, DL.fits_map, DL.fits_nil, List.map_cons, List.map_nil, List.replicate, List.cons_append, List.nil_append, Nat.sub_zero, Nat.reduceSub, List.getElem?_cons_zero, List.getElem?_cons_succ, List.length_cons, List.length_nil, Nat.zero_add, Nat.reduceAdd, if_true, List.set_cons_zero, List.set_cons_succ, Option.bind_some, M.bind_assoc]
  rw [M.bind_ok hz]
  simp (implicitDefEqProofs := false) only [DL.sSeq, DL.seqO, DL.sIf, DL.sRet, DL.sSet, DL.sExpr, DL.sNo, DL.sNil, DL.sMany, DL.setS, DL.sAsg, DL.bO_pure, DL.dVar, DL.dC, DL.dOp, DL.dCB, DL.dCall, DL.aCons, DL.aNil, DL.dB, DL.bAnd, DL.bOr, DL.bNot, DL.dAnd, DL.dOr, DL.dNot, DL.dNeg, DL.dChain, DL.dIsi, DL.dIsi2, DL.tyD, DL.Ty.isa, DL.dSlice, DL.pNone, DL.pSome, DL.dTup, DL.dOf, DL.fLst, DL.fComp, DL.fItems, DL.wipeS, DL.iSeq, DL.iR1, DL.iR2, DL.iZip, DL.itemsD, DL.xVal, DL.xNil, DL.dIf, DL.gN, DL.gT, DL.gsN, DL.gsC, DL.aStar, DL.M.pure_bind, DL.M.lift_some, DL.toB_bl, DL.toI_int, DL.ltD_int, DL.leD_int, DL.gtD_int, DL.geD_int, DL.subD_int, DL.addD_int, DL.negD_int, DL.maxD_int, DL.eqD_int, DL.neD_int, DL.eqD_tN, DL.neD_tN, DL.neD_tN0, DL.inD_tN, DL.slD_tN, DL.lenD_tN, DL.fits_map, DL.fits_nil, List.map_cons, List.map_nil, List.replicate, List.cons_append, List.nil_append, Nat.sub_zero, Nat.reduceSub, List.getElem?_cons_zero, List.getElem?_cons_succ, List.length_cons, List.length_nil, Nat.zero_add, Nat.reduceAdd, if_true, List.set_cons_zero, List.set_cons_succ, Option.bind_some, hb]
  rfl
end K39
end

section
set_option Elab.async false
set_option maxRecDepth 100000
open PySem PySem.Spec PyProof.Rows L2 DL
open PySem PySem.W PyProof.Rows
set_option maxHeartbeats 0 in
theorem PySem.Challenge.cw_jumpfingers_k39_whole_lassos_counted_at_holds : PySem.Challenge.rw_jumpfingers_k39_whole_lassos_counted_at.Holds := by
  w_on; o_law; k_head; (case hw => w_witness2)
  k_fill
  refine DL.walk_ofX (l := PySem.Challenge.rw_jumpfingers_k39_whole_lassos_counted_at) (n := 63) (k := 12) (good := DL.lawGood K39.f_law K39.b_law 20) rfl (by decide) rfl ⟨rfl, by decide, by decide⟩ (fun w h Y => PySem.W.kIn_of Y) ?F (fun a hl _ => K39.law_true a hl)
  case F =>
    intro w mg fa h KX G XP hmg
    refine' K39.all_mk KX G hmg ?n_is_number ?l_is_number ?c_is_number ?k_is_number ?n_tuple_of ?l_tuple_of ?c_tuple_of ?k_tuple_of ?n_is_tuple_of ?l_is_tuple_of ?c_is_tuple_of ?k_is_tuple_of ?n_is_letter ?l_is_letter ?c_is_letter ?k_is_letter ?n_is_text ?l_is_text ?c_is_text ?k_is_text ?n_is_letters ?l_is_letters ?c_is_letters ?k_is_letters ?n_sure_wide_of ?l_sure_wide_of ?c_sure_wide_of ?k_sure_wide_of ?n_is_lasso_form ?l_is_lasso_form ?c_is_lasso_form ?k_is_lasso_form ?n_sure_lasso ?l_sure_lasso ?c_sure_lasso ?k_sure_lasso ?n_sure_many ?l_sure_many ?c_sure_many ?k_sure_many ?n_shortest_round ?l_shortest_round ?c_shortest_round ?k_shortest_round ?n_short_in ?l_short_in ?c_short_in ?k_short_in ?n_lasso_short ?l_lasso_short ?c_lasso_short ?k_lasso_short ?n_is_short ?l_is_short ?c_is_short ?k_is_short ?n_same_endless ?l_same_endless ?c_same_endless ?k_same_endless ?n_entry_at ?l_entry_at ?c_entry_at ?k_entry_at ?n_sure_spot ?l_sure_spot ?c_sure_spot ?k_sure_spot ?n_letter_at ?l_letter_at ?c_letter_at ?k_letter_at ?n_first_letters ?l_first_letters ?c_first_letters ?k_first_letters ?n_beginning ?l_beginning ?c_beginning ?k_beginning ?n_moved_on ?l_moved_on ?c_moved_on ?k_moved_on ?n_put_ahead ?l_put_ahead ?c_put_ahead ?k_put_ahead ?n_first_apart ?l_first_apart ?c_first_apart ?k_first_apart ?n_endless_letters ?l_endless_letters ?c_endless_letters ?k_endless_letters ?n_sure_letters ?l_sure_letters ?c_sure_letters ?k_sure_letters ?n_count_in ?l_count_in ?c_count_in ?k_count_in ?n_how_often_to ?l_how_often_to ?c_how_often_to ?k_how_often_to ?n_next_with ?l_next_with ?c_next_with ?k_next_with ?n_law_box ?l_law_box ?c_law_box ?k_law_box ?n_law_take ?l_law_take ?c_law_take ?k_law_take ?n_law_cells ?l_law_cells ?c_law_cells ?k_law_cells ?n_law_same ?l_law_same ?c_law_same ?k_law_same ?n_law_lists ?l_law_lists ?c_law_lists ?k_law_lists ?n_law_of ?l_law_of ?c_law_of ?k_law_of ?n_law_gap_subsets ?l_law_gap_subsets ?c_law_gap_subsets ?k_law_gap_subsets ?n_law_row ?l_law_row ?c_law_row ?k_law_row ?n_law_lasso ?l_law_lasso ?c_law_lasso ?k_law_lasso ?n_law_sets ?l_law_sets ?c_law_sets ?k_law_sets ?n_law ?l_law ?c_law ?k_law ?z_isinstance ?z_bool ?z_int ?z_list ?z_tuple ?z_len ?z_all ?z_zip ?z_range ?z_max ?z_sorted ?z_set ?z_abs ?z_enumerate ?z_str ?v_MOST_WIDE ?x_MOST_PLACE ?v_MOST_BEGINNING
    (case n_is_number => k_is); (case l_is_number => k_is); (case c_is_number => k_is); (case k_is_number => k_is); (case n_tuple_of => k_is); (case l_tuple_of => k_is); (case c_tuple_of => k_is); (case k_tuple_of => k_is); (case n_is_tuple_of => k_is); (case l_is_tuple_of => k_is); (case c_is_tuple_of => k_is); (case k_is_tuple_of => k_is); (case n_is_letter => k_is); (case l_is_letter => k_is); (case c_is_letter => k_is); (case k_is_letter => k_is); (case n_is_text => k_is); (case l_is_text => k_is); (case c_is_text => k_is); (case k_is_text => k_is); (case n_is_letters => k_is); (case l_is_letters => k_is); (case c_is_letters => k_is); (case k_is_letters => k_is); (case n_sure_wide_of => k_is); (case l_sure_wide_of => k_is); (case c_sure_wide_of => k_is); (case k_sure_wide_of => k_is); (case n_is_lasso_form => k_is); (case l_is_lasso_form => k_is); (case c_is_lasso_form => k_is); (case k_is_lasso_form => k_is); (case n_sure_lasso => k_is); (case l_sure_lasso => k_is); (case c_sure_lasso => k_is); (case k_sure_lasso => k_is); (case n_sure_many => k_is); (case l_sure_many => k_is); (case c_sure_many => k_is); (case k_sure_many => k_is); (case n_shortest_round => k_is); (case l_shortest_round => k_is); (case c_shortest_round => k_is); (case k_shortest_round => k_is); (case n_short_in => k_is); (case l_short_in => k_is); (case c_short_in => k_is); (case k_short_in => k_is); (case n_lasso_short => k_is); (case l_lasso_short => k_is); (case c_lasso_short => k_is); (case k_lasso_short => k_is); (case n_is_short => k_is); (case l_is_short => k_is); (case c_is_short => k_is); (case k_is_short => k_is); (case n_same_endless => k_is); (case l_same_endless => k_is); (case c_same_endless => k_is); (case k_same_endless => k_is); (case n_entry_at => k_is); (case l_entry_at => k_is); (case c_entry_at => k_is); (case k_entry_at => k_is); (case n_sure_spot => k_is); (case l_sure_spot => k_is); (case c_sure_spot => k_is); (case k_sure_spot => k_is); (case n_letter_at => k_is); (case l_letter_at => k_is); (case c_letter_at => k_is); (case k_letter_at => k_is); (case n_first_letters => k_is); (case l_first_letters => k_is); (case c_first_letters => k_is); (case k_first_letters => k_is); (case n_beginning => k_is); (case l_beginning => k_is); (case c_beginning => k_is); (case k_beginning => k_is); (case n_moved_on => k_is); (case l_moved_on => k_is); (case c_moved_on => k_is); (case k_moved_on => k_is); (case n_put_ahead => k_is); (case l_put_ahead => k_is); (case c_put_ahead => k_is); (case k_put_ahead => k_is); (case n_first_apart => k_is); (case l_first_apart => k_is); (case c_first_apart => k_is); (case k_first_apart => k_is); (case n_endless_letters => k_is); (case l_endless_letters => k_is); (case c_endless_letters => k_is); (case k_endless_letters => k_is); (case n_sure_letters => k_is); (case l_sure_letters => k_is); (case c_sure_letters => k_is); (case k_sure_letters => k_is); (case n_count_in => k_is); (case l_count_in => k_is); (case c_count_in => k_is); (case k_count_in => k_is); (case n_how_often_to => k_is); (case l_how_often_to => k_is); (case c_how_often_to => k_is); (case k_how_often_to => k_is); (case n_next_with => k_is); (case l_next_with => k_is); (case c_next_with => k_is); (case k_next_with => k_is); (case n_law_box => k_is); (case l_law_box => k_is); (case c_law_box => k_is); (case k_law_box => k_is); (case n_law_take => k_is); (case l_law_take => k_is); (case c_law_take => k_is); (case k_law_take => k_is); (case n_law_cells => k_is); (case l_law_cells => k_is); (case c_law_cells => k_is); (case k_law_cells => k_is); (case n_law_same => k_is); (case l_law_same => k_is); (case c_law_same => k_is); (case k_law_same => k_is); (case n_law_lists => k_is); (case l_law_lists => k_is); (case c_law_lists => k_is); (case k_law_lists => k_is); (case n_law_of => k_is); (case l_law_of => k_is); (case c_law_of => k_is); (case k_law_of => k_is); (case n_law_gap_subsets => k_is); (case l_law_gap_subsets => k_is); (case c_law_gap_subsets => k_is); (case k_law_gap_subsets => k_is); (case n_law_row => k_is); (case l_law_row => k_is); (case c_law_row => k_is); (case k_law_row => k_is); (case n_law_lasso => k_is); (case l_law_lasso => k_is); (case c_law_lasso => k_is); (case k_law_lasso => k_is); (case n_law_sets => k_is); (case l_law_sets => k_is); (case c_law_sets => k_is); (case k_law_sets => k_is); (case n_law => k_is); (case l_law => k_is); (case c_law => k_is); (case k_law => k_is); (case z_isinstance => k_is); (case z_bool => k_is); (case z_int => k_is); (case z_list => k_is); (case z_tuple => k_is); (case z_len => k_is); (case z_all => k_is); (case z_zip => k_is); (case z_range => k_is); (case z_max => k_is); (case z_sorted => k_is); (case z_set => k_is); (case z_abs => k_is); (case z_enumerate => k_is); (case z_str => k_is); (case v_MOST_WIDE => k_is); (case v_MOST_BEGINNING => k_is)
    (case x_MOST_PLACE => exact DL.globIs_loose XP (by repeat (first | exact List.mem_cons_self .. | apply List.mem_cons_of_mem)))
end
