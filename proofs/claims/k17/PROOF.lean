import PyProof.Rows.All
import Wide.All
import OpenK.AllK
import Wide.FinOn
import KE.KLam
import HandS.ForMost
import HandS.ForExc
import HandS.Lambda
import HandS.ExcCtx
import HandS.TupAny
import HandS.TupLe
import HandS.TupMul
import HandS.IsInst
import HandS.Wide
import HandS.Replace
import PyProof.ListStr
import HandS.More
import PyProof.StrBlock2
import PyProof.Rows.IntBool
import HandS.Zip
import HandS.Style
import HandS.Ends
import HandS.Head2
import HandS.HeadEnd
import HandS.HeadHook1
import HandS.HeadWalk
import PyProof.Rows.SeqMore
import HandS.Hot
import HandS.HotCalls
import HandS.ExcIs
import KE.KExcIs
import HandS.ExcValue
import HandS.EndTab
import HandS.HeadHook4
import HandS.NestedK
import KE.GoesEnum
import KE.KExcSuper
import HandS.ExcInit
import KE.DataMinMax
import KE.DataCmp
import HandS.DictComp
import HandS.SetFor
import HandS.Strs
import HandS.FStr
import HandS.StrMore
import HandS.ExcField
import HandS.Codes
import PySem.Challenge.RW_tripallowances_k17_rules_written_and_rea
set_option Elab.async false
set_option linter.all false
set_option maxRecDepth 100000
set_option autoImplicit false
/-! The data layer, part a: values as trees over the abstract heap. -/
namespace DL
open PySem PySem.Spec PyProof.Rows L2

/-! ### representation -/
/-- the frozen view: what tree stands at an address that nobody changes any more -/
abbrev Fv := Addr → Option PyData
def Rep (F : Fv) (v : V) : PyData → Prop
  | .none => v = .non
  | .bool b => v = .bl b
  | .int i => v = .int i
  | .str x => v = .str x
  | .list ds => ∃ a, v = .ref a ∧ F a = some (.list ds)
  | .tuple ds => ∃ a, v = .ref a ∧ F a = some (.tuple ds)
  | .dict kvs => ∃ a, v = .ref a ∧ F a = some (.dict kvs)
abbrev Reps (F : Fv) : List V → List PyData → Prop := Paired (Rep F)
def keyD : Key → PyData
  | .inl i => .int i
  | .inr x => .str x
abbrev KRep (F : Fv) : List (Key × V) → List (PyData × PyData) → Prop := Paired fun p q => q.1 = keyD p.1 ∧ Rep F p.2 q.2
abbrev TRep (F : Fv) : List (List Key × V) → List (PyData × PyData) → Prop := Paired fun p q => q.1 = .tuple (p.1.map keyD) ∧ Rep F p.2 q.2
def HoRep (F : Fv) : HO → PyData → Prop
  | .lst vs, .list ds => Reps F vs ds
  | .tup vs, .tuple ds => Reps F vs ds
  | .dK ks, .dict kvs => KRep F ks kvs
  | .dT ks, .dict ((.none, .none) :: kvs) => TRep F ks kvs
  | _, _ => False
def Fle (F F' : Fv) : Prop := ∀ a d, F a = some d → F' a = some d
theorem Fle.refl (F : Fv) : Fle F F := fun _ _ h => h
theorem Fle.trans {F F1 F2 : Fv} (a : Fle F F1) (b : Fle F1 F2) : Fle F F2 := fun x d h => b x d (a x d h)
theorem Fle.none {F F1 : Fv} (a : Fle F F1) {b : Addr} (h : F1 b = none) : F b = none := by
  cases e : F b with
  | none => rfl
  | some d => rw [a b d e] at h; cases h
theorem Rep.mono {F F' : Fv} (h : Fle F F') {v : V} : ∀ {d : PyData}, Rep F v d → Rep F' v d
  | .none, q => q
  | .bool _, q => q
  | .int _, q => q
  | .str _, q => q
  | .list _, ⟨a, e, q⟩ => ⟨a, e, h _ _ q⟩
  | .tuple _, ⟨a, e, q⟩ => ⟨a, e, h _ _ q⟩
  | .dict _, ⟨a, e, q⟩ => ⟨a, e, h _ _ q⟩
theorem Reps.mono {F F' : Fv} (h : Fle F F') {vs : List V} {ds : List PyData} (q : Reps F vs ds) : Reps F' vs ds := Paired.mono (fun _ _ z => z.mono h) q
theorem HoRep.mono {F F' : Fv} (h : Fle F F') {o : HO} {d : PyData} (q : HoRep F o d) : HoRep F' o d := by
  unfold HoRep at q ⊢
  split at q
  · exact Reps.mono h q
  · exact Reps.mono h q
  · exact Paired.mono (fun _ _ z => ⟨z.1, z.2.mono h⟩) q
  · exact Paired.mono (fun _ _ z => ⟨z.1, z.2.mono h⟩) q
  · exact q.elim
def fput (F : Fv) (a : Addr) (d : PyData) : Fv := fun b => if b = a then some d else F b
theorem fput_same {F : Fv} {a : Addr} {d : PyData} : fput F a d a = some d := if_pos rfl
theorem fput_ne {F : Fv} {a b : Addr} {d : PyData} (h : b ≠ a) : fput F a d b = F b := if_neg h
theorem fput_le {F : Fv} {a : Addr} {d : PyData} (h : F a = none) : Fle F (fput F a d) := fun b e q => by
  rw [fput_ne (fun z => by rw [z, h] at q; cases q)]
  exact q
/-- a tree that stands at an address: a reference to it -/
theorem rep_ref {F : Fv} {a : Addr} {o : HO} {d : PyData} (h : HoRep F o d) (e : F a = some d) : Rep F (.ref a) d := by
  unfold HoRep at h
  split at h
  · exact ⟨a, rfl, e⟩
  · exact ⟨a, rfl, e⟩
  · exact ⟨a, rfl, e⟩
  · exact ⟨a, rfl, e⟩
  · exact h.elim
theorem horep_nt {F : Fv} {o : HO} {d : PyData} (h : HoRep F o d) : ∀ ps, o ≠ .tbl ps := fun ps z => by
  subst z
  unfold HoRep at h
  exact h
/-- read: it is so, or it is so and locked -/
def IsDk : HO → Prop
  | .dK _ => True
  | .dT _ => True
  | _ => False
def RdM (H : Hp) (a : Addr) (o : HO) : Prop := H a = some o ∨ (IsDk o ∧ ∃ ob, H a = some (.frz ob o))
theorem RdM.lst {H : Hp} {a : Addr} {vs : List V} (r : RdM H a (.lst vs)) : H a = some (.lst vs) := r.elim id fun ⟨h, _⟩ => h.elim
theorem RdM.rd {H : Hp} {a : Addr} {o : HO} (r : RdM H a o) : Rd H a o := r.elim .inl fun ⟨_, ob, e⟩ => .inr ⟨ob, e⟩
theorem RdM.tup {H : Hp} {a : Addr} {vs : List V} (r : RdM H a (.tup vs)) : H a = some (.tup vs) := r.elim id fun ⟨h, _⟩ => h.elim
theorem RdM.keep {H H' : Hp} {a : Addr} {o : HO} (r : RdM H a o) (k : ∀ u, H a = some u → H' a = some u) : RdM H' a o := r.elim (fun e => .inl (k _ e)) fun ⟨mu, ob, e⟩ => .inr ⟨mu, ob, k _ e⟩
def View (F : Fv) (H : Hp) : Prop := ∀ a d, F a = some d → ∃ o, RdM H a o ∧ HoRep F o d
theorem View.none {F : Fv} {H : Hp} (w : View F H) {p : Addr} (h : H p = none) : F p = none := by
  cases e : F p with
  | none => rfl
  | some d =>
    obtain ⟨o, r, _⟩ := w p d e
    rcases r with r | ⟨_, _, r⟩ <;> rw [h] at r <;> cases r

/-! ### the environment -/
inductive Sl where
  | no
  | fz (d : PyData)
  | ow (d : PyData)
  | io (ds : List PyData)
  | fn (x : Str)
  | sc (ns : List Int)
  | ptr (a : Addr)
abbrev Ev := List Sl
structure Md where
  K : PySem.W.Frag
  mg : Str → Option Value
  T : List (Addr × Str)
structure Gc where
  H0 : Hp
  F0 : Fv
  io : Option Addr
  L : List (Addr × Obj × HO)
/-- a list or a dict -/
def Ldk : HO → Prop
  | .lst _ => True
  | .dK _ => True
  | .dT _ => True
  | _ => False
theorem Ldk.mut {o : HO} (h : Ldk o) : Mut (some o) := by cases o <;> first | trivial | exact h.elim
def OwnAt (F : Fv) (H : Hp) (a : Addr) (d : PyData) : Prop := F a = none ∧ ∃ o, H a = some o ∧ Ldk o ∧ HoRep F o d
def SlotOk (m : Md) (g : Gc) (F : Fv) (H : Hp) (v : Option V) : Sl → Prop
  | .no => True
  | .fz d => ∃ x, v = some x ∧ Rep F x d
  | .ow d => ∃ a, v = some (.ref a) ∧ OwnAt F H a d ∧ g.H0 a = none
  | .io ds => ∃ a ws, v = some (.ref a) ∧ g.io = some a ∧ F a = none ∧ H a = some (.lst ws) ∧ Reps F ws ds
  | .fn x => ∃ a, v = some (.ref a) ∧ m.mg x = some (.ref a)
  | .ptr a => v = some (.ref a)
  | .sc ns => ∃ a, v = some (.ref a) ∧ ((∃ ob, H a = some (.frz ob (.lst (ns.map V.int)))) ∨ ∃ (o : Obj) (its : Array Value) (n : Nat), m.K.lookup a = some o ∧ o.cls = .type "list" ∧ o.dict = none ∧ o.data = .seq its n ∧ its.size ≤ sizeLine ∧ Vals (ns.map V.int) its.toList)
def OwnA (σ : L2.St) (env : Ev) (i : Nat) (a : Addr) : Prop := σ[i]? = some (some (.ref a)) ∧ ((∃ d, env[i]? = some (.ow d)) ∨ ∃ ds, env[i]? = some (.io ds))
/-- what stood is as it stood: but io, but the tables of code objects, but what is locked -/
def Frm (H : Hp) (io : Option Addr) (L : List (Addr × Obj × HO)) (H' : Hp) : Prop := ∀ b o, H b = some o → io ≠ some b → (∀ ps, o ≠ .tbl ps) → b ∉ L.map (·.1) → H' b = some o
/-- nothing that changes stands there -/
def Unm (H : Hp) (b : Addr) : Prop := ∀ o, H b = some o → Mut (some o) → False
theorem Unm.none {H : Hp} {b : Addr} (h : H b = none) : Unm H b := fun o e => by rw [h] at e; cases e
structure SR (m : Md) (g : Gc) (F : Fv) (H : Hp) (σ : L2.St) (env : Ev) : Prop where
  view : View F H
  ext : Fle g.F0 F
  new : ∀ b, F b ≠ none → g.F0 b ≠ none ∨ Unm g.H0 b
  frame : Frm g.H0 g.io g.L H
  locks : ∀ p ∈ g.L, H p.1 = some (.frz p.2.1 p.2.2) ∧ (∀ o, g.H0 p.1 = some o → o = p.2.2) ∧ F p.1 ≠ none
  ioL : ∀ a, g.io = some a → g.H0 a ≠ none ∧ ∃ ws, H a = some (.lst ws)
  dom : ∀ b, H b = none → g.H0 b = none
  tabs : LamX.Tabs m.T H
  len : σ.length = env.length
  slot : ∀ (i : Nat) (sl : Sl), env[i]? = some sl → ∃ v : Option V, σ[i]? = some v ∧ SlotOk m g F H v sl
  dist : ∀ (i j : Nat) (a : Addr), OwnA σ env i a → OwnA σ env j a → i = j

theorem mut_nt {o : HO} (h : Mut (some o)) : ∀ ps, o ≠ .tbl ps := fun ps z => by subst z; exact h
theorem SlotOk.mono {m : Md} {g : Gc} {F F' : Fv} {H H' : Hp} {v : Option V} (h : Fle F F') (kH : ∀ a o, v = some (.ref a) → (∀ ps, o ≠ .tbl ps) → H a = some o → H' a = some o) (kF : ∀ a, v = some (.ref a) → F a = none → ∀ o, Mut (some o) → H a = some o → F' a = none) : ∀ {sl : Sl}, SlotOk m g F H v sl → SlotOk m g F' H' v sl
  | .no, q => q
  | .fz d, ⟨x, e, q⟩ => ⟨x, e, q.mono h⟩
  | .ow d, ⟨a, e, ⟨f, o, ho, mu, r⟩, n⟩ => ⟨a, e, ⟨kF a e f o mu.mut ho, o, kH a o e (mut_nt mu.mut) ho, mu, r.mono h⟩, n⟩
  | .io ds, ⟨a, ws, e, i, f, ho, r⟩ => ⟨a, ws, e, i, kF a e f (.lst ws) trivial ho, kH a _ e (fun _ z => nomatch z) ho, Reps.mono h r⟩
  | .fn x, q => q
  | .ptr a, q => q
  | .sc ns, ⟨a, e, q⟩ => ⟨a, e, by
    rcases q with ⟨ob, q⟩ | q
    · exact .inl ⟨ob, kH a _ e (fun _ z => nomatch z) q⟩
    · exact .inr q⟩
/-- the mutable part of a slot -/
theorem SR.own {m : Md} {g : Gc} {F : Fv} {H : Hp} {σ : L2.St} {env : Ev} (S : SR m g F H σ env) {i : Nat} {a : Addr} (h : OwnA σ env i a) : F a = none ∧ ∃ o, H a = some o ∧ Ldk o := by
  obtain ⟨hs, ⟨d, e⟩ | ⟨ds, e⟩⟩ := h
  · obtain ⟨v, e1, a', e2, ⟨f, o, ho, mu, _⟩, _⟩ := S.slot i _ e
    rw [hs] at e1; cases e1; cases e2
    exact ⟨f, o, ho, mu⟩
  · obtain ⟨v, e1, a', ws, e2, _, f, ho, _⟩ := S.slot i _ e
    rw [hs] at e1; cases e1; cases e2
    exact ⟨f, _, ho, trivial⟩
/-- a value as an expression hands it on: frozen, or a fresh list or dict that nobody else holds -/
def VOk (g : Gc) (F : Fv) (H : Hp) (σ : L2.St) (env : Ev) (own : Bool) (d : PyData) (v : V) : Prop :=
  match own with
  | false => Rep F v d
  | true => ∃ a, v = .ref a ∧ OwnAt F H a d ∧ g.H0 a = none ∧ ∀ i, ¬ OwnA σ env i a

section
variable {m : Md} {g : Gc} {F F' : Fv} {H H' : Hp} {σ : L2.St} {env : Ev}
theorem SR.unm (S : SR m g F H σ env) {b : Addr} (hf : F b = none) (z : Unm H b) : Unm g.H0 b := fun o e mu => by
  by_cases hl : b ∈ g.L.map (·.1)
  · obtain ⟨p, hp, e⟩ := List.mem_map.mp hl
    exact (S.locks p hp).2.2 (by rw [e]; exact hf)
  · by_cases hi : g.io = some b
    · obtain ⟨_, ws, h⟩ := S.ioL b hi
      exact z _ h trivial
    · exact z o (S.frame b o e hi (mut_nt mu) hl) mu
/-- more is frozen -/
theorem SR.freeze {a : Addr} {d : PyData} {o : HO} (S : SR m g F H σ env) (hf : F a = none) (ho : H a = some o) (hr : HoRep F o d) (hn : g.H0 a = none) (hx : ∀ i, ¬ OwnA σ env i a) : SR m g (fput F a d) H σ env ∧ Rep (fput F a d) (.ref a) d := by
  have le := fput_le (F := F) (a := a) (d := d) hf
  refine ⟨⟨fun b e q => ?_, S.ext.trans le, fun b q => ?_, S.frame, fun p hp => ⟨(S.locks p hp).1, (S.locks p hp).2.1, fun z => (S.locks p hp).2.2 (le.none z)⟩, S.ioL, S.dom, S.tabs, S.len, fun i sl e => ?_, S.dist⟩, rep_ref (hr.mono le) fput_same⟩
  · by_cases hb : b = a
    · subst hb
      rw [fput_same] at q; cases q
      exact ⟨o, .inl ho, hr.mono le⟩
    · rw [fput_ne hb] at q
      obtain ⟨o', r, z⟩ := S.view b e q
      exact ⟨o', r, z.mono le⟩
  · by_cases hb : b = a
    · subst hb
      exact .inr (.none hn)
    · rw [fput_ne hb] at q
      exact S.new b q
  · obtain ⟨v, e1, z⟩ := S.slot i sl e
    refine ⟨v, e1, ?_⟩
    cases sl with
    | no => trivial
    | fz d' => obtain ⟨x, e2, q⟩ := z; exact ⟨x, e2, q.mono le⟩
    | fn x => exact z
    | ptr a => exact z
    | sc ns => exact z
    | ow d' =>
      obtain ⟨a', e2, ⟨f, o', h1, mu, r⟩, n⟩ := z
      have na : a' ≠ a := fun z => hx i ⟨by rw [e1, e2, z], .inl ⟨d', e⟩⟩
      exact ⟨a', e2, ⟨by rw [fput_ne na]; exact f, o', h1, mu, r.mono le⟩, n⟩
    | io ds =>
      obtain ⟨a', ws, e2, hi, f, h1, r⟩ := z
      have na : a' ≠ a := fun z => hx i ⟨by rw [e1, e2, z], .inr ⟨ds, e⟩⟩
      exact ⟨a', ws, e2, hi, by rw [fput_ne na]; exact f, h1, Reps.mono le r⟩
/-- a tuple that stands is frozen, too -/
theorem SR.freezeT {a : Addr} {d : PyData} {xs : List V} (S : SR m g F H σ env) (hf : F a = none) (ho : H a = some (.tup xs)) (hr : HoRep F (.tup xs) d) : SR m g (fput F a d) H σ env ∧ Rep (fput F a d) (.ref a) d := by
  have le := fput_le (F := F) (a := a) (d := d) hf
  refine ⟨⟨fun b e q => ?_, S.ext.trans le, fun b q => ?_, S.frame, fun p hp => ⟨(S.locks p hp).1, (S.locks p hp).2.1, fun z => (S.locks p hp).2.2 (le.none z)⟩, S.ioL, S.dom, S.tabs, S.len, fun i sl e => ?_, S.dist⟩, rep_ref (hr.mono le) fput_same⟩
  · by_cases hb : b = a
    · subst hb
      rw [fput_same] at q; cases q
      exact ⟨_, .inl ho, hr.mono le⟩
    · rw [fput_ne hb] at q
      obtain ⟨o', r, z⟩ := S.view b e q
      exact ⟨o', r, z.mono le⟩
  · by_cases hb : b = a
    · subst hb
      exact .inr (S.unm hf fun o e mu => by rw [ho] at e; cases e; exact mu)
    · rw [fput_ne hb] at q
      exact S.new b q
  · obtain ⟨v, e1, z⟩ := S.slot i sl e
    exact ⟨v, e1, z.mono le (fun _ _ _ _ h => h) fun b _ f o mu hb => by
      have nb : b ≠ a := fun z => by
        rw [z, ho] at hb
        cases hb
        exact mu
      rw [fput_ne nb]
      exact f⟩
/-- a value is taken as frozen -/
theorem VOk.frozen {own : Bool} {d : PyData} {v : V} (S : SR m g F H σ env) (h : VOk g F H σ env own d v) : ∃ F', Fle F F' ∧ SR m g F' H σ env ∧ Rep F' v d := by
  cases own with
  | false => exact ⟨F, .refl F, S, h⟩
  | true =>
    obtain ⟨a, rfl, ⟨f, o, ho, mu, r⟩, n, x⟩ := h
    obtain ⟨S', r'⟩ := S.freeze f ho r n x
    exact ⟨_, fput_le f, S', r'⟩
/-- the slots other than i are told anew -/
theorem own_set_no {i j : Nat} {a : Addr} {sl : Sl} (hsl : ∀ d, sl ≠ .ow d) (hsl2 : ∀ ds, sl ≠ .io ds) (h : OwnA σ (env.set i sl) j a) : OwnA σ env j a := by
  obtain ⟨hs, h⟩ := h
  refine ⟨hs, ?_⟩
  have key : ∀ s', (env.set i sl)[j]? = some s' → s' ≠ sl → env[j]? = some s' := fun s' e ne => by
    by_cases hj : i = j
    · subst hj
      by_cases hl : i < env.length
      · rw [List.getElem?_set_self hl] at e
        exact absurd (Option.some.inj e).symm ne
      · rw [List.getElem?_eq_none (by simpa using hl)] at e
        cases e
    · rw [List.getElem?_set_ne hj] at e
      exact e
  rcases h with ⟨d, e⟩ | ⟨ds, e⟩
  · exact .inl ⟨d, key _ e fun z => hsl d z.symm⟩
  · exact .inr ⟨ds, key _ e fun z => hsl2 ds z.symm⟩
/-- an own slot becomes a frozen one -/
theorem SR.freezeAt {i : Nat} {d : PyData} (S : SR m g F H σ env) (e : env[i]? = some (.ow d)) : ∃ a F', σ[i]? = some (some (.ref a)) ∧ Fle F F' ∧ SR m g F' H σ (env.set i (.fz d)) ∧ Rep F' (.ref a) d := by
  obtain ⟨v, e1, a, rfl, ⟨f, o, ho, mu, r⟩, n⟩ := S.slot i _ e
  have hil : i < env.length := (List.getElem?_eq_some_iff.mp e).1
  have S1 : SR m g F H σ (env.set i .no) := by
    refine ⟨S.view, S.ext, S.new, S.frame, S.locks, S.ioL, S.dom, S.tabs, by simpa using S.len, fun j sl ej => ?_, fun j k b hj hk => S.dist j k b (own_set_no (by intro _ z; cases z) (by intro _ z; cases z) hj) (own_set_no (by intro _ z; cases z) (by intro _ z; cases z) hk)⟩
    by_cases hj : i = j
    · subst hj
      rw [List.getElem?_set_self hil] at ej; cases ej
      exact ⟨_, e1, trivial⟩
    · rw [List.getElem?_set_ne hj] at ej
      exact S.slot j sl ej
  have hx : ∀ j, ¬ OwnA σ (env.set i .no) j a := fun j hj => by
    have h2 := own_set_no (by intro _ z; cases z) (by intro _ z; cases z) hj
    have := S.dist j i a h2 ⟨e1, .inl ⟨d, e⟩⟩
    subst this
    obtain ⟨_, ⟨d', z⟩ | ⟨d', z⟩⟩ := hj <;> rw [List.getElem?_set_self hil] at z <;> cases z
  obtain ⟨S2, r2⟩ := S1.freeze f ho r n hx
  refine ⟨a, _, e1, fput_le f, ⟨S2.view, S2.ext, S2.new, S2.frame, S2.locks, S2.ioL, S2.dom, S2.tabs, by simpa using S.len, fun j sl ej => ?_, fun j k b hj hk => S.dist j k b (own_set_no (by intro _ z; cases z) (by intro _ z; cases z) hj) (own_set_no (by intro _ z; cases z) (by intro _ z; cases z) hk)⟩, r2⟩
  by_cases hj : i = j
  · subst hj
    rw [List.getElem?_set_self hil] at ej; cases ej
    exact ⟨_, e1, _, rfl, r2⟩
  · rw [List.getElem?_set_ne hj] at ej
    exact S2.slot j sl (by rw [List.getElem?_set_ne hj]; exact ej)
/-- a new object -/
theorem SR.alloc {p : Addr} {o : HO} (S : SR m g F H σ env) (hp : H p = none) : SR m g F (upd H p o) σ env := by
  have keep : ∀ b u, H b = some u → upd H p o b = some u := fun b u e => by rw [upd_ne (ne_of_none e hp)]; exact e
  refine ⟨fun b d q => ?_, S.ext, S.new, fun b u e h1 h2 h3 => keep b u (S.frame b u e h1 h2 h3), fun q hq => ⟨keep _ _ (S.locks q hq).1, (S.locks q hq).2⟩, fun a h => let ⟨n, ws, e⟩ := S.ioL a h; ⟨n, ws, keep _ _ e⟩, fun b e => ?_, S.tabs.ext keep, S.len, fun i sl e => ?_, S.dist⟩
  · obtain ⟨u, r, z⟩ := S.view b d q
    exact ⟨u, r.keep (keep b), z⟩
  · refine S.dom b ?_
    cases q : H b with
    | none => rfl
    | some u => rw [keep b u q] at e; cases e
  · obtain ⟨v, e1, z⟩ := S.slot i sl e
    exact ⟨v, e1, z.mono (.refl F) (fun a u _ _ h => keep a u h) fun a _ f _ _ _ => f⟩
theorem SR.allocOwn {p : Addr} {o : HO} {d : PyData} (S : SR m g F H σ env) (hp : H p = none) (hr : HoRep F o d) (mu : Ldk o) : SR m g F (upd H p o) σ env ∧ VOk g F (upd H p o) σ env true d (.ref p) :=
  ⟨S.alloc hp, p, rfl, ⟨S.view.none hp, o, upd_same, mu, hr⟩, S.dom p hp, fun i hi => by
    obtain ⟨_, o', ho, _⟩ := S.own hi
    rw [hp] at ho; cases ho⟩
theorem SR.allocFz {p : Addr} {o : HO} {d : PyData} (S : SR m g F H σ env) (hp : H p = none) (hr : HoRep F o d) : SR m g (fput F p d) (upd H p o) σ env ∧ Rep (fput F p d) (.ref p) d :=
  (S.alloc hp).freeze (S.view.none hp) upd_same hr (S.dom p hp) fun i hi => by
    obtain ⟨_, o', ho, _⟩ := S.own hi
    rw [hp] at ho; cases ho
/-- a value is stored in the slot i -/
def slOf (own : Bool) (d : PyData) : Sl := if own = true then .ow d else .fz d
theorem SR.store {i : Nat} {own : Bool} {d : PyData} {v : V} (S : SR m g F H σ env) (h : VOk g F H σ env own d v) : SR m g F H (σ.set i (some v)) (env.set i (slOf own d)) := by
  have old : ∀ j b, j ≠ i → OwnA (σ.set i (some v)) (env.set i (slOf own d)) j b → OwnA σ env j b := fun j b hj q => by
    obtain ⟨q1, q2⟩ := q
    rw [List.getElem?_set_ne (Ne.symm hj)] at q1
    rw [List.getElem?_set_ne (Ne.symm hj)] at q2
    exact ⟨q1, q2⟩
  have atI : ∀ b, OwnA (σ.set i (some v)) (env.set i (slOf own d)) i b → own = true ∧ v = .ref b := fun b q => by
    obtain ⟨q1, q2⟩ := q
    have hl : i < env.length := by
      rcases q2 with ⟨_, z⟩ | ⟨_, z⟩
      · have := (List.getElem?_eq_some_iff.mp z).1
        simpa using this
      · have := (List.getElem?_eq_some_iff.mp z).1
        simpa using this
    rw [List.getElem?_set_self (by rw [S.len]; exact hl)] at q1
    rw [List.getElem?_set_self hl] at q2
    refine ⟨?_, Option.some.inj (Option.some.inj q1)⟩
    cases own with
    | true => rfl
    | false => rcases q2 with ⟨_, z⟩ | ⟨_, z⟩ <;> (unfold slOf at z; simp at z)
  refine ⟨S.view, S.ext, S.new, S.frame, S.locks, S.ioL, S.dom, S.tabs, by simpa using S.len, fun j sl e => ?_, fun j k b hj hk => ?_⟩
  · by_cases hj : i = j
    · subst hj
      have hl : i < env.length := by
        have := (List.getElem?_eq_some_iff.mp e).1
        simpa using this
      rw [List.getElem?_set_self hl] at e; cases e
      rw [List.getElem?_set_self (by rw [S.len]; exact hl)]
      refine ⟨_, rfl, ?_⟩
      cases own with
      | false => exact ⟨v, rfl, h⟩
      | true =>
        obtain ⟨a, rfl, oa, n, _⟩ := h
        exact ⟨a, rfl, oa, n⟩
    · rw [List.getElem?_set_ne hj] at e
      rw [List.getElem?_set_ne hj]
      exact S.slot j sl e
  · by_cases h1 : j = i
    · by_cases h2 : k = i
      · rw [h1, h2]
      · subst h1
        obtain ⟨e1, e2⟩ := atI b hj
        subst e1
        obtain ⟨a, e3, _, _, nx⟩ := h
        rw [e2] at e3; cases e3
        exact (nx k (old k b h2 hk)).elim
    · by_cases h2 : k = i
      · subst h2
        obtain ⟨e1, e2⟩ := atI b hk
        subst e1
        obtain ⟨a, e3, _, _, nx⟩ := h
        rw [e2] at e3; cases e3
        exact (nx j (old j b h1 hj)).elim
      · exact S.dist j k b (old j b h1 hj) (old k b h2 hk)
/-- a slot that is told less of -/
theorem SR.forget {env' : Ev} (S : SR m g F H σ env) (hl : env'.length = env.length) (h : ∀ (i : Nat) (sl : Sl), env'[i]? = some sl → sl = .no ∨ env[i]? = some sl) : SR m g F H σ env' := by
  have o : ∀ j b, OwnA σ env' j b → OwnA σ env j b := fun j b ⟨q1, q2⟩ => ⟨q1, by
    rcases q2 with ⟨d, z⟩ | ⟨d, z⟩
    · rcases h j _ z with e | e
      · cases e
      · exact .inl ⟨d, e⟩
    · rcases h j _ z with e | e
      · cases e
      · exact .inr ⟨d, e⟩⟩
  refine ⟨S.view, S.ext, S.new, S.frame, S.locks, S.ioL, S.dom, S.tabs, by rw [S.len, hl], fun i sl e => ?_, fun j k b hj hk => S.dist j k b (o j b hj) (o k b hk)⟩
  rcases h i sl e with rfl | q
  · have hi : i < σ.length := by rw [S.len, ← hl]; exact (List.getElem?_eq_some_iff.mp e).1
    exact ⟨σ[i], List.getElem?_eq_getElem hi, trivial⟩
  · exact S.slot i sl q
end
end DL

/-! The data layer, part b: canonical readings of expressions and tests; operators, calls of built-ins. -/
namespace DL
open PySem PySem.Spec PyProof.Rows L2

/-! ### results -/
structure Ex where
  name : Str
  fld : Option (Str × Int)
abbrev Res (α : Type) := Option (Except Ex (α × Ev))
def rok {α : Type} (a : α) (e : Ev) : Res α := some (.ok (a, e))
def rb {α β : Type} (r : Res α) (f : α → Ev → Res β) : Res β := match r with
  | some (.ok (a, e)) => f a e
  | some (.error x) => some (.error x)
  | none => none
@[simp] theorem rb_ok {α β : Type} (a : α) (e : Ev) (f : α → Ev → Res β) : rb (some (.ok (a, e))) f = f a e := rfl
@[simp] theorem rb_rok {α β : Type} (a : α) (e : Ev) (f : α → Ev → Res β) : rb (rok a e) f = f a e := rfl
@[simp] theorem rb_err {α β : Type} (x : Ex) (f : α → Ev → Res β) : rb (some (.error x)) f = some (.error x) := rfl
@[simp] theorem rb_none {α β : Type} (f : α → Ev → Res β) : rb (none : Res α) f = none := rfl
def lift {α : Type} (o : Option α) (e : Ev) : Res α := match o with
  | some a => some (.ok (a, e))
  | none => none
@[simp] theorem lift_some {α : Type} (a : α) (e : Ev) : lift (some a) e = rok a e := rfl
@[simp] theorem lift_none {α : Type} (e : Ev) : lift (none : Option α) e = none := rfl
def XOk (m : Md) (e : Ex) (cls : Value) (dd : Option Addr) (H' : Hp) : Prop := ∃ C, m.mg e.name = some (.ref C) ∧ cls = .ref C ∧ match e.fld with
  | none => dd = none
  | some (f, i) => ∃ d, dd = some d ∧ H' d = some (.xd [(f, .int i)])
/-- how the heap lies where an exception leaves -/
structure EFr (m : Md) (g : Gc) (H' : Hp) : Prop where
  frame : Frm g.H0 g.io g.L H'
  tabs : LamX.Tabs m.T H'
  dom : ∀ b, H' b = none → g.H0 b = none
def EPost (m : Md) (g : Gc) (E : XK) (e : Ex) : Prop := ∀ cls dd H', EFr m g H' → XOk m e cls dd H' → E cls dd H'
def Post {α : Type} (m : Md) (g : Gc) (E : XK) (r : Res α) (K : α → Ev → Prop) : Prop := match r with
  | none => False
  | some (.ok (a, e)) => K a e
  | some (.error x) => EPost m g E x
section
variable {α β : Type} {m : Md} {g : Gc} {E : XK}
theorem Post.mono {r : Res α} {K K' : α → Ev → Prop} (h : Post m g E r K) (k : ∀ a e, r = some (.ok (a, e)) → K a e → K' a e) : Post m g E r K' := by
  unfold Post at h ⊢
  split at h
  · exact h
  · exact k _ _ rfl h
  · exact h
theorem post_rb {r : Res α} {f : α → Ev → Res β} {K : β → Ev → Prop} (h : Post m g E (rb r f) K) : Post m g E r fun a e => Post m g E (f a e) K := by
  cases r with
  | none => exact h
  | some x => cases x with
    | error e => exact h
    | ok p => exact h
theorem post_lift {o : Option α} {e : Ev} {K : α → Ev → Prop} (h : Post m g E (lift o e) K) : ∃ a, o = some a ∧ K a e := by
  cases o with
  | none => exact h.elim
  | some a => exact ⟨a, rfl, h⟩
end

/-! ### canonical readings -/
abbrev EM := Ev → Res (Bool × PyData)
abbrev TM := Ev → Res Bool
abbrev AM := Ev → Res (List PyData)
section
variable (m : Md) (E : XK)
def dE (f : EM) : TE := fun σ H Q => ∃ g F env, SR m g F H σ env ∧ Post m g E (f env) fun od env' => ∀ v F' H', Fle F F' → SR m g F' H' σ env' → VOk g F' H' σ env' od.1 od.2 v → Q v H'
def dT (f : TM) : TT := fun σ H Q => ∃ g F env, SR m g F H σ env ∧ Post m g E (f env) fun b env' => ∀ F' H', Fle F F' → SR m g F' H' σ env' → Q b H'
def dA (f : AM) : TA := fun σ H Q => ∃ g F env, SR m g F H σ env ∧ Post m g E (f env) fun ds env' => ∀ vs F' H', Fle F F' → SR m g F' H' σ env' → Reps F' vs ds → Q vs H'
end
theorem PE.imp {X : Cx} {e : Expr} {t t' : TE} (h : PE X e t) (k : ∀ σ H Q, t' σ H Q → t σ H Q) : PE X e t' := ⟨fun pins s σ H Q I q => h.run pins s σ H Q I (k σ H Q q)⟩
theorem PT.imp {X : Cx} {e : Expr} {t t' : TT} (h : PT X e t) (k : ∀ σ H Q, t' σ H Q → t σ H Q) : PT X e t' := ⟨fun pins s σ H Q I q => h.run pins s σ H Q I (k σ H Q q)⟩
theorem PW.imp {X : Cx} {e : Expr} {t t' : TT} (h : PW X e t) (k : ∀ σ H Q, t' σ H Q → t σ H Q) : PW X e t' := ⟨fun wh pins s σ H Q I q => h.run wh pins s σ H Q I (k σ H Q q)⟩
theorem PA.imp {X : Cx} {es : List Expr} {t t' : TA} (h : PA X es t) (k : ∀ σ H Q, t' σ H Q → t σ H Q) : PA X es t' := ⟨fun pos pins s σ H Q I q => h.run pos pins s σ H Q I (k σ H Q q)⟩
theorem PS.imp {X : Cx} {st : Stmt} {t t' : TS} (h : PS X st t) (k : ∀ D σ H, t' D σ H → t D σ H) : PS X st t' := ⟨fun pins s σ H D I q => h.run pins s σ H D I (k D σ H q)⟩
theorem PSs.imp {X : Cx} {st : List Stmt} {t t' : TS} (h : PSs X st t) (k : ∀ D σ H, t' D σ H → t D σ H) : PSs X st t' := ⟨fun pins s σ H D I q => h.run pins s σ H D I (k D σ H q)⟩
theorem PE.or {X : Cx} {e : Expr} {t t' : TE} (h : PE X e t) (h' : PE X e t') : PE X e (fun σ H Q => t σ H Q ∨ t' σ H Q) := ⟨fun pins s σ H Q I q => q.elim (h.run pins s σ H Q I) (h'.run pins s σ H Q I)⟩
theorem CallR.or {X : Cx} {f : Value} {r r' : List V → Hp → VK → Prop} (h : CallR X f r) (h' : CallR X f r') : CallR X f (fun xs H Q => r xs H Q ∨ r' xs H Q) := fun pins s σ H xs us Q I rx q => q.elim (h pins s σ H xs us Q I rx) (h' pins s σ H xs us Q I rx)

/-- a value made by an operation: what it is, or a new object -/
def Cont (own : Bool) (F : Fv) (H : Hp) (d : PyData) (Q : VK) : Prop :=
  match own with
  | true => ∀ p o, H p = none → HoRep F o d → Ldk o → Q (.ref p) (upd H p o)
  | false => (∀ v, Rep F v d → Q v H) ∧ ∀ p o, H p = none → HoRep F o d → Q (.ref p) (upd H p o)
section
variable {m : Md} {g : Gc} {E : XK} {F : Fv} {H : Hp} {σ : L2.St} {env : Ev} {Q : VK}
theorem dE_use {f : EM} (S : SR m g F H σ env) (h : Post m g E (f env) fun od env' => ∀ v F' H', Fle F F' → SR m g F' H' σ env' → Rep F' v od.2 → Q v H') : dE m E f σ H Q :=
  ⟨g, F, env, S, h.mono fun od env' _ k v F' H' l S' vo => let ⟨F'', l', S'', r⟩ := vo.frozen S'; k v F'' H' (l.trans l') S'' r⟩
theorem cont_of {own : Bool} {d : PyData} (S : SR m g F H σ env) (k : ∀ v F' H', Fle F F' → SR m g F' H' σ env → VOk g F' H' σ env own d v → Q v H') : Cont own F H d Q := by
  cases own with
  | true => exact fun p o hp hr mu => let ⟨S', v⟩ := S.allocOwn hp hr mu; k _ _ _ (.refl F) S' v
  | false => exact ⟨fun v r => k v F H (.refl F) S r, fun p o hp hr => let ⟨S', r⟩ := S.allocFz hp hr; k _ _ _ (fput_le (S.view.none hp)) S' r⟩
end

/-! ### names, constants -/
def eVar (i : Nat) : EM := fun env => match env[i]? with
  | some (.fz d) => some (.ok ((false, d), env))
  | some (.ow d) => some (.ok ((false, d), env.set i (.fz d)))
  | _ => none
def eC (d : PyData) : EM := fun env => some (.ok ((false, d), env))
section
variable {X : Cx} {m : Md} {E : XK} {pos : Pos}
theorem d_var (i : Nat) {x : Str} (hN : X.N[i]? = some x := by rfl) (hv : Vis X.env.scope x := by first | exact Or.inl rfl | exact Or.inr (Or.inl rfl) | exact Or.inr (Or.inr rfl)) (hd : (x == ("__debug__" : Str)) = false := by decide)
    (hcd : (x == ("__classdict__" : Str)) = false := by decide) : PE X (.Name x pos) (dE m E (eVar i)) := by
  refine PE.imp (pe_var hN hv hd hcd) fun σ H Q ⟨g, F, env, S, P⟩ => ?_
  unfold eVar at P
  split at P
  · rename_i d e
    obtain ⟨v, e1, x, rfl, r⟩ := S.slot i _ e
    exact ⟨x, e1, P _ _ _ (.refl F) S r⟩
  · rename_i d e
    obtain ⟨a, F', e1, l, S', r⟩ := S.freezeAt e
    exact ⟨_, e1, P _ _ _ l S' r⟩
  · exact P.elim
/-- a constant, by its reading -/
theorem d_const {e : Expr} {v : V} {d : PyData} (h : PE X e (tC v)) (r : ∀ F, Rep F v d) : PE X e (dE m E (eC d)) :=
  PE.imp h fun σ H Q ⟨g, F, env, S, P⟩ => P v F H (.refl F) S (r F)
theorem d_int {i j} : PE X (.Constant (.int i) j pos) (dE m E (eC (.int i))) := d_const pe_int fun _ => rfl
theorem d_bl {b j} : PE X (.Constant (.bool b) j pos) (dE m E (eC (.bool b))) := d_const pe_bl fun _ => rfl
theorem d_non {j} : PE X (.Constant .none j pos) (dE m E (eC .none)) := d_const pe_non fun _ => rfl
theorem d_str {x j} : PE X (.Constant (.str x) j pos) (dE m E (eC (.str x))) := d_const pe_str fun _ => rfl
theorem d_gInt {x : Str} {i : Int} {t : Tok} (hg : Gl X x) (hm : X.mg x = some (.int i t)) (hd : (x == ("__debug__" : Str)) = false := by decide) : PE X (.Name x pos) (dE m E (eC (.int i))) := d_const (v := .int i) (pe_glob hg hm ⟨t, rfl⟩ hd) fun _ => rfl
theorem d_gStr {x : Str} {i : Str} {t : Tok} (hg : Gl X x) (hm : X.mg x = some (.str i t)) (hd : (x == ("__debug__" : Str)) = false := by decide) : PE X (.Name x pos) (dE m E (eC (.str i))) := d_const (v := .str i) (pe_glob hg hm ⟨t, rfl⟩ hd) fun _ => rfl
end

/-! ### operations by values -/
abbrev Op2 := PyData → PyData → Option (Bool × PyData)
def eBin (h : Op2) (f k : EM) : EM := fun env => rb (f env) fun a e1 => rb (k e1) fun b e2 => lift (h a.2 b.2) e2
def BinOk (r : R2) (h : Op2) : Prop := ∀ F H x y d1 d2 own d Q, View F H → Rep F x d1 → Rep F y d2 → h d1 d2 = some (own, d) → Cont own F H d Q → r x y H Q
abbrev Op1 := PyData → Option (Bool × PyData)
def eUn (h : Op1) (f : EM) : EM := fun env => rb (f env) fun a e1 => lift (h a.2) e1
abbrev OpN := List PyData → Option (Bool × PyData)
def eB (h : OpN) (f : AM) : EM := fun env => rb (f env) fun a e1 => lift (h a) e1
def CallOk (r : List V → Hp → VK → Prop) (h : OpN) : Prop := ∀ F H xs ds own d Q, View F H → Reps F xs ds → h ds = some (own, d) → Cont own F H d Q → r xs H Q
def aNil : AM := fun env => some (.ok ([], env))
def aCons (f : EM) (k : AM) : AM := fun env => rb (f env) fun a e1 => rb (k e1) fun as e2 => rok (a.2 :: as) e2
section
variable {X : Cx} {m : Md} {E : XK} {pos : Pos} {a b : Expr} {es : List Expr} {f k : EM} {fs : AM}
theorem rd_bin {r : R2} {h : Op2} (hr : BinOk r h) {σ : L2.St} {H : Hp} {Q : VK} (q : dE m E (eBin h f k) σ H Q) : tOp r (dE m E f) (dE m E k) σ H Q := by
  obtain ⟨g, F, env, S, P⟩ := q
  refine dE_use S ((post_rb P).mono fun od1 e1 _ P1 v F1 H1 l1 S1 r1 => ?_)
  refine dE_use S1 ((post_rb P1).mono fun od2 e2 _ P2 w F2 H2 l2 S2 r2 => ?_)
  obtain ⟨⟨own, d⟩, e, P3⟩ := post_lift P2
  exact hr F2 H2 v w _ _ own d Q S2.view (r1.mono l2) r2 e (cont_of S2 fun v F' H' l S' vo => P3 v F' H' ((l1.trans l2).trans l) S' vo)
theorem d_bin {op : Operator} {r : R2} {h : Op2} (ho : OpR X (binaryOp op) r) (hr : BinOk r h) (ha : PE X a (dE m E f)) (hb : PE X b (dE m E k)) : PE X (.BinOp a op b pos) (dE m E (eBin h f k)) :=
  PE.imp (pe_op ho ha hb) fun _ _ _ => rd_bin hr
theorem d_cmp {op : CmpOp} {r : R2} {h : Op2} (ho : OpR X (compareOp op) r) (hr : BinOk r h) (ha : PE X a (dE m E f)) (hb : PE X b (dE m E k)) (hm : behindInMarks op b = false) : PE X (.Compare a [op] [b] pos) (dE m E (eBin h f k)) :=
  PE.imp (pe_cmpR ho ha hb hm) fun _ _ _ => rd_bin hr
theorem d_ix {r : R2} {h : Op2} (ho : IxR X r) (hr : BinOk r h) (ha : PE X a (dE m E f)) (hb : PE X b (dE m E k)) (hs : PlainIx b) : PE X (.Subscript a b pos) (dE m E (eBin h f k)) :=
  PE.imp (pe_ix ho ha hb hs) fun _ _ _ => rd_bin hr
theorem da_nil : PA X [] (dA m E aNil) := PA.imp pa_nil fun σ H Q ⟨g, F, env, S, P⟩ => P [] F H (.refl F) S .nil
theorem da_cons (ha : PE X a (dE m E f)) (hr : PA X es (dA m E fs)) (hs : starEach (a :: es) X.env = (false, eval a X.env) :: starEach es X.env := by rfl) : PA X (a :: es) (dA m E (aCons f fs)) := by
  refine PA.imp (pa_cons ha hr hs) fun σ H Q ⟨g, F, env, S, P⟩ => ?_
  refine dE_use S ((post_rb P).mono fun od1 e1 _ P1 v F1 H1 l1 S1 r1 => ?_)
  refine ⟨g, F1, e1, S1, (post_rb P1).mono fun ds e2 _ P2 vs F2 H2 l2 S2 r2 => ?_⟩
  exact P2 _ F2 H2 (l1.trans l2) S2 (.cons (r1.mono l2) r2)
theorem rd_call {r : List V → Hp → VK → Prop} {h : OpN} (hr : CallOk r h) {σ : L2.St} {H : Hp} {Q : VK} (q : dE m E (eB h fs) σ H Q) : tCB r (dA m E fs) σ H Q := by
  obtain ⟨g, F, env, S, P⟩ := q
  refine ⟨g, F, env, S, (post_rb P).mono fun ds e1 _ P1 vs F1 H1 l1 S1 r1 => ?_⟩
  obtain ⟨⟨own, d⟩, e, P2⟩ := post_lift P1
  exact hr F1 H1 vs ds own d Q S1.view r1 e (cont_of S1 fun v F' H' l S' vo => P2 v F' H' (l1.trans l) S' vo)
theorem d_callB {id : String} {r : List V → Hp → VK → Prop} {h : OpN} {x : Str} {p : Pos} (hc : CallR X (.builtin id) r) (hr : CallOk r h) (hg : Gl X x) (hm : X.mg x = none) (hv : bootBuiltins x = some (.builtin id)) (ha : PA X (a :: es) (dA m E fs))
    (hn : x ≠ "__name__" := by decide) (hd : (x == ("__debug__" : Str)) = false := by decide) (he : starEach (a :: es) X.env = (false, eval a X.env) :: starEach es X.env := by rfl) (hpl : (backTo pos (starEach es X.env)).any (·.1) = false := by rfl) : PE X (.Call (.Name x p) (a :: es) [] pos) (dE m E (eB h fs)) :=
  PE.imp (pe_callB hc hg hm hv ha hn hd he hpl) fun _ _ _ => rd_call hr
theorem d_callTy {T : String} {r : List V → Hp → VK → Prop} {h : OpN} {x : Str} {p : Pos} (hc : CallR X (.type T) r) (hr : CallOk r h) (hg : Gl X x) (hm : X.mg x = none) (hv : bootBuiltins x = some (.type T)) (ha : PA X (a :: es) (dA m E fs))
    (hn : x ≠ "__name__" := by decide) (hd : (x == ("__debug__" : Str)) = false := by decide) (he : starEach (a :: es) X.env = (false, eval a X.env) :: starEach es X.env := by rfl) (hpl : (backTo pos (starEach es X.env)).any (·.1) = false := by rfl) : PE X (.Call (.Name x p) (a :: es) [] pos) (dE m E (eB h fs)) :=
  PE.imp (pe_callTy hc hg hm hv ha hn hd he hpl) fun _ _ _ => rd_call hr
theorem rd_un {r : V → Hp → VK → Prop} {h : Op1} (hr : ∀ F H x d1 own d Q, View F H → Rep F x d1 → h d1 = some (own, d) → Cont own F H d Q → r x H Q) {σ : L2.St} {H : Hp} {Q : VK} (q : dE m E (eUn h f) σ H Q) : tUn r (dE m E f) σ H Q := by
  obtain ⟨g, F, env, S, P⟩ := q
  refine dE_use S ((post_rb P).mono fun od1 e1 _ P1 v F1 H1 l1 S1 r1 => ?_)
  obtain ⟨⟨own, d⟩, e, P3⟩ := post_lift P1
  exact hr F1 H1 v _ own d Q S1.view r1 e (cont_of S1 fun v F' H' l S' vo => P3 v F' H' (l1.trans l) S' vo)
theorem d_un {op : UnaryOp} {r : V → Hp → VK → Prop} {h : Op1} (ho : UnR X (unaryOp op) r) (hr : ∀ F H x d1 own d Q, View F H → Rep F x d1 → h d1 = some (own, d) → Cont own F H d Q → r x H Q) (ha : PE X a (dE m E f)) : PE X (.UnaryOp op a pos) (dE m E (eUn h f)) :=
  PE.imp (pe_un ho ha) fun _ _ _ => rd_un hr
end

/-! ### truth -/
def asB (a : Bool × PyData) (e : Ev) : Res Bool := match a.2 with
  | .bool b => some (.ok (b, e))
  | _ => none
def tOf (f : EM) : TM := fun env => rb (f env) asB
def tAndM (f k : TM) : TM := fun env => rb (f env) fun b e => if b = true then k e else rok false e
def tOrM (f k : TM) : TM := fun env => rb (f env) fun b e => if b = true then rok true e else k e
def tNotM (f : TM) : TM := fun env => rb (f env) fun b e => rok (!b) e
def eAnd (f k : EM) : EM := fun env => rb (f env) fun a e => rb (asB a e) fun b e => if b = true then k e else rok (false, .bool false) e
def eOr (f k : EM) : EM := fun env => rb (f env) fun a e => rb (asB a e) fun b e => if b = true then rok (false, .bool true) e else k e
def eNot (f : EM) : EM := fun env => rb (f env) fun a e => rb (asB a e) fun b e => rok (false, .bool (!b)) e
def eIf (t : TM) (f k : EM) : EM := fun env => rb (t env) fun b e => if b = true then f e else k e
def eChain (h h' : Op2) (f k l : EM) : EM := fun env => rb (f env) fun a e1 => rb (k e1) fun b e2 => rb (lift (h a.2 b.2) e2) fun c e3 => rb (asB c e3) fun q e4 => if q = true then rb (l e4) fun d e5 => lift (h' b.2 d.2) e5 else rok (false, .bool false) e4
theorem post_asB {m : Md} {g : Gc} {E : XK} {a : Bool × PyData} {e : Ev} {K : Bool → Ev → Prop} (h : Post m g E (asB a e) K) : ∃ b, a.2 = .bool b ∧ K b e := by
  unfold asB at h
  split at h
  · rename_i b eb
    exact ⟨b, eb, h⟩
  · exact h.elim
theorem rep_bool {F : Fv} {v : V} {d : PyData} {b : Bool} (r : Rep F v d) (e : d = .bool b) : v = .bl b := by
  subst e
  exact r
section
variable {X : Cx} {m : Md} {E : XK} {pos : Pos} {a b c : Expr} {rest : List Expr} {f k l : EM} {t u : TM}
theorem rd_tOf {σ : L2.St} {H : Hp} {Q : Bool → Hp → Prop} (q : dT m E (tOf f) σ H Q) : dE m E f σ H fun x H1 => ∃ c, x = .bl c ∧ Q c H1 := by
  obtain ⟨g, F, env, S, P⟩ := q
  refine dE_use S ((post_rb P).mono fun od e1 _ P1 v F1 H1 l1 S1 r1 => ?_)
  obtain ⟨b, eb, P2⟩ := post_asB P1
  exact ⟨b, rep_bool r1 eb, P2 F1 H1 l1 S1⟩
theorem dt_val (ha : PE X a (dE m E f)) (he : ∀ whole, isTrue a X.env whole = (do let v ← whole; standAt a.pos; holding [v] (truthy v)) := by intro _; rfl) : PT X a (dT m E (tOf f)) :=
  PT.imp (pt_val ha he) fun _ _ _ => rd_tOf
theorem dt_cmp {op : CmpOp} {r : R2} {h : Op2} (ho : OpR X (compareOp op) r) (hr : BinOk r h) (ha : PE X a (dE m E f)) (hb : PE X b (dE m E k)) (hm : behindInMarks op b = false) : PT X (.Compare a [op] [b] pos) (dT m E (tOf (eBin h f k))) :=
  PT.imp (pt_cmpR ho ha hb hm) fun _ _ _ q => rd_bin hr (rd_tOf q)
theorem dw_and1 (ha : PT X a (dT m E t)) : PW X (.BoolOp .And [a] pos) (dT m E t) := pw_and1 ha
theorem dw_or1 (ha : PT X a (dT m E t)) : PW X (.BoolOp .Or [a] pos) (dT m E t) := pw_or1 ha
theorem dw_and (ha : PT X a (dT m E t)) (hb : PW X (.BoolOp .And (b :: rest) pos) (dT m E u)) : PW X (.BoolOp .And (a :: b :: rest) pos) (dT m E (tAndM t u)) := by
  refine PW.imp (pw_and ha hb) fun σ H Q ⟨g, F, env, S, P⟩ => ?_
  refine ⟨g, F, env, S, (post_rb P).mono fun b e1 _ P1 F1 H1 l1 S1 => ?_⟩
  cases b with
  | true => exact ⟨g, F1, e1, S1, Post.mono P1 fun b e2 _ k F2 H2 l2 S2 => k F2 H2 (l1.trans l2) S2⟩
  | false => exact P1 F1 H1 l1 S1
theorem dw_or (ha : PT X a (dT m E t)) (hb : PW X (.BoolOp .Or (b :: rest) pos) (dT m E u)) : PW X (.BoolOp .Or (a :: b :: rest) pos) (dT m E (tOrM t u)) := by
  refine PW.imp (pw_or ha hb) fun σ H Q ⟨g, F, env, S, P⟩ => ?_
  refine ⟨g, F, env, S, (post_rb P).mono fun b e1 _ P1 F1 H1 l1 S1 => ?_⟩
  cases b with
  | false => exact ⟨g, F1, e1, S1, Post.mono P1 fun b e2 _ k F2 H2 l2 S2 => k F2 H2 (l1.trans l2) S2⟩
  | true => exact P1 F1 H1 l1 S1
theorem dt_not (ha : PT X a (dT m E t)) : PT X (.UnaryOp .Not a pos) (dT m E (tNotM t)) := by
  refine PT.imp (pt_not ha) fun σ H Q ⟨g, F, env, S, P⟩ => ?_
  exact ⟨g, F, env, S, (post_rb P).mono fun b e1 _ P1 F1 H1 l1 S1 => P1 F1 H1 l1 S1⟩
theorem d_and (ha : PE X a (dE m E f)) (hb : PE X (.BoolOp .And (b :: rest) pos) (dE m E k)) : PE X (.BoolOp .And (a :: b :: rest) pos) (dE m E (eAnd f k)) := by
  refine PE.imp (pe_and ha hb) fun σ H Q ⟨g, F, env, S, P⟩ => ?_
  refine dE_use S ((post_rb P).mono fun od e1 _ P1 v F1 H1 l1 S1 r1 => ?_)
  obtain ⟨b, eb, P2⟩ := post_asB (post_rb P1)
  refine ⟨b, rep_bool r1 eb, ?_⟩
  cases b with
  | true => exact ⟨g, F1, e1, S1, Post.mono P2 fun b e2 _ k v F2 H2 l2 S2 => k v F2 H2 (l1.trans l2) S2⟩
  | false => exact P2 _ F1 H1 l1 S1 rfl
theorem d_or (ha : PE X a (dE m E f)) (hb : PE X (.BoolOp .Or (b :: rest) pos) (dE m E k)) : PE X (.BoolOp .Or (a :: b :: rest) pos) (dE m E (eOr f k)) := by
  refine PE.imp (pe_or ha hb) fun σ H Q ⟨g, F, env, S, P⟩ => ?_
  refine dE_use S ((post_rb P).mono fun od e1 _ P1 v F1 H1 l1 S1 r1 => ?_)
  obtain ⟨b, eb, P2⟩ := post_asB (post_rb P1)
  refine ⟨b, rep_bool r1 eb, ?_⟩
  cases b with
  | false => exact ⟨g, F1, e1, S1, Post.mono P2 fun b e2 _ k v F2 H2 l2 S2 => k v F2 H2 (l1.trans l2) S2⟩
  | true => exact P2 _ F1 H1 l1 S1 rfl
theorem d_one {op} (h : PE X a (dE m E f)) : PE X (.BoolOp op [a] pos) (dE m E f) := pe_one h
theorem d_not (ha : PE X a (dE m E f)) : PE X (.UnaryOp .Not a pos) (dE m E (eNot f)) := by
  refine PE.imp (pe_not ha) fun σ H Q ⟨g, F, env, S, P⟩ => ?_
  refine dE_use S ((post_rb P).mono fun od e1 _ P1 v F1 H1 l1 S1 r1 => ?_)
  obtain ⟨b, eb, P2⟩ := post_asB (post_rb P1)
  exact ⟨b, rep_bool r1 eb, P2 _ F1 H1 l1 S1 rfl⟩
theorem d_if (hc : PT X c (dT m E t)) (ha : PE X a (dE m E f)) (hb : PE X b (dE m E k)) : PE X (.IfExp c a b pos) (dE m E (eIf t f k)) := by
  refine PE.imp (pe_ifExp hc ha hb) fun σ H Q ⟨g, F, env, S, P⟩ => ?_
  refine ⟨g, F, env, S, (post_rb P).mono fun b e1 _ P1 F1 H1 l1 S1 => ?_⟩
  cases b with
  | true => exact ⟨g, F1, e1, S1, Post.mono P1 fun b e2 _ k v F2 H2 l2 S2 => k v F2 H2 (l1.trans l2) S2⟩
  | false => exact ⟨g, F1, e1, S1, Post.mono P1 fun b e2 _ k v F2 H2 l2 S2 => k v F2 H2 (l1.trans l2) S2⟩
/-- comparisons give immediate values -/
def ImmB (h : Op2) : Prop := ∀ d1 d2 own d, h d1 d2 = some (own, d) → own = false ∧ ∃ b, d = .bool b
theorem rd_chain {r r' : R2} {h h' : Op2} (hr : BinOk r h) (hr' : BinOk r' h') (hi : ImmB h) {σ : L2.St} {H : Hp} {Q : VK} (q : dE m E (eChain h h' f k l) σ H Q) : tChain r r' (dE m E f) (dE m E k) (dE m E l) σ H Q := by
  obtain ⟨g, F, env, S, P⟩ := q
  refine dE_use S ((post_rb P).mono fun od1 e1 _ P1 v F1 H1 l1 S1 r1 => ?_)
  refine dE_use S1 ((post_rb P1).mono fun od2 e2 _ P2 w F2 H2 l2 S2 r2 => ?_)
  obtain ⟨⟨own, d⟩, e, P3⟩ := post_lift (post_rb P2)
  obtain ⟨rfl, bq, rfl⟩ := hi _ _ _ _ e
  obtain ⟨q, eq, P4⟩ := post_asB (post_rb P3)
  cases eq
  refine hr F2 H2 v w _ _ false (.bool bq) _ S2.view (r1.mono l2) r2 e ⟨fun z rz => ?_, fun p o _ ho => by cases o <;> exact ho.elim⟩
  cases rz
  refine ⟨bq, rfl, ?_⟩
  cases bq with
  | false => exact P4 _ F2 H2 (l1.trans l2) S2 rfl
  | true =>
    refine dE_use S2 (Post.mono (post_rb P4) fun od3 e3 _ P5 y F3 H3 l3 S3 r3 => ?_)
    obtain ⟨⟨own, d⟩, e', P6⟩ := post_lift P5
    exact hr' F3 H3 w y _ _ own d Q S3.view (r2.mono l3) r3 e' (cont_of S3 fun v F' H' l S' vo => P6 v F' H' (((l1.trans l2).trans l3).trans l) S' vo)
theorem d_chain {op op' : CmpOp} {r r' : R2} {h h' : Op2} (ho : OpR X (compareOp op) r) (ho' : OpR X (compareOp op') r') (hr : BinOk r h) (hr' : BinOk r' h') (hi : ImmB h) (ha : PE X a (dE m E f)) (hb : PE X b (dE m E k)) (hc : PE X c (dE m E l))
    (hm : lastMarks [op, op'] [b, c] = false := by with_unfolding_all rfl) : PE X (.Compare a [op, op'] [b, c] pos) (dE m E (eChain h h' f k l)) := PE.imp (pe_chain ho ho' ha hb hc hm) fun _ _ _ => rd_chain hr hr' hi
theorem dt_chain {op op' : CmpOp} {r r' : R2} {h h' : Op2} (ho : OpR X (compareOp op) r) (ho' : OpR X (compareOp op') r') (hr : BinOk r h) (hr' : BinOk r' h') (hi : ImmB h) (ha : PE X a (dE m E f)) (hb : PE X b (dE m E k)) (hc : PE X c (dE m E l))
    (hm : lastMarks [op, op'] [b, c] = false := by with_unfolding_all rfl) : PT X (.Compare a [op, op'] [b, c] pos) (dT m E (tOf (eChain h h' f k l))) := PT.imp (pt_chain ho ho' ha hb hc hm) fun _ _ _ q => rd_chain hr hr' hi (rd_tOf q)
end

/-! ### displays -/
def eTup (f : AM) : EM := fun env => rb (f env) fun ds e => if ds.length ≤ sizeLine then rok (false, .tuple ds) e else none
def eLst (f : AM) : EM := fun env => rb (f env) fun ds e => if ds.length ≤ sizeLine then rok (true, .list ds) e else none
section
variable {X : Cx} {m : Md} {E : XK} {pos : Pos} {es : List Expr} {f : AM}
theorem post_ite {α : Type} {m : Md} {g : Gc} {E : XK} {p : Prop} [Decidable p] {a : α} {e : Ev} {K : α → Ev → Prop} (h : Post m g E (if p then rok a e else none) K) : p ∧ K a e := by
  by_cases c : p
  · rw [if_pos c] at h
    exact ⟨c, h⟩
  · rw [if_neg c] at h
    exact h.elim
theorem d_tup {x1} (h : PA X es (dA m E f)) : PE X (.Tuple es x1 pos) (dE m E (eTup f)) := by
  refine PE.imp (pe_tup h) fun σ H Q ⟨g, F, env, S, P⟩ => ?_
  refine ⟨g, F, env, S, (post_rb P).mono fun ds e1 _ P1 vs F1 H1 l1 S1 r1 => ?_⟩
  obtain ⟨hz, P2⟩ := post_ite P1
  refine ⟨by rw [r1.length]; exact hz, fun p hp => ?_⟩
  obtain ⟨S', r⟩ := S1.allocFz (o := .tup vs) (d := .tuple ds) hp r1
  exact P2 _ _ _ (l1.trans (fput_le (S1.view.none hp))) S' r
theorem d_lst (h : PA X es (dA m E f)) : PE X (.List es pos) (dE m E (eLst f)) := by
  refine PE.imp (pe_lst h) fun σ H Q ⟨g, F, env, S, P⟩ => ?_
  refine ⟨g, F, env, S, (post_rb P).mono fun ds e1 _ P1 vs F1 H1 l1 S1 r1 => ?_⟩
  obtain ⟨hz, P2⟩ := post_ite P1
  refine ⟨by rw [r1.length]; exact hz, fun p hp => ?_⟩
  obtain ⟨S', r⟩ := S1.allocOwn (o := .lst vs) (d := .list ds) hp r1 trivial
  exact P2 _ _ _ l1 S' r
end
end DL

/-! The data layer, part c: statements. -/
namespace DL
open PySem PySem.Spec PyProof.Rows L2
inductive Out where
  | nx | bk | ct
  | rt (own : Bool) (d : PyData)
abbrev SM := Ev → Res Out
def PostO (m : Md) (g : Gc) (D : Ends) (o : Out) (env : Ev) : Prop := match o with
  | .nx => ∀ F' H' σ', SR m g F' H' σ' env → D.nx σ' H'
  | .bk => ∀ F' H' σ', SR m g F' H' σ' env → D.bk σ' H'
  | .ct => ∀ F' H' σ', SR m g F' H' σ' env → D.ct σ' H'
  | .rt own d => ∀ v F' H' σ', SR m g F' H' σ' env → VOk g F' H' σ' env own d v → D.rt v H'
def dS (m : Md) (E : XK) (f : SM) : TS := fun D σ H => ∃ g F env, SR m g F H σ env ∧ Post m g E (f env) fun o env' => PostO m g D o env'

/-! ### targets -/
abbrev GM := PyData → Ev → Option Ev
/-- the slots but these are as they were -/
def SameOff (ts : List Nat) (σ σ' : L2.St) : Prop := σ'.length = σ.length ∧ ∀ (j : Nat), j ∉ ts → σ'[j]? = σ[j]?
theorem SameOff.refl (ts : List Nat) (σ : L2.St) : SameOff ts σ σ := ⟨rfl, fun _ _ => rfl⟩
def dG (m : Md) (ts : List Nat) (b : GM) : TG := fun v σ H Q => ∃ g F env d env', SR m g F H σ env ∧ Rep F v d ∧ b d env = some env' ∧ ∀ σ', SR m g F H σ' env' → SameOff ts σ σ' → Q σ' H
def dGs (m : Md) (ts : List Nat) (b : List PyData → Ev → Option Ev) : TGs := fun vs σ H Q => ∃ g F env ds env', SR m g F H σ env ∧ Reps F vs ds ∧ b ds env = some env' ∧ ∀ σ', SR m g F H σ' env' → SameOff ts σ σ' → Q σ' H
def gNm (i : Nat) : GM := fun d env => some (env.set i (.fz d))
abbrev GsM := List PyData → Ev → Option Ev
def gsNil : GsM := fun ds env => match ds with
  | [] => some env
  | _ => none
def gsCons (b : GM) (r : GsM) : GsM := fun ds env => match ds with
  | [] => none
  | d :: ds => match b d env with
    | some e => r ds e
    | none => none
def gTp (bs : GsM) : GM := fun d env => match d with
  | .tuple ds => bs ds env
  | _ => none
theorem PG.imp {X : Cx} {e : Expr} {t t' : TG} (h : PG X e t) (k : ∀ v σ H Q, t' v σ H Q → t v σ H Q) : PG X e t' := ⟨fun pins s σ H v u Q I r q => h.run pins s σ H v u Q I r (k v σ H Q q)⟩
theorem PGs.imp {X : Cx} {e : List Expr} {t t' : TGs} (h : PGs X e t) (k : ∀ v σ H Q, t' v σ H Q → t v σ H Q) : PGs X e t' := ⟨fun pins s σ H v u Q I r q => h.run pins s σ H v u Q I r (k v σ H Q q)⟩
section
variable {X : Cx} {m : Md} {E : XK} {pos : Pos}
theorem dg_name {i : Nat} {x : Str} (hN : X.N.Nodup) (hi : X.N[i]? = some x) (hx : Loc X.env.scope x) (hf : X.fn x = true ∨ X.env.scope.names.lookup x = some .local := by first | exact .inl rfl | exact .inr rfl | assumption) : PG X (.Name x pos) (dG m [i] (gNm i)) :=
  PG.imp (pg_name hN hi hx hf) fun v σ H Q ⟨g, F, env, d, env', S, r, e, k⟩ => by
    cases e
    exact k _ (S.store (own := false) r) ⟨by simp, fun j hj => by rw [List.getElem?_set_ne (fun z => hj (by simp [z]))]⟩
theorem dgs_nil : PGs X [] (dGs m [] gsNil) := PGs.imp pgs_nil fun vs σ H Q ⟨g, F, env, ds, env', S, r, e, k⟩ => by
  cases r with
  | nil => cases e; exact ⟨rfl, k σ S (.refl _ _)⟩
  | cons _ _ => cases e
theorem dgs_cons {a : Expr} {es : List Expr} {b : GM} {bs : GsM} {t1 t2 : List Nat} (h1 : PG X a (dG m t1 b)) (h2 : PGs X es (dGs m t2 bs)) (hs : (assignEach (a :: es) X.env).map (·.2) = assign a X.env :: (assignEach es X.env).map (·.2) := by rfl) : PGs X (a :: es) (dGs m (t1 ++ t2) (gsCons b bs)) := by
  refine PGs.imp (pgs_cons h1 h2 hs) fun vs σ H Q ⟨g, F, env, ds, env', S, r, e, k⟩ => ?_
  cases r with
  | nil => cases e
  | @cons v d vs ds r1 r2 =>
    simp only [gsCons] at e
    cases eb : b d env with
    | none => rw [eb] at e; cases e
    | some e1 =>
      rw [eb] at e
      exact ⟨v, vs, rfl, g, F, env, d, e1, S, r1, eb, fun σ' S' so => ⟨g, F, e1, ds, env', S', r2, e, fun σ2 S2 so2 => k σ2 S2 ⟨so2.1.trans so.1, fun j hj => (so2.2 j fun z => hj (List.mem_append_right _ z)).trans (so.2 j fun z => hj (List.mem_append_left _ z))⟩⟩⟩
theorem dg_tup {es : List Expr} {kk : Nat} {bs : GsM} {n : Nat} {ts : List Nat} (hc : X.calm = true) (h : PGs X es (dGs m ts bs)) (hn : (assignEach es X.env).length = n := by rfl) (hst : (assignEach es X.env).findIdx? (·.1) = none := by rfl)
    (hb : ∀ ds env e, bs ds env = some e → ds.length = n := by intro ds env e h; dsimp only [gsCons, gsNil] at h; revert h; repeat' (first | (split <;> try (intro h; first | rfl | exact absurd h (by simp)))))
    : PG X (.Tuple es kk pos) (dG m ts (gTp bs)) := by
  refine PG.imp (pg_tup hc h hn hst) fun v σ H Q ⟨g, F, env, d, env', S, r, e, k⟩ => ?_
  unfold gTp at e
  split at e
  · rename_i ds
    obtain ⟨a, rfl, ha⟩ := r
    obtain ⟨o, ro, hr⟩ := S.view a _ ha
    cases o with
    | tup vs => exact ⟨a, vs, rfl, .inl ro.rd, by rw [hr.length]; exact hb ds env env' e, g, F, env, ds, env', S, hr, e, k⟩
    | _ => exact hr.elim
  · cases e
end

/-! ### blocks -/
def sSeq (f k : SM) : SM := fun env => rb (f env) fun o e => match o with
  | .nx => k e
  | o => rok o e
def sSkip : SM := fun env => rok .nx env
def sSet (i : Nat) (f : EM) : SM := fun env => rb (f env) fun od e => rok .nx (e.set i (slOf od.1 od.2))
def sUnp (b : GM) (f : EM) : SM := fun env => rb (f env) fun od e => rb (lift (b od.2 e) e) fun e' _ => rok .nx e'
def sRet (f : EM) : SM := fun env => rb (f env) fun od e => rok (.rt od.1 od.2) e
def sIf (t : TM) (f k : SM) : SM := fun env => rb (t env) fun b e => if b = true then f e else k e
def sExpr (f : EM) : SM := fun env => rb (f env) fun _ e => rok .nx e
def sBreak : SM := fun env => rok .bk env
def sCont : SM := fun env => rok .ct env
section
variable {X : Cx} {m : Md} {E : XK} {pos : Pos} {st : Stmt} {rest : List Stmt} {f k : SM} {e : Expr} {h : EM}
theorem ds_nil : PSs X [] (dS m E sSkip) := PSs.imp pss_nil fun D σ H ⟨g, F, env, S, P⟩ => P F H σ S
theorem ds_pass : PS X (.Pass pos) (dS m E sSkip) := PS.imp ps_pass fun D σ H ⟨g, F, env, S, P⟩ => P F H σ S
theorem ds_break : PS X (.Break pos) (dS m E sBreak) := PS.imp ps_break fun D σ H ⟨g, F, env, S, P⟩ => P F H σ S
theorem ds_cont : PS X (.Continue pos) (dS m E sCont) := PS.imp ps_continue fun D σ H ⟨g, F, env, S, P⟩ => P F H σ S
theorem ds_one (a : PS X st (dS m E f)) : PSs X [st] (dS m E f) := pss_one a
theorem ds_cons (a : PS X st (dS m E f)) (b : PSs X rest (dS m E k)) : PSs X (st :: rest) (dS m E (sSeq f k)) := by
  refine PSs.imp (pss_cons a b) fun D σ H ⟨g, F, env, S, P⟩ => ?_
  refine ⟨g, F, env, S, (post_rb P).mono fun o e1 _ P1 => ?_⟩
  cases o with
  | nx => exact fun F' H' σ' S' => ⟨g, F', e1, S', P1⟩
  | bk => exact P1
  | ct => exact P1
  | rt own d => exact P1
theorem ds_set {i : Nat} {x : Str} {pos' : Pos} (hN : X.N.Nodup) (hi : X.N[i]? = some x) (hx : Loc X.env.scope x) (he : PE X e (dE m E h)) (hs : swapsWith e (some (.Name x pos')) pos.line X.env = pure false := by rfl) (hf : X.fn x = true ∨ X.env.scope.names.lookup x = some .local := by first | exact .inl rfl | exact .inr rfl | assumption) :
    PS X (.Assign [.Name x pos'] e pos) (dS m E (sSet i h)) :=
  PS.imp (ps_set hN hi hx he hs hf) fun D σ H ⟨g, F, env, S, P⟩ =>
    ⟨g, F, env, S, (post_rb P).mono fun od e1 _ P1 v F1 H1 l S1 vo => P1 F1 H1 _ (S1.store vo)⟩
/-- by a reading of another form -/
theorem ds_setR {i : Nat} {x : Str} {pos' : Pos} {t : TE} (hp : PS X (.Assign [.Name x pos'] e pos) (tAsg t (gName i))) (hr : ∀ σ H Q, dE m E h σ H Q → t σ H Q) : PS X (.Assign [.Name x pos'] e pos) (dS m E (sSet i h)) :=
  PS.imp hp fun D σ H ⟨g, F, env, S, P⟩ =>
    hr _ _ _ ⟨g, F, env, S, (post_rb P).mono fun od e1 _ P1 v F1 H1 l S1 vo => P1 F1 H1 _ (S1.store vo)⟩
theorem ds_unp {tg : Expr} {b : GM} {ts : List Nat} (he : PE X e (dE m E h)) (hg : PG X tg (dG m ts b)) (hs : swapsWithSole [tg] e pos.line X.env = pure false := by rfl) (hw : swappedStores [tg] e X.env = pure none := by rfl)
    (h1 : (assignEach [tg] X.env).map (·.2) = [assign tg X.env] := by rfl) : PS X (.Assign [tg] e pos) (dS m E (sUnp b h)) :=
  PS.imp (ps_asg he hg hs hw h1) fun D σ H ⟨g, F, env, S, P⟩ =>
    dE_use S ((post_rb P).mono fun od e1 _ P1 v F1 H1 l S1 r1 => by
      obtain ⟨e', he', P2⟩ := post_lift (post_rb P1)
      exact ⟨g, F1, e1, od.2, e', S1, r1, he', fun σ' S' _ => P2 F1 H1 σ' S'⟩)
theorem ds_ret (he : PE X e (dE m E h)) : PS X (.Return (some e) pos) (dS m E (sRet h)) :=
  PS.imp (ps_ret he) fun D σ H ⟨g, F, env, S, P⟩ => ⟨g, F, env, S, (post_rb P).mono fun od e1 _ P1 v F1 H1 l S1 vo => P1 v F1 H1 σ S1 vo⟩
theorem ds_if {c : Expr} {a b : List Stmt} {t : TM} (hc : PT X c (dT m E t)) (ha : PSs X a (dS m E f)) (hb : PSs X b (dS m E k)) : PS X (.If c a b pos) (dS m E (sIf t f k)) := by
  refine PS.imp (ps_if hc ha hb) fun D σ H ⟨g, F, env, S, P⟩ => ?_
  refine ⟨g, F, env, S, (post_rb P).mono fun b e1 _ P1 F1 H1 l1 S1 => ?_⟩
  cases b with
  | true => exact ⟨g, F1, e1, S1, P1⟩
  | false => exact ⟨g, F1, e1, S1, P1⟩
theorem ds_expr (he : PE X e (dE m E h)) (hs : swapsWith e none pos.line X.env = pure false := by rfl) : PS X (.Expr e pos) (dS m E (sExpr h)) :=
  PS.imp (ps_expr he hs) fun D σ H ⟨g, F, env, S, P⟩ => ⟨g, F, env, S, (post_rb P).mono fun od e1 _ P1 v F1 H1 l S1 vo => P1 F1 H1 σ S1⟩
theorem ds_never {X : Cx} {st : Stmt} : PS X st tNever := ps_never
end

/-! ### a def -/
/-- what a def makes of its arguments -/
abbrev FnS := List PyData → Option (Except Ex (Bool × PyData))
structure RetOk (m : Md) (F : Fv) (H : Hp) (io : Option Addr) (F' : Fv) (H' : Hp) : Prop where
  view : View F' H'
  ext : Fle F F'
  new : ∀ b, F' b ≠ none → F b ≠ none ∨ Unm H b
  frame : Frm H io [] H'
  dom : ∀ b, H' b = none → H b = none
  tabs : LamX.Tabs m.T H'
def ROk (F : Fv) (H : Hp) (F' : Fv) (H' : Hp) (own : Bool) (d : PyData) (v : V) : Prop := match own with
  | false => Rep F' v d
  | true => ∃ a, v = .ref a ∧ OwnAt F' H' a d ∧ H a = none
def gAt (F : Fv) (H : Hp) (io : Option Addr) : Gc := ⟨H, F, io, []⟩
def spD (m : Md) (s : FnS) : Sp := fun vs H Q E => ∃ F ds, View F H ∧ LamX.Tabs m.T H ∧ Reps F vs ds ∧ match s ds with
  | none => False
  | some (.ok (own, d)) => ∀ v F' H', RetOk m F H none F' H' → ROk F H F' H' own d v → Q v H'
  | some (.error x) => EPost m (gAt F H none) E x
def outOf (r : Res Out) : Option (Except Ex (Bool × PyData)) := match r with
  | some (.ok (.rt own d, _)) => some (.ok (own, d))
  | some (.ok (.nx, _)) => some (.ok (false, .none))
  | some (.error x) => some (.error x)
  | _ => none
/-- n: the number of all names; p: of the parameters -/
def mkFn (n p : Nat) (f : SM) : FnS := fun ds => if ds.length = p then outOf (f (ds.map Sl.fz ++ List.replicate (n - p) .no)) else none
theorem SR.ret {m : Md} {F : Fv} {H : Hp} {io : Option Addr} {F' : Fv} {H' : Hp} {σ : L2.St} {env : Ev} (S : SR m (gAt F H io) F' H' σ env) : RetOk m F H io F' H' := ⟨S.view, S.ext, S.new, S.frame, S.dom, S.tabs⟩
theorem VOk.ret {F : Fv} {H : Hp} {io : Option Addr} {F' : Fv} {H' : Hp} {σ : L2.St} {env : Ev} {own : Bool} {d : PyData} {v : V} (h : VOk (gAt F H io) F' H' σ env own d v) : ROk F H F' H' own d v := by
  cases own with
  | false => exact h
  | true => obtain ⟨a, e, o, n, _⟩ := h; exact ⟨a, e, o, n⟩
/-- the state at a def's entry -/
theorem SR.entry {m : Md} {F : Fv} {H : Hp} {vs : List V} {ds : List PyData} {N : List Str} {n p : Nat} (hv : View F H) (ht : LamX.Tabs m.T H) (r : Reps F vs ds) (hl : ds.length = p) (hn : N.length = n) (hp : p ≤ n) :
    SR m (gAt F H none) F H (L2.start N vs) (ds.map Sl.fz ++ List.replicate (n - p) .no) := by
  have hvl : vs.length = p := by rw [r.length]; exact hl
  have noown : ∀ (i : Nat) (sl : Sl), (ds.map Sl.fz ++ List.replicate (n - p) Sl.no)[i]? = some sl → sl = .no ∨ ∃ d, sl = .fz d ∧ ds[i]? = some d := fun i sl e => by
    rw [List.getElem?_append] at e
    split at e
    · rw [List.getElem?_map] at e
      cases q : ds[i]? with
      | none => rw [q] at e; cases e
      | some d => rw [q] at e; cases e; exact .inr ⟨d, rfl, rfl⟩
    · rw [List.getElem?_replicate] at e
      split at e
      · cases e; exact .inl rfl
      · cases e
  refine ⟨hv, .refl F, fun b h => .inl h, fun b o e _ _ _ => e, fun q hq => absurd (show q ∈ ([] : List (Addr × Obj × HO)) from hq) (by simp), (fun _ z => nomatch z), fun b e => e, ht, ?_, fun i sl e => ?_, fun i j a hi => ?_⟩
  · unfold L2.start
    simp only [List.length_append, List.length_map, List.length_replicate]
    omega
  · rcases noown i sl e with rfl | ⟨d, rfl, q⟩
    · have hi := (List.getElem?_eq_some_iff.mp e).1
      simp only [List.length_append, List.length_map, List.length_replicate] at hi
      have hi2 : i < (L2.start N vs).length := by
        unfold L2.start
        simp only [List.length_append, List.length_map, List.length_replicate]
        omega
      exact ⟨_, List.getElem?_eq_getElem hi2, trivial⟩
    · have hid : i < ds.length := (List.getElem?_eq_some_iff.mp q).1
      have key : ∀ {vs : List V} {ds : List PyData} {i : Nat} {d : PyData}, Reps F vs ds → ds[i]? = some d → ∃ v, vs[i]? = some v ∧ Rep F v d := by
        intro vs ds i d r
        induction r generalizing i with
        | nil => intro q; simp at q
        | cons h t ih =>
          intro q
          cases i with
          | zero => simp at q; subst q; exact ⟨_, rfl, h⟩
          | succ i => simpa using ih (by simpa using q)
      obtain ⟨v, h1, h2⟩ := key r q
      refine ⟨some v, ?_, v, rfl, h2⟩
      unfold L2.start
      rw [List.getElem?_append_left (by simp; omega), List.getElem?_map, h1]
      rfl
  · obtain ⟨_, ⟨d, z⟩ | ⟨d, z⟩⟩ := hi <;> (rcases noown i _ z with e | ⟨_, e, _⟩ <;> cases e)
/-- a def's promise by its body -/
theorem pure_def {m : Md} {N : List Str} {n p : Nat} {f : SM} {vs : List V} {H : Hp} {Q : VK} {E : XK} (hn : N.length = n) (hp : p ≤ n) (h : spD m (mkFn n p f) vs H Q E) : dS m E f { nx := fun _ H' => Q .non H', rt := Q } (L2.start N vs) H := by
  obtain ⟨F, ds, hv, ht, r, q⟩ := h
  unfold mkFn at q
  by_cases hl : ds.length = p
  · rw [if_pos hl] at q
    refine ⟨gAt F H none, F, _, SR.entry hv ht r hl hn hp, ?_⟩
    cases e : f (ds.map Sl.fz ++ List.replicate (n - p) .no) with
    | none => rw [e] at q; exact q
    | some x =>
      rw [e] at q
      cases x with
      | error x => exact q
      | ok o =>
        obtain ⟨o, env'⟩ := o
        cases o with
        | nx => exact fun F' H' σ' S' => q .non F' H' S'.ret rfl
        | bk => exact q.elim
        | ct => exact q.elim
        | rt own d => exact fun v F' H' σ' S' vo => q v F' H' S'.ret vo.ret
  · rw [if_neg hl] at q
    exact q.elim
theorem len_def {m : Md} {n p : Nat} {f : SM} {vs : List V} {H : Hp} {Q : VK} {E : XK} (h : spD m (mkFn n p f) vs H Q E) : vs.length = p := by
  obtain ⟨F, ds, hv, ht, r, q⟩ := h
  unfold mkFn at q
  by_cases hl : ds.length = p
  · rw [r.length]; exact hl
  · rw [if_neg hl] at q
    exact q.elim
section
variable {P : Program} {w : World} {K : PySem.W.Frag} {mg : Str → Option Value} {base : Heap} {m : Md}
/-- the rule for a def whose exceptions leave with the context None -/
theorem fun_okN {x q : Str} {st : Stmt} {f : Addr} {fd : FuncData} {N ps : List Str} {k : Nat} {sp : Sp} (G : Fun K x q st f fd) (S : FnScope N ps (defScope st)) (ln : ∀ vs H Q E, sp vs H Q E → vs.length = ps.length)
    (hb : ∀ (cdv : Value) (A : Around) (outer : List Env) (s : Shared) (H : Hp) (vs : List V) (Q : VK) (E : XK), Room k (A.deeper (envOfC q (defScope st) s.heap.objs.size f cdv)) → sp vs H Q E →
      ∃ t, PSs (cxOf (L2N.CX P w) P w K mg base N q (defScope st) f cdv A outer s H E) (defBody st) t ∧ t { nx := fun _ H' => Q .non H', rt := Q } (L2.start N vs) H) : FnOk P w K mg base (L2N.CX P w) (k + 1) f fd ps sp := by
  obtain ⟨o1, o2, v1, v2, v3, v4, v5, v6, v7, e, look, code⟩ := G.ex
  subst e
  exact fn_of look code S ln fun A outer s H vs Q E hr hsp => hb v5 A outer s H vs Q E hr hsp
/-- THE RULE for a def that changes no argument -/
theorem fn_def {x qual : Str} {st : Stmt} {f : Addr} {fd : FuncData} {N ps : List Str} {k n p : Nat} {b : SM} (F : Fun K x qual st f fd) (S : FnScope N ps (defScope st)) (hn : N.length = n) (hp : ps.length = p) (hpn : p ≤ n)
    (hb : ∀ (cdv : Value) (A : Around) (outer : List Env) (s : Shared) (H : Hp) (E : XK), Room k (A.deeper (envOfC qual (defScope st) s.heap.objs.size f cdv)) → PSs (cxOf (L2N.CX P w) P w K mg base N qual (defScope st) f cdv A outer s H E) (defBody st) (dS m E b)) :
    FnOk P w K mg base (L2N.CX P w) (k + 1) f fd ps (spD m (mkFn n p b)) :=
  fun_okN F S (fun vs H Q E h => by rw [hp]; exact len_def h) fun cdv A outer s H vs Q E hr h => ⟨_, hb cdv A outer s H E hr, pure_def hn hpn h⟩
end
/-! ### a call of a def -/
def eCall (s : FnS) (f : AM) : EM := fun env => rb (f env) fun ds e => match s ds with
  | some (.ok od) => some (.ok (od, e))
  | some (.error x) => some (.error x)
  | none => none
section
variable {X : Cx} {m : Md} {E : XK} {pos : Pos} {e : Expr} {es : List Expr} {t : AM} {s : FnS}
theorem SR.called {g : Gc} {F F' : Fv} {H H' : Hp} {σ : L2.St} {env : Ev} (S : SR m g F H σ env) (R : RetOk m F H none F' H') : SR m g F' H' σ env := by
  have keep : ∀ b o, H b = some o → (∀ ps, o ≠ .tbl ps) → H' b = some o := fun b o e n => R.frame b o e (fun z => nomatch z) n (by simp)
  refine ⟨R.view, S.ext.trans R.ext, fun b h => ?_, fun b o e h1 h2 h3 => keep b o (S.frame b o e h1 h2 h3) h2, fun q hq => ⟨keep _ _ (S.locks q hq).1 (fun _ z => nomatch z), (S.locks q hq).2.1, fun z => (S.locks q hq).2.2 (R.ext.none z)⟩, fun a h => let ⟨n, ws, e⟩ := S.ioL a h; ⟨n, ws, keep _ _ e (fun _ z => nomatch z)⟩, fun b h => S.dom b (R.dom b h), R.tabs, S.len, fun i sl e => ?_, S.dist⟩
  · rcases R.new b h with z | z
    · exact S.new b z
    · cases q : F b with
      | none => exact .inr (S.unm q z)
      | some d => exact S.new b (by rw [q]; exact fun z => nomatch z)
  · obtain ⟨v, e1, z⟩ := S.slot i sl e
    refine ⟨v, e1, z.mono R.ext (fun a o _ n h => keep a o h n) fun a _ f o mu hn => ?_⟩
    cases q : F' a with
    | none => rfl
    | some d =>
      rcases R.new a (by rw [q]; exact fun z => nomatch z) with z | z
      · exact absurd f z
      · exact (z _ hn mu).elim
theorem ROk.vok {g : Gc} {F F' : Fv} {H H' : Hp} {σ : L2.St} {env : Ev} {own : Bool} {d : PyData} {v : V} (S : SR m g F H σ env) (h : ROk F H F' H' own d v) : VOk g F' H' σ env own d v := by
  cases own with
  | false => exact h
  | true =>
    obtain ⟨a, e, o, n⟩ := h
    refine ⟨a, e, o, S.dom a n, fun i hi => ?_⟩
    obtain ⟨_, o', ho, _⟩ := S.own hi
    rw [n] at ho; cases ho
theorem rd_eCall {σ : L2.St} {H : Hp} {Q : VK} (q : dE m E (eCall s t) σ H Q) : tCall (spD m s) [] E (dA m E t) σ H Q := by
  obtain ⟨g, F, env, S, P⟩ := q
  refine ⟨g, F, env, S, (post_rb P).mono fun ds e1 _ P1 vs F1 H1 l1 S1 r1 => ?_⟩
  show spD m s (vs ++ []) H1 Q E
  rw [List.append_nil]
  refine ⟨F1, ds, S1.view, S1.tabs, r1, ?_⟩
  revert P1
  cases s ds with
  | none => exact id
  | some x =>
    cases x with
    | error x =>
      intro P1 cls dd H' fr xo
      exact P1 cls dd H' ⟨fun b o e h1 h2 h3 => fr.frame b o (S1.frame b o e h1 h2 h3) (fun z => nomatch z) h2 (by show b ∉ ([] : List (Addr × Obj × HO)).map (·.1); simp), fr.tabs, fun b h => S1.dom b (fr.dom b h)⟩ xo
    | ok od => exact fun P1 v F' H' R ro => P1 v F' H' (l1.trans R.ext) (S1.called R) (ro.vok S1)
theorem d_call {k : Nat} {f : Addr} {fd : FuncData} {ps : List Str} {x : Str} {p : Pos} (G : FnOk X.prog X.w X.K X.mg X.base (L2N.CX X.prog X.w) k f fd ps (spD m s)) (hr : Room k X.A) (hg : Gl X x) (hm : X.mg x = some (.ref f)) (hk : PySem.W.keepIn X.K (.ref f) = true) (hb : Binds X.K fd ps []) (hx : Passes (L2N.CX X.prog X.w) X E)
    (ha : PA X (e :: es) (dA m E t)) (hdb : (x == ("__debug__" : Str)) = false := by decide) (he : starEach (e :: es) X.env = (false, eval e X.env) :: starEach es X.env := by rfl) (hpl : (backTo pos (starEach es X.env)).any (·.1) = false := by rfl) : PE X (.Call (.Name x p) (e :: es) [] pos) (dE m E (eCall s t)) :=
  PE.imp (pe_call G hr hg hm hk hb .nil hx ha hdb he hpl) fun _ _ _ => rd_eCall
end
end DL

/-! The data layer, part d: loops, comprehensions, what is walked. -/
namespace DL
open PySem PySem.Spec PyProof.Rows L2

/-- a tree that comes to hand: it is frozen, or it stands in a new object, or it is a tuple of frozen things -/
def Comes (F : Fv) (H : Hp) (x : V) (H' : Hp) (d : PyData) : Prop :=
  (H' = H ∧ Rep F x d) ∨ (∃ T o, H T = none ∧ H' = upd H T o ∧ x = .ref T ∧ HoRep F o d) ∨ ∃ q xs, H' = H ∧ x = .ref q ∧ H q = some (.tup xs) ∧ F q = none ∧ HoRep F (.tup xs) d
/-- an iterator that yields these trees, while what is frozen stands -/
def Serves (J : It) (F : Fv) (ds : List PyData) : Prop := ∀ F' H', Fle F F' → View F' H' → ∀ i, (ds.length ≤ i → J.stop i H') ∧ ∀ d, ds[i]? = some d → J.go i H' ∧ ∀ x H'', J.yld i H' x H'' → Comes F' H' x H'' d
theorem Serves.mono {J : It} {F F1 : Fv} {ds : List PyData} (h : Serves J F ds) (l : Fle F F1) : Serves J F1 ds := fun F' H' l' v => h F' H' (l.trans l') v
abbrev IM := Ev → Res (List PyData)
def dI (m : Md) (E : XK) (f : IM) : TI := fun σ H R => ∃ g F env, SR m g F H σ env ∧ Post m g E (f env) fun ds env' => ∀ J F' H', Fle F F' → SR m g F' H' σ env' → Serves J F' ds → R J H'
def forL (b : GM) (body : SM) : List PyData → SM
  | [], env => rok .nx env
  | d :: ds, env => match b d env with
    | none => none
    | some e1 => rb (body e1) fun o e2 => match o with
      | .nx => forL b body ds e2
      | .ct => forL b body ds e2
      | .bk => rok .nx e2
      | .rt own d => rok (.rt own d) e2
def sFor (b : GM) (f : IM) (body : SM) : SM := fun env => rb (f env) fun ds e => forL b body ds e
section
variable {m : Md} {g : Gc} {E : XK} {F F' : Fv} {H H' : Hp} {σ σ' : L2.St} {env env' : Ev}
def Gc.at (g : Gc) (F : Fv) : Gc := { g with F0 := F }
theorem SR.rebase (S : SR m g F H σ env) : SR m (g.at F) F H σ env := ⟨S.view, .refl F, fun b h => .inl h, S.frame, S.locks, S.ioL, S.dom, S.tabs, S.len, S.slot, S.dist⟩
theorem SR.unbase (S : SR m g F H σ env) (S' : SR m (g.at F) F' H' σ' env') : SR m g F' H' σ' env' :=
  ⟨S'.view, S.ext.trans S'.ext, fun b h => (S'.new b h).elim (S.new b) .inr, S'.frame, S'.locks, S'.ioL, S'.dom, S'.tabs, S'.len, S'.slot, S'.dist⟩
theorem EPost.at {e : Ex} (h : EPost m g E e) : EPost m (g.at F) E e := fun cls dd H' fr xo => h cls dd H' ⟨fr.frame, fr.tabs, fr.dom⟩ xo
theorem Post.at {α : Type} {r : Res α} {K K' : α → Ev → Prop} (h : Post m g E r K) (k : ∀ a e, r = some (.ok (a, e)) → K a e → K' a e) : Post m (g.at F) E r K' := by
  unfold Post at h ⊢
  split at h
  · exact h
  · exact k _ _ rfl h
  · exact h.at
theorem PostO.at {D : Ends} {o : Out} (S : SR m g F H σ env) (h : PostO m g D o env') : PostO m (g.at F) D o env' := by
  cases o with
  | nx => exact fun F' H' σ' S' => h F' H' σ' (S.unbase S')
  | bk => exact fun F' H' σ' S' => h F' H' σ' (S.unbase S')
  | ct => exact fun F' H' σ' S' => h F' H' σ' (S.unbase S')
  | rt own d => exact fun v F' H' σ' S' vo => h v F' H' σ' (S.unbase S') vo
/-- what an iterator yields is a frozen tree -/
theorem SR.yielded {x : V} {d : PyData} (S : SR m g F H σ env) (h : Comes F H x H' d) : ∃ F', Fle F F' ∧ SR m g F' H' σ env ∧ Rep F' x d := by
  rcases h with ⟨rfl, r⟩ | ⟨T, o, hT, rfl, rfl, r⟩ | ⟨q, xs, rfl, rfl, hq, fq, r⟩
  · exact ⟨F, .refl F, S, r⟩
  · obtain ⟨S', r'⟩ := S.allocFz hT r
    exact ⟨_, fput_le (S.view.none hT), S', r'⟩
  · obtain ⟨S', r'⟩ := S.freezeT fq hq r
    exact ⟨_, fput_le fq, S', r'⟩
end
theorem drop_get {α : Type} {l : List α} {i : Nat} (h : i < l.length) : l.drop i = l[i] :: l.drop (i + 1) := List.drop_eq_getElem_cons h
section
variable {X : Cx} {m : Md} {E : XK} {pos : Pos} {b : GM} {f : IM} {body : SM}
theorem rd_for {ts : List Nat} {D : Ends} {σ : L2.St} {H : Hp} (q : dS m E (sFor b f body) D σ H) : tFor (dI m E f) (dG m ts b) (dS m E body) D σ H := by
  obtain ⟨g, F, env, S, P⟩ := q
  refine ⟨g, F, env, S, (post_rb P).mono fun ds e1 _ P1 J F1 H1 l1 S1 sv => ?_⟩
  refine ⟨fun i n σ' H' => ∃ F2 env2, SR m (g.at F1) F2 H' σ' env2 ∧ n = ds.length - i ∧ i ≤ ds.length ∧ Post m (g.at F1) E (forL b body (ds.drop i) env2) fun o e => PostO m (g.at F1) D o e,
    ⟨ds.length, F1, e1, S1.rebase, rfl, Nat.zero_le _, Post.at P1 fun o e _ k => k.at S1⟩, ?_⟩
  rintro i n σ' H' ⟨F2, env2, S2, rfl, hi, P2⟩
  have sv2 := sv F2 H' S2.ext S2.view i
  by_cases hlt : i < ds.length
  · rw [drop_get hlt] at P2
    obtain ⟨go, yl⟩ := sv2.2 ds[i] (List.getElem?_eq_getElem hlt)
    refine .inr ⟨go, fun σ'' H'' => ∃ F3 env3, SR m (g.at F1) F3 H'' σ'' env3 ∧ Post m (g.at F1) E (forL b body (ds.drop (i + 1)) env3) fun o e => PostO m (g.at F1) D o e, fun σ'' H'' ⟨F3, env3, S3, P3⟩ => ⟨ds.length - (i + 1), by omega, F3, env3, S3, rfl, by omega, P3⟩, fun x H'' y => ?_⟩
    obtain ⟨F3, l3, S3, r3⟩ := S2.yielded (yl x H'' y)
    unfold forL at P2
    cases eb : b ds[i] env2 with
    | none => rw [eb] at P2; exact P2.elim
    | some e3 =>
      rw [eb] at P2
      refine ⟨g.at F1, F3, env2, ds[i], e3, S3, r3, eb, fun σ3 S4 _ => ⟨g.at F1, F3, e3, S4, (post_rb P2).mono fun o e4 _ P4 => ?_⟩⟩
      cases o with
      | nx => exact fun F' H' σ' S' => ⟨F', e4, S', P4⟩
      | ct => exact fun F' H' σ' S' => ⟨F', e4, S', P4⟩
      | bk => exact P4
      | rt own d => exact P4
  · have e : i = ds.length := by omega
    subst e
    rw [List.drop_length] at P2
    exact .inl ⟨sv2.1 (Nat.le_refl _), P2 F2 H' σ' S2⟩
theorem ds_for {tg iter : Expr} {bd : List Stmt} {ts : List Nat} (hp : PassesOwn (model X.prog X.w) X.A X.env X.xe) (hc : X.calm = true) (hi : PI X tg iter (dI m E f)) (hg : PG X tg (dG m ts b)) (hb : PSs X bd (dS m E body)) (hs : ∀ x, foldedSetIterable iter X.env x = pure x := by intro _; rfl) :
    PS X (.For tg iter bd [] pos) (dS m E (sFor b f body)) := PS.imp (ps_for hp hc hi hg hb hs) fun D σ H => rd_for
end
theorem PI.imp {X : Cx} {tg e : Expr} {t t' : TI} (h : PI X tg e t) (k : ∀ σ H R, t' σ H R → t σ H R) : PI X tg e t' := ⟨fun pins s σ H R I q => h.run pins s σ H R I (k σ H R q)⟩
theorem PI.or {X : Cx} {tg e : Expr} {t t' : TI} (h : PI X tg e t) (h' : PI X tg e t') : PI X tg e (fun σ H R => t σ H R ∨ t' σ H R) := ⟨fun pins s σ H R I q => q.elim (h.run pins s σ H R I) (h'.run pins s σ H R I)⟩

/-! ### what is walked -/
theorem reps_get {F : Fv} {vs : List V} {ds : List PyData} {i : Nat} {d : PyData} (r : Reps F vs ds) (q : ds[i]? = some d) : ∃ v, vs[i]? = some v ∧ Rep F v d := by
  induction r generalizing i with
  | nil => simp at q
  | cons h t ih =>
    cases i with
    | zero => simp at q; subst q; exact ⟨_, rfl, h⟩
    | succ i => simpa using ih (by simpa using q)
theorem serves_list {K : PySem.W.Frag} {F : Fv} {a : Addr} {ds : List PyData} (h : F a = some (.list ds)) : Serves (Itl K a) F ds := by
  intro F' H' l v i
  obtain ⟨o, ro, hr⟩ := v a _ (l _ _ h)
  cases o with
  | lst vs =>
    refine ⟨fun hi => ⟨vs, .inl ro.rd, by rw [Paired.length hr]; exact hi⟩, fun d hd => ?_⟩
    obtain ⟨x, hx, rx⟩ := reps_get hr hd
    exact ⟨⟨vs, x, .inl ro.rd, hx⟩, fun y H'' ⟨e1, e2⟩ => by
      have e3 := e2 vs (.inl ro.rd)
      rw [hx] at e3; cases e3
      exact .inl ⟨e1, rx⟩⟩
  | _ => exact hr.elim
theorem serves_tup {K : PySem.W.Frag} {F : Fv} {a : Addr} {ds : List PyData} (h : F a = some (.tuple ds)) : Serves (Itt K a) F ds := by
  intro F' H' l v i
  obtain ⟨o, ro, hr⟩ := v a _ (l _ _ h)
  cases o with
  | tup vs =>
    refine ⟨fun hi => ⟨vs, .inl ro.rd, by rw [Paired.length hr]; exact hi⟩, fun d hd => ?_⟩
    obtain ⟨x, hx, rx⟩ := reps_get hr hd
    exact ⟨⟨vs, x, .inl ro.rd, hx⟩, fun y H'' ⟨e1, e2⟩ => by
      have e3 := e2 vs (.inl ro.rd)
      rw [hx] at e3; cases e3
      exact .inl ⟨e1, rx⟩⟩
  | _ => exact hr.elim
def signs (x : Str) : List PyData := x.cps.toList.map fun c => .str ⟨#[c]⟩
def rangeD (lo : Int) (n : Nat) : List PyData := (List.range n).map fun (i : Nat) => .int (lo + (i : Int))
theorem serves_range {F : Fv} {lo : Int} {n : Nat} : Serves (Itr lo n) F (rangeD lo n) := by
  intro F' H' l v i
  refine ⟨fun hi => by
    have h2 : n ≤ i := by simpa [rangeD] using hi
    exact h2, fun d hd => ?_⟩
  unfold rangeD at hd
  rw [List.getElem?_map] at hd
  by_cases h : i < n
  · rw [List.getElem?_range h] at hd
    cases hd
    exact ⟨h, fun y H'' ⟨e1, e2⟩ => .inl ⟨e1, e2⟩⟩
  · rw [List.getElem?_eq_none (by simpa using h)] at hd
    cases hd
/-- a list, a tuple, a text -/
def itOf (d : PyData) : Option (List PyData) := match d with
  | .list ds => some ds
  | .tuple ds => some ds
  | .str x => some (signs x)
  | _ => none
def iOf (f : EM) : IM := fun env => rb (f env) fun od e => lift (itOf od.2) e
def iRange1 (f : EM) : IM := fun env => rb (f env) fun od e => match od.2 with
  | .int j => if -(2 ^ 62) ≤ j ∧ j < 2 ^ 62 then rok (rangeD 0 j.toNat) e else none
  | _ => none
def iRange2 (f k : EM) : IM := fun env => rb (f env) fun od e => rb (k e) fun od2 e2 => match od.2, od2.2 with
  | .int i, .int j => if -(2 ^ 62) ≤ i ∧ i < 2 ^ 62 ∧ -(2 ^ 62) ≤ j ∧ j < 2 ^ 62 then rok (rangeD i (j - i).toNat) e2 else none
  | _, _ => none
section
variable {X : Cx} {m : Md} {E : XK} {pos : Pos} {f k : EM} {fs : AM} {tg e : Expr}
theorem di_of (hK : m.K = X.K) (he : PE X e (dE m E f)) : PI X tg e (dI m E (iOf f)) := by
  refine PI.imp (PI.or (pi_list he) (PI.or (pi_tup he) (pi_str he))) fun σ H R ⟨g, F, env, S, P⟩ => ?_
  have P := post_rb P
  cases q : f env with
  | none => rw [q] at P; exact P.elim
  | some r =>
    cases r with
    | error x =>
      rw [q] at P
      exact .inl ⟨g, F, env, S, by rw [q]; exact P⟩
    | ok od =>
      obtain ⟨⟨own, d⟩, e1⟩ := od
      have Q : ∃ ds, itOf d = some ds ∧ ∀ J F' H', Fle F F' → SR m g F' H' σ e1 → Serves J F' ds → R J H' := by
        rw [q] at P
        exact post_lift P
      obtain ⟨ds, hd, k⟩ := Q
      cases d with
      | list ds' =>
        cases hd
        refine .inl (dE_use S ?_)
        rw [q]
        intro v F1 H1 l S1 r1
        obtain ⟨a, rfl, ha⟩ := r1
        obtain ⟨o, ro, hr⟩ := S1.view a _ ha
        cases o with
        | lst vs => exact ⟨a, rfl, ⟨vs, .inl ro.rd⟩, k _ F1 H1 l S1 (serves_list ha)⟩
        | _ => exact hr.elim
      | tuple ds' =>
        cases hd
        refine .inr (.inl (dE_use S ?_))
        rw [q]
        intro v F1 H1 l S1 r1
        obtain ⟨a, rfl, ha⟩ := r1
        obtain ⟨o, ro, hr⟩ := S1.view a _ ha
        cases o with
        | tup vs => exact ⟨a, rfl, ⟨vs, .inl ro.rd⟩, k _ F1 H1 l S1 (serves_tup ha)⟩
        | _ => exact hr.elim
      | str x =>
        cases hd
        refine .inr (.inr (dE_use S ?_))
        rw [q]
        intro v F1 H1 l S1 r1
        refine ⟨x, r1, k _ F1 H1 l S1 fun F' H' _ _ i => ⟨fun hi => ?_, fun d hd => ?_⟩⟩
        · have h2 : x.cps.size ≤ i := by simpa [signs] using hi
          exact h2
        · unfold signs at hd
          rw [List.getElem?_map] at hd
          cases hc : x.cps.toList[i]? with
          | none => rw [hc] at hd; cases hd
          | some c =>
            rw [hc] at hd; cases hd
            have h3 : x.cps[i]? = some c := by rw [← Array.getElem?_toList]; exact hc
            refine ⟨(Array.getElem?_eq_some_iff.mp h3).1, fun y H'' ⟨e1, c', e2, e3⟩ => ?_⟩
            rw [h3] at e2; cases e2
            exact .inl ⟨e1, e3⟩
      | none => cases hd
      | bool _ => cases hd
      | int _ => cases hd
      | dict _ => cases hd
theorem rep_int {F : Fv} {v : V} {d : PyData} {i : Int} (r : Rep F v d) (e : d = .int i) : v = .int i := by
  subst e
  exact r
theorem di_range1 {p : Pos} {a : Expr} (hg : Gl X "range") (hm : X.mg "range" = none) (ha : PE X a (dE m E f)) (hs : starEach [a] X.env = [(false, eval a X.env)] := by rfl) : PI X tg (.Call (.Name "range" p) [a] [] pos) (dI m E (iRange1 f)) := by
  refine PI.imp (pi_range1 hg hm (pa_cons ha pa_nil hs) hs) fun σ H R ⟨g, F, env, S, P⟩ => ?_
  refine dE_use S ((post_rb P).mono fun od e1 _ P1 v F1 H1 l1 S1 r1 => ?_)
  split at P1
  · rename_i j ej
    split at P1
    · rename_i hj
      exact ⟨j, by rw [rep_int r1 ej], hj.1, hj.2, P1 _ F1 H1 l1 S1 serves_range⟩
    · exact P1.elim
  · exact P1.elim
theorem di_range2 {p : Pos} {a b : Expr} (hg : Gl X "range") (hm : X.mg "range" = none) (ha : PE X a (dE m E f)) (hb : PE X b (dE m E k)) (hs : starEach [a, b] X.env = [(false, eval a X.env), (false, eval b X.env)] := by rfl) (hs2 : starEach [b] X.env = [(false, eval b X.env)] := by rfl) : PI X tg (.Call (.Name "range" p) [a, b] [] pos) (dI m E (iRange2 f k)) := by
  refine PI.imp (pi_range2 hg hm (pa_cons ha (pa_cons hb pa_nil hs2) (by rw [hs, hs2])) hs hs2) fun σ H R ⟨g, F, env, S, P⟩ => ?_
  refine dE_use S ((post_rb P).mono fun od e1 _ P1 v F1 H1 l1 S1 r1 => ?_)
  refine dE_use S1 ((post_rb P1).mono fun od2 e2 _ P2 w F2 H2 l2 S2 r2 => ?_)
  split at P2
  · rename_i i j ei ej
    split at P2
    · rename_i hj
      exact ⟨i, j, by rw [rep_int r1 ei, rep_int r2 ej], hj, P2 _ F2 H2 (l1.trans l2) S2 serves_range⟩
    · exact P2.elim
  · exact P2.elim
end

/-! ### comprehensions -/
def hide (env : Ev) : List Nat → Ev
  | [] => env
  | v :: vs => (hide env vs).set v .no
def noErr {α : Type} (r : Res α) : Res α := match r with
  | some (.ok x) => some (.ok x)
  | _ => none
@[simp] theorem noErr_rok {α : Type} (a : α) (e : Ev) : noErr (rok a e) = rok a e := rfl
@[simp] theorem noErr_ok {α : Type} (x : α × Ev) : noErr (some (.ok x) : Res α) = some (.ok x) := rfl
/-- the turns of a comprehension: the environment within (its own names hidden), what is gathered -/
def lcL (vs : List Nat) (b : GM) (t : TM) (f : EM) : List PyData → Ev → List PyData → Res (List PyData)
  | [], env, acc => rok acc env
  | d :: ds, env, acc => match b d env with
    | none => none
    | some e1 => rb (noErr (t e1)) fun c e2 => if c = true then rb (noErr (f e2)) fun od e3 => if acc.length < sizeLine then lcL vs b t f ds (hide e3 vs) (acc ++ [od.2]) else none else lcL vs b t f ds (hide e2 vs) acc
/-- behind the block the hidden slots are as ahead of it -/
def unhide (env e : Ev) : List Nat → Ev
  | [] => e
  | v :: vs => match env[v]? with
    | some sl => (unhide env e vs).set v sl
    | none => unhide env e vs
def noOwn (env : Ev) (vs : List Nat) : Bool := vs.all fun v => match env[v]? with
  | some (.ow _) => false
  | some (.io _) => false
  | some (.sc _) => false
  | _ => true
def eLc (vs : List Nat) (b : GM) (i : IM) (t : TM) (f : EM) : EM := fun env => rb (i env) fun ds e => if noOwn e vs = true then rb (lcL vs b t f ds (hide e vs) []) fun acc e2 => rok (true, .list acc) (unhide e e2 vs) else none
def tTrue : TM := fun env => rok true env
theorem hide_length (env : Ev) : ∀ vs : List Nat, (hide env vs).length = env.length
  | [] => rfl
  | v :: vs => by unfold hide; rw [List.length_set, hide_length env vs]
theorem hide_get {env : Ev} {i : Nat} {sl : Sl} : ∀ {vs : List Nat}, (hide env vs)[i]? = some sl → (i ∈ vs ∧ sl = .no) ∨ (i ∉ vs ∧ env[i]? = some sl)
  | [], h => .inr ⟨by simp, h⟩
  | v :: vs, h => by
    unfold hide at h
    by_cases hv : v = i
    · subst hv
      have hl : v < (hide env vs).length := by
        have := (List.getElem?_eq_some_iff.mp h).1
        simpa using this
      rw [List.getElem?_set_self hl] at h
      cases h
      exact .inl ⟨List.mem_cons_self, rfl⟩
    · rw [List.getElem?_set_ne hv] at h
      rcases hide_get h with ⟨a, b⟩ | ⟨a, b⟩
      · exact .inl ⟨List.mem_cons_of_mem _ a, b⟩
      · exact .inr ⟨fun z => (List.mem_cons.mp z).elim (fun z => hv z.symm) a, b⟩
theorem wipe_off {σ : L2.St} {i : Nat} : ∀ {vs : List Nat}, i ∉ vs → (wipe σ vs)[i]? = σ[i]?
  | [], _ => rfl
  | v :: vs, h => by
    unfold wipe
    rw [List.getElem?_set_ne (fun z => h (by simp [z]))]
    exact wipe_off fun z => h (List.mem_cons_of_mem _ z)
theorem wipe_on {σ : L2.St} {i : Nat} : ∀ {vs : List Nat}, i ∈ vs → i < σ.length → (wipe σ vs)[i]? = some none
  | [], h, _ => by simp at h
  | v :: vs, h, hl => by
    unfold wipe
    by_cases hv : v = i
    · subst hv
      rw [List.getElem?_set_self (by rw [wipe_length]; exact hl)]
    · rw [List.getElem?_set_ne hv]
      exact wipe_on ((List.mem_cons.mp h).resolve_left fun z => hv z.symm) hl
theorem wipe_same {σ σ' : L2.St} {ts vs : List Nat} (h : SameOff ts σ σ') (hs : ∀ i ∈ ts, i ∈ vs) : wipe σ' vs = wipe σ vs := by
  refine List.ext_getElem? fun i => ?_
  by_cases hi : i ∈ vs
  · by_cases hl : i < σ.length
    · rw [wipe_on hi hl, wipe_on hi (by rw [h.1]; exact hl)]
    · rw [List.getElem?_eq_none (by rw [wipe_length, h.1]; omega), List.getElem?_eq_none (by rw [wipe_length]; omega)]
  · rw [wipe_off hi, wipe_off hi]
    exact h.2 i fun z => hi (hs i z)
theorem wipe_wipe {σ : L2.St} {vs : List Nat} : wipe (wipe σ vs) vs = wipe σ vs := wipe_same (ts := vs) ⟨wipe_length _ _, fun j hj => wipe_off hj⟩ fun _ h => h
section
variable {m : Md} {g : Gc} {E : XK} {F F' : Fv} {H H' : Hp} {σ σ' : L2.St} {env env' : Ev}
theorem SR.hide (S : SR m g F H σ env) (vs : List Nat) : SR m g F H (wipe σ vs) (hide env vs) := by
  have o : ∀ i a, OwnA (wipe σ vs) (DL.hide env vs) i a → OwnA σ env i a := fun i a ⟨h1, h2⟩ => by
    have hi : i ∉ vs := fun z => by
      rcases h2 with ⟨d, e⟩ | ⟨d, e⟩ <;> (rcases hide_get e with ⟨_, q⟩ | ⟨q, _⟩ <;> first | (cases q; done) | exact q z)
    refine ⟨by rw [wipe_off hi] at h1; exact h1, ?_⟩
    rcases h2 with ⟨d, e⟩ | ⟨d, e⟩
    · rcases hide_get e with ⟨q, _⟩ | ⟨_, q⟩
      · exact (hi q).elim
      · exact .inl ⟨d, q⟩
    · rcases hide_get e with ⟨q, _⟩ | ⟨_, q⟩
      · exact (hi q).elim
      · exact .inr ⟨d, q⟩
  refine ⟨S.view, S.ext, S.new, S.frame, S.locks, S.ioL, S.dom, S.tabs, by rw [wipe_length, hide_length]; exact S.len, fun i sl e => ?_, fun i j a h1 h2 => S.dist i j a (o i a h1) (o j a h2)⟩
  rcases hide_get e with ⟨hi, rfl⟩ | ⟨hi, e'⟩
  · have hl : i < σ.length := by
      have := (List.getElem?_eq_some_iff.mp e).1
      rw [hide_length] at this
      rw [S.len]; exact this
    exact ⟨none, wipe_on hi hl, trivial⟩
  · rw [wipe_off hi]
    exact S.slot i sl e'
theorem unhide_length (env e : Ev) : ∀ vs : List Nat, (unhide env e vs).length = e.length
  | [] => rfl
  | v :: vs => by
    unfold unhide
    split
    · rw [List.length_set, unhide_length env e vs]
    · exact unhide_length env e vs
theorem unhide_get {env e : Ev} (hl : e.length = env.length) {i : Nat} {sl : Sl} : ∀ {vs : List Nat}, (unhide env e vs)[i]? = some sl → (i ∈ vs ∧ env[i]? = some sl) ∨ (i ∉ vs ∧ e[i]? = some sl)
  | [], h => .inr ⟨by simp, h⟩
  | v :: vs, h => by
    unfold unhide at h
    split at h
    · rename_i sl' hv
      by_cases hi : v = i
      · subst hi
        have hl' : v < (unhide env e vs).length := by
          have := (List.getElem?_eq_some_iff.mp h).1
          simpa using this
        rw [List.getElem?_set_self hl'] at h
        cases h
        exact .inl ⟨List.mem_cons_self, hv⟩
      · rw [List.getElem?_set_ne hi] at h
        rcases unhide_get hl h with ⟨a, b⟩ | ⟨a, b⟩
        · exact .inl ⟨List.mem_cons_of_mem _ a, b⟩
        · exact .inr ⟨fun z => (List.mem_cons.mp z).elim (fun z => hi z.symm) a, b⟩
    · rename_i hv
      have hi : v ≠ i := fun z => by
        subst z
        have h1 := (List.getElem?_eq_some_iff.mp h).1
        rw [unhide_length, hl] at h1
        rw [List.getElem?_eq_getElem h1] at hv
        cases hv
      rcases unhide_get hl h with ⟨a, b⟩ | ⟨a, b⟩
      · exact .inl ⟨List.mem_cons_of_mem _ a, b⟩
      · exact .inr ⟨fun z => (List.mem_cons.mp z).elim (fun z => hi z.symm) a, b⟩
/-- behind the block -/
theorem SR.unhide {vs : List Nat} {e : Ev} (S : SR m g F H σ env) (hn : noOwn env vs = true) (l : Fle F F') (S' : SR m g F' H' (wipe σ vs) e) : SR m g F' H' σ (unhide env e vs) := by
  have hl : e.length = env.length := by rw [← S'.len, wipe_length, S.len]
  have nv : ∀ i ∈ vs, (∀ d, env[i]? ≠ some (.ow d)) ∧ (∀ d, env[i]? ≠ some (.io d)) ∧ ∀ d, env[i]? ≠ some (.sc d) := fun i hi => by
    have h := List.all_eq_true.mp hn i hi
    refine ⟨fun d z => ?_, fun d z => ?_, fun d z => ?_⟩ <;> (rw [z] at h; simp at h)
  have o : ∀ i a, OwnA σ (DL.unhide env e vs) i a → OwnA (wipe σ vs) e i a := fun i a ⟨h1, h2⟩ => by
    have hi : i ∉ vs := fun z => by
      rcases h2 with ⟨d, q⟩ | ⟨d, q⟩ <;> (rcases unhide_get hl q with ⟨_, w⟩ | ⟨w, _⟩ <;> first | exact (nv i z).1 _ w | exact (nv i z).2.1 _ w | exact w z)
    refine ⟨by rw [wipe_off hi]; exact h1, ?_⟩
    rcases h2 with ⟨d, q⟩ | ⟨d, q⟩
    · rcases unhide_get hl q with ⟨w, _⟩ | ⟨_, w⟩
      · exact (hi w).elim
      · exact .inl ⟨d, w⟩
    · rcases unhide_get hl q with ⟨w, _⟩ | ⟨_, w⟩
      · exact (hi w).elim
      · exact .inr ⟨d, w⟩
  refine ⟨S'.view, S'.ext, S'.new, S'.frame, S'.locks, S'.ioL, S'.dom, S'.tabs, by rw [unhide_length, hl]; exact S.len, fun i sl q => ?_, fun i j a h1 h2 => S'.dist i j a (o i a h1) (o j a h2)⟩
  rcases unhide_get hl q with ⟨hi, w⟩ | ⟨hi, w⟩
  · obtain ⟨v, e1, z⟩ := S.slot i sl w
    refine ⟨v, e1, ?_⟩
    cases sl with
    | no => trivial
    | fz d => obtain ⟨x, e2, r⟩ := z; exact ⟨x, e2, r.mono l⟩
    | fn x => exact z
    | ptr a => exact z
    | ow d => exact ((nv i hi).1 d w).elim
    | io d => exact ((nv i hi).2.1 d w).elim
    | sc d => exact ((nv i hi).2.2 d w).elim
  · obtain ⟨v, e1, z⟩ := S'.slot i sl w
    rw [wipe_off hi] at e1
    exact ⟨v, e1, z⟩
/-- an own object beside the slots is held while something runs -/
def Gc.hold (g : Gc) (D : Addr) (o : HO) : Gc := { g with H0 := fun b => if b = D then some o else g.H0 b }
theorem SR.hold {D : Addr} {o : HO} (S : SR m g F H σ env) (hD : H D = some o) (mu : Ldk o) (hn : g.H0 D = none) (hx : ∀ i, ¬ OwnA σ env i D) (hf : F D = none) : SR m (g.hold D o) F H σ env := by
  have hio : ∀ a, g.io = some a → a ≠ D ∨ True := fun _ _ => .inr trivial
  refine ⟨S.view, S.ext, fun b h => (S.new b h).imp id fun u => ?_, fun b u e h1 h2 h3 => ?_, fun p hp => ⟨(S.locks p hp).1, fun u e => ?_, (S.locks p hp).2.2⟩, fun a h => ⟨fun z => (S.ioL a h).1 (by
    by_cases hb : a = D
    · simp [Gc.hold, hb] at z
    · simpa [Gc.hold, hb] using z), (S.ioL a h).2⟩, fun b e => ?_, S.tabs, S.len, fun i sl e => ?_, S.dist⟩
  · intro u' e mu'
    by_cases hb : b = D
    · exact h (by rw [hb]; exact hf)
    · exact u u' (by simpa [Gc.hold, hb] using e) mu'
  · by_cases hb : b = D
    · rw [hb] at e ⊢
      simp only [Gc.hold, if_true] at e
      cases e
      exact hD
    · exact S.frame b u (by simpa [Gc.hold, hb] using e) h1 h2 h3
  · by_cases hb : p.1 = D
    · have h1 := (S.locks p hp).1
      rw [hb, hD] at h1
      cases h1
      exact mu.elim
    · exact (S.locks p hp).2.1 u (by simpa [Gc.hold, hb] using e)
  · by_cases hb : b = D
    · rw [hb, hD] at e; cases e
    · simpa [Gc.hold, hb] using S.dom b e
  · obtain ⟨v, e1, z⟩ := S.slot i sl e
    refine ⟨v, e1, ?_⟩
    cases sl with
    | ow d =>
      obtain ⟨a, e2, oa, n⟩ := z
      have na : a ≠ D := fun z => hx i ⟨by rw [e1, e2, z], .inl ⟨d, e⟩⟩
      exact ⟨a, e2, oa, by simpa [Gc.hold, na] using n⟩
    | no => trivial
    | fz d => exact z
    | fn x => exact z
    | ptr a => exact z
    | io d => exact z
    | sc d => exact z
theorem SR.unhold {D : Addr} {o : HO} {F0 : Fv} (S' : SR m ((g.at F0).hold D o) F' H' σ' env') (hn : g.H0 D = none) (mu : Ldk o) (hf : F0 D = none) (hio : g.io ≠ some D) (hl : D ∉ g.L.map (·.1)) : SR m (g.at F0) F' H' σ' env' ∧ H' D = some o ∧ F' D = none ∧ ∀ i, ¬ OwnA σ' env' i D := by
  have e0 : ((g.at F0).hold D o).H0 D = some o := if_pos rfl
  have hD : H' D = some o := S'.frame D o e0 hio (mut_nt mu.mut) hl
  have hfD : F' D = none := by
    cases q : F' D with
    | none => rfl
    | some d =>
      rcases S'.new D (by rw [q]; exact fun z => nomatch z) with z | z
      · exact (z hf).elim
      · exact (z o e0 mu.mut).elim
  have le0 : ∀ b u, g.H0 b = some u → ((g.at F0).hold D o).H0 b = some u := fun b u e => by
    have : b ≠ D := fun z => by rw [z, hn] at e; cases e
    show (if b = D then some o else g.H0 b) = some u
    rw [if_neg this]; exact e
  refine ⟨⟨S'.view, S'.ext, fun b h => (S'.new b h).imp id fun u u' e mu' => u u' (le0 b u' e) mu', fun b u e h1 h2 h3 => S'.frame b u (le0 b u e) h1 h2 h3, fun p hp => ⟨(S'.locks p hp).1, fun u e => (S'.locks p hp).2.1 u (le0 _ u e), (S'.locks p hp).2.2⟩, fun a h => ⟨fun z => (S'.ioL a h).1 (by
    have hb : a ≠ D := fun w => hio (by rw [← w]; exact h)
    simpa [Gc.hold, hb] using z), (S'.ioL a h).2⟩, fun b e => ?_, S'.tabs, S'.len, fun i sl e => ?_, S'.dist⟩, hD, hfD, fun i hi => ?_⟩
  · have := S'.dom b e
    by_cases hb : b = D
    · rw [hb]; exact hn
    · simpa [Gc.hold, hb] using this
  · obtain ⟨v, e1, z⟩ := S'.slot i sl e
    refine ⟨v, e1, ?_⟩
    cases sl with
    | ow d =>
      obtain ⟨a, e2, oa, n⟩ := z
      have na : a ≠ D := fun z => by rw [z, e0] at n; cases n
      exact ⟨a, e2, oa, by simpa [Gc.hold, na] using n⟩
    | no => trivial
    | fz d => exact z
    | fn x => exact z
    | ptr a => exact z
    | io d => exact z
    | sc d => exact z
  · obtain ⟨h1, ⟨d, q⟩ | ⟨d, q⟩⟩ := hi
    · obtain ⟨v, e1, a, e2, oa, n⟩ := S'.slot i _ q
      rw [h1] at e1; cases e1; cases e2
      rw [e0] at n; cases n
    · obtain ⟨v, e1, a, ws, e2, hi', _⟩ := S'.slot i _ q
      rw [h1] at e1; cases e1; cases e2
      exact hio hi'
/-- an own object beside the slots is written -/
theorem SR.wrote {D : Addr} {o o0 : HO} (S : SR m g F H σ env) (hD : H D = some o0) (mu : Ldk o0) (hn : g.H0 D = none ∨ (g.io = some D ∧ ∃ ws, o = .lst ws)) (hf : F D = none) (hx : ∀ i, ¬ OwnA σ env i D) (hl : D ∉ g.L.map (·.1)) : SR m g F (upd H D o) σ env := by
  have ne : ∀ b, b ≠ D → upd H D o b = H b := fun b h => upd_ne h
  have nD : ∀ b u, ¬ Ldk u → H b = some u → b ≠ D := fun b u nl e z => by
    rw [z, hD] at e; cases e; exact nl mu
  refine ⟨fun b d q => ?_, S.ext, S.new, fun b u e h1 h2 h3 => ?_, fun p hp => ⟨?_, (S.locks p hp).2⟩, fun a h => ?_, fun b e => ?_, fun p hp => ?_, S.len, fun i sl e => ?_, S.dist⟩
  · obtain ⟨u, r, z⟩ := S.view b d q
    have nb : b ≠ D := fun z => by rw [z, hf] at q; cases q
    exact ⟨u, r.keep fun u e => by rw [ne b nb]; exact e, z⟩
  · have nb : b ≠ D := fun z => by
      rcases hn with hn | ⟨hn, _⟩
      · rw [z, hn] at e; cases e
      · exact h1 (by rw [z]; exact hn)
    rw [ne b nb]
    exact S.frame b u e h1 h2 h3
  · have nb : p.1 ≠ D := fun z => hl (z ▸ List.mem_map.mpr ⟨p, hp, rfl⟩)
    rw [ne _ nb]
    exact (S.locks p hp).1
  · obtain ⟨n0, ws, e⟩ := S.ioL a h
    refine ⟨n0, ?_⟩
    by_cases na : a = D
    · rcases hn with hn | ⟨_, ws', rfl⟩
      · exact (n0 (by rw [na]; exact hn)).elim
      · exact ⟨ws', by rw [na]; exact upd_same⟩
    · exact ⟨ws, by rw [ne _ na]; exact e⟩
  · by_cases hb : b = D
    · rw [hb, upd_same] at e; cases e
    · rw [ne b hb] at e
      exact S.dom b e
  · obtain ⟨ps, h1, h2, h3⟩ := S.tabs p hp
    refine ⟨ps, by rw [ne _ (nD _ (.tbl ps) (fun z => z) h1)]; exact h1, h2, fun pos cv hc => ?_⟩
    obtain ⟨c, e1, e2⟩ := h3 pos cv hc
    exact ⟨c, e1, by rw [ne c (nD _ (LamX.CodeO c p.2) (fun z => z) e2)]; exact e2⟩
  · obtain ⟨v, e1, z⟩ := S.slot i sl e
    refine ⟨v, e1, ?_⟩
    cases sl with
    | no => trivial
    | fz d => exact z
    | fn x => exact z
    | ptr a => exact z
    | ow d =>
      obtain ⟨a, e2, ⟨f, o', h1, mu', r⟩, n⟩ := z
      have na : a ≠ D := fun z => hx i ⟨by rw [e1, e2, z], .inl ⟨d, e⟩⟩
      exact ⟨a, e2, ⟨f, o', by rw [ne a na]; exact h1, mu', r⟩, n⟩
    | io d =>
      obtain ⟨a, ws, e2, hi, f, h1, r⟩ := z
      have na : a ≠ D := fun z => hx i ⟨by rw [e1, e2, z], .inr ⟨d, e⟩⟩
      exact ⟨a, ws, e2, hi, f, by rw [ne a na]; exact h1, r⟩
    | sc ns =>
      obtain ⟨a, e2, z⟩ := z
      refine ⟨a, e2, z.imp (fun ⟨ob, h⟩ => ⟨ob, ?_⟩) id⟩
      rw [ne a (nD _ (.frz ob (.lst (ns.map V.int))) (fun z => z) h)]
      exact h
end
theorem post_noErr {α : Type} {m : Md} {g g' : Gc} {E E' : XK} {r : Res α} {K : α → Ev → Prop} (h : Post m g E (noErr r) K) : Post m g' E' r K := by
  cases r with
  | none => exact h
  | some x => cases x with
    | error e => exact h.elim
    | ok p => exact h
theorem SR.apart {m : Md} {g : Gc} {F : Fv} {H : Hp} {σ : L2.St} {env : Ev} (S : SR m g F H σ env) {D : Addr} (hD : H D = none) : g.H0 D = none ∧ F D = none ∧ (∀ i, ¬ OwnA σ env i D) ∧ g.io ≠ some D ∧ D ∉ g.L.map (·.1) := by
  refine ⟨S.dom D hD, S.view.none hD, fun i hi => ?_, fun h => ?_, fun h => ?_⟩
  · obtain ⟨_, o, h, _⟩ := S.own hi
    rw [hD] at h; cases h
  · obtain ⟨_, ws, e⟩ := S.ioL D h
    rw [hD] at e; cases e
  · obtain ⟨p, hp, e⟩ := List.mem_map.mp h
    have := (S.locks p hp).1
    rw [e, hD] at this
    cases this
section
variable {m : Md} {E : XK} {vs : List Nat} {b : GM} {i : IM} {t : TM} {f : EM} {ts : List Nat}
theorem rd_lc (hts : ∀ i ∈ ts, i ∈ vs) {σ : L2.St} {H : Hp} {Q : VK} (q : dE m E (eLc vs b i t f) σ H Q) : tLc (dI m E i) (dG m ts b) (dT m E0 t) (dE m E0 f) vs σ H Q := by
  obtain ⟨g, F, env, S, P⟩ := q
  refine ⟨g, F, env, S, (post_rb P).mono fun ds e1 _ P1 J F1 H1 l1 S1 sv D hD => ?_⟩
  split at P1
  · rename_i hno
    have P1 := post_rb P1
    obtain ⟨hn, hfD, hx, hio, hl⟩ := S1.apart hD
    have hn' : (g.at F1).H0 D = none := hn
    refine ⟨fun i n H' => ∃ F2 env2 av ad, SR m (g.at F1) F2 H' (wipe σ vs) env2 ∧ H' D = some (.lst av) ∧ Reps F2 av ad ∧ F2 D = none ∧ (∀ j, ¬ OwnA (wipe σ vs) env2 j D) ∧ n = ds.length - i ∧ i ≤ ds.length ∧
        Post m (g.at F1) E (lcL vs b t f (ds.drop i) env2 ad) (fun acc e2 => ∀ v F' H', SR m (g.at F1) F' H' σ (unhide e1 e2 vs) → VOk (g.at F1) F' H' σ (unhide e1 e2 vs) true (.list acc) v → Q v H'),
      ⟨ds.length, F1, hide e1 vs, [], [], ?_, upd_same, .nil, hfD, ?_, rfl, Nat.zero_le _, ?_⟩, ?_⟩
    · exact (S1.rebase.hide vs).alloc hD
    · intro j hj
      obtain ⟨_, o, h, _⟩ := (S1.hide vs).own hj
      rw [hD] at h; cases h
    · exact Post.at P1 fun acc e2 _ k v F' H' S' vo => k v F' H' (l1.trans S'.ext) (S1.unbase S') vo
    · rintro i n H' ⟨F2, env2, av, ad, S2, hav, hr, hF2, hx2, rfl, hi, P2⟩
      have sv2 := sv F2 H' S2.ext S2.view i
      by_cases hlt : i < ds.length
      · rw [drop_get hlt] at P2
        obtain ⟨go, yl⟩ := sv2.2 ds[i] (List.getElem?_eq_getElem hlt)
        unfold lcL at P2
        refine .inr ⟨go, fun H'' => ∃ F2 env2 av ad, SR m (g.at F1) F2 H'' (wipe σ vs) env2 ∧ H'' D = some (.lst av) ∧ Reps F2 av ad ∧ F2 D = none ∧ (∀ j, ¬ OwnA (wipe σ vs) env2 j D) ∧
            Post m (g.at F1) E (lcL vs b t f (ds.drop (i + 1)) env2 ad) (fun acc e2 => ∀ v F' H', SR m (g.at F1) F' H' σ (unhide e1 e2 vs) → VOk (g.at F1) F' H' σ (unhide e1 e2 vs) true (.list acc) v → Q v H'),
          fun H'' ⟨F3, env3, av3, ad3, a1, a2, a3, a4, a5, a6⟩ => ⟨ds.length - (i + 1), by omega, F3, env3, av3, ad3, a1, a2, a3, a4, a5, rfl, by omega, a6⟩, fun x H'' y => ?_⟩
        have S2h := (show SR m ((g.at F1).at F2) F2 H' (wipe σ vs) env2 from S2.rebase).hold (o := .lst av) hav trivial hn hx2 hF2
        obtain ⟨F3, l3, S3, r3⟩ := S2h.yielded (yl x H'' y)
        cases eb : b ds[i] env2 with
        | none => rw [eb] at P2; exact P2.elim
        | some e3 =>
          rw [eb] at P2
          refine ⟨_, F3, env2, ds[i], e3, S3, r3, eb, fun σ3 S4 so => ?_⟩
          have hw : wipe σ3 vs = wipe (wipe σ vs) vs := wipe_same so hts
          refine ⟨hw.trans wipe_wipe, ?_⟩
          refine ⟨_, F3, e3, S4, Post.mono (post_noErr (post_rb P2)) fun c e4 _ P4 F4 H4 l4 S5 => ?_⟩
          cases c with
          | true =>
            refine iteT (dE_use S5 (Post.mono (post_noErr (post_rb P4)) fun od e5 _ P5 y5 F5 H5 l5 S6 r6 => ?_))
            obtain ⟨S7, hD7, hF7, hx7⟩ := SR.unhold (g := g.at F1) S6 hn' trivial hF2 hio hl
            by_cases hz : ad.length < sizeLine
            · rw [if_pos hz] at P5
              refine ⟨av, hD7, by rw [Paired.length hr]; exact hz, F5, hide e5 vs, av ++ [y5], ad ++ [od.2], ?_, upd_same, Paired.snoc (Reps.mono ((l3.trans l4).trans l5) hr) r6, hF7, ?_, P5⟩
              · have S8 := (S7.wrote (o := .lst (av ++ [y5])) hD7 trivial (.inl hn') hF7 hx7 hl).hide vs
                rw [hw.trans wipe_wipe] at S8
                exact S2.unbase S8
              · intro j hj
                have S8 := S7.hide vs
                rw [hw.trans wipe_wipe] at S8
                have hj' : OwnA (wipe σ3 vs) (hide e5 vs) j D := by rw [hw.trans wipe_wipe]; exact hj
                refine hx7 j ?_
                obtain ⟨q1, q2⟩ := hj'
                have hjv : j ∉ vs := fun z => by
                  rcases q2 with ⟨d, e⟩ | ⟨d, e⟩ <;> (rcases hide_get e with ⟨_, q⟩ | ⟨q, _⟩ <;> first | (cases q; done) | exact q z)
                refine ⟨by rw [wipe_off hjv] at q1; exact q1, ?_⟩
                rcases q2 with ⟨d, e⟩ | ⟨d, e⟩
                · exact .inl ⟨d, (hide_get e).elim (fun q => (hjv q.1).elim) (·.2)⟩
                · exact .inr ⟨d, (hide_get e).elim (fun q => (hjv q.1).elim) (·.2)⟩
            · rw [if_neg hz] at P5
              exact P5.elim
          | false =>
            refine iteF ?_
            obtain ⟨S7, hD7, hF7, hx7⟩ := SR.unhold (g := g.at F1) S5 hn' trivial hF2 hio hl
            refine ⟨F4, hide e4 vs, av, ad, ?_, hD7, Reps.mono (l3.trans l4) hr, hF7, ?_, P4⟩
            · have S8 := S7.hide vs
              rw [hw.trans wipe_wipe] at S8
              exact S2.unbase S8
            · intro j hj
              have hj' : OwnA (wipe σ3 vs) (hide e4 vs) j D := by rw [hw.trans wipe_wipe]; exact hj
              refine hx7 j ?_
              obtain ⟨q1, q2⟩ := hj'
              have hjv : j ∉ vs := fun z => by
                rcases q2 with ⟨d, e⟩ | ⟨d, e⟩ <;> (rcases hide_get e with ⟨_, q⟩ | ⟨q, _⟩ <;> first | (cases q; done) | exact q z)
              refine ⟨by rw [wipe_off hjv] at q1; exact q1, ?_⟩
              rcases q2 with ⟨d, e⟩ | ⟨d, e⟩
              · exact .inl ⟨d, (hide_get e).elim (fun q => (hjv q.1).elim) (·.2)⟩
              · exact .inr ⟨d, (hide_get e).elim (fun q => (hjv q.1).elim) (·.2)⟩
      · have e : i = ds.length := by omega
        subst e
        rw [List.drop_length] at P2
        refine .inl ⟨sv2.1 (Nat.le_refl _), ?_⟩
        have S3 : SR m (g.at F1) F2 H' σ (unhide e1 env2 vs) := S1.rebase.unhide hno S2.ext S2
        refine P2 _ F2 H' S3 ⟨D, rfl, ⟨hF2, _, hav, trivial, hr⟩, hn, fun j hj => hx2 j ?_⟩
        have hl2 : env2.length = e1.length := by rw [← S2.len, wipe_length, S1.len]
        obtain ⟨q1, q2⟩ := hj
        have nv : ∀ i ∈ vs, (∀ d, e1[i]? ≠ some (.ow d)) ∧ ∀ d, e1[i]? ≠ some (.io d) := fun i hi => by
          have h := List.all_eq_true.mp hno i hi
          refine ⟨fun d z => ?_, fun d z => ?_⟩ <;> (rw [z] at h; simp at h)
        have hjv : j ∉ vs := fun z => by
          rcases q2 with ⟨d, q⟩ | ⟨d, q⟩ <;> (rcases unhide_get hl2 q with ⟨_, w⟩ | ⟨w, _⟩ <;> first | exact (nv j z).1 _ w | exact (nv j z).2 _ w | exact w z)
        refine ⟨by rw [wipe_off hjv]; exact q1, ?_⟩
        rcases q2 with ⟨d, q⟩ | ⟨d, q⟩
        · exact .inl ⟨d, (unhide_get hl2 q).elim (fun w => (hjv w.1).elim) (·.2)⟩
        · exact .inr ⟨d, (unhide_get hl2 q).elim (fun w => (hjv w.1).elim) (·.2)⟩
  · exact P1.elim
end
section
variable {X : Cx} {m : Md} {E : XK} {pos : Pos} {elt tg iter : Expr} {ifs : List Expr} {scope : Scope} {own : List (Str × Nat)} {b : GM} {i : IM} {t : TM} {f : EM} {ts : List Nat}
theorem PTs.imp {X : Cx} {e : List Expr} {t t' : TT} (h : PTs X e t) (k : ∀ σ H Q, t' σ H Q → t σ H Q) : PTs X e t' := ⟨fun pins s σ H Q I q => h.run pins s σ H Q I (k σ H Q q)⟩
theorem dts_nil : PTs X [] (dT m E tTrue) := PTs.imp pts_nil fun σ H Q ⟨g, F, env, S, P⟩ => P F H (.refl F) S
theorem dts_one {c : Expr} (h : PT X c (dT m E t)) : PTs X [c] (dT m E t) := pts_one h
theorem d_lc (hc : X.calm = true) (hN : X.N.Nodup) (hi : PI X tg iter (dI m E i)) (ok : BlkOk X.N X.env.scope scope own) (hts : ∀ i ∈ ts, i ∈ own.map (·.2))
    (hg : ∀ (s : Shared) (H : Hp) (C : Addr) (cl : List (Str × Addr)) (fp : List Addr), PG (X.blk s H scope (compEnvC scope cl C X.env) fp) tg (dG m ts b)) (ht : ∀ (s : Shared) (H : Hp) (C : Addr) (cl : List (Str × Addr)) (fp : List Addr), PTs (X.blk s H scope (compEnvC scope cl C X.env) fp) ifs (dT m E0 t))
    (he : ∀ (s : Shared) (H : Hp) (C : Addr) (cl : List (Str × Addr)) (fp : List Addr), PE (X.blk s H scope (compEnvC scope cl C X.env) fp) elt (dE m E0 f)) (hs : ∀ x, foldedSetIterable iter X.env x = pure x := by intro _; rfl) :
    PE X (.ListComp elt [⟨tg, iter, ifs, 0⟩] scope pos) (dE m E (eLc (own.map (·.2)) b i t f)) := PE.imp (pe_lc hc hN hi ok hg ht he hs) fun _ _ _ => rd_lc hts
theorem ds_setLc {j : Nat} {y : Str} {py spos : Pos} (hc : X.calm = true) (hN : X.N.Nodup) (hy : X.N[j]? = some y) (hyl : X.env.scope.names.lookup y = some .local)
    (hsw : swapsWith (.ListComp elt [⟨tg, iter, ifs, 0⟩] scope pos) (some (.Name y py)) spos.line X.env = pure true) (hi : PI X tg iter (dI m E i)) (ok : BlkOk X.N X.env.scope scope own) (hts : ∀ i ∈ ts, i ∈ own.map (·.2))
    (hg : ∀ (s : Shared) (H : Hp) (C : Addr) (cl : List (Str × Addr)) (fp : List Addr), PG (X.blk s H scope (compEnvC scope cl C X.env) fp) tg (dG m ts b)) (ht : ∀ (s : Shared) (H : Hp) (C : Addr) (cl : List (Str × Addr)) (fp : List Addr), PTs (X.blk s H scope (compEnvC scope cl C X.env) fp) ifs (dT m E0 t))
    (he : ∀ (s : Shared) (H : Hp) (C : Addr) (cl : List (Str × Addr)) (fp : List Addr), PE (X.blk s H scope (compEnvC scope cl C X.env) fp) elt (dE m E0 f)) (hs : ∀ x, foldedSetIterable iter X.env x = pure x := by intro _; rfl) :
    PS X (.Assign [.Name y py] (.ListComp elt [⟨tg, iter, ifs, 0⟩] scope pos) spos) (dS m E (sSet j (eLc (own.map (·.2)) b i t f))) :=
  ds_setR (ps_setLc hc hN hy hyl hsw hi ok hg ht he hs) fun _ _ _ => rd_lc hts
end

/-! ### reading what will be changed: frozen for the time of one expression whose value is immediate or a tuple of such -/
mutual
def pureD : PyData → Bool
  | .list _ => false
  | .dict _ => false
  | .tuple ds => pureDs ds
  | _ => true
def pureDs : List PyData → Bool
  | [] => true
  | d :: ds => pureD d && pureDs ds
end
def thaw : Sl → Sl
  | .ow d => .fz d
  | .io ds => .fz (.list ds)
  | s => s
def ePeek (f : EM) : EM := fun env => rb (noErr (f (env.map thaw))) fun od _ => if od.1 = false ∧ pureD od.2 = true then rok od env else none
section
variable {m : Md} {g : Gc} {E : XK} {F F' : Fv} {H H' : Hp} {σ σ' : L2.St} {env env' : Ev}
/-- the tree of an own slot at a -/
def OwnD (σ : L2.St) (env : Ev) (a : Addr) (d : PyData) : Prop := ∃ i : Nat, σ[i]? = some (some (.ref a)) ∧ (env[i]? = some (.ow d) ∨ ∃ ds, d = .list ds ∧ env[i]? = some (.io ds))
theorem OwnD.own {a : Addr} {d : PyData} (h : OwnD σ env a d) : ∃ i, OwnA σ env i a := by
  obtain ⟨i, h1, h2 | ⟨ds, rfl, h2⟩⟩ := h
  · exact ⟨i, h1, .inl ⟨d, h2⟩⟩
  · exact ⟨i, h1, .inr ⟨ds, h2⟩⟩
theorem OwnD.inj (S : SR m g F H σ env) {a : Addr} {d d' : PyData} (h : OwnD σ env a d) (h' : OwnD σ env a d') : d = d' := by
  obtain ⟨i, h1, h2⟩ := h
  obtain ⟨j, h3, h4⟩ := h'
  have e : i = j := S.dist i j a ⟨h1, h2.elim (fun z => .inl ⟨d, z⟩) fun ⟨ds, _, z⟩ => .inr ⟨ds, z⟩⟩ ⟨h3, h4.elim (fun z => .inl ⟨d', z⟩) fun ⟨ds, _, z⟩ => .inr ⟨ds, z⟩⟩
  subst e
  rcases h2 with z | ⟨ds, rfl, z⟩ <;> rcases h4 with w | ⟨ds', rfl, w⟩ <;> rw [z] at w <;> cases w <;> rfl
theorem OwnD.at (S : SR m g F H σ env) {a : Addr} {d : PyData} (h : OwnD σ env a d) : F a = none ∧ ∃ o, H a = some o ∧ Ldk o ∧ HoRep F o d := by
  obtain ⟨i, h1, h2 | ⟨ds, rfl, h2⟩⟩ := h
  · obtain ⟨v, e1, b, e2, ⟨f, o, ho, mu, r⟩, _⟩ := S.slot i _ h2
    rw [h1] at e1; cases e1; cases e2
    exact ⟨f, o, ho, mu, r⟩
  · obtain ⟨v, e1, b, ws, e2, _, f, ho, r⟩ := S.slot i _ h2
    rw [h1] at e1; cases e1; cases e2
    exact ⟨f, _, ho, trivial, r⟩
open Classical in
noncomputable def thawF (F : Fv) (σ : L2.St) (env : Ev) : Fv := fun b => if h : ∃ d, OwnD σ env b d then some h.choose else F b
theorem thawF_own (S : SR m g F H σ env) {a : Addr} {d : PyData} (h : OwnD σ env a d) : thawF F σ env a = some d := by
  unfold thawF
  rw [dif_pos ⟨d, h⟩]
  exact congrArg some (OwnD.inj S (Classical.choose_spec (⟨d, h⟩ : ∃ d, OwnD σ env a d)) h)
theorem thawF_not {a : Addr} (h : ∀ d, ¬ OwnD σ env a d) : thawF F σ env a = F a := by
  unfold thawF
  rw [dif_neg fun ⟨d, q⟩ => h d q]
theorem thawF_le (S : SR m g F H σ env) : Fle F (thawF F σ env) := fun a d e => by
  rw [thawF_not fun d' q => by
    have := (q.at S).1
    rw [e] at this; cases this]
  exact e
theorem SR.thawed (S : SR m g F H σ env) : SR m ⟨H, thawF F σ env, none, []⟩ (thawF F σ env) H σ (env.map thaw) := by
  have le := thawF_le S
  have get : ∀ (i : Nat) (sl : Sl), (env.map thaw)[i]? = some sl → ∃ s0, env[i]? = some s0 ∧ sl = thaw s0 := fun i sl e => by
    rw [List.getElem?_map] at e
    cases q : env[i]? with
    | none => rw [q] at e; cases e
    | some s0 => rw [q] at e; cases e; exact ⟨s0, rfl, rfl⟩
  refine ⟨fun a d e => ?_, .refl _, fun b h => .inl h, fun b o e _ _ _ => e, fun q hq => absurd (show q ∈ ([] : List (Addr × Obj × HO)) from hq) (by simp), (fun _ z => nomatch z), fun b e => e, S.tabs, by simpa using S.len, fun i sl e => ?_, fun i j a hi => ?_⟩
  · by_cases h : ∃ d', OwnD σ env a d'
    · obtain ⟨d', h⟩ := h
      rw [thawF_own S h] at e; cases e
      obtain ⟨_, o, ho, _, r⟩ := h.at S
      exact ⟨o, .inl ho, r.mono le⟩
    · rw [thawF_not fun d' q => h ⟨d', q⟩] at e
      obtain ⟨o, ro, r⟩ := S.view a d e
      exact ⟨o, ro, r.mono le⟩
  · obtain ⟨s0, e0, rfl⟩ := get i sl e
    obtain ⟨v, e1, z⟩ := S.slot i s0 e0
    refine ⟨v, e1, ?_⟩
    cases s0 with
    | no => trivial
    | fz d => obtain ⟨x, e2, r⟩ := z; exact ⟨x, e2, r.mono le⟩
    | fn x => exact z
    | ptr a => exact z
    | sc ns => exact z
    | ow d =>
      obtain ⟨a, e2, ⟨f, o, ho, mu, r⟩, n⟩ := z
      exact ⟨_, e2, rep_ref (r.mono le) (thawF_own S ⟨i, by rw [e1, e2], .inl e0⟩)⟩
    | io ds =>
      obtain ⟨a, ws, e2, _, f, ho, r⟩ := z
      exact ⟨_, e2, a, rfl, thawF_own S ⟨i, by rw [e1, e2], .inr ⟨ds, rfl, e0⟩⟩⟩
  · obtain ⟨_, ⟨d, q⟩ | ⟨d, q⟩⟩ := hi <;> (obtain ⟨s0, _, e⟩ := get i _ q; cases s0 <;> cases e)
mutual
theorem rep_pure {F F2 : Fv} (h : ∀ a ds, pureDs ds = true → F a = some (.tuple ds) → F2 a = some (.tuple ds)) : ∀ {d : PyData} {v : V}, pureD d = true → Rep F v d → Rep F2 v d
  | .none, _, _, r => r
  | .bool _, _, _, r => r
  | .int _, _, _, r => r
  | .str _, _, _, r => r
  | .tuple ds, _, p, ⟨a, e, q⟩ => ⟨a, e, h a ds (by simpa [pureD] using p) q⟩
  | .list _, _, p, _ => by simp [pureD] at p
  | .dict _, _, p, _ => by simp [pureD] at p
theorem reps_pure {F F2 : Fv} (h : ∀ a ds, pureDs ds = true → F a = some (.tuple ds) → F2 a = some (.tuple ds)) : ∀ {ds : List PyData} {vs : List V}, pureDs ds = true → Reps F vs ds → Reps F2 vs ds
  | [], _, _, .nil => .nil
  | d :: ds, _, p, .cons r t => by
    simp only [pureDs, Bool.and_eq_true] at p
    exact .cons (rep_pure h p.1 r) (reps_pure h p.2 t)
end
def refroz (F F' : Fv) : Fv := fun b => match F b with
  | some d => some d
  | none => match F' b with
    | some (.tuple ds) => if pureDs ds = true then some (.tuple ds) else none
    | _ => none
theorem SR.refrozen {g1 : Gc} {d : PyData} {v : V} (S : SR m g F H σ env) (l : Fle (thawF F σ env) F') (S' : SR m ⟨H, thawF F σ env, none, []⟩ F' H' σ env') (r : Rep F' v d) (hp : pureD d = true) :
    Fle F (refroz F F') ∧ SR m g (refroz F F') H' σ env ∧ Rep (refroz F F') v d := by
  have le : Fle F (refroz F F') := fun a d e => by unfold refroz; rw [e]
  have lF : Fle F F' := (thawF_le S).trans l
  have keep : ∀ b o, H b = some o → (∀ ps, o ≠ .tbl ps) → H' b = some o := fun b o e n => S'.frame b o e (fun z => nomatch z) n (by show b ∉ ([] : List (Addr × Obj × HO)).map (·.1); simp)
  have up : ∀ a ds, pureDs ds = true → F' a = some (.tuple ds) → refroz F F' a = some (.tuple ds) := fun a ds p e => by
    unfold refroz
    cases q : F a with
    | some d0 =>
      have := lF a d0 q
      rw [e] at this
      exact this.symm
    | none => rw [e]; exact if_pos p
  have down : ∀ b d, F b = none → refroz F F' b = some d → ∃ ds, d = .tuple ds ∧ pureDs ds = true ∧ F' b = some (.tuple ds) := fun b d hb e => by
    unfold refroz at e
    rw [hb] at e
    simp only at e
    split at e
    · rename_i ds q
      split at e
      · rename_i p
        cases e
        exact ⟨ds, rfl, p, q⟩
      · cases e
    · cases e
  have own : ∀ a o, F a = none → H a = some o → Ldk o → refroz F F' a = none := fun a o f ho mu => by
    cases q : refroz F F' a with
    | none => rfl
    | some d =>
      obtain ⟨ds, rfl, p, e⟩ := down a d f q
      obtain ⟨o', ro, hr⟩ := S'.view a _ e
      cases o' with
      | tup vs =>
        have := ro.tup
        rw [keep a o ho (mut_nt mu.mut)] at this
        cases this
        exact mu.elim
      | _ => exact hr.elim
  refine ⟨le, ⟨fun b d e => ?_, S.ext.trans le, fun b h => ?_, fun b o e h1 h2 h3 => keep b o (S.frame b o e h1 h2 h3) h2, fun p hp => ⟨keep _ _ (S.locks p hp).1 (fun _ z => nomatch z), (S.locks p hp).2.1, fun z => (S.locks p hp).2.2 (le.none z)⟩, fun a h => let ⟨n, ws, e⟩ := S.ioL a h; ⟨n, ws, keep _ _ e (fun _ z => nomatch z)⟩, fun b e => S.dom b (S'.dom b e), S'.tabs, S.len, fun i sl e => ?_, S.dist⟩, rep_pure up hp r⟩
  · cases q : F b with
    | some d0 =>
      have : d0 = d := Option.some.inj ((le b d0 q).symm.trans e)
      subst this
      obtain ⟨o, ro, hr⟩ := S.view b d0 q
      refine ⟨o, ?_, hr.mono le⟩
      rcases ro with h | ⟨mu, ob, h⟩
      · exact .inl (keep b o h (horep_nt hr))
      · exact .inr ⟨mu, ob, keep b _ h (fun _ z => nomatch z)⟩
    | none =>
      obtain ⟨ds, rfl, p, e'⟩ := down b d q e
      obtain ⟨o, ro, hr⟩ := S'.view b _ e'
      cases o with
      | tup vs => exact ⟨_, ro, reps_pure up p hr⟩
      | _ => exact hr.elim
  · cases q : F b with
    | some d0 => exact S.new b (by rw [q]; exact fun z => nomatch z)
    | none =>
      cases q2 : refroz F F' b with
      | none => exact (h q2).elim
      | some d =>
        obtain ⟨ds, rfl, p, e'⟩ := down b d q q2
        refine .inr (S.unm q ?_)
        rcases S'.new b (by rw [e']; exact fun z => nomatch z) with z | z
        · intro o ho mu
          obtain ⟨o', ro, hr⟩ := S'.view b _ e'
          cases o' with
          | tup vs =>
            have := ro.tup
            rw [keep b o ho (mut_nt mu)] at this
            cases this
            exact mu
          | _ => exact hr.elim
        · exact z
  · obtain ⟨v, e1, z⟩ := S.slot i sl e
    exact ⟨v, e1, z.mono le (fun a o _ n h => keep a o h n) fun a e2 f o mu ho => by
      cases q : refroz F F' a with
      | none => rfl
      | some d =>
        obtain ⟨ds, rfl, p, e'⟩ := down a d f q
        obtain ⟨o', ro, hr⟩ := S'.view a _ e'
        cases o' with
        | tup vs =>
          have := ro.tup
          rw [keep a o ho (mut_nt mu)] at this
          cases this
          exact mu.elim
        | _ => exact hr.elim⟩
end
section
variable {X : Cx} {m : Md} {E : XK} {e : Expr} {f : EM}
theorem d_peek (h : PE X e (dE m E f)) : PE X e (dE m E (ePeek f)) := by
  refine PE.imp h fun σ H Q ⟨g, F, env, S, P⟩ => ?_
  refine ⟨_, _, _, S.thawed, Post.mono (post_noErr (post_rb P)) fun od env' _ P1 v F' H' l S' vo => ?_⟩
  split at P1
  · rename_i c
    obtain ⟨own, d⟩ := od
    obtain ⟨c1, c2⟩ := c
    have c1 : own = false := c1
    subst c1
    obtain ⟨l2, S2, r2⟩ := S.refrozen (g1 := g) l S' (show Rep F' v d from vo) c2
    exact P1 v _ H' l2 S2 r2
  · exact P1.elim
end
end DL

/-! The data layer, part e: what is changed: stores, append, defs that change their first argument. -/
namespace DL
open PySem PySem.Spec PyProof.Rows L2
section
variable {m : Md} {g : Gc} {E : XK} {F F' : Fv} {H H' : Hp} {σ σ' : L2.St} {env env' : Ev}
/-- a slot told of no more -/
theorem SR.drop (S : SR m g F H σ env) (i : Nat) : SR m g F H σ (env.set i .no) := S.forget (by simp) fun j sl e => by
  by_cases hj : i = j
  · subst hj
    have hl : i < env.length := by
      have := (List.getElem?_eq_some_iff.mp e).1
      simpa using this
    rw [List.getElem?_set_self hl] at e
    cases e; exact .inl rfl
  · rw [List.getElem?_set_ne hj] at e
    exact .inr e
theorem SR.dropNo (S : SR m g F H σ env) {i : Nat} {a : Addr} (h : OwnA σ env i a) : ∀ j, ¬ OwnA σ (env.set i .no) j a := fun j hj => by
  have h2 := own_set_no (by intro _ z; cases z) (by intro _ z; cases z) hj
  have := S.dist j i a h2 h
  subst this
  have hl : j < env.length := by
    rcases h.2 with ⟨_, z⟩ | ⟨_, z⟩ <;> exact (List.getElem?_eq_some_iff.mp z).1
  obtain ⟨_, ⟨d', z⟩ | ⟨d', z⟩⟩ := hj <;> rw [List.getElem?_set_self hl] at z <;> cases z
/-- an own slot is told anew -/
theorem SR.setOwn {i : Nat} {a : Addr} {sl : Sl} (S : SR m g F H σ (env.set i .no)) (hi : i < env.length) (hs : σ[i]? = some (some (.ref a))) (hx : ∀ j, ¬ OwnA σ (env.set i .no) j a) (ok : SlotOk m g F H (some (.ref a)) sl) : SR m g F H σ (env.set i sl) := by
  have get : ∀ (j : Nat) (s : Sl), (env.set i sl)[j]? = some s → (j = i ∧ s = sl) ∨ (j ≠ i ∧ (env.set i .no)[j]? = some s) := fun j s e => by
    by_cases hj : i = j
    · subst hj
      rw [List.getElem?_set_self hi] at e
      cases e; exact .inl ⟨rfl, rfl⟩
    · rw [List.getElem?_set_ne hj] at e
      exact .inr ⟨fun z => hj z.symm, by rw [List.getElem?_set_ne hj]; exact e⟩
  have o : ∀ j b, OwnA σ (env.set i sl) j b → (j = i ∧ b = a) ∨ OwnA σ (env.set i .no) j b := fun j b ⟨h1, h2⟩ => by
    by_cases hj : j = i
    · subst hj
      rw [hs] at h1
      exact .inl ⟨rfl, (V.ref.inj (Option.some.inj (Option.some.inj h1))).symm⟩
    · refine .inr ⟨h1, ?_⟩
      rcases h2 with ⟨d, e⟩ | ⟨d, e⟩
      · exact .inl ⟨d, (get j _ e).elim (fun z => (hj z.1).elim) (·.2)⟩
      · exact .inr ⟨d, (get j _ e).elim (fun z => (hj z.1).elim) (·.2)⟩
  refine ⟨S.view, S.ext, S.new, S.frame, S.locks, S.ioL, S.dom, S.tabs, by simpa using S.len, fun j s e => ?_, fun j k b hj hk => ?_⟩
  · rcases get j s e with ⟨rfl, rfl⟩ | ⟨_, e'⟩
    · exact ⟨_, hs, ok⟩
    · exact S.slot j s e'
  · rcases o j b hj with ⟨h1, h2⟩ | h1
    · rcases o k b hk with ⟨h3, h4⟩ | h3
      · rw [h1, h3]
      · exact (hx k (h2 ▸ h3)).elim
    · rcases o k b hk with ⟨h3, h4⟩ | h3
      · exact (hx j (h4 ▸ h1)).elim
      · exact S.dist j k b h1 h3
theorem SR.notLock (S : SR m g F H σ env) {a : Addr} {o : HO} (h : H a = some o) (mu : Ldk o) : a ∉ g.L.map (·.1) := fun z => by
  obtain ⟨p, hp, e⟩ := List.mem_map.mp z
  have := (S.locks p hp).1
  rw [e, h] at this
  cases this
  exact mu
/-- the object of an own slot is written -/
theorem SR.putOw {i : Nat} {d d' : PyData} {a : Addr} {o' : HO} (S : SR m g F H σ env) (e : env[i]? = some (.ow d)) (hs : σ[i]? = some (some (.ref a))) (mu : Ldk o') (hr : HoRep F o' d') : SR m g F (upd H a o') σ (env.set i (.ow d')) := by
  obtain ⟨v, e1, b, e2, ⟨f, o, ho, mu0, r⟩, n⟩ := S.slot i _ e
  rw [hs] at e1; cases e1; cases e2
  have hi := (List.getElem?_eq_some_iff.mp e).1
  have hx := S.dropNo ⟨hs, .inl ⟨d, e⟩⟩
  exact ((S.drop i).wrote ho mu0 (.inl n) f hx (S.notLock ho mu0)).setOwn hi hs hx ⟨a, rfl, ⟨f, o', upd_same, mu, hr⟩, n⟩
theorem SR.putIo {i : Nat} {ds ds' : List PyData} {a : Addr} {ws : List V} (S : SR m g F H σ env) (e : env[i]? = some (.io ds)) (hs : σ[i]? = some (some (.ref a))) (hr : Reps F ws ds') : SR m g F (upd H a (.lst ws)) σ (env.set i (.io ds')) := by
  obtain ⟨v, e1, b, w0, e2, hio, f, ho, r⟩ := S.slot i _ e
  rw [hs] at e1; cases e1; cases e2
  have hi := (List.getElem?_eq_some_iff.mp e).1
  have hx := S.dropNo ⟨hs, .inr ⟨ds, e⟩⟩
  exact ((S.drop i).wrote ho trivial (.inr ⟨hio, ws, rfl⟩) f hx (S.notLock ho trivial)).setOwn hi hs hx ⟨a, ws, rfl, hio, f, upd_same, hr⟩
/-- behind a call that changed the list at a, of no slot -/
theorem SR.calledIO {a : Addr} (S : SR m g F H σ env) (R : RetOk m F H (some a) F' H') (ha : g.H0 a = none ∨ g.io = some a) (hn : F a = none) (hl : ∃ ws, H a = some (.lst ws)) (hl' : ∃ ws, H' a = some (.lst ws)) (hx : ∀ j, ¬ OwnA σ env j a) : SR m g F' H' σ env := by
  have keep : ∀ b o, b ≠ a → H b = some o → (∀ ps, o ≠ .tbl ps) → H' b = some o := fun b o nb e n => R.frame b o e (fun z => nb (Option.some.inj z).symm) n (by simp)
  obtain ⟨w0, hl⟩ := hl
  have na : ∀ b o, H b = some o → ¬ Ldk o → b ≠ a := fun b o e nl z => by
    rw [z, hl] at e; cases e; exact nl trivial
  refine ⟨R.view, S.ext.trans R.ext, fun b h => ?_, fun b o e h1 h2 h3 => ?_, fun q hq => ⟨keep _ _ (na _ _ (S.locks q hq).1 (fun z => z)) (S.locks q hq).1 (fun _ z => nomatch z), (S.locks q hq).2.1, fun z => (S.locks q hq).2.2 (R.ext.none z)⟩, fun b h => ?_, fun b h => S.dom b (R.dom b h), R.tabs, S.len, fun i sl e => ?_, S.dist⟩
  · rcases R.new b h with z | z
    · exact S.new b z
    · cases q : F b with
      | none => exact .inr (S.unm q z)
      | some d => exact S.new b (by rw [q]; exact fun z => nomatch z)
  · have nb : b ≠ a := fun z => by
      rcases ha with ha | ha
      · rw [z, ha] at e; cases e
      · exact h1 (by rw [z]; exact ha)
    exact keep b o nb (S.frame b o e h1 h2 h3) h2
  · obtain ⟨n0, ws, e⟩ := S.ioL b h
    refine ⟨n0, ?_⟩
    by_cases nb : b = a
    · rw [nb]; exact hl'
    · exact ⟨ws, keep b _ nb e (fun _ z => nomatch z)⟩
  · obtain ⟨v, e1, z⟩ := S.slot i sl e
    refine ⟨v, e1, ?_⟩
    have kF : ∀ b o, Mut (some o) → F b = none → H b = some o → F' b = none := fun b o mu f hb => by
      cases q : F' b with
      | none => rfl
      | some d =>
        rcases R.new b (by rw [q]; exact fun z => nomatch z) with z | z
        · exact absurd f z
        · exact (z _ hb mu).elim
    cases sl with
    | no => trivial
    | fz d => obtain ⟨x, e2, r⟩ := z; exact ⟨x, e2, r.mono R.ext⟩
    | fn x => exact z
    | ptr a => exact z
    | ow d =>
      obtain ⟨b, e2, ⟨f, o, ho, mu, r⟩, n⟩ := z
      have nb : b ≠ a := fun z => hx i ⟨by rw [e1, e2, z], .inl ⟨d, e⟩⟩
      exact ⟨b, e2, ⟨kF b o mu.mut f ho, o, keep b o nb ho (mut_nt mu.mut), mu, r.mono R.ext⟩, n⟩
    | io ds =>
      obtain ⟨b, ws, e2, hi, f, ho, r⟩ := z
      have nb : b ≠ a := fun z => hx i ⟨by rw [e1, e2, z], .inr ⟨ds, e⟩⟩
      exact ⟨b, ws, e2, hi, kF b (.lst ws) trivial f ho, keep b _ nb ho (fun _ z => nomatch z), Reps.mono R.ext r⟩
    | sc ns =>
      obtain ⟨b, e2, z⟩ := z
      refine ⟨b, e2, z.imp (fun ⟨ob, h⟩ => ⟨ob, ?_⟩) id⟩
      exact keep b _ (na b (.frz ob (.lst (ns.map V.int))) h (fun z => z)) h (fun _ z => nomatch z)
end

/-! ### keys -/
def key1 : PyData → Option Key
  | .int i => some (.inl i)
  | .str x => some (.inr x)
  | _ => none
def keyN : List PyData → Option (List Key)
  | [] => some []
  | d :: ds => match key1 d, keyN ds with
    | some k, some ks => some (k :: ks)
    | _, _ => none
theorem key1_keyD (k : Key) : key1 (keyD k) = some k := by cases k <;> rfl
theorem keyN_keyD : ∀ ks : List Key, keyN (ks.map keyD) = some ks
  | [] => rfl
  | k :: ks => by simp only [List.map_cons, keyN, key1_keyD, keyN_keyD ks]
theorem key1_of {d : PyData} {k : Key} (h : key1 d = some k) : d = keyD k := by
  cases d <;> simp [key1] at h <;> subst h <;> rfl
theorem keyN_of : ∀ {ds : List PyData} {ks : List Key}, keyN ds = some ks → ds = ks.map keyD
  | [], ks, h => by simp [keyN] at h; subst h; rfl
  | d :: ds, ks, h => by
    unfold keyN at h
    split at h
    · rename_i k ks' h1 h2
      cases h
      rw [key1_of h1, keyN_of h2]
      rfl
    · cases h
/-- keys as data: equal as Python's -/
def keq (a b : PyData) : Bool := match a, b with
  | .int i, .int j => decide (i = j)
  | .str x, .str y => decide (x = y)
  | .tuple as, .tuple bs => match keyN as, keyN bs with
    | some ks, some ls => decide (ks = ls)
    | _, _ => false
  | _, _ => false
theorem keq_keyD (k l : Key) : keq (keyD k) (keyD l) = decide (k = l) := by
  cases k <;> cases l <;> simp [keq, keyD]
theorem keq_tup (k l : List Key) : keq (.tuple (k.map keyD)) (.tuple (l.map keyD)) = decide (k = l) := by
  simp only [keq, keyN_keyD]
def dget (kvs : List (PyData × PyData)) (k : PyData) : Option PyData := (kvs.find? fun p => keq p.1 k).map (·.2)
def dput (kvs : List (PyData × PyData)) (k v : PyData) : List (PyData × PyData) := if (kvs.any fun p => keq p.1 k) = true then kvs.map (fun p => if keq p.1 k = true then (p.1, v) else p) else kvs ++ [(k, v)]
/-- what may be a key: of a dict of plain keys, of tuples -/
def keyOk (kvs : List (PyData × PyData)) (k : PyData) : Bool := match k with
  | .int _ => kvs.all fun p => (key1 p.1).isSome
  | .str _ => kvs.all fun p => (key1 p.1).isSome
  | _ => false
theorem krep_get {F : Fv} {ks : List (Key × V)} {kvs : List (PyData × PyData)} (r : KRep F ks kvs) (k : Key) : (∃ v d, valV ks k = some v ∧ dget kvs (keyD k) = some d ∧ Rep F v d) ∨ (valV ks k = none ∧ dget kvs (keyD k) = none) := by
  induction r with
  | nil => exact .inr ⟨rfl, rfl⟩
  | @cons p q ks kvs h t ih =>
    obtain ⟨h1, h2⟩ := h
    by_cases e : p.1 = k
    · refine .inl ⟨p.2, q.2, valV_pos e, ?_, h2⟩
      unfold dget
      rw [List.find?_cons, h1, keq_keyD, decide_eq_true e]
      rfl
    · rw [valV_neg e]
      have : dget (q :: kvs) (keyD k) = dget kvs (keyD k) := by
        unfold dget
        rw [List.find?_cons, h1, keq_keyD, decide_eq_false e]
      rw [this]
      exact ih
theorem trep_get {F : Fv} {ks : List (List Key × V)} {kvs : List (PyData × PyData)} (r : TRep F ks kvs) (k : List Key) : (∃ v d, valV ks k = some v ∧ dget kvs (.tuple (k.map keyD)) = some d ∧ Rep F v d) ∨ (valV ks k = none ∧ dget kvs (.tuple (k.map keyD)) = none) := by
  induction r with
  | nil => exact .inr ⟨rfl, rfl⟩
  | @cons p q ks kvs h t ih =>
    obtain ⟨h1, h2⟩ := h
    by_cases e : p.1 = k
    · refine .inl ⟨p.2, q.2, valV_pos e, ?_, h2⟩
      unfold dget
      rw [List.find?_cons, h1, keq_tup, decide_eq_true e]
      rfl
    · rw [valV_neg e]
      have : dget (q :: kvs) (.tuple (k.map keyD)) = dget kvs (.tuple (k.map keyD)) := by
        unfold dget
        rw [List.find?_cons, h1, keq_tup, decide_eq_false e]
      rw [this]
      exact ih
theorem krep_put {F : Fv} {ks : List (Key × V)} {kvs : List (PyData × PyData)} (r : KRep F ks kvs) (k : Key) {v : V} {d : PyData} (hv : Rep F v d) : KRep F (putK ks k v) (dput kvs (keyD k) d) := by
  have hany : (ks.any fun kv => decide (kv.1 = k)) = (kvs.any fun p => keq p.1 (keyD k)) := by
    induction r with
    | nil => rfl
    | cons h t ih => rw [List.any_cons, List.any_cons, ih, h.1, keq_keyD]
  unfold putK dput
  rw [← hany]
  split
  · rename_i hz; clear hz hany
    induction r with
    | nil => exact .nil
    | @cons p q ks kvs h t ih =>
      rw [List.map_cons, List.map_cons]
      refine .cons ?_ ih
      rw [h.1, keq_keyD]
      by_cases e : p.1 = k
      · rw [if_pos e, if_pos (decide_eq_true e)]
        exact ⟨rfl, hv⟩
      · rw [if_neg e, if_neg (by rw [decide_eq_false e]; decide)]
        exact h
  · exact Paired.snoc r ⟨rfl, hv⟩
theorem trep_put {F : Fv} {ks : List (List Key × V)} {kvs : List (PyData × PyData)} (r : TRep F ks kvs) (k : List Key) {v : V} {d : PyData} (hv : Rep F v d) : TRep F (putK ks k v) (dput kvs (.tuple (k.map keyD)) d) := by
  have hany : (ks.any fun kv => decide (kv.1 = k)) = (kvs.any fun p => keq p.1 (.tuple (k.map keyD))) := by
    induction r with
    | nil => rfl
    | cons h t ih => rw [List.any_cons, List.any_cons, ih, h.1, keq_tup]
  unfold putK dput
  rw [← hany]
  split
  · rename_i hz; clear hz hany
    induction r with
    | nil => exact .nil
    | @cons p q ks kvs h t ih =>
      rw [List.map_cons, List.map_cons]
      refine .cons ?_ ih
      rw [h.1, keq_tup]
      by_cases e : p.1 = k
      · rw [if_pos e, if_pos (decide_eq_true e)]
        exact ⟨rfl, hv⟩
      · rw [if_neg e, if_neg (by rw [decide_eq_false e]; decide)]
        exact h
  · exact Paired.snoc r ⟨rfl, hv⟩

/-! ### stores -/
def slList (s : Option Sl) : Option (List PyData) := match s with
  | some (.ow (.list ds)) => some ds
  | some (.io ds) => some ds
  | _ => none
def reSl (s : Option Sl) (ds : List PyData) : Sl := match s with
  | some (.io _) => .io ds
  | _ => .ow (.list ds)
/-- x[k] = v at a list -/
def sPutL (i : Nat) (fk fv : EM) : SM := fun env => rb (fv env) fun v e1 => match slList e1[i]? with
  | none => none
  | some _ => rb (fk e1) fun k e2 => match slList e2[i]?, k.2 with
    | some ds, .int n => match ixN ds.length n with
      | some j => rok .nx (e2.set i (reSl e2[i]? (ds.set j v.2)))
      | none => none
    | _, _ => none
/-- x.append(v) -/
def sApp (i : Nat) (fv : EM) : SM := fun env => match slList env[i]? with
  | none => none
  | some _ => rb (fv env) fun v e2 => match slList e2[i]? with
    | some ds => if ds.length < sizeLine then rok .nx (e2.set i (reSl e2[i]? (ds ++ [v.2]))) else none
    | none => none
theorem reps_set {F : Fv} {vs : List V} {ds : List PyData} {v : V} {d : PyData} (r : Reps F vs ds) (h : Rep F v d) : ∀ (j : Nat), Reps F (vs.set j v) (ds.set j d) := by
  induction r with
  | nil => exact fun _ => .nil
  | cons a t ih =>
    intro j
    cases j with
    | zero => exact .cons h t
    | succ j => exact .cons a (ih j)
section
variable {m : Md} {g : Gc} {F : Fv} {H : Hp} {σ : L2.St} {env : Ev}
theorem SR.slListAt (S : SR m g F H σ env) {i : Nat} {ds : List PyData} (h : slList env[i]? = some ds) : ∃ a ws, σ[i]? = some (some (.ref a)) ∧ H a = some (.lst ws) ∧ Reps F ws ds ∧ ∀ ws' ds', Reps F ws' ds' → SR m g F (upd H a (.lst ws')) σ (env.set i (reSl env[i]? ds')) := by
  unfold slList at h
  split at h
  · rename_i ds' e
    cases h
    obtain ⟨v, e1, a, rfl, ⟨f, o, ho, mu, r⟩, n⟩ := S.slot i _ e
    cases o with
    | lst ws => exact ⟨a, ws, e1, ho, r, fun ws' ds' r' => by rw [e]; exact S.putOw e e1 (o' := .lst ws') (d' := .list ds') trivial r'⟩
    | _ => exact r.elim
  · rename_i ds' e
    cases h
    obtain ⟨v, e1, a, ws, rfl, _, f, ho, r⟩ := S.slot i _ e
    exact ⟨a, ws, e1, ho, r, fun ws' ds' r' => by rw [e]; exact S.putIo e e1 r'⟩
  · cases h
end
section
variable {X : Cx} {m : Md} {E : XK} {pos : Pos} {fk fv : EM} {e k : Expr}
theorem ds_putL {i : Nat} {x : Str} {p1 p2 : Pos} (hN : X.N[i]? = some x) (hv : Vis X.env.scope x) (hk : PE X k (dE m E fk)) (he : PE X e (dE m E fv)) (hd : (x == ("__debug__" : Str)) = false := by decide) (hcd : (x == ("__classdict__" : Str)) = false := by decide)
    (hs : swapsWithSole [.Subscript (.Name x p1) k p2] e pos.line X.env = pure false := by rfl) (hw : swappedStores [.Subscript (.Name x p1) k p2] e X.env = pure none := by rfl) (h1 : (assignEach [.Subscript (.Name x p1) k p2] X.env).map (·.2) = [assign (.Subscript (.Name x p1) k p2) X.env] := by rfl)
    (ha : ∀ v, assign (.Subscript (.Name x p1) k p2) X.env v = (do
      let ov ← holding [v] (eval (.Name x p1) X.env)
      let iv ← holding [v, ov] (eval k X.env)
      standAt p2
      holding [v, ov, iv] (setItem ov iv v)
      release [v, ov, iv] []) := by intro _; rfl) :
    PS X (.Assign [.Subscript (.Name x p1) k p2] e pos) (dS m E (sPutL i fk fv)) := by
  refine PS.imp (ps_asg he (pg_sub (pe_var hN hv hd hcd) hk set_list ha) hs hw h1) fun D σ H ⟨g, F, env, S, P⟩ => ?_
  refine dE_use S ((post_rb P).mono fun ov e1 _ P1 y F1 H1 l1 S1 r1 => ?_)
  split at P1
  · exact P1.elim
  · rename_i ds0 q0
    obtain ⟨a, ws, hsa, hw0, _, _⟩ := S1.slListAt q0
    refine ⟨.ref a, hsa, dE_use S1 ((post_rb P1).mono fun ok e2 _ P2 z F2 H2 l2 S2 r2 => ?_)⟩
    split at P2
    · rename_i ds n q1 q2
      obtain ⟨a', ws', hsa', hwa, hr, hput⟩ := S2.slListAt q1
      rw [hsa] at hsa'
      cases hsa'
      split at P2
      · rename_i j hj
        refine ⟨a, ws', n, j, rfl, rep_int r2 q2, hwa, by rw [Paired.length hr]; exact hj, ?_⟩
        exact P2 F2 _ σ (hput _ _ (reps_set hr (r1.mono l2) j))
      · exact P2.elim
    · exact P2.elim
theorem ds_app {i : Nat} {x : Str} {p1 apos cpos : Pos} (hK : m.K = X.K) (hN : X.N[i]? = some x) (hv : Vis X.env.scope x) (he : PE X e (dE m E fv)) (hd : (x == ("__debug__" : Str)) = false := by decide) (hcd : (x == ("__classdict__" : Str)) = false := by decide)
    (hbase : attributeBase (.Name x p1) "append" X.env (eval (.Name x p1) X.env) = eval (.Name x p1) X.env := by rfl)
    (hfew : ((backTo cpos (starEach (e :: []) X.env)).all (fun x => !x.1) && (backToKw cpos (keywordEach [] X.env)).all (fun x => x.1.isSome)
      && decide ((e :: ([] : List Expr)).length + ([] : List Keyword).length + (if ([] : List Keyword).isEmpty then 0 else 1) < 30)) = true := by rfl)
    (hline : (apos.endLine == cpos.line) = true := by rfl) (hst : starEach (e :: []) X.env = (false, eval e X.env) :: starEach [] X.env := by rfl) (hplain : (backTo cpos (starEach [] X.env)).any (·.1) = false := by rfl)
    (hs : swapsWith (.Call (.Attribute (.Name x p1) "append" apos) [e] [] cpos) none pos.line X.env = pure false := by rfl) :
    PS X (.Expr (.Call (.Attribute (.Name x p1) "append" apos) [e] [] cpos) pos) (dS m E (sApp i fv)) := by
  refine PS.imp (ps_expr (pe_bm PySem.F.plainAttrs_list PySem.F.slot_list_append PySem.F.type_list_append mt_append (pe_var hN hv hd hcd) (pa_cons he pa_nil hst) hbase hfew hline hst hplain) hs) fun D σ H ⟨g, F, env, S, P⟩ => ?_
  unfold sApp at P
  split at P
  · exact P.elim
  · rename_i ds0 q0
    obtain ⟨a, ws, hsa, hw0, _, _⟩ := S.slListAt q0
    refine ⟨.ref a, hsa, .inl ⟨rfl, ws, .inl (.inl hw0)⟩, ?_⟩
    refine dE_use S ((post_rb P).mono fun ov e2 _ P2 y F2 H2 l2 S2 r2 => ?_)
    split at P2
    · rename_i ds q1
      obtain ⟨a', ws', hsa', hwa, hr, hput⟩ := S2.slListAt q1
      rw [hsa] at hsa'
      cases hsa'
      obtain ⟨hz, P3⟩ := post_ite P2
      exact ⟨a, ws', y, rfl, rfl, hwa, by rw [Paired.length hr]; exact hz, P3 F2 _ σ (hput _ _ (Paired.snoc hr r2))⟩
    · exact P2.elim
/-- d[k] = v at a dict -/
def slDict (s : Option Sl) : Option (List (PyData × PyData)) := match s with
  | some (.ow (.dict kvs)) => some kvs
  | _ => none
/-- may k be a key of such a dict -/
def keyFor (kvs : List (PyData × PyData)) (k : PyData) : Bool := match k with
  | .int _ => kvs.all fun p => (key1 p.1).isSome
  | .str _ => kvs.all fun p => (key1 p.1).isSome
  | .tuple ds => (keyN ds).isSome && kvs.all fun p => match p.1 with
    | .tuple ds => (keyN ds).isSome
    | _ => false
  | _ => false
end

/-! ### defs that change the list that they get first -/
/-- of the list's trees and the further arguments: what is returned, and the list's trees then -/
abbrev FnI := List PyData → List PyData → Option (Bool × PyData × List PyData)
def spI (m : Md) (s : FnI) : Sp := fun vs H Q _ => ∃ F a vs' ws ds0 ds, vs = .ref a :: vs' ∧ View F H ∧ LamX.Tabs m.T H ∧ F a = none ∧ H a = some (.lst ws) ∧ Reps F ws ds0 ∧ Reps F vs' ds ∧ match s ds0 ds with
  | none => False
  | some (own, d, ds1) => ∀ v F' H' ws', RetOk m F H (some a) F' H' → F' a = none → H' a = some (.lst ws') → Reps F' ws' ds1 → ROk F H F' H' own d v → Q v H'
def outI (r : Res Out) : Option (Bool × PyData × List PyData) := match r with
  | some (.ok (.rt own d, env)) => match (env[0]? : Option Sl) with
    | some (.io ds) => some (own, d, ds)
    | _ => none
  | _ => none
/-- n: the number of all names; p: of the parameters, the list among them -/
def mkFnI (n p : Nat) (f : SM) : FnI := fun ds0 ds => if ds.length + 1 = p then outI (f (.io ds0 :: (ds.map Sl.fz ++ List.replicate (n - p) .no))) else none
theorem SR.entryI {m : Md} {F : Fv} {H : Hp} {a : Addr} {ws : List V} {ds0 : List PyData} {vs : List V} {ds : List PyData} {N : List Str} {n p : Nat} (hv : View F H) (ht : LamX.Tabs m.T H) (hf : F a = none) (ha : H a = some (.lst ws)) (r0 : Reps F ws ds0) (r : Reps F vs ds) (hl : ds.length + 1 = p) (hn : N.length = n) (hp : p ≤ n) :
    SR m (gAt F H (some a)) F H (L2.start N (.ref a :: vs)) (.io ds0 :: (ds.map Sl.fz ++ List.replicate (n - p) .no)) := by
  have S : SR m (gAt F H none) F H (some (V.ref a) :: (vs.map some ++ List.replicate (n - p) none)) (.no :: (ds.map Sl.fz ++ List.replicate (n - p) .no)) := by
    have hvl : vs.length = ds.length := r.length
    have noown : ∀ (i : Nat) (sl : Sl), (Sl.no :: (ds.map Sl.fz ++ List.replicate (n - p) Sl.no))[i]? = some sl → sl = .no ∨ ∃ j d, i = j + 1 ∧ sl = .fz d ∧ ds[j]? = some d := fun i sl e => by
      cases i with
      | zero => simp at e; exact .inl e.symm
      | succ j =>
        rw [List.getElem?_cons_succ, List.getElem?_append] at e
        split at e
        · rw [List.getElem?_map] at e
          cases q : ds[j]? with
          | none => rw [q] at e; cases e
          | some d => rw [q] at e; cases e; exact .inr ⟨j, d, rfl, rfl, q⟩
        · rw [List.getElem?_replicate] at e
          split at e
          · cases e; exact .inl rfl
          · cases e
    refine ⟨hv, .refl F, fun b h => .inl h, fun b o e _ _ _ => e, fun q hq => absurd (show q ∈ ([] : List (Addr × Obj × HO)) from hq) (by simp), (fun _ z => nomatch z), fun b e => e, ht, ?_, fun i sl e => ?_, fun i j a hi => ?_⟩
    · simp [hvl]
    · have hi := (List.getElem?_eq_some_iff.mp e).1
      rcases noown i sl e with rfl | ⟨j, d, rfl, rfl, q⟩
      · have hi2 : i < (some (V.ref a) :: (vs.map some ++ List.replicate (n - p) none)).length := by simpa [hvl] using hi
        exact ⟨_, List.getElem?_eq_getElem hi2, trivial⟩
      · obtain ⟨v, h1, h2⟩ := reps_get r q
        have hj : j < vs.length := (List.getElem?_eq_some_iff.mp h1).1
        refine ⟨some v, ?_, v, rfl, h2⟩
        rw [List.getElem?_cons_succ, List.getElem?_append_left (by simpa using hj), List.getElem?_map, h1]
        rfl
    · obtain ⟨_, ⟨d, z⟩ | ⟨d, z⟩⟩ := hi <;> (rcases noown i _ z with e | ⟨_, _, _, e, _⟩ <;> cases e)
  have hst : L2.start N (.ref a :: vs) = some (V.ref a) :: (vs.map some ++ List.replicate (n - p) none) := by
    unfold L2.start
    have : (V.ref a :: vs).length = p := by rw [List.length_cons, r.length]; exact hl
    rw [this, hn]
    rfl
  rw [hst]
  have S1 : SR m (gAt F H (some a)) F H (some (V.ref a) :: (vs.map some ++ List.replicate (n - p) none)) (.no :: (ds.map Sl.fz ++ List.replicate (n - p) .no)) := by
    refine ⟨S.view, S.ext, S.new, fun b o e _ _ _ => e, S.locks, fun b e => ?_, S.dom, S.tabs, S.len, fun i sl e => ?_, S.dist⟩
    · cases e
      exact ⟨(fun z => by rw [show (gAt F H (some a)).H0 a = H a from rfl, ha] at z; cases z), ws, ha⟩
    · obtain ⟨v, e1, z⟩ := S.slot i sl e
      refine ⟨v, e1, ?_⟩
      cases sl with
      | io d =>
        obtain ⟨_, _, _, z, _⟩ := z
        cases z
      | no => trivial
      | fz d => exact z
      | fn x => exact z
      | ptr a => exact z
      | ow d => exact z
      | sc d => exact z
  have hx : ∀ j, ¬ OwnA (some (V.ref a) :: (vs.map some ++ List.replicate (n - p) none)) ((Sl.no :: (ds.map Sl.fz ++ List.replicate (n - p) Sl.no)).set 0 .no) j a := fun j hj => by
    obtain ⟨_, ⟨d, z⟩ | ⟨d, z⟩⟩ := hj <;>
    · cases j with
      | zero => simp at z
      | succ j =>
        rw [List.set_cons_zero, List.getElem?_cons_succ, List.getElem?_append] at z
        split at z
        · rw [List.getElem?_map] at z
          cases q : ds[j]? with
          | none => rw [q] at z; cases z
          | some d => rw [q] at z; cases z
        · rw [List.getElem?_replicate] at z
          split at z <;> cases z
  exact SR.setOwn (i := 0) (sl := .io ds0) (S1.drop 0) (by simp) rfl hx ⟨a, ws, rfl, rfl, hf, ha, r0⟩
theorem pure_defI {m : Md} {N : List Str} {n p : Nat} {f : SM} {vs : List V} {H : Hp} {Q : VK} {E : XK} (hn : N.length = n) (hp : p ≤ n) (h : spI m (mkFnI n p f) vs H Q E) : dS m E f { nx := fun _ H' => Q .non H', rt := Q } (L2.start N vs) H := by
  obtain ⟨F, a, vs', ws, ds0, ds, rfl, hv, ht, hf, ha, r0, r, q⟩ := h
  unfold mkFnI at q
  by_cases hl : ds.length + 1 = p
  · rw [if_pos hl] at q
    refine ⟨gAt F H (some a), F, _, SR.entryI hv ht hf ha r0 r hl hn hp, ?_⟩
    cases e : f (.io ds0 :: (ds.map Sl.fz ++ List.replicate (n - p) .no)) with
    | none => rw [e] at q; exact q
    | some x =>
      rw [e] at q
      cases x with
      | error x => exact q.elim
      | ok o =>
        obtain ⟨o, env'⟩ := o
        cases o with
        | nx => exact q.elim
        | bk => exact q.elim
        | ct => exact q.elim
        | rt own d =>
          simp only [outI] at q
          split at q
          · exact q.elim
          · rename_i own' d' ds1 e2
            split at e2
            · rename_i dd e3
              cases e2
              intro v F' H' σ' S' vo
              obtain ⟨z, e1, b, w, e4, hi, hf', hb, hr⟩ := S'.slot 0 _ e3
              cases hi
              exact q v F' H' w S'.ret hf' hb hr vo.ret
            · cases e2
  · rw [if_neg hl] at q
    exact q.elim
theorem len_defI {m : Md} {n p : Nat} {f : SM} {vs : List V} {H : Hp} {Q : VK} {E : XK} (h : spI m (mkFnI n p f) vs H Q E) : vs.length = p := by
  obtain ⟨F, a, vs', ws, ds0, ds, rfl, hv, ht, hf, ha, r0, r, q⟩ := h
  unfold mkFnI at q
  by_cases hl : ds.length + 1 = p
  · rw [List.length_cons, r.length]; exact hl
  · rw [if_neg hl] at q
    exact q.elim
theorem fn_defI {P : Program} {w : World} {K : PySem.W.Frag} {mg : Str → Option Value} {base : Heap} {m : Md} {x qual : Str} {st : Stmt} {f : Addr} {fd : FuncData} {N ps : List Str} {k n p : Nat} {b : SM} (F : Fun K x qual st f fd) (S : FnScope N ps (defScope st)) (hn : N.length = n) (hp : ps.length = p) (hpn : p ≤ n)
    (hb : ∀ (cdv : Value) (A : Around) (outer : List Env) (s : Shared) (H : Hp) (E : XK), Room k (A.deeper (envOfC qual (defScope st) s.heap.objs.size f cdv)) → PSs (cxOf (L2N.CX P w) P w K mg base N qual (defScope st) f cdv A outer s H E) (defBody st) (dS m E b)) :
    FnOk P w K mg base (L2N.CX P w) (k + 1) f fd ps (spI m (mkFnI n p b)) :=
  fun_okN F S (fun vs H Q E h => by rw [hp]; exact len_defI h) fun cdv A outer s H vs Q E hr h => ⟨_, hb cdv A outer s H E hr, pure_defI hn hpn h⟩
/-- a call that hands on the list in the slot i -/
def eCallI (i : Nat) (s : FnI) (f : AM) : EM := fun env => match slList env[i]? with
  | none => none
  | some _ => rb (f env) fun ds e => match slList e[i]? with
    | none => none
    | some ds0 => match s ds0 ds with
      | some (own, d, ds1) => rok (own, d) (e.set i (reSl e[i]? ds1))
      | none => none
section
variable {X : Cx} {m : Md} {E : XK} {pos : Pos} {es : List Expr} {t : AM} {s : FnI}
theorem rd_eCallI {i : Nat} {σ : L2.St} {H : Hp} {Q : VK} (q : dE m E (eCallI i s t) σ H Q) : tCall (spI m s) [] E (tCons (tVar i) (dA m E t)) σ H Q := by
  obtain ⟨g, F, env, S, P⟩ := q
  unfold eCallI at P
  split at P
  · exact P.elim
  · rename_i d0 q0
    obtain ⟨a, ws0, hsa, hw0, _, _⟩ := S.slListAt q0
    refine ⟨.ref a, hsa, ?_⟩
    refine ⟨g, F, env, S, (post_rb P).mono fun ds e1 _ P1 vs F1 H1 l1 S1 r1 => ?_⟩
    split at P1
    · exact P1.elim
    · rename_i ds0 q1
      obtain ⟨a', ws, hsa', hwa, hr, _⟩ := S1.slListAt q1
      rw [hsa] at hsa'
      cases hsa'
      have own : OwnA σ e1 i a := ⟨hsa, by
        unfold slList at q1
        split at q1
        · rename_i x e; exact .inl ⟨_, e⟩
        · rename_i x e; exact .inr ⟨_, e⟩
        · cases q1⟩
      show spI m s ((V.ref a :: vs) ++ []) H1 Q E
      rw [List.append_nil]
      refine ⟨F1, a, vs, ws, ds0, ds, rfl, S1.view, S1.tabs, (S1.own own).1, hwa, hr, r1, ?_⟩
      cases es : s ds0 ds with
      | none => rw [es] at P1; exact P1.elim
      | some o =>
        obtain ⟨ow, d, ds1⟩ := o
        rw [es] at P1
        intro v F' H' ws' R hf' hb hr' ro
        have hi : i < e1.length := by
          rcases own.2 with ⟨_, z⟩ | ⟨_, z⟩ <;> exact (List.getElem?_eq_some_iff.mp z).1
        have hx := S1.dropNo own
        have h0 : g.H0 a = none ∨ g.io = some a := by
          rcases own.2 with ⟨_, z⟩ | ⟨_, z⟩
          · obtain ⟨v', e2, b, e3, _, n⟩ := S1.slot i _ z
            rw [hsa] at e2; cases e2; cases e3
            exact .inl n
          · obtain ⟨v', e2, b, w, e3, n, _⟩ := S1.slot i _ z
            rw [hsa] at e2; cases e2; cases e3
            exact .inr n
        have S2 := (S1.drop i).calledIO R h0 (S1.own own).1 ⟨ws, hwa⟩ ⟨ws', hb⟩ hx
        have S3 : SR m g F' H' σ (e1.set i (reSl e1[i]? ds1)) := by
          refine S2.setOwn hi hsa hx ?_
          unfold slList at q1
          split at q1
          · rename_i x e
            obtain ⟨v', e2, b, e3, oa, n⟩ := S1.slot i _ e
            rw [hsa] at e2; cases e2; cases e3
            rw [e]
            exact ⟨a, rfl, ⟨hf', _, hb, trivial, hr'⟩, n⟩
          · rename_i x e
            obtain ⟨v', e2, b, w, e3, n, _⟩ := S1.slot i _ e
            rw [hsa] at e2; cases e2; cases e3
            rw [e]
            exact ⟨a, ws', rfl, n, hf', hb, hr'⟩
          · cases q1
        refine P1 v F' H' (l1.trans R.ext) S3 ?_
        cases ow with
        | false => exact ro
        | true =>
          obtain ⟨b, e, o, n⟩ := ro
          refine ⟨b, e, o, S1.dom b n, fun j hj => ?_⟩
          have hj' : OwnA σ e1 j b := by
            by_cases hji : j = i
            · subst hji
              refine ⟨hj.1, own.2⟩
            · refine ⟨hj.1, ?_⟩
              rcases hj.2 with ⟨d, z⟩ | ⟨d, z⟩
              · exact .inl ⟨d, by rw [List.getElem?_set_ne (Ne.symm hji)] at z; exact z⟩
              · exact .inr ⟨d, by rw [List.getElem?_set_ne (Ne.symm hji)] at z; exact z⟩
          obtain ⟨_, o', ho, _⟩ := S1.own hj'
          rw [n] at ho; cases ho
theorem d_callI {i : Nat} {k : Nat} {f : Addr} {fd : FuncData} {ps : List Str} {x y : Str} {p p1 : Pos} (G : FnOk X.prog X.w X.K X.mg X.base (L2N.CX X.prog X.w) k f fd ps (spI m s)) (hr : Room k X.A) (hg : Gl X x) (hm : X.mg x = some (.ref f)) (hk : PySem.W.keepIn X.K (.ref f) = true) (hb : Binds X.K fd ps []) (hx : Passes (L2N.CX X.prog X.w) X E)
    (hN : X.N[i]? = some y) (hv : Vis X.env.scope y) (ha : PA X es (dA m E t)) (hd : (y == ("__debug__" : Str)) = false := by decide) (hcd : (y == ("__classdict__" : Str)) = false := by decide) (hs : starEach (.Name y p1 :: es) X.env = (false, eval (.Name y p1) X.env) :: starEach es X.env := by rfl)
    (hdb : (x == ("__debug__" : Str)) = false := by decide) (hpl : (backTo pos (starEach es X.env)).any (·.1) = false := by rfl) : PE X (.Call (.Name x p) (.Name y p1 :: es) [] pos) (dE m E (eCallI i s t)) :=
  PE.imp (pe_call G hr hg hm hk hb .nil hx (pa_cons (pe_var hN hv hd hcd) ha hs) hdb hs hpl) fun _ _ _ => rd_eCallI
end
end DL

/-! The data layer, part f: the operators and built-ins, on trees. -/
namespace DL
open PySem PySem.Spec PyProof.Rows L2
def cutL {α : Type} (xs : List α) (lo hi : Option Int) : List α := (xs.drop (HT.sIx xs.length 0 lo)).take (HT.sIx xs.length xs.length hi - HT.sIx xs.length 0 lo)
/-! ### what they give -/
def yes (d : PyData) : Option (Bool × PyData) := some (false, d)
def bD (b : Bool) : Option (Bool × PyData) := some (false, .bool b)
def iD (i : Int) : Option (Bool × PyData) := some (false, .int i)
def addD : Op2 := fun x y => match x, y with
  | .int i, .int j => iD (i + j)
  | .bool i, .int j => iD (b2i i + j)
  | .int i, .bool j => iD (i + b2i j)
  | .str a, .str b => if a.length + b.length ≤ sizeLine then yes (.str (a ++ b)) else none
  | .list a, .list b => if a.length + b.length ≤ sizeLine then some (true, .list (a ++ b)) else none
  | .tuple a, .tuple b => if a.length + b.length ≤ sizeLine then yes (.tuple (a ++ b)) else none
  | _, _ => none
def subD : Op2 := fun x y => match x, y with
  | .int i, .int j => iD (i - j)
  | _, _ => none
def smallI (i : Int) : Bool := decide (-(2 ^ 64) < i ∧ i < 2 ^ 64)
def strMul (x : Str) (n : Nat) : Str := ⟨(List.replicate n x.cps.toList).flatten.toArray⟩
def mulD : Op2 := fun x y => match x, y with
  | .int i, .int j => if smallI i || smallI j then iD (i * j) else none
  | .list a, .int k => if -(2 ^ 63) ≤ k ∧ k < 2 ^ 63 ∧ a.length * k.toNat ≤ sizeLine then some (true, .list (List.replicate k.toNat a).flatten) else none
  | .str a, .int k => if a.length ≤ 1000 ∧ 0 ≤ k ∧ k ≤ 1000 then yes (.str (Txt.mul a k)) else none
  | .tuple a, .int k => if a ≠ [] ∧ 2 ≤ k ∧ k ≤ 1000 ∧ a.length ≤ 1000 then yes (.tuple (List.replicate k.toNat a).flatten) else none
  | _, _ => none
def fdivD : Op2 := fun x y => match x, y with
  | .int i, .int j => if 0 < j ∧ j < 1073741824 then iD (i / j) else none
  | _, _ => none
def modD : Op2 := fun x y => match x, y with
  | .int i, .int j => if 0 < j then iD (i % j) else none
  | _, _ => none
def powD : Op2 := fun x y => match x, y with
  | .int i, .int j => if 0 ≤ j ∧ j ≤ 1000000 ∧ i.natAbs < 2 ^ 64 then iD (i ^ j.toNat) else none
  | _, _ => none
def negD : Op1 := fun x => match x with
  | .int i => iD (-i)
  | _ => none
def ltD : Op2 := fun x y => match x, y with
  | .int i, .int j => bD (decide (i < j))
  | _, _ => none
def leD : Op2 := fun x y => match x, y with
  | .int i, .int j => bD (decide (i ≤ j))
  | _, _ => none
def gtD : Op2 := fun x y => match x, y with
  | .int i, .int j => bD (decide (j < i))
  | _, _ => none
def geD : Op2 := fun x y => match x, y with
  | .int i, .int j => bD (decide (j ≤ i))
  | _, _ => none
mutual
def noDict : PyData → Bool
  | .dict _ => false
  | .list ds => noDicts ds
  | .tuple ds => noDicts ds
  | _ => true
def noDicts : List PyData → Bool
  | [] => true
  | d :: ds => noDict d && noDicts ds
end
def shp (d : PyData) : Bool := SeqAt.shaped d && noDict d
def eqD : Op2 := fun x y => if shp x && shp y then bD (PyData.eqv x y) else none
def neD : Op2 := fun x y => if shp x && shp y then bD (!PyData.eqv x y) else none
def isNone : PyData → Bool
  | .none => true
  | _ => false
def isD : Op2 := fun x y => match x, y with
  | x, .none => bD (isNone x)
  | .bool a, .bool b => bD (decide (a = b))
  | _, _ => none
def isntD : Op2 := fun x y => match x, y with
  | x, .none => bD (!isNone x)
  | .bool a, .bool b => bD (!decide (a = b))
  | _, _ => none
def flatD : PyData → Bool
  | .none => true
  | .bool _ => true
  | .int _ => true
  | .str _ => true
  | _ => false
def inStr (x y : Str) : Bool := !(Builtin.Str.occurrences y x 0 y.length 1).isEmpty
def inD : Op2 := fun x y => match x, y with
  | .str a, .str b => bD (inStr a b)
  | x, .list ds => if flatD x && ds.all flatD then bD (ds.any fun d => PyData.eqv d x) else none
  | x, .tuple ds => if flatD x && ds.all flatD then bD (ds.any fun d => PyData.eqv d x) else none
  | _, _ => none
def notInD : Op2 := fun x y => match x, y with
  | .str a, .str b => bD (!inStr a b)
  | x, .list ds => if flatD x && ds.all flatD then bD (!ds.any fun d => PyData.eqv d x) else none
  | x, .tuple ds => if flatD x && ds.all flatD then bD (!ds.any fun d => PyData.eqv d x) else none
  | _, _ => none
def oY (o : Option PyData) : Option (Bool × PyData) := match o with
  | some d => yes d
  | none => none
def ixD : Op2 := fun x y => match x, y with
  | .list ds, .int i => oY (atI ds i)
  | .tuple ds, .int i => oY (atI ds i)
  | .str z, .int i => if z.length ≤ sizeLine then oY ((atI z.cps.toList i).map fun c => .str ⟨#[c]⟩) else none
  | _, _ => none
def slD (x : PyData) (lo hi : Option Int) : Option (Bool × PyData) := match x with
  | .list ds => some (true, .list (cutL ds lo hi))
  | .tuple ds => yes (.tuple (cutL ds lo hi))
  | .str z => if z.length ≤ sizeLine then yes (.str (cutS z lo hi)) else none
  | _ => none

/-! ### that the rules' readings give it -/
section
variable {K : PySem.W.Frag} {F : Fv} {H : Hp} {Q : VK}
theorem rep_imm {v : V} {d : PyData} (r : Rep F v d) (h : flatD d = true) : ∃ w, v = w ∧ flatV w = true ∧ ∀ F', Rep F' w d := by
  cases d <;> first | (cases h; done) | (cases r; exact ⟨_, rfl, rfl, fun _ => rfl⟩)
theorem view_lst (w : View F H) {v : V} {ds : List PyData} (r : Rep F v (.list ds)) : ∃ a vs, v = .ref a ∧ H a = some (.lst vs) ∧ Reps F vs ds := by
  obtain ⟨a, rfl, h⟩ := r
  obtain ⟨o, ro, hr⟩ := w a _ h
  cases o with
  | lst vs => exact ⟨a, vs, rfl, ro.lst, hr⟩
  | _ => exact hr.elim
theorem view_tup (w : View F H) {v : V} {ds : List PyData} (r : Rep F v (.tuple ds)) : ∃ a vs, v = .ref a ∧ H a = some (.tup vs) ∧ Reps F vs ds := by
  obtain ⟨a, rfl, h⟩ := r
  obtain ⟨o, ro, hr⟩ := w a _ h
  cases o with
  | tup vs => exact ⟨a, vs, rfl, ro.tup, hr⟩
  | _ => exact hr.elim
theorem reps_app {vs ws : List V} {ds es : List PyData} (r : Reps F vs ds) (q : Reps F ws es) : Reps F (vs ++ ws) (ds ++ es) := by
  induction r with
  | nil => exact q
  | cons h t ih => exact .cons h ih
theorem reps_drop {vs : List V} {ds : List PyData} (r : Reps F vs ds) : ∀ n, Reps F (vs.drop n) (ds.drop n) := by
  induction r with
  | nil => intro n; simp; exact .nil
  | cons h t ih =>
    intro n
    cases n with
    | zero => exact .cons h t
    | succ n => exact ih n
theorem reps_take {vs : List V} {ds : List PyData} (r : Reps F vs ds) : ∀ n, Reps F (vs.take n) (ds.take n) := by
  induction r with
  | nil => intro n; simp; exact .nil
  | cons h t ih =>
    intro n
    cases n with
    | zero => exact .nil
    | succ n => exact .cons h (ih n)
theorem reps_cut {vs : List V} {ds : List PyData} (r : Reps F vs ds) (lo hi : Option Int) : Reps F (cutV vs lo hi) (cutL ds lo hi) := by
  unfold cutV cutL
  rw [Paired.length r]
  exact reps_take (reps_drop r _) _
theorem reps_rep {vs : List V} {ds : List PyData} (r : Reps F vs ds) : ∀ n, Reps F (List.replicate n vs).flatten (List.replicate n ds).flatten
  | 0 => .nil
  | n + 1 => by
    rw [List.replicate_succ, List.replicate_succ, List.flatten_cons, List.flatten_cons]
    exact reps_app r (reps_rep r n)
theorem reps_atI {vs : List V} {ds : List PyData} (r : Reps F vs ds) {i : Int} {d : PyData} (h : atI ds i = some d) : ∃ v, atI vs i = some v ∧ Rep F v d := by
  unfold atI at h ⊢
  rw [Paired.length r]
  cases q : ixN ds.length i with
  | none => rw [q] at h; cases h
  | some j =>
    rw [q] at h
    exact reps_get r h
theorem op_add_bi {X : Cx} : OpR X (binaryOp .Add) (fun x y H Q => ∃ k i, x = .bl k ∧ y = .int i ∧ Q (.int (b2i k + i)) H) := by
  intro pins s σ H x y v u Q I rx ry h
  obtain ⟨k, i, rfl, rfl, q⟩ := h
  obtain ⟨t, rfl⟩ := ry
  cases rx
  exact IntBool.add_bool_int ⟨.int (b2i k + i), H, I.tok _, ⟨_, rfl⟩, q⟩
theorem ok_add : BinOk (fun x y H Q => (rI0 (fun i j => V.int (i + j)) x y H Q ∨ (∃ k i, x = .bl k ∧ y = .int i ∧ Q (.int (b2i k + i)) H) ∨ ∃ i k, x = .int i ∧ y = .bl k ∧ Q (.int (i + b2i k)) H) ∨ (∃ i j, x = .str i ∧ y = .str j ∧ i.length + j.length ≤ sizeLine ∧ Q (.str (i ++ j)) H) ∨ rCat x y H Q ∨ rCatA K x y H Q) addD := by
  intro F H x y d1 d2 own d Q w r1 r2 h c
  unfold addD at h
  split at h
  · cases r1; cases r2; cases h
    exact .inl (.inl ⟨_, _, rfl, rfl, c.1 _ rfl⟩)
  · cases r1; cases r2; cases h
    exact .inl (.inr (.inl ⟨_, _, rfl, rfl, c.1 _ rfl⟩))
  · cases r1; cases r2; cases h
    exact .inl (.inr (.inr ⟨_, _, rfl, rfl, c.1 _ rfl⟩))
  · split at h
    · rename_i hz
      cases r1; cases r2; cases h
      exact .inr (.inl ⟨_, _, rfl, rfl, hz, c.1 _ rfl⟩)
    · cases h
  · split at h
    · rename_i hz
      cases h
      obtain ⟨a, vs, rfl, ha, ra⟩ := view_lst w r1
      obtain ⟨b, ws, rfl, hb, rb⟩ := view_lst w r2
      exact .inr (.inr (.inl ⟨a, b, vs, ws, rfl, rfl, ha, hb, by rw [Paired.length ra, Paired.length rb]; exact hz, fun p hp => c p (.lst (vs ++ ws)) hp (reps_app ra rb) trivial⟩))
    · cases h
  · split at h
    · rename_i hz
      cases h
      have r1' := r1
      have r2' := r2
      obtain ⟨a, vs, rfl, ha, ra⟩ := view_tup w r1
      obtain ⟨b, ws, rfl, hb, rb⟩ := view_tup w r2
      refine .inr (.inr (.inr ⟨a, b, vs, ws, rfl, rfl, .inl (.inl ha), .inl (.inl hb), by rw [Paired.length ra, Paired.length rb]; exact hz, fun e => c.1 _ ?_, fun _ e => c.1 _ ?_, fun _ _ p hp => c.2 p (.tup (vs ++ ws)) hp (reps_app ra rb)⟩))
      · subst e; cases ra; exact r2'
      · subst e; cases rb; rw [List.append_nil]; exact r1'
    · cases h
  · cases h
theorem ok_int {g : Int → Int → V} {h : Op2} {gd : Int → Int → PyData} (hg : ∀ F i j, Rep F (g i j) (gd i j)) (hh : ∀ x y o, h x y = some o → ∃ i j, x = .int i ∧ y = .int j ∧ o = (false, gd i j)) : BinOk (rI0 g) h := by
  intro F H x y d1 d2 own d Q w r1 r2 e c
  obtain ⟨i, j, rfl, rfl, e2⟩ := hh _ _ _ e
  cases e2; cases r1; cases r2
  exact ⟨i, j, rfl, rfl, c.1 _ (hg F i j)⟩
theorem ok_intC {C : Int → Int → Prop} {g : Int → Int → V} {h : Op2} {gd : Int → Int → PyData} (hg : ∀ F i j, Rep F (g i j) (gd i j)) (hh : ∀ x y o, h x y = some o → ∃ i j, x = .int i ∧ y = .int j ∧ C i j ∧ o = (false, gd i j)) : BinOk (rI C g) h := by
  intro F H x y d1 d2 own d Q w r1 r2 e c
  obtain ⟨i, j, rfl, rfl, hc, e2⟩ := hh _ _ _ e
  cases e2; cases r1; cases r2
  exact ⟨i, j, rfl, rfl, hc, c.1 _ (hg F i j)⟩
theorem ok_sub : BinOk (rI0 fun i j => .int (i - j)) subD := ok_int (gd := fun i j => .int (i - j)) (fun _ _ _ => rfl) fun x y o e => by
  unfold subD at e
  split at e
  · cases e; exact ⟨_, _, rfl, rfl, rfl⟩
  · cases e
theorem ok_lt : BinOk (rI0 fun i j => .bl (decide (i < j))) ltD := ok_int (gd := fun i j => .bool (decide (i < j))) (fun _ _ _ => rfl) fun x y o e => by
  unfold ltD at e
  split at e
  · cases e; exact ⟨_, _, rfl, rfl, rfl⟩
  · cases e
theorem ok_le : BinOk (rI0 fun i j => .bl (decide (i ≤ j))) leD := ok_int (gd := fun i j => .bool (decide (i ≤ j))) (fun _ _ _ => rfl) fun x y o e => by
  unfold leD at e
  split at e
  · cases e; exact ⟨_, _, rfl, rfl, rfl⟩
  · cases e
theorem ok_gt : BinOk (rI0 fun i j => .bl (decide (j < i))) gtD := ok_int (gd := fun i j => .bool (decide (j < i))) (fun _ _ _ => rfl) fun x y o e => by
  unfold gtD at e
  split at e
  · cases e; exact ⟨_, _, rfl, rfl, rfl⟩
  · cases e
theorem ok_ge : BinOk (rI0 fun i j => .bl (decide (j ≤ i))) geD := ok_int (gd := fun i j => .bool (decide (j ≤ i))) (fun _ _ _ => rfl) fun x y o e => by
  unfold geD at e
  split at e
  · cases e; exact ⟨_, _, rfl, rfl, rfl⟩
  · cases e
theorem ok_fdiv : BinOk (rI CDiv fun i j => .int (i / j)) fdivD := ok_intC (gd := fun i j => .int (i / j)) (fun _ _ _ => rfl) fun x y o e => by
  unfold fdivD at e
  split at e
  · split at e
    · rename_i h; cases e; exact ⟨_, _, rfl, rfl, h, rfl⟩
    · cases e
  · cases e
theorem ok_mod : BinOk (rI (fun _ j => 0 < j) fun i j => .int (i % j)) modD := ok_intC (gd := fun i j => .int (i % j)) (fun _ _ _ => rfl) fun x y o e => by
  unfold modD at e
  split at e
  · split at e
    · rename_i h; cases e; exact ⟨_, _, rfl, rfl, h, rfl⟩
    · cases e
  · cases e
theorem ok_pow : BinOk (rI CPow fun i j => .int (i ^ j.toNat)) powD := ok_intC (gd := fun i j => .int (i ^ j.toNat)) (fun _ _ _ => rfl) fun x y o e => by
  unfold powD at e
  split at e
  · split at e
    · rename_i h; cases e; exact ⟨_, _, rfl, rfl, h, rfl⟩
    · cases e
  · cases e
theorem ok_neg : ∀ F H x d1 own d Q, View F H → Rep F x d1 → negD d1 = some (own, d) → Cont own F H d Q → rU (fun i => .int (-i)) x H Q := by
  intro F H x d1 own d Q w r e c
  unfold negD at e
  split at e
  · cases e; cases r; exact ⟨_, rfl, c.1 _ rfl⟩
  · cases e
def rMulS : R2 := fun x y H Q => ∃ a k, x = .str a ∧ y = .int k ∧ a.length ≤ 1000 ∧ 0 ≤ k ∧ k ≤ 1000 ∧ Q (.str (Txt.mul a k)) H
theorem mul_ok {a : Str} {k : Int} (h1 : a.length ≤ 1000) (h2 : 0 ≤ k) (h3 : k ≤ 1000) : MulOk a k := by
  refine ⟨by simp; omega, fun h _ => ?_, fun h _ => ?_⟩
  · have : (1000 : Int) ≤ (2 ^ 63 - 1) / k := by
      rw [Int.le_ediv_iff_mul_le (by omega)]
      omega
    omega
  · have : a.length * k.toNat ≤ 1000 * 1000 := Nat.mul_le_mul h1 (by omega)
    have hs : sizeLine = 16777216 := rfl
    unfold Builtin.Str.tooLong
    rw [hs]
    simp
    omega
theorem op_mulS {X : Cx} : OpR X (binaryOp .Mult) rMulS := by
  intro pins s σ H x y v u Q I rx ry h
  obtain ⟨a, k, rfl, rfl, h1, h2, h3, q⟩ := h
  obtain ⟨t, rfl⟩ := rx
  obtain ⟨t', rfl⟩ := ry
  exact SB.mul (mul_ok h1 h2 h3) fun t' tk => ⟨.str (Txt.mul a k), H, I.tok _, ⟨_, rfl⟩, q⟩
theorem ok_mul : BinOk (fun x y H Q => (rI CMul (fun i j => V.int (i * j)) x y H Q ∨ rMulS x y H Q) ∨ rRep x y H Q ∨ rRepT K x y H Q) mulD := by
  intro F H x y d1 d2 own d Q w r1 r2 h c
  unfold mulD at h
  split at h
  · split at h
    · rename_i hz
      cases r1; cases r2; cases h
      refine .inl (.inl ⟨_, _, rfl, rfl, ?_, c.1 _ rfl⟩)
      rcases Bool.or_eq_true_iff.mp hz with z | z
      · exact .inl (of_decide_eq_true z)
      · exact .inr (of_decide_eq_true z)
    · cases h
  · split at h
    · rename_i hz
      cases h; cases r2
      obtain ⟨a, vs, rfl, ha, ra⟩ := view_lst w r1
      exact .inr (.inl ⟨a, _, vs, rfl, rfl, ha, hz.1, hz.2.1, by rw [Paired.length ra]; exact hz.2.2, fun p hp => c p (.lst (List.replicate _ vs).flatten) hp (reps_rep ra _) trivial⟩)
    · cases h
  · split at h
    · rename_i hz
      cases r1; cases r2; cases h
      exact .inl (.inr ⟨_, _, rfl, rfl, hz.1, hz.2.1, hz.2.2, c.1 _ rfl⟩)
    · cases h
  · split at h
    · rename_i hz
      cases h; cases r2
      obtain ⟨a, vs, rfl, ha, ra⟩ := view_tup w r1
      refine .inr (.inr ⟨a, _, vs, rfl, rfl, .inl (.inl ha), fun z => hz.1 ?_, hz.2.1, hz.2.2.1, by rw [Paired.length ra]; exact hz.2.2.2, fun p hp => c.2 p (.tup (List.replicate _ vs).flatten) hp (reps_rep ra _)⟩)
      subst z; cases ra; rfl
    · cases h
  · cases h
mutual
theorem rep_dp (w : View F H) : ∀ {d : PyData} {v : V}, noDict d = true → Rep F v d → Dp K H v d
  | .none, _, _, r => by cases r; exact .non
  | .bool _, _, _, r => by cases r; exact .bl _
  | .int _, _, _, r => by cases r; exact .int _
  | .str _, _, _, r => by cases r; exact .str _
  | .list ds, _, h, r => by
    obtain ⟨a, vs, rfl, ha, ra⟩ := view_lst w r
    exact .lst (.inl (.inl ha)) (reps_dp w (by simpa [noDict] using h) ra)
  | .tuple ds, _, h, r => by
    obtain ⟨a, vs, rfl, ha, ra⟩ := view_tup w r
    exact .tup (.inl (.inl ha)) (reps_dp w (by simpa [noDict] using h) ra)
  | .dict _, _, h, _ => by simp [noDict] at h
theorem reps_dp (w : View F H) : ∀ {ds : List PyData} {vs : List V}, noDicts ds = true → Reps F vs ds → DpAll K H vs ds
  | [], _, _, .nil => .nil
  | d :: ds, _, h, .cons r t => by
    simp only [noDicts, Bool.and_eq_true] at h
    exact .cons (rep_dp w h.1 r) (reps_dp w h.2 t)
end
theorem ok_eq : BinOk (rEqD K) eqD := by
  intro F H x y d1 d2 own d Q w r1 r2 h c
  unfold eqD at h
  split at h
  · rename_i hz
    cases h
    simp only [shp, Bool.and_eq_true] at hz
    exact ⟨d1, d2, rep_dp w hz.1.2 r1, rep_dp w hz.2.2 r2, hz.1.1, hz.2.1, c.1 _ rfl⟩
  · cases h
theorem ok_ne : BinOk (rNeD K) neD := by
  intro F H x y d1 d2 own d Q w r1 r2 h c
  unfold neD at h
  split at h
  · rename_i hz
    cases h
    simp only [shp, Bool.and_eq_true] at hz
    exact ⟨d1, d2, rep_dp w hz.1.2 r1, rep_dp w hz.2.2 r2, hz.1.1, hz.2.1, c.1 _ rfl⟩
  · cases h
theorem rep_none {x : V} {d : PyData} (r : Rep F x d) : decide (x = .non) = isNone d := by
  cases d with
  | none => cases r; rfl
  | bool _ => cases r; rfl
  | int _ => cases r; rfl
  | str _ => cases r; rfl
  | list _ => obtain ⟨a, rfl, _⟩ := r; rfl
  | tuple _ => obtain ⟨a, rfl, _⟩ := r; rfl
  | dict _ => obtain ⟨a, rfl, _⟩ := r; rfl
theorem ok_is : BinOk (fun x y H Q => (y = .non ∧ Q (.bl (decide (x = .non))) H) ∨ ∃ a b, x = .bl a ∧ y = .bl b ∧ Q (.bl (decide (a = b))) H) isD := by
  intro F H x y d1 d2 own d Q w r1 r2 h c
  unfold isD at h
  split at h
  · cases h; cases r2
    exact .inl ⟨rfl, c.1 _ (by rw [rep_none r1]; rfl)⟩
  · cases h; cases r1; cases r2
    exact .inr ⟨_, _, rfl, rfl, c.1 _ rfl⟩
  · cases h
theorem ok_isnt : BinOk (fun x y H Q => (y = .non ∧ Q (.bl (!decide (x = .non))) H) ∨ ∃ a b, x = .bl a ∧ y = .bl b ∧ Q (.bl (!decide (a = b))) H) isntD := by
  intro F H x y d1 d2 own d Q w r1 r2 h c
  unfold isntD at h
  split at h
  · cases h; cases r2
    exact .inl ⟨rfl, c.1 _ (by rw [rep_none r1]; rfl)⟩
  · cases h; cases r1; cases r2
    exact .inr ⟨_, _, rfl, rfl, c.1 _ rfl⟩
  · cases h
theorem eqV_eqv {v w : V} {d e : PyData} (r : Rep F v d) (q : Rep F w e) (h : flatD d = true) (h' : flatD e = true) : eqV v w = PyData.eqv d e := by
  cases d <;> first | (cases h; done) | (cases r; cases e <;> first | (cases h'; done) | (cases q; simp [eqV, PyData.eqv]))
theorem flat_of {v : V} {d : PyData} (r : Rep F v d) (h : flatD d = true) : flatV v = true := by
  cases d <;> first | (cases h; done) | (cases r; rfl)
theorem inV_any {x : V} {d : PyData} (r : Rep F x d) (h : flatD d = true) {vs : List V} {ds : List PyData} (q : Reps F vs ds) (h' : ds.all flatD = true) : vs.all flatV = true ∧ inV x vs = ds.any fun e => PyData.eqv e d := by
  induction q with
  | nil => exact ⟨rfl, rfl⟩
  | cons a t ih =>
    simp only [List.all_cons, Bool.and_eq_true] at h'
    obtain ⟨i1, i2⟩ := ih h'.2
    refine ⟨by simp [flat_of a h'.1, i1], ?_⟩
    unfold inV at i2 ⊢
    rw [List.any_cons, List.any_cons, i2, eqV_eqv a r h'.1 h]
theorem ok_in : BinOk (fun x y H Q => (∃ i j, x = .str i ∧ y = .str j ∧ Q (.bl (!(Builtin.Str.occurrences j i 0 j.length 1).isEmpty)) H) ∨ rIn K false x y H Q) inD := by
  intro F H x y d1 d2 own d Q w r1 r2 h c
  unfold inD at h
  split at h
  · cases h; cases r1; cases r2
    exact .inl ⟨_, _, rfl, rfl, c.1 _ rfl⟩
  · split at h
    · rename_i hz
      cases h
      simp only [Bool.and_eq_true] at hz
      obtain ⟨a, vs, rfl, ha, ra⟩ := view_lst w r2
      obtain ⟨i1, i2⟩ := inV_any r1 hz.1 ra hz.2
      exact .inr ⟨a, vs, rfl, .inl (.inl (.inl ha)), flat_of r1 hz.1, i1, by rw [if_neg Bool.false_ne_true, i2]; exact c.1 _ rfl⟩
    · cases h
  · split at h
    · rename_i hz
      cases h
      simp only [Bool.and_eq_true] at hz
      obtain ⟨a, vs, rfl, ha, ra⟩ := view_tup w r2
      obtain ⟨i1, i2⟩ := inV_any r1 hz.1 ra hz.2
      exact .inr ⟨a, vs, rfl, .inr (.inl (.inl ha)), flat_of r1 hz.1, i1, by rw [if_neg Bool.false_ne_true, i2]; exact c.1 _ rfl⟩
    · cases h
  · cases h
theorem ok_notIn : BinOk (fun x y H Q => (∃ i j, x = .str i ∧ y = .str j ∧ Q (.bl (!(!(Builtin.Str.occurrences j i 0 j.length 1).isEmpty))) H) ∨ rIn K true x y H Q) notInD := by
  intro F H x y d1 d2 own d Q w r1 r2 h c
  unfold notInD at h
  split at h
  · cases h; cases r1; cases r2
    exact .inl ⟨_, _, rfl, rfl, c.1 _ rfl⟩
  · split at h
    · rename_i hz
      cases h
      simp only [Bool.and_eq_true] at hz
      obtain ⟨a, vs, rfl, ha, ra⟩ := view_lst w r2
      obtain ⟨i1, i2⟩ := inV_any r1 hz.1 ra hz.2
      exact .inr ⟨a, vs, rfl, .inl (.inl (.inl ha)), flat_of r1 hz.1, i1, by rw [if_pos rfl, i2]; exact c.1 _ rfl⟩
    · cases h
  · split at h
    · rename_i hz
      cases h
      simp only [Bool.and_eq_true] at hz
      obtain ⟨a, vs, rfl, ha, ra⟩ := view_tup w r2
      obtain ⟨i1, i2⟩ := inV_any r1 hz.1 ra hz.2
      exact .inr ⟨a, vs, rfl, .inr (.inl (.inl ha)), flat_of r1 hz.1, i1, by rw [if_pos rfl, i2]; exact c.1 _ rfl⟩
    · cases h
  · cases h
theorem ok_ix : BinOk (rIx K) ixD := by
  intro F H x y d1 d2 own d Q w r1 r2 h c
  unfold ixD at h
  split at h
  · rename_i ds i
    cases e : atI ds i with
    | none => rw [e] at h; cases h
    | some d' =>
      rw [e] at h; cases h; cases r2
      obtain ⟨a, vs, rfl, ha, ra⟩ := view_lst w r1
      obtain ⟨v, hv, rv⟩ := reps_atI ra e
      exact .inl ⟨a, vs, i, v, rfl, rfl, .inl (.inl ha), hv, c.1 _ rv⟩
  · rename_i ds i
    cases e : atI ds i with
    | none => rw [e] at h; cases h
    | some d' =>
      rw [e] at h; cases h; cases r2
      obtain ⟨a, vs, rfl, ha, ra⟩ := view_tup w r1
      obtain ⟨v, hv, rv⟩ := reps_atI ra e
      exact .inr (.inl ⟨a, vs, i, v, rfl, rfl, .inl (.inl ha), hv, c.1 _ rv⟩)
  · rename_i z i
    split at h
    · rename_i hz
      cases e : atI z.cps.toList i with
      | none => rw [e] at h; cases h
      | some ch =>
        rw [e] at h; cases h; cases r1; cases r2
        exact .inr (.inr ⟨z, i, ch, rfl, rfl, hz, e, c.1 _ rfl⟩)
    · cases h
  · cases h
end

/-! ### slices -/
def dO (m : Md) (E : XK) (f : Ev → Res (Option Int)) : TO := fun σ H Q => ∃ g F env, SR m g F H σ env ∧ Post m g E (f env) fun o env' => ∀ F' H', Fle F F' → SR m g F' H' σ env' → Q o H'
def oNo : Ev → Res (Option Int) := fun env => rok none env
def oAt (f : EM) : Ev → Res (Option Int) := fun env => rb (f env) fun od e => match od.2 with
  | .int i => rok (some i) e
  | _ => none
def eSl (f : EM) (lo hi : Ev → Res (Option Int)) : EM := fun env => rb (f env) fun od e1 => rb (lo e1) fun l e2 => rb (hi e2) fun h e3 => lift (slD od.2 l h) e3
theorem PO.imp {X : Cx} {e : Option Expr} {t t' : TO} (h : PO X e t) (k : ∀ σ H Q, t' σ H Q → t σ H Q) : PO X e t' := ⟨fun pins s σ H Q I q => h.run pins s σ H Q I (k σ H Q q)⟩
section
variable {X : Cx} {m : Md} {E : XK} {pos p2 : Pos} {f : EM} {lo hi : Ev → Res (Option Int)} {e : Expr} {le ue : Option Expr}
theorem do_no : PO X none (dO m E oNo) := PO.imp po_none fun σ H Q ⟨g, F, env, S, P⟩ => P F H (.refl F) S
theorem do_at (h : PE X e (dE m E f)) : PO X (some e) (dO m E (oAt f)) := PO.imp (po_some h) fun σ H Q ⟨g, F, env, S, P⟩ => dE_use S ((post_rb P).mono fun od e1 _ P1 v F1 H1 l1 S1 r1 => by
  split at P1
  · rename_i i ei
    exact ⟨i, rep_int r1 ei, P1 F1 H1 l1 S1⟩
  · exact P1.elim)
theorem ok_sl {K : PySem.W.Frag} {F : Fv} {H : Hp} {x : V} {d1 : PyData} {lo hi : Option Int} {own : Bool} {d : PyData} {Q : VK} (w : View F H) (r : Rep F x d1) (h : slD d1 lo hi = some (own, d)) (c : Cont own F H d Q) : rSlL K x lo hi H Q ∨ rSlA K x lo hi H Q ∨ rSlS x lo hi H Q := by
  unfold slD at h
  split at h
  · cases h
    obtain ⟨a, vs, rfl, ha, ra⟩ := view_lst w r
    exact .inl ⟨a, vs, rfl, .inl (.inl ha), fun p hp => c p (.lst (cutV vs lo hi)) hp (reps_cut ra lo hi) trivial⟩
  · cases h
    have r' := r
    obtain ⟨a, vs, rfl, ha, ra⟩ := view_tup w r
    refine .inr (.inl ⟨a, vs, rfl, .inl (.inl ha), fun e => c.1 _ ?_, fun _ p hp => c.2 p (.tup (cutV vs lo hi)) hp (reps_cut ra lo hi)⟩)
    rename_i ds
    have e2 : cutL ds lo hi = ds := by
      unfold cutL
      rw [← Paired.length ra, e.1, e.2, Paired.length ra]
      simp
    rw [e2]
    exact r'
  · split at h
    · rename_i hz
      cases h; cases r
      exact .inr (.inr ⟨_, rfl, hz, c.1 _ rfl⟩)
    · cases h
  · cases h
theorem d_sl (he : PE X e (dE m E f)) (hl : PO X le (dO m E lo)) (hu : PO X ue (dO m E hi)) : PE X (.Subscript e (.Slice le ue none p2) pos) (dE m E (eSl f lo hi)) := by
  refine PE.imp (pe_slice (SlR.or sl_list (SlR.or sl_tupA sl_str)) he hl hu) fun σ H Q ⟨g, F, env, S, P⟩ => ?_
  refine dE_use S ((post_rb P).mono fun od e1 _ P1 v F1 H1 l1 S1 r1 => ?_)
  refine ⟨g, F1, e1, S1, (post_rb P1).mono fun l e2 _ P2 F2 H2 l2 S2 => ?_⟩
  refine ⟨g, F2, e2, S2, (post_rb P2).mono fun u e3 _ P3 F3 H3 l3 S3 => ?_⟩
  obtain ⟨⟨own, d⟩, eh, P4⟩ := post_lift P3
  exact ok_sl S3.view (r1.mono (l2.trans l3)) eh (cont_of S3 fun v F' H' l S' vo => P4 v F' H' (((l1.trans l2).trans l3).trans l) S' vo)
end

/-! ### built-in functions -/
def lenD : OpN := fun ds => match ds with
  | [.list a] => iD a.length
  | [.tuple a] => iD a.length
  | [.str a] => if a.length ≤ sizeLine then iD a.length else none
  | _ => none
def intD : OpN := fun ds => match ds with
  | [.int i] => iD i
  | [.bool b] => iD (if b then 1 else 0)
  | _ => none
def max2D : OpN := fun ds => match ds with
  | [.int i, .int j] => iD (if j > i then j else i)
  | _ => none
def min2D : OpN := fun ds => match ds with
  | [.int i, .int j] => iD (if j < i then j else i)
  | _ => none
def intsD : List PyData → Option (List Int)
  | [] => some []
  | .int i :: ds => (intsD ds).map (i :: ·)
  | _ => none
def boolsD : List PyData → Option (List Bool)
  | [] => some []
  | .bool i :: ds => (boolsD ds).map (i :: ·)
  | _ => none
def strsD : List PyData → Option (List Str)
  | [] => some []
  | .str i :: ds => (strsD ds).map (i :: ·)
  | _ => none
def sumD : OpN := fun ds => match ds with
  | [.list a] => match intsD a with
    | some ns => iD ns.sum
    | none => none
  | _ => none
def allD : OpN := fun ds => match ds with
  | [.list a] => match boolsD a with
    | some bs => bD (bs.all id)
    | none => none
  | _ => none
def anyD : OpN := fun ds => match ds with
  | [.list a] => match boolsD a with
    | some bs => bD (bs.any id)
    | none => none
  | _ => none
def listD : OpN := fun ds => match ds with
  | [.list a] => some (true, .list a)
  | [.tuple a] => some (true, .list a)
  | [.str a] => if a.length ≤ sizeLine then some (true, .list (signs a)) else none
  | _ => none
def tupleD : OpN := fun ds => match ds with
  | [.list a] => yes (.tuple a)
  | [.tuple a] => yes (.tuple a)
  | _ => none
section
variable {K : PySem.W.Frag} {F : Fv} {H : Hp} {Q : VK}
theorem ints_of {F : Fv} : ∀ {ds : List PyData} {vs : List V} {ns : List Int}, intsD ds = some ns → Reps F vs ds → vs = ns.map V.int
  | [], _, ns, h, .nil => by simp [intsD] at h; subst h; rfl
  | .int i :: ds, _, ns, h, .cons r t => by
    simp only [intsD, Option.map_eq_some_iff] at h
    obtain ⟨ms, h1, rfl⟩ := h
    rw [ints_of h1 t, show _ = V.int i from r]
    rfl
  | .none :: _, _, _, h, _ => by simp [intsD] at h
  | .bool _ :: _, _, _, h, _ => by simp [intsD] at h
  | .str _ :: _, _, _, h, _ => by simp [intsD] at h
  | .list _ :: _, _, _, h, _ => by simp [intsD] at h
  | .tuple _ :: _, _, _, h, _ => by simp [intsD] at h
  | .dict _ :: _, _, _, h, _ => by simp [intsD] at h
theorem bools_of {F : Fv} : ∀ {ds : List PyData} {vs : List V} {ns : List Bool}, boolsD ds = some ns → Reps F vs ds → vs = ns.map V.bl
  | [], _, ns, h, .nil => by simp [boolsD] at h; subst h; rfl
  | .bool i :: ds, _, ns, h, .cons r t => by
    simp only [boolsD, Option.map_eq_some_iff] at h
    obtain ⟨ms, h1, rfl⟩ := h
    rw [bools_of h1 t, show _ = V.bl i from r]
    rfl
  | .none :: _, _, _, h, _ => by simp [boolsD] at h
  | .int _ :: _, _, _, h, _ => by simp [boolsD] at h
  | .str _ :: _, _, _, h, _ => by simp [boolsD] at h
  | .list _ :: _, _, _, h, _ => by simp [boolsD] at h
  | .tuple _ :: _, _, _, h, _ => by simp [boolsD] at h
  | .dict _ :: _, _, _, h, _ => by simp [boolsD] at h
theorem strs_of {F : Fv} : ∀ {ds : List PyData} {vs : List V} {ns : List Str}, strsD ds = some ns → Reps F vs ds → vs = ns.map V.str
  | [], _, ns, h, .nil => by simp [strsD] at h; subst h; rfl
  | .str i :: ds, _, ns, h, .cons r t => by
    simp only [strsD, Option.map_eq_some_iff] at h
    obtain ⟨ms, h1, rfl⟩ := h
    rw [strs_of h1 t, show _ = V.str i from r]
    rfl
  | .none :: _, _, _, h, _ => by simp [strsD] at h
  | .int _ :: _, _, _, h, _ => by simp [strsD] at h
  | .bool _ :: _, _, _, h, _ => by simp [strsD] at h
  | .list _ :: _, _, _, h, _ => by simp [strsD] at h
  | .tuple _ :: _, _, _, h, _ => by simp [strsD] at h
  | .dict _ :: _, _, _, h, _ => by simp [strsD] at h
theorem ok_len : CallOk (fun xs H Q => ∃ x n, xs = [x] ∧ LenV K x H n ∧ Q (.int (n : Nat)) H) lenD := by
  intro F H xs ds own d Q w r h c
  unfold lenD at h
  split at h
  · cases h
    rcases r with _ | ⟨r1, t⟩
    cases t
    obtain ⟨a, vs, rfl, ha, ra⟩ := view_lst w r1
    exact ⟨_, vs.length, rfl, .inl ⟨vs, .inl (.inl ha), rfl⟩, c.1 _ (by rw [Paired.length ra]; rfl)⟩
  · cases h
    rcases r with _ | ⟨r1, t⟩
    cases t
    obtain ⟨a, vs, rfl, ha, ra⟩ := view_tup w r1
    exact ⟨_, vs.length, rfl, .inr ⟨vs, .inl (.inl ha), rfl⟩, c.1 _ (by rw [Paired.length ra]; rfl)⟩
  · split at h
    · rename_i hz
      cases h
      rcases r with _ | ⟨r1, t⟩
      cases t
      cases r1
      exact ⟨_, _, rfl, ⟨hz, rfl⟩, c.1 _ rfl⟩
    · cases h
  · cases h
theorem ok_intc : CallOk (fun xs H Q => (∃ i, xs = [.int i] ∧ Q (.int i) H) ∨ ∃ k, xs = [.bl k] ∧ Q (.int (if k then 1 else 0)) H) intD := by
  intro F H xs ds own d Q w r h c
  unfold intD at h
  split at h
  · cases h
    rcases r with _ | ⟨r1, t⟩
    cases t
    cases r1
    exact .inl ⟨_, rfl, c.1 _ rfl⟩
  · cases h
    rcases r with _ | ⟨r1, t⟩
    cases t
    cases r1
    exact .inr ⟨_, rfl, c.1 _ rfl⟩
  · cases h
theorem ok_max2 : CallOk (fun xs H Q => ∃ i j, xs = [.int i, .int j] ∧ Q (.int (if j > i then j else i)) H) max2D := by
  intro F H xs ds own d Q w r h c
  unfold max2D at h
  split at h
  · cases h
    rcases r with _ | ⟨r1, t⟩
    rcases t with _ | ⟨r2, t⟩
    cases t
    cases r1; cases r2
    exact ⟨_, _, rfl, c.1 _ rfl⟩
  · cases h
theorem ok_min2 : CallOk (fun xs H Q => ∃ i j, xs = [.int i, .int j] ∧ Q (.int (if j < i then j else i)) H) min2D := by
  intro F H xs ds own d Q w r h c
  unfold min2D at h
  split at h
  · cases h
    rcases r with _ | ⟨r1, t⟩
    rcases t with _ | ⟨r2, t⟩
    cases t
    cases r1; cases r2
    exact ⟨_, _, rfl, c.1 _ rfl⟩
  · cases h
theorem ok_sum : CallOk (rSum K) sumD := by
  intro F H xs ds own d Q w r h c
  unfold sumD at h
  split at h
  · split at h
    · rename_i ns e
      cases h
      rcases r with _ | ⟨r1, t⟩
      cases t
      obtain ⟨a, vs, rfl, ha, ra⟩ := view_lst w r1
      have := ints_of e ra
      subst this
      exact ⟨a, ns, rfl, .inl (.inl ha), c.1 _ rfl⟩
    · cases h
  · cases h
theorem ok_all : CallOk (rAll K) allD := by
  intro F H xs ds own d Q w r h c
  unfold allD at h
  split at h
  · split at h
    · rename_i ns e
      cases h
      rcases r with _ | ⟨r1, t⟩
      cases t
      obtain ⟨a, vs, rfl, ha, ra⟩ := view_lst w r1
      have := bools_of e ra
      subst this
      exact ⟨a, ns, rfl, .inl (.inl ha), c.1 _ rfl⟩
    · cases h
  · cases h
theorem ok_any : CallOk (rAny K) anyD := by
  intro F H xs ds own d Q w r h c
  unfold anyD at h
  split at h
  · split at h
    · rename_i ns e
      cases h
      rcases r with _ | ⟨r1, t⟩
      cases t
      obtain ⟨a, vs, rfl, ha, ra⟩ := view_lst w r1
      have := bools_of e ra
      subst this
      exact ⟨a, ns, rfl, .inl (.inl ha), c.1 _ rfl⟩
    · cases h
  · cases h
def rListStr (xs : List V) (H : Hp) (Q : VK) : Prop := ∃ a : Str, xs = [.str a] ∧ a.length ≤ sizeLine ∧ ∀ q, H q = none → Q (.ref q) (upd H q (.lst (a.cps.toList.map fun c => V.str ⟨#[c]⟩)))
theorem call_listStr {X : Cx} (hc : X.calm = true) : CallR X (.type "list") rListStr := by
  intro pins s σ H xs us Q I r h
  obtain ⟨a, rfl, hz, q⟩ := h
  obtain ⟨u, rfl, ru⟩ := vals1 r
  obtain ⟨t, rfl⟩ := ru
  refine call_list_str (I.ok.hd hc) a t (fun h' tk acc c' hk e hi => ?_) hz
  refine ⟨.ref s.heap.objs.size, upd H s.heap.objs.size (.lst (a.cps.toList.map fun c => V.str ⟨#[c]⟩)), I.laid hk (Nat.le_refl _) ⟨by rw [List.length_map, Array.length_toList]; exact hz, acc.toList, c', ?_, by rw [Array.toArray_toList]; exact e⟩, rfl, q _ (I.hok.fresh (Nat.le_refl _))⟩
  refine vals_of_idx _ _ (by rw [List.length_map, Array.length_toList, Array.length_toList]; exact hi.1) fun j u hj => ?_
  obtain ⟨c, t', hc, rfl⟩ := hi.2 j u (by rw [← Array.getElem?_toList]; exact hj)
  exact ⟨.str ⟨#[c]⟩, by rw [List.getElem?_map, Array.getElem?_toList, hc]; rfl, ⟨_, rfl⟩⟩
theorem reps_signs {F : Fv} (l : List Nat) : Reps F (l.map fun c => V.str ⟨#[c]⟩) (l.map fun c => PyData.str ⟨#[c]⟩) := by
  induction l with
  | nil => exact .nil
  | cons c l ih => exact .cons rfl ih
theorem ok_list : CallOk (fun xs H Q => (∃ p ys, xs = [.ref p] ∧ (SqL K H p ys ∨ SqT K H p ys) ∧ ∀ l, H l = none → Q (.ref l) (upd H l (.lst ys))) ∨ rListStr xs H Q) listD := by
  intro F H xs ds own d Q w r h c
  unfold listD at h
  split at h
  · cases h
    rcases r with _ | ⟨r1, t⟩
    cases t
    obtain ⟨a, vs, rfl, ha, ra⟩ := view_lst w r1
    exact .inl ⟨a, vs, rfl, .inl (.inl (.inl ha)), fun l hl => c l (.lst vs) hl ra trivial⟩
  · cases h
    rcases r with _ | ⟨r1, t⟩
    cases t
    obtain ⟨a, vs, rfl, ha, ra⟩ := view_tup w r1
    exact .inl ⟨a, vs, rfl, .inr (.inl (.inl ha)), fun l hl => c l (.lst vs) hl ra trivial⟩
  · split at h
    · rename_i hz
      cases h
      rcases r with _ | ⟨r1, t⟩
      cases t
      cases r1
      exact .inr ⟨_, rfl, hz, fun l hl => c l (.lst _) hl (reps_signs _) trivial⟩
    · cases h
  · cases h
theorem ok_tuple : CallOk (fun xs H Q => ∃ p ys, xs = [.ref p] ∧ ((SqL K H p ys ∧ ∀ l, H l = none → Q (.ref l) (upd H l (.tup ys))) ∨ (SqT K H p ys ∧ Q (.ref p) H))) tupleD := by
  intro F H xs ds own d Q w r h c
  unfold tupleD at h
  split at h
  · cases h
    rcases r with _ | ⟨r1, t⟩
    cases t
    obtain ⟨a, vs, rfl, ha, ra⟩ := view_lst w r1
    exact ⟨a, vs, rfl, .inl ⟨.inl (.inl ha), fun l hl => c.2 l (.tup vs) hl ra⟩⟩
  · cases h
    rcases r with _ | ⟨r1, t⟩
    cases t
    have r1' := r1
    obtain ⟨a, vs, rfl, ha, ra⟩ := view_tup w r1
    exact ⟨a, vs, rfl, .inr ⟨.inl (.inl ha), c.1 _ r1'⟩⟩
  · cases h
end

/-! ### isinstance -/
def tyName : PyData → Option String
  | .none => some "NoneType"
  | .bool _ => some "bool"
  | .int _ => some "int"
  | .str _ => some "str"
  | .list _ => some "list"
  | .tuple _ => some "tuple"
  | .dict _ => none
def isiD (T : String) : Op1 := fun d => match tyName d with
  | some t => match kitB t T with
    | some b => bD b
    | none => none
  | none => none
section
variable {X : Cx} {m : Md} {E : XK} {pos : Pos} {f : EM} {e : Expr}
theorem tyx_of {K : PySem.W.Frag} {F : Fv} {H : Hp} (w : View F H) {v : V} {d : PyData} {t : String} (r : Rep F v d) (h : tyName d = some t) : TyX K H v (.type t) := by
  cases d with
  | none => cases h; cases r; exact .base .non
  | bool _ => cases h; cases r; exact .base (.bl _)
  | int _ => cases h; cases r; exact .base (.int _)
  | str _ => cases h; cases r; exact .base (.str _)
  | list _ => cases h; obtain ⟨a, vs, rfl, ha, _⟩ := view_lst w r; exact .base (.lst ha)
  | tuple _ => cases h; obtain ⟨a, vs, rfl, ha, _⟩ := view_tup w r; exact .base (.tup ha)
  | dict _ => cases h
theorem d_isi {T : String} {x : Str} {p p1 : Pos} (hg : Gl X "isinstance") (hm : X.mg "isinstance" = none) (hgx : Gl X x) (hmx : X.mg x = none) (hvx : bootBuiltins x = some (.type T)) (he : PE X e (dE m E f))
    (hnx : x ≠ "__name__" := by decide) (hdx : (x == ("__debug__" : Str)) = false := by decide) (hs : starEach (e :: [.Name x p1]) X.env = (false, eval e X.env) :: starEach [.Name x p1] X.env := by rfl) (hs2 : starEach ([.Name x p1]) X.env = (false, eval (.Name x p1) X.env) :: starEach [] X.env := by rfl) (hpl : (backTo pos (starEach [.Name x p1] X.env)).any (·.1) = false := by rfl) :
    PE X (.Call (.Name "isinstance" p) [e, .Name x p1] [] pos) (dE m E (eUn (isiD T) f)) := by
  refine PE.imp (pe_callB call_isi hg hm (by decide +kernel) (pa_cons he (pa_cons (pe_bltn (v := .ty T) hgx hmx hvx rfl hnx hdx) pa_nil hs2) hs) (by decide) (by decide) hs hpl) fun σ H Q ⟨g, F, env, S, P⟩ => ?_
  refine dE_use S ((post_rb P).mono fun od e1 _ P1 v F1 H1 l1 S1 r1 => ?_)
  obtain ⟨⟨own, d⟩, eh, P2⟩ := post_lift P1
  unfold isiD at eh
  split at eh
  · rename_i t et
    split at eh
    · rename_i b eb
      cases eh
      exact ⟨v, .ty T, .type t, .type T, b, rfl, .ty T, tyx_of S1.view r1 et, kit_ty eb, P2 _ F1 H1 l1 S1 rfl⟩
    · cases eh
  · cases eh
end

/-! ### methods of texts -/
def eM1 (h : Op2) (f k : EM) : EM := fun env => rb (f env) fun a e1 => match a.2 with
  | .str _ => rb (k e1) fun b e2 => lift (h a.2 b.2) e2
  | _ => none
def eM0 (h : Op1) (f : EM) : EM := fun env => rb (f env) fun a e1 => match a.2 with
  | .str _ => lift (h a.2) e1
  | _ => none
section
variable {X : Cx} {m : Md} {E : XK} {pos apos : Pos} {f k : EM} {o e : Expr}
theorem rd_m1 {r : V → List V → Hp → VK → Prop} {h : Op2} (hr : BinOk (fun x y H Q => r x [y] H Q) h) {σ : L2.St} {H : Hp} {Q : VK} (q : dE m E (eM1 h f k) σ H Q) : tM1 r (dE m E f) (dE m E k) σ H Q := by
  obtain ⟨g, F, env, S, P⟩ := q
  refine dE_use S ((post_rb P).mono fun od1 e1 _ P1 v F1 H1 l1 S1 r1 => ?_)
  split at P1
  · rename_i z ez
    rw [ez] at r1
    refine ⟨⟨z, r1⟩, dE_use S1 ((post_rb P1).mono fun od2 e2 _ P2 w F2 H2 l2 S2 r2 => ?_)⟩
    obtain ⟨⟨own, d⟩, e, P3⟩ := post_lift P2
    exact hr F2 H2 v w _ _ own d Q S2.view (by rw [ez]; exact r1.mono l2) r2 e (cont_of S2 fun v F' H' l S' vo => P3 v F' H' ((l1.trans l2).trans l) S' vo)
  · exact P1.elim
theorem rd_m0 {r : V → List V → Hp → VK → Prop} {h : Op1} (hr : ∀ F H x d1 own d Q, View F H → Rep F x d1 → h d1 = some (own, d) → Cont own F H d Q → r x [] H Q) {σ : L2.St} {H : Hp} {Q : VK} (q : dE m E (eM0 h f) σ H Q) : tM0 r (dE m E f) σ H Q := by
  obtain ⟨g, F, env, S, P⟩ := q
  refine dE_use S ((post_rb P).mono fun od1 e1 _ P1 v F1 H1 l1 S1 r1 => ?_)
  split at P1
  · rename_i z ez
    rw [ez] at r1
    obtain ⟨⟨own, d⟩, e, P3⟩ := post_lift P1
    exact ⟨⟨z, r1⟩, hr F1 H1 v _ own d Q S1.view (by rw [ez]; exact r1) e (cont_of S1 fun v F' H' l S' vo => P3 v F' H' (l1.trans l) S' vo)⟩
  · exact P1.elim
def joinD : Op2 := fun x y => match x, y with
  | .str a, .list ds => match strsD ds with
    | some ys => if (ys.map (·.length)).sum + ys.length * a.length ≤ 16777216 then yes (.str (Txt.join a ys)) else none
    | none => none
  | _, _ => none
theorem d_join (ho : PE X o (dE m E f)) (he : PE X e (dE m E k)) (hs : starEach [e] X.env = [(false, eval e X.env)] := by rfl) (hbase : attributeBase o "join" X.env (eval o X.env) = eval o X.env := by rfl) (hline : (apos.endLine == pos.line) = true := by rfl) : PE X (.Call (.Attribute o "join" apos) [e] [] pos) (dE m E (eM1 joinD f k)) :=
  PE.imp (pe_join ho he hs hbase hline) fun σ H Q => rd_m1 fun F H x y d1 d2 own d Q w r1 r2 h c => by
    unfold joinD at h
    split at h
    · split at h
      · rename_i ys ey
        split at h
        · rename_i hz
          cases h; cases r1
          obtain ⟨a, vs, rfl, ha, ra⟩ := view_lst w r2
          have := strs_of ey ra
          subst this
          exact ⟨_, a, ys, rfl, rfl, .inl (.inl (.inl ha)), hz, c.1 _ rfl⟩
        · cases h
      · cases h
    · cases h
def lowerD : Op1 := fun x => match x with
  | .str a => if a.length ≤ 5592405 then yes (.str (Txt.lower a)) else none
  | _ => none
theorem d_lower (ho : PE X o (dE m E f)) (hbase : attributeBase o "lower" X.env (eval o X.env) = eval o X.env := by rfl) (hline : (apos.endLine == pos.line) = true := by rfl) : PE X (.Call (.Attribute o "lower" apos) [] [] pos) (dE m E (eM0 lowerD f)) :=
  PE.imp (pe_lower ho hbase hline) fun σ H Q => rd_m0 fun F H x d1 own d Q w r h c => by
    unfold lowerD at h
    split at h
    · split at h
      · rename_i hz
        cases h; cases r
        exact ⟨_, rfl, rfl, hz, c.1 _ rfl⟩
      · cases h
    · cases h
def indexD : Op2 := fun x y => match x, y with
  | .str a, .str b => match Builtin.Str.occurrences a b 0 a.length 1 with
    | i :: _ => iD (i : Nat)
    | [] => none
  | _, _ => none
theorem d_sindex (ho : PE X o (dE m E f)) (he : PE X e (dE m E k)) (hs : starEach [e] X.env = [(false, eval e X.env)] := by rfl) (hbase : attributeBase o "index" X.env (eval o X.env) = eval o X.env := by rfl) (hline : (apos.endLine == pos.line) = true := by rfl) : PE X (.Call (.Attribute o "index" apos) [e] [] pos) (dE m E (eM1 indexD f k)) :=
  PE.imp (pe_m1 F.slot_str_index F.type_str_index mt_sindex ho he hs hbase hline) fun σ H Q => rd_m1 fun F H x y d1 d2 own d Q w r1 r2 h c => by
    unfold indexD at h
    split at h
    · split at h
      · rename_i i rest e
        cases h; cases r1; cases r2
        exact ⟨_, _, i, rest, rfl, rfl, e, c.1 _ rfl⟩
      · cases h
    · cases h
end
end DL

/-! The data layer, part g: short words for what gen.py prints. -/
namespace DL
open PySem PySem.Spec PyProof.Rows L2
/-- a def of the text that stands behind the top and keeps its promise -/
def Okf (P : Program) (w : World) (K : PySem.W.Frag) (mg : Str → Option Value) (base : Heap) (x : Str) (ps : List Str) (k : Nat) (sp : Sp) : Prop :=
  ∃ f fd, mg x = some (.ref f) ∧ PySem.W.keepIn K (.ref f) = true ∧ Binds K fd ps [] ∧ FnOk P w K mg base (L2N.CX P w) k f fd ps sp
section
variable {X : Cx} {m : Md} {E : XK} {pos : Pos} {e : Expr} {es : List Expr} {t : AM} {s : FnS} {si : FnI} {k : Nat} {ps : List Str} {x y : Str} {p p1 : Pos}
theorem d_callO (O : Okf X.prog X.w X.K X.mg X.base x ps k (spD m s)) (hr : Room k X.A) (hx : Passes (L2N.CX X.prog X.w) X E) (ha : PA X (e :: es) (dA m E t)) (hg : Gl X x := by rfl) (hdb : (x == ("__debug__" : Str)) = false := by decide) (he : starEach (e :: es) X.env = (false, eval e X.env) :: starEach es X.env := by rfl) (hpl : (backTo pos (starEach es X.env)).any (·.1) = false := by rfl) : PE X (.Call (.Name x p) (e :: es) [] pos) (dE m E (eCall s t)) := by
  obtain ⟨f, fd, h1, h2, h3, h4⟩ := O
  exact d_call h4 hr hg h1 h2 h3 hx ha hdb he hpl
theorem d_callIO (i : Nat) (O : Okf X.prog X.w X.K X.mg X.base x ps k (spI m si)) (hr : Room k X.A) (hx : Passes (L2N.CX X.prog X.w) X E) (ha : PA X es (dA m E t)) (hN : X.N[i]? = some y := by rfl) (hv : Vis X.env.scope y := by first | exact Or.inl rfl | exact Or.inr (Or.inl rfl) | exact Or.inr (Or.inr rfl)) (hg : Gl X x := by rfl)
    (hd : (y == ("__debug__" : Str)) = false := by decide) (hcd : (y == ("__classdict__" : Str)) = false := by decide) (hs : starEach (.Name y p1 :: es) X.env = (false, eval (.Name y p1) X.env) :: starEach es X.env := by rfl)
    (hdb : (x == ("__debug__" : Str)) = false := by decide) (hpl : (backTo pos (starEach es X.env)).any (·.1) = false := by rfl) : PE X (.Call (.Name x p) (.Name y p1 :: es) [] pos) (dE m E (eCallI i si t)) := by
  obtain ⟨f, fd, h1, h2, h3, h4⟩ := O
  exact d_callI h4 hr hg h1 h2 h3 hx hN hv ha hd hcd hs hdb hpl
end
/-- the built-in names that nobody has bound -/
structure Bi (mg : Str → Option Value) : Prop where
  len : mg "len" = none
  range : mg "range" = none
  isinstance : mg "isinstance" = none
  int : mg "int" = none
  bool : mg "bool" = none
  str : mg "str" = none
  list : mg "list" = none
  tuple : mg "tuple" = none
  zip : mg "zip" = none
  enumerate : mg "enumerate" = none
  min : mg "min" = none
  max : mg "max" = none
  sum : mg "sum" = none
  all : mg "all" = none
  any : mg "any" = none
  sorted : mg "sorted" = none
  set : mg "set" = none
section
variable {X : Cx} {m : Md} {E : XK} {pos p p1 : Pos} {e a b c : Expr} {f k l : EM} {es : List Expr} {t : AM}
theorem g_add (ha : PE X a (dE m E f)) (hb : PE X b (dE m E k)) : PE X (.BinOp a .Add b pos) (dE m E (eBin addD f k)) := d_bin (OpR.or (OpR.or op_add (OpR.or op_add_bi op_add_ib)) (OpR.or op_add_str (OpR.or op_cat op_catA))) ok_add ha hb
theorem g_sub (ha : PE X a (dE m E f)) (hb : PE X b (dE m E k)) : PE X (.BinOp a .Sub b pos) (dE m E (eBin subD f k)) := d_bin op_sub ok_sub ha hb
theorem g_mul (ha : PE X a (dE m E f)) (hb : PE X b (dE m E k)) : PE X (.BinOp a .Mult b pos) (dE m E (eBin mulD f k)) := d_bin (OpR.or (OpR.or op_mul op_mulS) (OpR.or op_rep op_repT)) ok_mul ha hb
theorem g_fdiv (ha : PE X a (dE m E f)) (hb : PE X b (dE m E k)) : PE X (.BinOp a .FloorDiv b pos) (dE m E (eBin fdivD f k)) := d_bin op_fdiv ok_fdiv ha hb
theorem g_mod (ha : PE X a (dE m E f)) (hb : PE X b (dE m E k)) : PE X (.BinOp a .Mod b pos) (dE m E (eBin modD f k)) := d_bin op_mod ok_mod ha hb
theorem g_pow (ha : PE X a (dE m E f)) (hb : PE X b (dE m E k)) : PE X (.BinOp a .Pow b pos) (dE m E (eBin powD f k)) := d_bin op_pow ok_pow ha hb
theorem g_neg (ha : PE X a (dE m E f)) : PE X (.UnaryOp .USub a pos) (dE m E (eUn negD f)) := d_un un_neg ok_neg ha
theorem g_ix (ha : PE X a (dE m E f)) (hb : PE X b (dE m E k)) (hs : PlainIx b := by exact fun _ _ => rfl) : PE X (.Subscript a b pos) (dE m E (eBin ixD f k)) := d_ix ix_seq ok_ix ha hb hs
theorem g_len (hg : Gl X "len") (hm : X.mg "len" = none) (ha : PA X (e :: es) (dA m E t)) (he : starEach (e :: es) X.env = (false, eval e X.env) :: starEach es X.env := by rfl) (hpl : (backTo pos (starEach es X.env)).any (·.1) = false := by rfl) : PE X (.Call (.Name "len" p) (e :: es) [] pos) (dE m E (eB lenD t)) := d_callB call_len ok_len hg hm PySem.boot_len ha (by decide) (by decide) he hpl
theorem g_int (hg : Gl X "int") (hm : X.mg "int" = none) (ha : PA X (e :: es) (dA m E t)) (he : starEach (e :: es) X.env = (false, eval e X.env) :: starEach es X.env := by rfl) (hpl : (backTo pos (starEach es X.env)).any (·.1) = false := by rfl) : PE X (.Call (.Name "int" p) (e :: es) [] pos) (dE m E (eB intD t)) := d_callTy call_int1 ok_intc hg hm (by decide +kernel) ha (by decide) (by decide) he hpl
theorem g_list (hc : X.calm = true) (hg : Gl X "list") (hm : X.mg "list" = none) (ha : PA X (e :: es) (dA m E t)) (he : starEach (e :: es) X.env = (false, eval e X.env) :: starEach es X.env := by rfl) (hpl : (backTo pos (starEach es X.env)).any (·.1) = false := by rfl) : PE X (.Call (.Name "list" p) (e :: es) [] pos) (dE m E (eB listD t)) := d_callTy (CallR.or call_list_of (call_listStr hc)) ok_list hg hm (by decide +kernel) ha (by decide) (by decide) he hpl
theorem g_tuple (hg : Gl X "tuple") (hm : X.mg "tuple" = none) (ha : PA X (e :: es) (dA m E t)) (he : starEach (e :: es) X.env = (false, eval e X.env) :: starEach es X.env := by rfl) (hpl : (backTo pos (starEach es X.env)).any (·.1) = false := by rfl) : PE X (.Call (.Name "tuple" p) (e :: es) [] pos) (dE m E (eB tupleD t)) := d_callTy call_tuple_of ok_tuple hg hm (by decide +kernel) ha (by decide) (by decide) he hpl
theorem g_max2 (hc : X.calm = true) (hg : Gl X "max") (hm : X.mg "max" = none) (ha : PA X (e :: es) (dA m E t)) (he : starEach (e :: es) X.env = (false, eval e X.env) :: starEach es X.env := by rfl) (hpl : (backTo pos (starEach es X.env)).any (·.1) = false := by rfl) : PE X (.Call (.Name "max" p) (e :: es) [] pos) (dE m E (eB max2D t)) := d_callB (call_max2 hc) ok_max2 hg hm (by decide +kernel) ha (by decide) (by decide) he hpl
theorem g_min2 (hc : X.calm = true) (hg : Gl X "min") (hm : X.mg "min" = none) (ha : PA X (e :: es) (dA m E t)) (he : starEach (e :: es) X.env = (false, eval e X.env) :: starEach es X.env := by rfl) (hpl : (backTo pos (starEach es X.env)).any (·.1) = false := by rfl) : PE X (.Call (.Name "min" p) (e :: es) [] pos) (dE m E (eB min2D t)) := d_callB (call_min2 hc) ok_min2 hg hm (by decide +kernel) ha (by decide) (by decide) he hpl
theorem g_sum (hc : X.calm = true) (hg : Gl X "sum") (hm : X.mg "sum" = none) (ha : PA X (e :: es) (dA m E t)) (he : starEach (e :: es) X.env = (false, eval e X.env) :: starEach es X.env := by rfl) (hpl : (backTo pos (starEach es X.env)).any (·.1) = false := by rfl) : PE X (.Call (.Name "sum" p) (e :: es) [] pos) (dE m E (eB sumD t)) := d_callB (cr_sum hc) ok_sum hg hm (by decide +kernel) ha (by decide) (by decide) he hpl
theorem g_all (hc : X.calm = true) (hg : Gl X "all") (hm : X.mg "all" = none) (ha : PA X (e :: es) (dA m E t)) (he : starEach (e :: es) X.env = (false, eval e X.env) :: starEach es X.env := by rfl) (hpl : (backTo pos (starEach es X.env)).any (·.1) = false := by rfl) : PE X (.Call (.Name "all" p) (e :: es) [] pos) (dE m E (eB allD t)) := d_callB (cr_all hc) ok_all hg hm (by decide +kernel) ha (by decide) (by decide) he hpl
theorem g_any (hc : X.calm = true) (hg : Gl X "any") (hm : X.mg "any" = none) (ha : PA X (e :: es) (dA m E t)) (he : starEach (e :: es) X.env = (false, eval e X.env) :: starEach es X.env := by rfl) (hpl : (backTo pos (starEach es X.env)).any (·.1) = false := by rfl) : PE X (.Call (.Name "any" p) (e :: es) [] pos) (dE m E (eB anyD t)) := d_callB (cr_any hc) ok_any hg hm (by decide +kernel) ha (by decide) (by decide) he hpl
theorem imm_lt : ImmB ltD := fun d1 d2 own d h => by
  unfold ltD at h
  split at h
  · cases h; exact ⟨rfl, _, rfl⟩
  · cases h
theorem imm_le : ImmB leD := fun d1 d2 own d h => by
  unfold leD at h
  split at h
  · cases h; exact ⟨rfl, _, rfl⟩
  · cases h
/-! ### zip, enumerate -/
def zipD : List PyData → List PyData → List PyData
  | a :: as, b :: bs => .tuple [a, b] :: zipD as bs
  | _, _ => []
theorem zipD_len : ∀ as bs : List PyData, (zipD as bs).length = min as.length bs.length
  | [], bs => by simp [zipD]
  | a :: as, [] => by simp [zipD]
  | a :: as, b :: bs => by
    simp only [zipD, List.length_cons, zipD_len as bs]
    omega
theorem zipD_get : ∀ {as bs : List PyData} {i : Nat} {d : PyData}, (zipD as bs)[i]? = some d → ∃ a b, as[i]? = some a ∧ bs[i]? = some b ∧ d = .tuple [a, b]
  | [], bs, i, d, h => by simp [zipD] at h
  | a :: as, [], i, d, h => by simp [zipD] at h
  | a :: as, b :: bs, 0, d, h => by simp [zipD] at h; exact ⟨a, b, rfl, rfl, h.symm⟩
  | a :: as, b :: bs, i + 1, d, h => by
    simp only [zipD, List.getElem?_cons_succ] at h ⊢
    exact zipD_get h
def enumD (ds : List PyData) : List PyData := ds.zipIdx.map fun p => .tuple [.int (p.2 : Int), p.1]
def iEnumD (t : AM) : IM := fun env => rb (t env) fun as e => match as with
  | [d] => lift ((itOf d).map enumD) e
  | _ => none
def iZip (t : AM) : IM := fun env => rb (t env) fun as e => match as with
  | [.list a, .list b] => rok (zipD a b) e
  | [.tuple a, .tuple b] => rok (zipD a b) e
  | _ => none
theorem di_zip {e2 : Expr} {elts : List Expr} {kk : Nat} {tpos : Pos} (hg : Gl X "zip") (hm : X.mg "zip" = none) (ha : PA X [e, e2] (dA m E t))
    (hs : starEach [e, e2] X.env = (false, eval e X.env) :: starEach [e2] X.env := by rfl) (hpl : (backTo pos (starEach [e2] X.env)).any (·.1) = false := by rfl) :
    PI X (.Tuple elts kk tpos) (.Call (.Name "zip" p) [e, e2] [] pos) (dI m E (iZip t)) := by
  refine PI.imp (RZ.pi_zipA hg hm ha hs hpl) fun σ H R ⟨g, F, env, S, P⟩ => ?_
  refine ⟨g, F, env, S, (post_rb P).mono fun ds e1 _ P1 vs F1 H1 l1 S1 r1 => ?_⟩
  split at P1
  · rename_i as bs
    rcases r1 with _ | ⟨r1, t1⟩
    rcases t1 with _ | ⟨r2, t1⟩
    cases t1
    have r1' := r1
    have r2' := r2
    obtain ⟨a, vs, rfl, ha, ra⟩ := view_lst S1.view r1
    obtain ⟨b, ws, rfl, hb, rb⟩ := view_lst S1.view r2
    refine ⟨a, b, vs, ws, rfl, .inl ⟨.inl (.inl ha), .inl (.inl hb), P1 _ F1 H1 l1 S1 fun F' H' l' v' i => ⟨fun hi => ?_, fun d hd => ?_⟩⟩⟩
    · obtain ⟨a', vs', e1, ha', ra'⟩ := view_lst v' (r1'.mono l')
      obtain ⟨b', ws', e2, hb', rb'⟩ := view_lst v' (r2'.mono l')
      cases e1; cases e2
      refine ⟨vs', ws', .inl (.inl ha'), .inl (.inl hb'), ?_⟩
      rw [Paired.length ra', Paired.length rb']
      rw [zipD_len] at hi
      omega
    · obtain ⟨a', vs', e1, ha', ra'⟩ := view_lst v' (r1'.mono l')
      obtain ⟨b', ws', e2, hb', rb'⟩ := view_lst v' (r2'.mono l')
      cases e1; cases e2
      obtain ⟨da, db, h1, h2, rfl⟩ := zipD_get hd
      obtain ⟨x, hx, rx⟩ := reps_get ra' h1
      obtain ⟨y, hy, ry⟩ := reps_get rb' h2
      refine ⟨⟨vs', ws', x, y, .inl (.inl ha'), .inl (.inl hb'), hx, hy⟩, fun z H'' ⟨T, x', y', e3, hT, e4, f1, f2⟩ => ?_⟩
      have e5 := f1 vs' (.inl (.inl ha'))
      have e6 := f2 ws' (.inl (.inl hb'))
      rw [hx] at e5; rw [hy] at e6
      cases e5; cases e6
      exact .inr (.inl ⟨T, .tup [x, y], hT, e4, e3, .cons rx (.cons ry .nil)⟩)
  · rename_i as bs
    rcases r1 with _ | ⟨r1, t1⟩
    rcases t1 with _ | ⟨r2, t1⟩
    cases t1
    have r1' := r1
    have r2' := r2
    obtain ⟨a, vs, rfl, ha, ra⟩ := view_tup S1.view r1
    obtain ⟨b, ws, rfl, hb, rb⟩ := view_tup S1.view r2
    refine ⟨a, b, vs, ws, rfl, .inr ⟨.inl (.inl ha), .inl (.inl hb), P1 _ F1 H1 l1 S1 fun F' H' l' v' i => ⟨fun hi => ?_, fun d hd => ?_⟩⟩⟩
    · obtain ⟨a', vs', e1, ha', ra'⟩ := view_tup v' (r1'.mono l')
      obtain ⟨b', ws', e2, hb', rb'⟩ := view_tup v' (r2'.mono l')
      cases e1; cases e2
      refine ⟨vs', ws', .inl (.inl ha'), .inl (.inl hb'), ?_⟩
      rw [Paired.length ra', Paired.length rb']
      rw [zipD_len] at hi
      omega
    · obtain ⟨a', vs', e1, ha', ra'⟩ := view_tup v' (r1'.mono l')
      obtain ⟨b', ws', e2, hb', rb'⟩ := view_tup v' (r2'.mono l')
      cases e1; cases e2
      obtain ⟨da, db, h1, h2, rfl⟩ := zipD_get hd
      obtain ⟨x, hx, rx⟩ := reps_get ra' h1
      obtain ⟨y, hy, ry⟩ := reps_get rb' h2
      refine ⟨⟨vs', ws', x, y, .inl (.inl ha'), .inl (.inl hb'), hx, hy⟩, fun z H'' ⟨T, x', y', e3, hT, e4, f1, f2⟩ => ?_⟩
      have e5 := f1 vs' (.inl (.inl ha'))
      have e6 := f2 ws' (.inl (.inl hb'))
      rw [hx] at e5; rw [hy] at e6
      cases e5; cases e6
      exact .inr (.inl ⟨T, .tup [x, y], hT, e4, e3, .cons rx (.cons ry .nil)⟩)
  · exact P1.elim
end
/-! ### a, b = x, y -/
def sPar2 (i j : Nat) (f k : EM) : SM := fun env => rb (f env) fun a e1 => rb (k e1) fun b e2 => rok .nx ((e2.set i (.fz a.2)).set j (slOf b.1 b.2))
def sPar3 (i j l : Nat) (f k h : EM) : SM := fun env => rb (f env) fun a e1 => rb (k e1) fun b e2 => rb (h e2) fun c e3 => rok .nx (((e3.set i (.fz a.2)).set j (.fz b.2)).set l (slOf c.1 c.2))
theorem own_fz {σ : L2.St} {env : Ev} {i j : Nat} {v : Option V} {d : PyData} {a : Addr} (h : OwnA (σ.set i v) (env.set i (.fz d)) j a) : OwnA σ env j a := by
  obtain ⟨h1, h2⟩ := h
  have hj : i ≠ j := fun z => by
    subst z
    rcases h2 with ⟨d', z⟩ | ⟨d', z⟩
    · have hl : i < env.length := by
        have := (List.getElem?_eq_some_iff.mp z).1
        simpa using this
      rw [List.getElem?_set_self hl] at z; cases z
    · have hl : i < env.length := by
        have := (List.getElem?_eq_some_iff.mp z).1
        simpa using this
      rw [List.getElem?_set_self hl] at z; cases z
  rw [List.getElem?_set_ne hj] at h1
  refine ⟨h1, ?_⟩
  rcases h2 with ⟨d', z⟩ | ⟨d', z⟩
  · exact .inl ⟨d', by rw [List.getElem?_set_ne hj] at z; exact z⟩
  · exact .inr ⟨d', by rw [List.getElem?_set_ne hj] at z; exact z⟩
theorem VOk.fz {g : Gc} {F : Fv} {H : Hp} {σ : L2.St} {env : Ev} {own : Bool} {d d' : PyData} {v : V} {i : Nat} {x : Option V} (h : VOk g F H σ env own d v) : VOk g F H (σ.set i x) (env.set i (.fz d')) own d v := by
  cases own with
  | false => exact h
  | true =>
    obtain ⟨a, e, o, n, nx⟩ := h
    exact ⟨a, e, o, n, fun j hj => nx j (own_fz hj)⟩
section
variable {X : Cx} {m : Md} {E : XK} {pos : Pos} {a b c : Expr} {f k h : EM}
theorem ds_par2 {i j : Nat} {x y : Str} {px py pt : Pos} {kt k2 pt2} (hc : X.calm = true) (hN : X.N.Nodup) (hi : X.N[i]? = some x) (hj : X.N[j]? = some y) (hij : i ≠ j)
    (hx : X.env.scope.names.lookup x = some .local) (hy : X.env.scope.names.lookup y = some .local) (ha : PE X a (dE m E f)) (hb : PE X b (dE m E k)) (hw : swappedStores [.Tuple [.Name x px, .Name y py] kt pt] (.Tuple [a, b] k2 pt2) X.env = pure (some [x, y]))
    (hs : swapsWithSole [.Tuple [.Name x px, .Name y py] kt pt] (.Tuple [a, b] k2 pt2) pos.line X.env = pure false := by rfl) (h1 : starEach (a :: [b]) X.env = (false, eval a X.env) :: starEach [b] X.env := by rfl) (h2 : starEach (b :: []) X.env = (false, eval b X.env) :: starEach [] X.env := by rfl) :
    PS X (.Assign [.Tuple [.Name x px, .Name y py] kt pt] (.Tuple [a, b] k2 pt2) pos) (dS m E (sPar2 i j f k)) := by
  refine PS.imp (ps_par hc hN hi hj hij hx hy (pa_cons ha (pa_cons hb pa_nil h2) h1) hw hs) fun D σ H ⟨g, F, env, S, P⟩ => ?_
  refine dE_use S ((post_rb P).mono fun o1 e1 _ P1 v F1 H1 l1 S1 r1 => ?_)
  refine ⟨g, F1, e1, S1, (post_rb P1).mono fun o2 e2 _ P2 w F2 H2 l2 S2 vo => ?_⟩
  refine ⟨v, w, rfl, P2 F2 H2 _ ?_⟩
  exact (S2.store (own := false) (r1.mono l2)).store vo.fz
theorem ds_par3 {i j l : Nat} {x y z : Str} {px py pz pt : Pos} {kt k2 pt2} (hc : X.calm = true) (hN : X.N.Nodup) (hi : X.N[i]? = some x) (hj : X.N[j]? = some y) (hl : X.N[l]? = some z) (hij : i ≠ j) (hil : i ≠ l) (hjl : j ≠ l)
    (hx : X.env.scope.names.lookup x = some .local) (hy : X.env.scope.names.lookup y = some .local) (hz : X.env.scope.names.lookup z = some .local) (ha : PE X a (dE m E f)) (hb : PE X b (dE m E k)) (hcc : PE X c (dE m E h)) (hw : swappedStores [.Tuple [.Name x px, .Name y py, .Name z pz] kt pt] (.Tuple [a, b, c] k2 pt2) X.env = pure (some [x, y, z]))
    (hs : swapsWithSole [.Tuple [.Name x px, .Name y py, .Name z pz] kt pt] (.Tuple [a, b, c] k2 pt2) pos.line X.env = pure false := by rfl) (h1 : starEach (a :: [b, c]) X.env = (false, eval a X.env) :: starEach [b, c] X.env := by rfl) (h2 : starEach (b :: [c]) X.env = (false, eval b X.env) :: starEach [c] X.env := by rfl) (h3 : starEach (c :: []) X.env = (false, eval c X.env) :: starEach [] X.env := by rfl) :
    PS X (.Assign [.Tuple [.Name x px, .Name y py, .Name z pz] kt pt] (.Tuple [a, b, c] k2 pt2) pos) (dS m E (sPar3 i j l f k h)) := by
  refine PS.imp (ps_par3 hc hN hi hj hl hij hil hjl hx hy hz (pa_cons ha (pa_cons hb (pa_cons hcc pa_nil h3) h2) h1) hw hs) fun D σ H ⟨g, F, env, S, P⟩ => ?_
  refine dE_use S ((post_rb P).mono fun o1 e1 _ P1 v F1 H1 l1 S1 r1 => ?_)
  refine dE_use S1 ((post_rb P1).mono fun o2 e2 _ P2 w F2 H2 l2 S2 r2 => ?_)
  refine ⟨g, F2, e2, S2, (post_rb P2).mono fun o3 e3 _ P3 u F3 H3 l3 S3 vo => ?_⟩
  refine ⟨v, w, u, rfl, P3 F3 H3 _ ?_⟩
  exact ((S3.store (own := false) (r1.mono (l2.trans l3))).store (own := false) (r2.mono l3)).store vo.fz.fz
end
end DL

/-! The data layer, part h: the law's own def, the script. -/
namespace DL
open PySem PySem.Spec PyProof.Rows L2
/-- two lists that are read -/
theorem op_catS {X : Cx} : OpR X (binaryOp .Add) (fun x y H Q => ∃ l b xs zs, x = .ref l ∧ y = .ref b ∧ SqL X.K H l xs ∧ SqL X.K H b zs ∧ xs.length + zs.length ≤ sizeLine ∧ ∀ p, H p = none → Q (.ref p) (upd H p (.lst (xs ++ zs)))) := by
  intro pins s σ H x y v u Q I rx ry h
  obtain ⟨l, b, xs, zs, rfl, rfl, hx, hz, hl, q⟩ := h
  cases rx
  cases ry
  obtain ⟨its, r1, p1, z1⟩ := I.list hx
  obtain ⟨its2, r2, p2, z2⟩ := I.list hz
  obtain ⟨⟨cls, dd, data, sl⟩, n, ho, hc, _, hd⟩ := p1
  obtain ⟨⟨cls2, dd2, data2, sl2⟩, n2, ho2, hc2, _, hd2⟩ := p2
  simp only at hc hd hc2 hd2
  subst hc hd hc2 hd2
  have e : its.toArray ++ its2.toArray = (its ++ its2).toArray := by simp
  have hsz : its.toArray.size + its2.toArray.size ≤ sizeLine := by
    rw [List.size_toArray, List.size_toArray, ← r1.length, ← r2.length]; exact hl
  refine PySem.concat_meets ⟨_, ho, rfl⟩ ⟨_, ho2, rfl⟩ noFill_list_add seq_list_add PySem.F.slot_list_add PySem.F.entry_list_add (PySem.F.args_list_add_2 _ _) (list_addW l b its.toArray its2.toArray n n2 dd dd2 sl sl2 hsz) ⟨ho, ho2, ?_⟩
  rw [e]
  exact ⟨.ref _, _, I.lnew (t' := s.toks) (r1.append r2) (by rw [List.length_append]; omega), rfl, q _ I.fresh⟩
/-- the script's ints -/
def scOf : Option Sl → Option (List Int)
  | some (.sc ns) => some ns
  | some (.fz (.list ds)) => intsD ds
  | _ => none
def eScr (i : Nat) (f : EM) : EM := fun env => match scOf env[i]? with
  | none => none
  | some ns => rb (f env) fun od e => match od.2, scOf e[i]? with
    | .list bs, some ns' => if ns.length + bs.length ≤ sizeLine ∧ ns = ns' then rok (true, .list (ns.map .int ++ bs)) e else none
    | _, _ => none
theorem reps_ints {F : Fv} : ∀ ns : List Int, Reps F (ns.map V.int) (ns.map .int)
  | [] => .nil
  | n :: ns => .cons rfl (reps_ints ns)
theorem ints_map {ds : List PyData} {ns : List Int} (h : intsD ds = some ns) : ds = ns.map .int := by
  induction ds generalizing ns with
  | nil => simp [intsD] at h; subst h; rfl
  | cons d ds ih =>
    cases d with
    | int i =>
      simp only [intsD, Option.map_eq_some_iff] at h
      obtain ⟨ms, h1, rfl⟩ := h
      rw [ih h1]; rfl
    | _ => simp [intsD] at h
theorem SR.script {m : Md} {g : Gc} {F : Fv} {H : Hp} {σ : L2.St} {env : Ev} (S : SR m g F H σ env) {i : Nat} {ns : List Int} (h : scOf env[i]? = some ns) : ∃ a, σ[i]? = some (some (.ref a)) ∧ SqL m.K H a (ns.map V.int) := by
  cases q : env[i]? with
  | none => rw [q] at h; cases h
  | some sl =>
    rw [q] at h
    obtain ⟨v, e1, z⟩ := S.slot i sl q
    cases sl with
    | sc ns' =>
      cases h
      obtain ⟨a, rfl, z⟩ := z
      refine ⟨a, e1, ?_⟩
      rcases z with ⟨ob, z⟩ | z
      · exact .inl (.inr ⟨ob, z⟩)
      · exact .inr z
    | fz d =>
      cases d with
      | list ds =>
        obtain ⟨x, rfl, r⟩ := z
        obtain ⟨a, vs, rfl, ha, ra⟩ := view_lst S.view r
        have := ints_of h ra
        subst this
        exact ⟨a, e1, .inl (.inl ha)⟩
      | _ => cases h
    | _ => cases h
section
variable {X : Cx} {m : Md} {E : XK} {pos p1 : Pos} {b : Expr} {f : EM}
theorem d_scr (i : Nat) {x : Str} (hK : m.K = X.K) (hb : PE X b (dE m E f)) (hN : X.N[i]? = some x := by rfl) (hv : Vis X.env.scope x := by first | exact Or.inl rfl | exact Or.inr (Or.inl rfl) | exact Or.inr (Or.inr rfl)) (hd : (x == ("__debug__" : Str)) = false := by decide)
    (hcd : (x == ("__classdict__" : Str)) = false := by decide) : PE X (.BinOp (.Name x p1) .Add b pos) (dE m E (eScr i f)) := by
  refine PE.imp (pe_op op_catS (pe_var hN hv hd hcd) hb) fun σ H Q ⟨g, F, env, S, P⟩ => ?_
  unfold eScr at P
  split at P
  · exact P.elim
  · rename_i ns hs
    obtain ⟨a, hsa, _⟩ := S.script hs
    refine ⟨.ref a, hsa, dE_use S ((post_rb P).mono fun od e1 _ P1 y F1 H1 l1 S1 r1 => ?_)⟩
    split at P1
    · rename_i bs ns' eb es
      split at P1
      · rename_i hz
        obtain ⟨hz, rfl⟩ := hz
        obtain ⟨a', hsa', hq⟩ := S1.script es
        rw [hsa] at hsa'; cases hsa'
        rw [eb] at r1
        obtain ⟨c, ws, rfl, hc, rc⟩ := view_lst S1.view r1
        refine ⟨a, c, ns.map V.int, ws, rfl, rfl, hK ▸ hq, .inl (.inl hc), by rw [List.length_map, Paired.length rc]; exact hz, fun p hp => ?_⟩
        obtain ⟨S', v'⟩ := S1.allocOwn (o := .lst (ns.map V.int ++ ws)) (d := .list (ns.map .int ++ bs)) hp (reps_app (reps_ints ns) rc) trivial
        exact P1 _ F1 _ l1 S' v'
      · exact P1.elim
    · exact P1.elim
end
/-- the law's promise -/
def spLaw (K : PySem.W.Frag) (T : List (Addr × Str)) : Sp := fun vs H Q _ => ∃ (a : Addr) (ns : List Int), vs = [.ref a] ∧ SqL K H a (ns.map V.int) ∧ ns.length ≤ 63 ∧ LamX.Tabs T H ∧ ∀ H', Q (.bl true) H'
/-- what the law's body is to be shown to do: n names, the script the first of them -/
def LawTrue (n : Nat) (b : SM) : Prop := ∀ (s : Sl) (ns : List Int), scOf (some s) = some ns → ns.length ≤ 63 → ∃ env, b (s :: List.replicate (n - 1) .no) = some (.ok (.rt false (.bool true), env))
theorem pure_law {K : PySem.W.Frag} {mg : Str → Option Value} {T : List (Addr × Str)} {N : List Str} {n : Nat} {f : SM} {vs : List V} {H : Hp} {Q : VK} {E : XK} (hn : N.length = n) (hp : 1 ≤ n) (hb : LawTrue n f) (h : spLaw K T vs H Q E) : dS ⟨K, mg, T⟩ E f { nx := fun _ H' => Q .non H', rt := Q } (L2.start N vs) H := by
  obtain ⟨a, ns, rfl, hS, hl, ht, q⟩ := h
  have hst : L2.start N [V.ref a] = some (V.ref a) :: List.replicate (n - 1) none := by
    unfold L2.start
    rw [hn]; rfl
  rw [hst]
  have fin : ∀ (s : Sl) (F : Fv), scOf (some s) = some ns → SR ⟨K, mg, T⟩ (gAt F H none) F H (some (V.ref a) :: List.replicate (n - 1) none) (s :: List.replicate (n - 1) .no) → dS ⟨K, mg, T⟩ E f { nx := fun _ H' => Q .non H', rt := Q } (some (V.ref a) :: List.replicate (n - 1) none) H := fun s F hs S => by
    obtain ⟨env, e⟩ := hb s ns hs hl
    refine ⟨_, F, _, S, ?_⟩
    rw [e]
    exact fun v F' H' σ' S' vo => by
      cases (show v = V.bl true from vo)
      exact q H'
  have mk : ∀ (s : Sl) (F : Fv), View F H → SlotOk ⟨K, mg, T⟩ (gAt F H none) F H (some (.ref a)) s → (∀ d, s ≠ .ow d) → (∀ d, s ≠ .io d) → SR ⟨K, mg, T⟩ (gAt F H none) F H (some (V.ref a) :: List.replicate (n - 1) none) (s :: List.replicate (n - 1) .no) := fun s F hv ok n1 n2 => by
    refine ⟨hv, .refl F, fun b h => .inl h, fun b o e _ _ _ => e, fun q hq => absurd (show q ∈ ([] : List (Addr × Obj × HO)) from hq) (by simp), (fun _ z => nomatch z), fun b e => e, ht, by simp, fun i sl e => ?_, fun i j b hi => ?_⟩
    · cases i with
      | zero => cases e; exact ⟨_, rfl, ok⟩
      | succ i =>
        rw [List.getElem?_cons_succ, List.getElem?_replicate] at e
        split at e
        · rename_i hi
          cases e
          exact ⟨none, by rw [List.getElem?_cons_succ, List.getElem?_replicate, if_pos hi], trivial⟩
        · cases e
    · obtain ⟨_, ⟨d, z⟩ | ⟨d, z⟩⟩ := hi <;>
      · cases i with
        | zero => cases z; first | exact (n1 _ rfl).elim | exact (n2 _ rfl).elim
        | succ i =>
          rw [List.getElem?_cons_succ, List.getElem?_replicate] at z
          split at z <;> cases z
  rcases hS with (hS | ⟨ob, hS⟩) | hS
  · refine fin (.fz (.list (ns.map .int))) (fput (fun _ => none) a (.list (ns.map .int))) (by
      show intsD (ns.map PyData.int) = some ns
      clear hl hS mk fin q ht hst
      induction ns with
      | nil => rfl
      | cons n ns ih => simp [intsD, ih]) (mk _ _ (fun b d e => ?_) ⟨_, rfl, a, rfl, fput_same⟩ (fun _ z => nomatch z) (fun _ z => nomatch z))
    by_cases hb : b = a
    · subst hb
      rw [fput_same] at e; cases e
      exact ⟨_, .inl hS, reps_ints ns⟩
    · rw [fput_ne hb] at e; cases e
  · exact fin (.sc ns) (fun _ => none) rfl (mk _ _ (fun b d e => nomatch e) ⟨a, rfl, .inl ⟨ob, hS⟩⟩ (fun _ z => nomatch z) (fun _ z => nomatch z))
  · exact fin (.sc ns) (fun _ => none) rfl (mk _ _ (fun b d e => nomatch e) ⟨a, rfl, .inr hS⟩ (fun _ z => nomatch z) (fun _ z => nomatch z))
theorem fn_law {P : Program} {w : World} {K : PySem.W.Frag} {mg : Str → Option Value} {base : Heap} {T : List (Addr × Str)} {x qual : Str} {st : Stmt} {f : Addr} {fd : FuncData} {N ps : List Str} {k n : Nat} {b : SM} (F : Fun K x qual st f fd) (S : FnScope N ps (defScope st)) (hn : N.length = n) (hp : ps.length = 1) (hpn : 1 ≤ n) (hb' : LawTrue n b)
    (hb : ∀ (cdv : Value) (A : Around) (outer : List Env) (s : Shared) (H : Hp) (E : XK), Room k (A.deeper (envOfC qual (defScope st) s.heap.objs.size f cdv)) → PSs (cxOf (L2N.CX P w) P w K mg base N qual (defScope st) f cdv A outer s H E) (defBody st) (dS ⟨K, mg, T⟩ E b)) :
    FnOk P w K mg base (L2N.CX P w) (k + 1) f fd ps (spLaw K T) :=
  fun_okN F S (fun vs H Q E h => by obtain ⟨a, ns, rfl, _⟩ := h; rw [hp]; rfl) fun cdv A outer s H vs Q E hr h => ⟨_, hb cdv A outer s H E hr, pure_law hn hpn hb' h⟩
theorem fnok_no {P : Program} {w : World} {K : PySem.W.Frag} {mg : Str → Option Value} {base : Heap} {m : Md} {k : Nat} {f : Addr} {fd : FuncData} {ps : List Str} : FnOk P w K mg base (L2N.CX P w) k f fd ps (spD m fun _ => none) :=
  ⟨fun vs H Q E h => by obtain ⟨F, ds, _, _, _, q⟩ := h; exact q.elim, fun A outer s H args us vs Q E _ _ _ _ h => by obtain ⟨F, ds, _, _, _, q⟩ := h; exact q.elim⟩
theorem fnok_noI {P : Program} {w : World} {K : PySem.W.Frag} {mg : Str → Option Value} {base : Heap} {m : Md} {k : Nat} {f : Addr} {fd : FuncData} {ps : List Str} : FnOk P w K mg base (L2N.CX P w) k f fd ps (spI m fun _ _ => none) :=
  ⟨fun vs H Q E h => by obtain ⟨F, a, vs', ws, ds0, ds, _, _, _, _, _, _, _, q⟩ := h; exact q.elim, fun A outer s H args us vs Q E _ _ _ _ h => by obtain ⟨F, a, vs', ws, ds0, ds, _, _, _, _, _, _, _, q⟩ := h; exact q.elim⟩
theorem bind1 {K : PySem.W.Frag} {x qual : Str} {st : Stmt} {f : Addr} {fd : FuncData} {y : Str} (F : Fun K x qual st f fd)
    (h : ∀ (kV doc pm : Value) (an : Option Addr) (cdv ct : Value) (us : List Value), us.length = 1 → bindArgs (PySem.W.fnOf x qual (defArgs st) (defBody st) (defScope st) .none kV doc pm an cdv ct) ⟨us, []⟩ = pure ([y].zip us)) (s : Shared) (v : Value) : BindsTo s fd ⟨[v], []⟩ [(y, v)] := by
  obtain ⟨oc, od, kV, doc, pm, an, cdv, ct, osl, rfl, lk, hcd⟩ := F.ex
  exact .of_eq (h kV doc pm an cdv ct [v] rfl)
theorem no_cx {P : Program} (w : World) (H : Hp) (s : Shared) (e : Value) (s' : Shared) (h : L2N.CX P w [] H s (fun _ _ _ => False) e s') : False := by
  obtain ⟨_, _, _, _, _, _, _, _, _, _, _, _, z⟩ := h
  exact z
/-- a def as the head's facts tell it -/
theorem okf_fun {h : Heap} {K : PySem.W.Frag} {mg : Str → Option Value} (KX : K.In h) (G : h.Ns mainGlobals mg) {fa : List He.Fa} {fn : List He.FnD} (c : He.SaysE fa fn K) (i j l : Nat) {x : Str} {st : Stmt} (h1 : fn[i]? = some ⟨(x, none), x, x, defArgs st, defBody st, defScope st⟩) (h2 : fa[j]? = some (.glo x)) (h3 : fa[l]? = some (.keep x)) :
    ∃ f fd, Fun K x x st f fd ∧ mg x = some (.ref f) := by
  obtain ⟨oc, od, osl, kV, doc, pm, an, cdv, ct, e1, e2⟩ := c.def_ i h1
  exact ⟨_, _, fun_mk e1 e2 (He.keep_ok (c.fact l h3)), He.glo_ok KX G (c.fact j h2)⟩
end DL

/-! The data layer, part i: while; raise, try. -/
namespace DL
open PySem PySem.Spec PyProof.Rows L2
/-! ### while -/
def whL (t : TM) (body : SM) : Nat → SM
  | 0, env => none
  | n + 1, env => rb (t env) fun b e => if b = true then rb (body e) fun o e2 => match o with
      | .nx => whL t body n e2
      | .ct => whL t body n e2
      | .bk => rok .nx e2
      | .rt own d => rok (.rt own d) e2
    else rok .nx e
def sWhile (t : TM) (body : SM) : SM := whL t body (2 ^ 40)
section
variable {X : Cx} {m : Md} {E : XK} {pos : Pos} {t : TM} {body : SM}
theorem rd_while {D : Ends} {σ : L2.St} {H : Hp} {N : Nat} (q : dS m E (whL t body N) D σ H) : tWhile (dT m E t) (dS m E body) D σ H := by
  obtain ⟨g, F, env, S, P⟩ := q
  refine ⟨fun n σ' H' => ∃ F2 env2, SR m (g.at F) F2 H' σ' env2 ∧ Post m (g.at F) E (whL t body n env2) fun o e => PostO m (g.at F) D o e, ⟨N, F, env, S.rebase, Post.at P fun o e _ k => k.at S⟩, ?_⟩
  rintro n σ1 H1 ⟨F2, env2, S2, P2⟩
  cases n with
  | zero => exact P2.elim
  | succ n =>
    unfold whL at P2
    refine ⟨g.at F, F2, env2, S2, (post_rb P2).mono fun b e _ P3 F3 H3 l3 S3 => ?_⟩
    cases b with
    | false =>
      rw [if_neg Bool.false_ne_true] at P3 ⊢
      exact P3 F3 H3 σ1 S3
    | true =>
      rw [if_pos rfl] at P3 ⊢
      refine ⟨fun σ' H' => ∃ F4 env4, SR m (g.at F) F4 H' σ' env4 ∧ Post m (g.at F) E (whL t body n env4) fun o e => PostO m (g.at F) D o e, fun σ' H' w => ⟨n, Nat.lt_succ_self n, w⟩, g.at F, F3, e, S3, (post_rb P3).mono fun o e4 _ P4 => ?_⟩
      cases o with
      | nx => exact fun F' H' σ' S' => ⟨F', e4, S', P4⟩
      | ct => exact fun F' H' σ' S' => ⟨F', e4, S', P4⟩
      | bk => exact P4
      | rt own d => exact P4
theorem ds_while {c : Expr} {bd : List Stmt} (hp : PassesOwn (model X.prog X.w) X.A X.env X.xe) (hc : PT X c (dT m E t)) (hb : PSs X bd (dS m E body)) : PS X (.While c bd [] pos) (dS m E (sWhile t body)) :=
  PS.imp (ps_while hp hc hb) fun D σ H => rd_while
end
/-! ### raise, of own classes over ValueError -/
/-- the class x of the text: an exception class that is made with a text -/
def Xok (K : PySem.W.Frag) (mg : Str → Option Value) (x : Str) : Prop := ∃ C, mg x = some (.ref C) ∧ PySem.W.excIn K C He.veBase "ValueError.__new__" = true ∧ PySem.W.keepIn K (.ref C) = true ∧ PySem.W.subIn K (.ref C) (.type "BaseException") = some true ∧ PySem.W.typeIn K (.ref C) = some (.type "type")
def sRaise (x : Str) : SM := fun _ => some (.error ⟨x, none⟩)
section
variable {X : Cx} {m : Md} {E : XK} {pos pos' p p2 : Pos}
theorem SR.efr {g : Gc} {F : Fv} {H : Hp} {σ : L2.St} {env : Ev} (S : SR m g F H σ env) : EFr m g H := ⟨S.frame, S.tabs, S.dom⟩
theorem ds_raise {x z : Str} {j : Nat} (hc : X.calm = true) (hmg : m.mg = X.mg) (tk : L2N.Takes X (fun c d _ H => E c d H)) (c : Xok X.K X.mg x) (hg : Gl X x) (hdb : (x == ("__debug__" : Str)) = false := by decide) :
    PS X (.Raise (some (.Call (.Name x p) [.Constant (.str z) j p2] [] pos)) none pos') (dS m E (sRaise x)) := by
  obtain ⟨C, h1, h2, h3, h4, h5⟩ := c
  refine PS.imp (L2N.ps_raise hc tk (L2N.pmk_own (bmB := He.veBase) PySem.F.excBase_ValueError h2 h1 h3 (raises_own h4 h5) hg hdb)) fun D σ H ⟨g, F, env, S, q⟩ => ?_
  exact (show EPost m g E ⟨x, none⟩ from q) (.ref C) none H S.efr ⟨C, hmg ▸ h1, rfl, rfl⟩
end
end DL

set_option maxHeartbeats 2000000
/-! The hand layer, more: a comprehension over zip while an exception is handled. -/
namespace HX
open PySem PySem.Spec PyProof.Rows L2 HotX
section
variable {prog : Program} {w : World} {A : Around} {E : Value → Shared → Prop} {s : Shared}
/-- a list's iterator at its end, an exception x1 being handled -/
theorem nextOf_list_end_hot {it l x1 : Addr} {i : Nat} {items : Array Value} {Q : Value → Shared → Prop} (hot : HotAt A x1 s.heap) (hx1 : x1 ≠ it) (hit : s.heap.IsListIter it l i) (hl : s.heap.IsList l items) (hx : items[i]? = none)
    (hE : ∀ h' e, Heap.ExtBut it s.heap h' → (∃ o, h'.get? e = some o ∧ o.cls = .type "StopIteration") → E (.ref e) { s with heap := h' }) : wpAny (model prog w) A (Builtin.SmallTypes.nextOf (.ref it)) Q E s := by
  obtain ⟨o, ho, hc, hd⟩ := id hit
  obtain ⟨ol, hol, _, nl, hdl⟩ := hl
  obtain ⟨hh, o1, vs1, g1, d1, c1⟩ := hot
  unfold Builtin.SmallTypes.nextOf
  refine wpAny_bind (wpAny_callSpecial?_slot (name := Str.ofString "__next__") hit.typeIs slot_listiter_next (wpAny_call_entry slot_listiter_next hit.typeIs entry_listiter_next ?_ (args_listiter_next _)))
  show wpAny _ _ (field (.ref it) 0 >>= _) _ _ s
  refine wpAny_bind (wpAny_field ho hd (x := .ref l) rfl ?_)
  have nn : ¬ ((Value.ref l == Value.none) = true) := Bool.false_ne_true
  show wpAny _ _ (if (Value.ref l == Value.none) = true then _ else _) _ _ s
  rw [if_neg nn]; show wpAny _ _ (field (.ref it) 1 >>= _) _ _ s
  refine wpAny_bind (wpAny_field ho hd (x := .int i 0) rfl ?_); show wpAny _ _ (seqItems? (.ref l) >>= _) _ _ s
  refine wpAny_bind (wpAny_seqItems hol hdl ?_); simp only [Int.toNat_natCast, hx]
  refine wpAny_bind (wpAny_rule (wpAny_bind (wpAny_setField ho hd (by simp) ?_)))
  have up : ∀ (b : Addr) (u : Obj) (f : Obj → Obj), b ≠ it → s.heap.get? b = some u → (s.heap.update it f).get? b = some u := fun b u f hb e => (Heap.get?_update_other _ _ (Ne.symm hb)).trans e
  show wpAny _ _ (newExc (.type "StopIteration") [] >>= _) _ _ _
  refine wpAny_bind ?_; simp only [newExc, newTuple]
  refine wpAny_bind (wpAny_newObj_type ?_ (by size_fits))
  refine wpAny_bind (m := firstArgMember _ _) (wpAny_of_eq (a := Value.none) (by first | rfl | (simp only [firstArgMember]; rfl)) ?_)
  refine wpAny_newObj_type ?_ (by size_fits)
  have k1 := Heap.get?_push_of_some { cls := .type "tuple", data := .seq #[] } (up x1 o1 (Obj.mapFields (·.setIfInBounds 0 .none)) hx1 g1)
  refine raiseNew_hot (x1 := x1) ⟨hh, o1, vs1, Heap.get?_push_of_some _ (Heap.get?_push_of_some _ (up x1 o1 _ hx1 g1)), d1, c1⟩ (Nat.ne_of_lt (Heap.lt_size (Heap.get?_push_of_some _ (up x1 o1 _ hx1 g1)))) (Heap.get?_push_size _ rfl) rfl (by first | (simp; done) | (simp; omega) | (simp only [Array.size_append]; simp; omega)) ?_
  refine hE _ _ ?_ ⟨_, Heap.get?_update_self _ (Heap.get?_push_size _ rfl) rfl, rfl⟩
  intro b u hb e
  have e2 := up b u (Obj.mapFields (·.setIfInBounds 0 .none)) hb e
  rw [Heap.get?_update_other _ _ (Nat.ne_of_gt (Heap.lt_size (Heap.get?_push_of_some _ e2)))]
  exact Heap.get?_push_of_some _ (Heap.get?_push_of_some _ e2)
/-- what the handled exception's object is not -/
theorem hot_ne {x1 b : Addr} {u : Obj} (hot : HotAt A x1 s.heap) (e : s.heap.get? b = some u) (h : ∀ vs : Array Value, u.data = .fields vs → vs[2]? ≠ some Value.none) : x1 ≠ b := fun z => by
  obtain ⟨_, o, vs, g, d, c⟩ := hot
  rw [z, e] at g
  exact h vs (by rw [Option.some.inj g]; exact d) c
theorem hot_at {x1 : Addr} {h' : Heap} (hot : HotAt A x1 s.heap) (k : ∀ o, s.heap.get? x1 = some o → h'.get? x1 = some o) : HotAt A x1 h' := by
  obtain ⟨hh, o, vs, g, d, c⟩ := hot
  exact ⟨hh, o, vs, k o g, d, c⟩
theorem iter_ne {x1 it l : Addr} {i : Nat} (hot : HotAt A x1 s.heap) (h : s.heap.IsListIter it l i) : x1 ≠ it := by
  obtain ⟨o, ho, _, hd⟩ := h
  exact hot_ne hot ho fun vs e => by rw [hd] at e; cases e; simp
/-- zip's turn at the end -/
theorem zip_next_end_hot {z TI TO i1 i2 l1 l2 x1 : Addr} {k1 k2 : Nat} {xs ys : Array Value} {a b : Value} {Q : Fin → Shared → Prop} (hot : HotAt A x1 s.heap) (D : ZipApart z TI TO i1 i2 l1 l2) (hz : IsZip s.heap z TI TO .none) (hTI : IsPair s.heap TI (.ref i1) (.ref i2)) (hTO : IsPair s.heap TO a b)
    (h1 : s.heap.IsListIter i1 l1 k1) (h2 : s.heap.IsListIter i2 l2 k2) (hl1 : s.heap.IsList l1 xs) (hl2 : s.heap.IsList l2 ys) (hend : xs[k1]? = none ∨ ys[k2]? = none)
    (hE : ∀ h' e, (∀ c o, c ≠ z → c ≠ TO → c ≠ i1 → c ≠ i2 → s.heap.get? c = some o → h'.get? c = some o) → (∃ o, h'.get? e = some o ∧ o.cls = .type "StopIteration") → E (.ref e) { s with heap := h' }) : wpAny (model prog w) A (Builtin.«zip.__next__» ⟨[.ref z], []⟩) Q E s := by
  have nz : x1 ≠ z := hot_ne hot hz fun vs e => by cases e; simp
  have nTO : x1 ≠ TO := hot_ne hot hTO fun vs e => by cases e
  have n1 := iter_ne hot h1
  have n2 := iter_ne hot h2
  show wpAny _ _ (field (.ref z) 2 >>= _) _ _ _
  refine wpAny_bind (wpAny_field hz rfl (x := .bool false) rfl ?_); show wpAny _ _ (field (.ref z) 3 >>= _) _ _ _
  refine wpAny_bind (wpAny_field hz rfl (x := .ref TI) rfl ?_); refine wpAny_bind (wpAny_seqItems hTI rfl ?_)
  show wpAny _ _ (Builtin.SmallTypes.ownedTupleIsFree (.ref z) >>= _) _ _ _
  refine wpAny_bind ?_; unfold Builtin.SmallTypes.ownedTupleIsFree
  refine wpAny_bind (wpAny_field hz rfl (x := .none) rfl (wpAny_pure ?_)); simp only [if_true]
  refine wpAny_bind (wpAny_rule ?_); refine wpAny_bind (wpAny_field hz rfl (x := .ref TO) rfl ?_)
  refine wpAny_bind (wpAny_setField_rec hz (by simp) fun hA zA kA => ?_)
  replace zA : IsZip hA z TI TO .ellipsis := zA
  refine wpAny_bind ?_; simp only [List.zipIdx_cons, List.zipIdx_nil, List.forIn_cons, List.forIn_nil]
  refine wpAny_bind (wpAny_bind (wpAny_onRaise ?_)); show wpAny _ _ (Builtin.SmallTypes.nextOf (.ref i1) >>= _) _ _ _
  have hotA : HotAt A x1 hA := hot_at hot fun o e => kA.extBut _ _ nz e
  cases hx : xs[k1]? with
  | none =>
    refine wpAny_bind (nextOf_list_end_hot (s := { s with heap := hA }) hotA n1 (h1.extBut kA.extBut D.i1z) (hl1.extBut kA.extBut D.l1z) hx fun hB e kB he => ?_)
    obtain ⟨oe, q1, q2⟩ := he
    have zB : IsZip hB z TI TO .ellipsis := kB _ _ D.i1z.symm zA
    have ez : e ≠ z := fun t => by subst t; rw [zB] at q1; cases q1; simp at q2
    exact wpAny_setField_rec zB (by simp) fun hC _ kC => hE hC e (fun c o c1 _ c3 _ t => kC.extBut _ _ c1 (kB _ _ c3 (kA.extBut _ _ c1 t))) ⟨oe, kC.extBut _ _ ez q1, q2⟩
  | some x =>
    have hy : ys[k2]? = none := by rcases hend with t | t; rw [hx] at t; cases t; exact t
    refine wpAny_bind (wpAny_nextOf_list_item (h1.extBut kA.extBut D.i1z) (hl1.extBut kA.extBut D.l1z) hx fun hB i1B kB => wpAny_pure ?_)
    have TOB : IsPair hB TO a b := kB.extBut _ _ D.TOi1 (kA.extBut _ _ D.TOz hTO)
    refine wpAny_bind (wpAny_seqItems TOB rfl ?_); refine wpAny_bind (wpAny_updateSeq_pair TOB fun hC TOC kC => ?_)
    refine wpAny_bind (wpAny_letGo (wpAny_pure ?_)); refine wpAny_bind (wpAny_bind (wpAny_onRaise ?_)); show wpAny _ _ (Builtin.SmallTypes.nextOf (.ref i2) >>= _) _ _ _
    have hotC : HotAt A x1 hC := hot_at hot fun o e => kC.extBut _ _ nTO (kB.extBut _ _ n1 (kA.extBut _ _ nz e))
    refine wpAny_bind (nextOf_list_end_hot (s := { s with heap := hC }) hotC n2 (((h2.extBut kA.extBut D.i2z).extBut kB.extBut D.i12.symm).extBut kC.extBut D.TOi2.symm) (((hl2.extBut kA.extBut D.l2z).extBut kB.extBut D.l2i1).extBut kC.extBut D.l2TO) hy fun hD e kD he => ?_)
    obtain ⟨oe, q1, q2⟩ := he
    have zD : IsZip hD z TI TO .ellipsis := kD _ _ D.i2z.symm (kC.extBut _ _ D.TOz.symm (kB.extBut _ _ D.i1z.symm zA))
    have ez : e ≠ z := fun t => by subst t; rw [zD] at q1; cases q1; simp at q2
    exact wpAny_setField_rec zD (by simp) fun hF _ kF => hE hF e (fun c o c1 c2 c3 c4 t => kF.extBut _ _ c1 (kD _ _ c4 (kC.extBut _ _ c2 (kB.extBut _ _ c3 (kA.extBut _ _ c1 t))))) ⟨oe, kF.extBut _ _ ez q1, q2⟩
theorem pyNext_zip_end_hot {z TI TO i1 i2 l1 l2 x1 : Addr} {k1 k2 : Nat} {xs ys : Array Value} {a b : Value} {Q : Option Value → Shared → Prop} (hot : HotAt A x1 s.heap) (D : ZipApart z TI TO i1 i2 l1 l2) (hz : IsZip s.heap z TI TO .none) (hTI : IsPair s.heap TI (.ref i1) (.ref i2)) (hTO : IsPair s.heap TO a b)
    (h1 : s.heap.IsListIter i1 l1 k1) (h2 : s.heap.IsListIter i2 l2 k2) (hl1 : s.heap.IsList l1 xs) (hl2 : s.heap.IsList l2 ys) (hend : xs[k1]? = none ∨ ys[k2]? = none)
    (hQ : ∀ h', (∀ c o, c ≠ z → c ≠ TO → c ≠ i1 → c ≠ i2 → s.heap.get? c = some o → h'.get? c = some o) → Q none { s with heap := h' }) : wpAny (model prog w) A (pyNext (.ref z)) Q E s := by
  have hT : s.TypeIs (.ref z) "zip" := ⟨_, hz, rfl⟩
  unfold pyNext
  refine wpAny_bind (wpAny_attempt (wpAny_callSpecial?_slot (name := Str.ofString "__next__") hT F.slot_zip_next (wpAny_call_entry F.slot_zip_next hT F.entry_zip_next (zip_next_end_hot (A := A.in1) hot D hz hTI hTO h1 h2 hl1 hl2 hend fun h' e hk he => ?_) (F.args_zip_next_1 _))))
  obtain ⟨o, q1, q2⟩ := he
  exact wpAny_bind (wpAny_isInstance (T := "StopIteration") (b := true) ⟨o, q1, q2⟩ isSubtype_stop (wpAny_pure (hQ _ hk)))
end
section
variable {prog : Program} {w : World} {A : Around} {E : Value → Shared → Prop} {s : Shared}
/-- a tuple's iterator at its end, an exception x1 being handled -/
theorem next_tuple_end_hot {it t x1 : Addr} {i : Nat} {items : Array Value} {Q : Option Value → Shared → Prop} (hot : HotAt A x1 s.heap) (hx1 : x1 ≠ it)
    (hit : IsTupIter s.heap it t i) (ht : IsTup s.heap t items) (hx : items[i]? = none)
    (hQ : ∀ h', Heap.ExtBut it s.heap h' → Q none { s with heap := h' }) : wpAny (model prog w) A (pyNext (.ref it)) Q E s := by
  obtain ⟨o, ho, hc, hd⟩ := id hit
  obtain ⟨ol, hol, _, nl, hdl⟩ := ht
  obtain ⟨hh, o1, vs1, g1, d1, c1⟩ := hot
  unfold pyNext
  refine wpAny_bind (wpAny_attempt (wpAny_callSpecial?_slot (name := Str.ofString "__next__") hit.typeIs slot_tupleiter_next
    (wpAny_call_entry slot_tupleiter_next hit.typeIs entry_tupleiter_next ?_ (args_tupleiter_next _))))
  show wpAny _ _ (field (.ref it) 0 >>= _) _ _ s
  refine wpAny_bind (wpAny_field ho hd (x := .ref t) rfl ?_)
  show wpAny _ _ (if (Value.ref t == Value.none) = true then _ else _) _ _ s
  rw [if_neg (show ¬ ((Value.ref t == Value.none) = true) from Bool.false_ne_true)]
  show wpAny _ _ (field (.ref it) 1 >>= _) _ _ s
  refine wpAny_bind (wpAny_field ho hd (x := .int i 0) rfl ?_)
  show wpAny _ _ (seqItems? (.ref t) >>= _) _ _ s
  refine wpAny_bind (wpAny_seqItems hol hdl ?_)
  simp only [Int.toNat_natCast, hx]
  refine wpAny_bind (wpAny_rule (wpAny_bind (wpAny_setField ho hd (by simp) ?_)))
  have up : ∀ (b : Addr) (u : Obj) (f : Obj → Obj), b ≠ it → s.heap.get? b = some u → (s.heap.update it f).get? b = some u := fun b u f hb e => (Heap.get?_update_other _ _ (Ne.symm hb)).trans e
  show wpAny _ _ (newExc (.type "StopIteration") [] >>= _) _ _ _
  refine wpAny_bind ?_
  simp only [newExc, newTuple]
  refine wpAny_bind (wpAny_newObj_type ?_ (by size_fits))
  refine wpAny_bind (m := firstArgMember _ _) (wpAny_of_eq (a := Value.none) (by first | rfl | (simp only [firstArgMember]; rfl)) ?_)
  refine wpAny_newObj_type ?_ (by size_fits)
  have k1 := Heap.get?_push_of_some { cls := .type "tuple", data := .seq #[] } (up x1 o1 (Obj.mapFields (·.setIfInBounds 0 .none)) hx1 g1)
  refine raiseNew_hot (x1 := x1) ⟨hh, o1, vs1, Heap.get?_push_of_some _ (Heap.get?_push_of_some _ (up x1 o1 _ hx1 g1)), d1, c1⟩ (Nat.ne_of_lt (Heap.lt_size (Heap.get?_push_of_some _ (up x1 o1 _ hx1 g1)))) (Heap.get?_push_size _ rfl) rfl (by first | (simp; done) | (simp; omega) | (simp only [Array.size_append]; simp; omega)) ?_
  refine wpAny_bind (wpAny_isInstance (T := "StopIteration") (b := true) ⟨_, Heap.get?_update_self _ (Heap.get?_push_size _ rfl) rfl, rfl⟩ isSubtype_stop ?_)
  refine wpAny_pure (hQ _ fun b u hb e => ?_)
  have e2 := up b u (Obj.mapFields (·.setIfInBounds 0 .none)) hb e
  rw [Heap.get?_update_other _ _ (Nat.ne_of_gt (Heap.lt_size (Heap.get?_push_of_some _ e2)))]
  exact Heap.get?_push_of_some _ (Heap.get?_push_of_some _ e2)
theorem unpackItems_tuple_hot {t x1 : Addr} {items : Array Value} {Q : List Value → Shared → Prop} (hot : HotAt A x1 s.heap) (ht : IsTup s.heap t items)
    (hQ : ∀ h', Heap.ExtBut s.heap.objs.size s.heap h' → Q items.toList { s with heap := h' }) : wpAny (model prog w) A (unpackItems (.ref t) items.size none) Q E s := by
  have hlt : t ≠ s.heap.objs.size := by obtain ⟨o, ho, _⟩ := ht; exact Nat.ne_of_lt (Heap.lt_size ho)
  have hx1 : x1 ≠ s.heap.objs.size := by obtain ⟨_, o, vs, g, _⟩ := hot; exact Nat.ne_of_lt (Heap.lt_size g)
  unfold unpackItems
  refine wpAny_bind ?_
  · unfold notIterableAtAll
    refine wpAny_bind (wpAny_specialOf ht.typeIs slot_tuple_iter.lookup ?_)
    refine wpAny_pure ?_
    simp only [Bool.false_eq_true, if_false]
    refine wpAny_bind (wpAny_holding (iter_tuple ht ?_))
    refine wpAny_bind (wpAny_holding (draw_tuple hlt items.size 0 _ _ ⟨_, Heap.get?_push_size _ rfl, rfl, rfl⟩ (ht.push _) (by omega) fun h₁ hit₁ hs₁ => ?_))
    have hall : List.take items.size (List.drop 0 items.toList) = items.toList := by
      rw [List.drop_zero]; exact List.take_of_length_le (by simp)
    rw [hall]
    rw [if_neg (by simp)]
    have ht₁ : IsTup h₁ t items := (ht.push _).extBut hs₁.extBut hlt
    have hot1 : HotAt A x1 h₁ := hot_at hot fun o e => hs₁.extBut _ _ hx1 (Heap.get?_push_of_some _ e)
    refine wpAny_bind (wpAny_holding (next_tuple_end_hot hot1 hx1 hit₁ ht₁ (by simp) fun h₂ he₂ => ?_))
    simp only [Option.isSome_none, Bool.false_eq_true, if_false]
    refine wpAny_pure (hQ h₂ fun b o hb e => he₂ b o hb (hs₁.extBut b o hb (Heap.get?_push_of_some _ e)))
theorem assign_Tuple_tuple_hot {env : Env} {elts : List Expr} {x1} {pos : Pos} {t x0 : Addr} {items : Array Value} {Q : Unit → Shared → Prop} (hot : HotAt A x0 s.heap) (ht : IsTup s.heap t items)
    (hn : (assignEach elts env).length = items.size) (hstar : (assignEach elts env).findIdx? (·.1) = none)
    (h : ∀ h', Heap.ExtBut s.heap.objs.size s.heap h' → wpAny (model prog w) A (assignInOrder ((assignEach elts env).map (·.2)) items.toList) Q E { s with heap := h' }) :
    wpAny (model prog w) A (assign (.Tuple elts x1 pos) env (.ref t)) Q E s := by
  rw [assign_Tuple]
  refine wpAny_bind (wpAny_standAt ?_)
  unfold unpack
  rw [hn, hstar]
  exact wpAny_bind (wpAny_holding (unpackItems_tuple_hot hot ht h))
end
/-- the handled exception's object is there, and outside a block -/
def BlkHot (X : Cx) (s : Shared) (H : Hp) (fp : List Addr) : Prop := ∃ p, L2H.Hot1 X.A p ∧ s.heap.get? p.1 = some p.2 ∧ H p.1 = none ∧ p.1 ∉ fp
/-! ### iterators, an exception being handled -/
structure TurnX (P : Program) (w : World) (K : PySem.W.Frag) (tg : Expr) (J : It) (fp : List Addr) (it : Addr) (tn : Nat → Heap → Prop) : Prop where
  obj : ∀ i h, tn i h → ∀ b ∈ fp, ∃ o, h.get? b = some o ∧ ∀ v, o.data ≠ .cell v
  keep : ∀ i h h', tn i h → (∀ b ∈ fp, ∀ o, h.get? b = some o → h'.get? b = some o) → tn i h'
  item : ∀ (X : Cx), X.prog = P → X.w = w → X.K = K → ∀ (i : Nat) (pins : List (Addr × Obj)) (s : Shared) (σ : L2.St) (H : Hp) (E : Value → Shared → Prop), Inv X pins σ H s → (∀ b ∈ fp, FpOk X pins H b) → tn i s.heap → J.go i H →
    wpAny (model P w) X.A (pyNext (.ref it)) (fun r s1 => ∃ u, r = some u ∧ wpAny (model P w) X.A (letOwnedTupleGo tg (.ref it) u) (fun _ s2 => ∃ x H', Inv X pins σ H' s2 ∧ RelV x u ∧ J.yld i H x H' ∧ tn (i + 1) s2.heap ∧ ∀ b ∈ fp, H' b = none) E s1) E s
  done : ∀ (X : Cx), X.prog = P → X.w = w → X.K = K → ∀ (x1 : Addr) (i : Nat) (pins : List (Addr × Obj)) (s : Shared) (σ : L2.St) (H : Hp) (E : Value → Shared → Prop), HotAt X.A x1 s.heap → Inv X pins σ H s → (∀ b ∈ fp, FpOk X pins H b) → tn i s.heap → J.stop i H →
    wpAny (model P w) X.A (pyNext (.ref it)) (fun r s1 => r = none ∧ Inv X pins σ H s1) E s
  self : ∀ (A : Around) (i : Nat) (s : Shared) (Q : Value → Shared → Prop) (E : Value → Shared → Prop), tn i s.heap → Q (.ref it) s → wpAny (model P w) A (pyIter (.ref it)) Q E s
def ZipSt (z TI TO i1 i2 a b : Addr) (i : Nat) (h : Heap) : Prop := IsZip h z TI TO .none ∧ IsPair h TI (.ref i1) (.ref i2) ∧ (∃ x y, IsPair h TO x y) ∧ h.IsListIter i1 a i ∧ h.IsListIter i2 b i
theorem turn_zipX {P : Program} {w : World} {K : PySem.W.Frag} {elts : List Expr} {kk : Nat} {tpos : Pos} {a b z TI TO i1 i2 : Addr} (D : ZipApart z TI TO i1 i2 a b) : TurnX P w K (.Tuple elts kk tpos) (Itz K a b) [z, TI, TO, i1, i2] z (ZipSt z TI TO i1 i2 a b) where
  obj := fun i h st c hc => by
    obtain ⟨z0, t0, ⟨x, y, p0⟩, ⟨o1, e1, _, d1⟩, ⟨o2, e2, _, d2⟩⟩ := st
    simp only [List.mem_cons, List.not_mem_nil, or_false] at hc
    rcases hc with rfl | rfl | rfl | rfl | rfl
    · exact ⟨_, z0, fun v q => by cases q⟩
    · exact ⟨_, t0, fun v q => by cases q⟩
    · exact ⟨_, p0, fun v q => by cases q⟩
    · exact ⟨o1, e1, fun v q => by rw [d1] at q; cases q⟩
    · exact ⟨o2, e2, fun v q => by rw [d2] at q; cases q⟩
  keep := fun i h h' st k => by
    obtain ⟨z0, t0, ⟨x, y, p0⟩, g1, g2⟩ := st
    exact ⟨k _ (by simp) _ z0, k _ (by simp) _ t0, ⟨x, y, k _ (by simp) _ p0⟩, g1.at fun o q => k _ (by simp) o q, g2.at fun o q => k _ (by simp) o q⟩
  item := by
    intro X hP hw hK i pins s σ H E I hf st hg
    subst hP hw hK
    obtain ⟨z0, t0, ⟨x0, y0, p0⟩, g1, g2⟩ := st
    obtain ⟨xs, ys, x, y, qx, qy, gx, gy⟩ := hg
    obtain ⟨us, rv, pl, _⟩ := I.list qx
    obtain ⟨us2, rv2, pl2, _⟩ := I.list qy
    obtain ⟨u, hu, ru⟩ := rv.get gx
    obtain ⟨u2, hu2, ru2⟩ := rv2.get gy
    have zl : z < s.heap.objs.size := Heap.lt_size z0
    refine wpAny_pyNext_zip_item D z0 t0 p0 g1 g2 pl.isList pl2.isList (x := u) (y := u2) (by simpa using hu) (by simpa using hu2) fun hA zA TOA iA jA TA sA kA => ⟨_, rfl, wpAny_letOwnedTupleGo_zip (s := { s with heap := hA }) zA fun hB zB kB => ?_⟩
    have TB : hB.get? s.heap.objs.size = some { cls := .type "tuple", data := .seq #[u, u2] } := (kB.2 _ (Nat.ne_of_gt zl)).trans TA
    have okT : ObjOk X.prog X.w (upd H s.heap.objs.size (.tup [x, y])) hB s.heap.objs.size (.tup [x, y]) := ⟨by show 2 ≤ sizeLine; decide, [u, u2], .cons ru (.cons ru2 .nil), ⟨_, TB, rfl, _, rfl⟩⟩
    have IB : Inv X pins σ (upd H s.heap.objs.size (.tup [x, y])) { s with heap := hB } := I.turnedNew (t' := s.toks) (ch := [z, TI, TO, i1, i2])
      (fun c o nc q => by
        simp only [List.mem_cons, List.not_mem_nil, or_false, not_or] at nc
        exact (kB.2 c nc.1).trans (kA c o nc.1 nc.2.2.1 nc.2.2.2.1 nc.2.2.2.2 q)) hf (Nat.le_refl _) okT
    refine ⟨.ref s.heap.objs.size, _, IB, rfl, ⟨_, x, y, rfl, I.hok.fresh (Nat.le_refl _), rfl, fun l hl => by rw [I.list_inj hl qx]; exact gx, fun l hl => by rw [I.list_inj hl qy]; exact gy⟩, ⟨zB, (kB.2 _ D.TIz).trans (kA _ _ D.TIz D.TITO D.TIi1 D.TIi2 t0), ⟨u, u2, (kB.2 _ D.TOz).trans TOA⟩, iA.at fun o q => (kB.2 _ D.i1z).trans q, jA.at fun o q => (kB.2 _ D.i2z).trans q⟩, fun c hc => ?_⟩
    have lt : c < s.heap.objs.size := by
      simp only [List.mem_cons, List.not_mem_nil, or_false] at hc
      rcases hc with rfl | rfl | rfl | rfl | rfl
      · exact zl
      · exact Heap.lt_size t0
      · exact Heap.lt_size p0
      · obtain ⟨_, e, _⟩ := g1; exact Heap.lt_size e
      · obtain ⟨_, e, _⟩ := g2; exact Heap.lt_size e
    rw [upd_ne (Nat.ne_of_lt lt)]
    exact (hf c hc).1
  done := by
    intro X hP hw hK x1 i pins s σ H E hot I hf st hg
    subst hP hw hK
    obtain ⟨z0, t0, ⟨x0, y0, p0⟩, g1, g2⟩ := st
    obtain ⟨xs, ys, qx, qy, he⟩ := hg
    obtain ⟨us, rv, pl, _⟩ := I.list qx
    obtain ⟨us2, rv2, pl2, _⟩ := I.list qy
    have n1 := rv.length
    have n2 := rv2.length
    have en : us.toArray[i]? = none ∨ us2.toArray[i]? = none := by
      rcases he with q | q
      · exact .inl (by simp; omega)
      · exact .inr (by simp; omega)
    refine pyNext_zip_end_hot hot D z0 t0 p0 g1 g2 pl.isList pl2.isList en fun hA kA => ⟨rfl, I.turnedL (t' := s.toks) (ch := [z, TI, TO, i1, i2]) (fun c o nc q => ?_) hf⟩
    simp only [List.mem_cons, List.not_mem_nil, or_false, not_or] at nc
    exact kA c o nc.1 nc.2.2.1 nc.2.2.2.1 nc.2.2.2.2 q
  self := fun _ _ _ _ _ st h => wpAny_pyIter_zip st.1 h
def PIEX (X : Cx) (pins : List (Addr × Obj)) (σ : L2.St) (tg : Expr) (R : It → Hp → Prop) (v : Value) (s2 : Shared) : Prop :=
  ∃ (it : Addr) (fp : List Addr) (tn : Nat → Heap → Prop) (J : It) (H' : Hp), v = .ref it ∧ Inv X pins σ H' s2 ∧ TurnX X.prog X.w X.K tg J fp it tn ∧ tn 0 s2.heap ∧ (∀ b ∈ fp, FpOk X pins H' b) ∧ R J H'
structure PIX (X : Cx) (tg iter : Expr) (wi : TI) : Prop where
  run : ∀ (pins : List (Addr × Obj)) (s : Shared) (σ : L2.St) (H : Hp) (R : It → Hp → Prop), Inv X pins σ H s → wi σ H R →
    wpAny (model X.prog X.w) X.A (eval iter X.env) (fun v s1 => wpAny (model X.prog X.w) X.A (pyIter v) (PIEX X pins σ tg R) X.xe s1) X.xe s
section
variable {X : Cx}
/-- zip of two lists -/
theorem pi_zipX {e e2 : Expr} {ta : TA} {p pos tpos : Pos} {elts : List Expr} {kk : Nat} (hg : Gl X "zip") (hm : X.mg "zip" = none) (ha : PA X [e, e2] ta) (hs : starEach [e, e2] X.env = (false, eval e X.env) :: starEach [e2] X.env := by rfl) (hpl : (backTo pos (starEach [e2] X.env)).any (·.1) = false := by rfl) :
    PIX X (.Tuple elts kk tpos) (.Call (.Name "zip" p) [e, e2] [] pos) (L2.iZip X.K ta) := by
  refine ⟨fun pins s σ H R I h => Call_ (ld_blt I hg hm PyProof.Rows.boot_zip (PyProof.Rows.callWith_type1 (thn (ha.run pos pins s σ H _ I h) fun us s1 ⟨vs, H1, I1, r1, q1⟩ => ?_) hs hpl))⟩
  obtain ⟨a, b, xs, ys, rfl, qx, qy, q⟩ := q1
  rcases r1 with _ | ⟨ra, r1⟩
  rcases r1 with _ | ⟨rb, r1⟩
  cases r1; cases ra; cases rb
  obtain ⟨us1, _, pl1, _⟩ := I1.list qx
  obtain ⟨us2, _, pl2, _⟩ := I1.list qy
  generalize hn : s1.heap.objs.size = n
  have fpk : ∀ c ∈ [n + 4, n + 2, n + 3, n, n + 1], FpOk X pins H1 c := fun c hc => by
    have le : s1.heap.objs.size ≤ c := by
      simp only [List.mem_cons, List.not_mem_nil, or_false] at hc
      omega
    exact I1.fpOk le (I1.hok.fresh le)
  refine call_zip_2 pl1.isList pl2.isList fun hA zA tA oA i1A i2A szA kA => wpAny_pyIter_zip zA ?_
  subst hn
  exact ⟨_, _, _, _, H1, rfl, I1.kept (t' := s1.toks) kA, turn_zipX (PySem.W.ktu_apart s1.heap.objs.size a b pl1.lt pl2.lt), ⟨zA, tA, ⟨_, _, oA⟩, i1A, i2A⟩, fpk, q⟩
/-- the handled exception's object, seen from within a comprehension's block -/
theorem blk_hot {s s5 : Shared} {H H5 : Hp} {σ : L2.St} {pins : List (Addr × Obj)} {scope : Scope} {ce : Env} {fp : List Addr} {p : Addr × Obj} (hot : L2H.Hot1 X.A p) (h1 : s.heap.get? p.1 = some p.2) (h2 : H p.1 = none) (h3 : p.1 ∉ fp) (I : Inv (X.blk s H scope ce fp) pins σ H5 s5) : HotAt X.A p.1 s5.heap := by
  obtain ⟨hh, vs, d, c⟩ := hot
  obtain ⟨sl, q⟩ := I.base.any (b := p.1) (ob := p.2) h1 h2 h3
  exact ⟨hh, _, vs, q, d, c⟩
theorem pg_tupX {es : List Expr} {k : Nat} {t : TGs} {n : Nat} {s0 : Shared} {H0 : Hp} {scope : Scope} {ce : Env} {fp : List Addr} {pos : Pos} (hb : BlkHot X s0 H0 fp) (h : PGs (X.blk s0 H0 scope ce fp) es t)
    (hn : (assignEach es (X.blk s0 H0 scope ce fp).env).length = n := by rfl) (hst : (assignEach es (X.blk s0 H0 scope ce fp).env).findIdx? (·.1) = none := by rfl) : PG (X.blk s0 H0 scope ce fp) (.Tuple es k pos) (gTup X.K n t) := by
  refine ⟨fun pins s σ H v u Q I r hw => ?_⟩
  obtain ⟨a, xs, e1, hq, hl, hw⟩ := hw
  subst e1
  cases r
  obtain ⟨p, hot, h1, h2, h3⟩ := hb
  obtain ⟨its, rv, ht, hz⟩ := I.tuple hq
  refine assign_Tuple_tuple_hot (blk_hot hot h1 h2 h3 I) ht (by simp [hn, ← hl, rv.length]) hst fun h' hx => ?_
  have I1 : Inv (X.blk s0 H0 scope ce fp) pins σ H { s with heap := h' } := I.kept (t' := s.toks) fun b o e => hx b o (Nat.ne_of_lt (Heap.lt_size e)) e
  exact h.run pins _ σ H xs _ Q I1 (by simpa using rv) hw
/-- as the library's core of a list comprehension, while an exception is handled -/
theorem lc_coreX {pins : List (Addr × Obj)} {s : Shared} {σ : L2.St} {H : Hp} {Q : VK} {elt tg iter : Expr} {ifs : List Expr} {scope : Scope} {own : List (Str × Nat)} {pos pos' : Pos} {wi : TI} {g : TG} {tt : TT} {te : TE} {use : Option (Value → Sem Unit)} {Qf : Value → Shared → Prop}
    (hc : L2H.HotC X) (hN : X.N.Nodup) (I : Inv X pins σ H s) (hi : PIX X tg iter wi) (ok : BlkOk X.N X.env.scope scope own)
    (hg : ∀ (s : Shared) (H : Hp) (C : Addr) (cl : List (Str × Addr)) (fp : List Addr), BlkHot X s H fp → PG (X.blk s H scope (compEnvC scope cl C X.env) fp) tg g) (ht : ∀ (s : Shared) (H : Hp) (C : Addr) (cl : List (Str × Addr)) (fp : List Addr), PTs (X.blk s H scope (compEnvC scope cl C X.env) fp) ifs tt)
    (he : ∀ (s : Shared) (H : Hp) (C : Addr) (cl : List (Str × Addr)) (fp : List Addr), PE (X.blk s H scope (compEnvC scope cl C X.env) fp) elt te) (hs : ∀ x, foldedSetIterable iter X.env x = pure x) (h : tLc wi g tt te (own.map (·.2)) σ H Q)
    (hRR : ∀ D C s' m H', Inv X pins σ H' s' → Q (.ref D) H' → s'.heap.Ns C m → FpOk X pins H' C → compPost (model X.prog X.w) X.A X.xe use Qf (.ref D) C (.ok .next) s') :
    wpAny (model X.prog X.w) X.A (comprehension (.ListComp elt [⟨tg, iter, ifs, 0⟩] scope pos) scope X.env pos' (newList []) false (eval iter X.env) use) Qf X.xe s := by
  obtain ⟨p, hot, hp⟩ := hc
  have fr : ∀ y ∈ scope.names, y.2 = .free → ∃ c, X.env.cells.lookup y.1 = some c := fun y hy e => (ok.free y hy e).elim (fun k => I.ok.has _ (.inl k)) fun k => I.ok.has _ (.inr k)
  refine wpAny_comprehension_free (use := use) rfl hs (closure_ok fr) ok.kind (fun y hy e => by rw [ok.uniq y hy, e]) (thn (hi.run pins s σ H _ I h) fun xv s1 hx => thn hx fun itv s2 h2 => ?_)
  obtain ⟨it, fp, tn, J, H2, rfl, I2, T, st2, f2, q⟩ := h2
  refine wpAny_newObj_type (newEnv_comp ?_) (by show 0 ≤ sizeLine; decide)
  generalize hD : s2.heap.objs.size = D
  have nD : H2 D = none := I2.hok.fresh (Nat.le_of_eq hD)
  obtain ⟨W, ⟨m0, w0⟩, turn⟩ := q D nD
  generalize e3 : ({ s2 with heap := s2.heap.push { cls := .type "list", data := .seq ([] : List Value).toArray } } : Shared) = s3
  have h3 : s3.heap = s2.heap.push { cls := .type "list", data := .seq ([] : List Value).toArray } := by rw [← e3]
  have I3 : Inv X pins σ (upd H2 D (.lst [])) s3 := by
    rw [← e3]
    refine I2.laid (t' := s2.toks) (fun b o e => Heap.get?_push_of_some _ e) (Nat.le_of_eq hD) ⟨Nat.zero_le _, [], 0, .nil, ?_⟩
    rw [← hD]; exact Heap.get?_push_size _ rfl
  have f3 : ∀ b ∈ fp, FpOk X pins (upd H2 D (.lst [])) b ∧ b < s3.heap.objs.size := fun b hb => by
    obtain ⟨o, e, _⟩ := T.obj _ _ st2 b hb
    have lt := Heap.lt_size e
    refine ⟨⟨?_, (f2 b hb).2⟩, by rw [h3, Heap.size_push]; exact Nat.lt_succ_of_lt lt⟩
    rw [upd_ne (by rw [← hD]; exact Nat.ne_of_lt lt)]; exact (f2 b hb).1
  have st3 : tn 0 s3.heap := T.keep _ _ _ st2 fun b _ o e => by rw [h3]; exact Heap.get?_push_of_some _ e
  have I4 := block_start I3 ok hN f3
  have pin3 := I3.pin p (List.mem_append_left _ hp)
  have pfp : p.1 ∉ fp := fun hm => (f2 p.1 hm).2.2.2.2.2 p (List.mem_append_left _ hp) rfl
  have pg := hg s3 (upd H2 D (.lst [])) s3.heap.objs.size (cellsFrom (s3.heap.objs.size + 1) scope.names (cloFrom X.env.cells scope.names [])) fp ⟨p, hot, pin3.1, pin3.2.1, pfp⟩
  have pt := ht s3 (upd H2 D (.lst [])) s3.heap.objs.size (cellsFrom (s3.heap.objs.size + 1) scope.names (cloFrom X.env.cells scope.names [])) fp
  have pe := he s3 (upd H2 D (.lst [])) s3.heap.objs.size (cellsFrom (s3.heap.objs.size + 1) scope.names (cloFrom X.env.cells scope.names [])) fp
  show codeAny _ _ (.compStart (.ListComp elt [⟨tg, iter, ifs, 0⟩] scope pos) 0 (.ref it) (.ref D) (compEnvC scope (cellsFrom (s3.heap.objs.size + 1) scope.names (cloFrom X.env.cells scope.names [])) s3.heap.objs.size X.env)) (compPost (model X.prog X.w) X.A X.xe use Qf (.ref D) s3.heap.objs.size) { s3 with heap := pushCells (s3.heap.push { cls := .type "dict", data := .dict #[] }) scope.names }
  have nfp : ∀ b ∈ fp, (upd H2 D (.lst [])) b = none := fun b hb => (f3 b hb).1.1
  generalize hce : compEnvC scope (cellsFrom (s3.heap.objs.size + 1) scope.names (cloFrom X.env.cells scope.names [])) s3.heap.objs.size X.env = ce at I4 pg pt pe ⊢
  have cL : ce.locals = s3.heap.objs.size := by subst hce; rfl
  generalize eH : upd H2 D (.lst []) = H3 at I3 I4 pg pt pe w0 nfp f3 pin3
  generalize e4 : ({ s3 with heap := pushCells (s3.heap.push { cls := .type "dict", data := .dict #[] }) scope.names } : Shared) = s4 at I4 ⊢
  have st4 : tn 0 s4.heap := T.keep _ _ _ st3 fun b _ o e => by rw [← e4]; exact pushCells_keeps _ _ _ _ (Heap.get?_push_of_some _ e)
  have stat : ∀ {σ' : L2.St} {H' : Hp} {s' : Shared}, Inv (X.blk s3 H3 scope ce fp) [] σ' H' s' → (∀ b ∈ fp, H' b = none) → ∀ b ∈ fp, FpOk (X.blk s3 H3 scope ce fp) [] H' b := fun {σ' H' s'} J' hn b hb =>
    ⟨hn b hb, (J'.ok.exf b hb).1, J'.ok.exfs b hb, .inl hb, fun x c e => (J'.ok.exf b hb).2 x c e, fun y hy => absurd (show y ∈ ([] : List (Addr × Obj)) ++ [] from hy) (by simp)⟩
  have loop : codeAny (model X.prog X.w) X.A (.compLoop (.ListComp elt [⟨tg, iter, ifs, 0⟩] scope pos) 0 (.ref it) (.ref D) ce) (compPost (model X.prog X.w) X.A X.xe use Qf (.ref D) s3.heap.objs.size) s4 := by
    refine compLoop_any (fun n s' => ∃ i H', Inv (X.blk s3 H3 scope ce fp) [] (wipe σ (own.map (·.2))) H' s' ∧ tn i s'.heap ∧ (∀ b ∈ fp, H' b = none) ∧ W i n H') ?_ m0 ⟨0, H3, I4, st4, nfp, w0⟩
    rintro n s5 ⟨i, H5, I5, st5, n5, w5⟩
    rcases turn i n H5 w5 with ⟨stop, qq⟩ | ⟨go, Nx, hNx, step⟩
    · refine thnF (T.done (X.blk s3 H3 scope ce fp) rfl rfl rfl p.1 i [] s5 _ H5 (fun _ _ => False) (blk_hot hot pin3.1 pin3.2.1 pfp I5) I5 (stat I5 n5) st5 stop) fun r s6 ⟨hr, I6⟩ => ?_
      subst hr
      have I7 : Inv X pins σ H5 s6 := I3.call' (ch := fp) I6.os I6.base I6.hok I6.bare fun b hb => ⟨(f3 b hb).1.2.2.2.1, (f3 b hb).1.2.1, (f3 b hb).1.2.2.2.2.1, (f3 b hb).1.2.2.2.2.2⟩
      have nC : H5 s3.heap.objs.size = none := cL ▸ (show H5 ce.locals = none from I6.free)
      obtain ⟨m, hn, _⟩ := I6.loc
      exact hRR D s3.heap.objs.size s6 m H5 I7 qq (cL ▸ (show s6.heap.Ns ce.locals m from hn)) (I3.fpOk (Nat.le_refl _) nC)
    · refine thnF (T.item (X.blk s3 H3 scope ce fp) rfl rfl rfl i [] s5 _ H5 (fun _ _ => False) I5 (stat I5 n5) st5 go) fun r s6 ⟨u, hr, h6⟩ => ?_
      subst hr
      refine thnF h6 fun _ s7 ⟨x, H7, I7, r7, y7, st7, n7⟩ => ?_
      have J7 := I7.pinned (stat I7 n7) (T.obj _ _ st7)
      refine thnF (pg.run _ s7 _ H7 x u _ J7 r7 (step x H7 y7)) fun _ s8 ⟨σ8, H8, I8, hw8, q8⟩ => thnF (pt.run _ s8 σ8 H8 _ I8 q8) fun b s9 ⟨H9, I9, q9⟩ => ?_
      have again : ∀ {s' : Shared} {H' : Hp}, Inv (X.blk s3 H3 scope ce fp) ([] ++ pinsAt fp s7.heap) σ8 H' s' → Nx H' → ∃ m, m < n ∧ ∃ i H', Inv (X.blk s3 H3 scope ce fp) [] (wipe σ (own.map (·.2))) H' s' ∧ tn i s'.heap ∧ (∀ b ∈ fp, H' b = none) ∧ W i m H' := fun {s' H'} I' nx => by
        obtain ⟨m', hm, w'⟩ := hNx H' nx
        have still : ∀ b ∈ fp, ∀ o, s7.heap.get? b = some o → s'.heap.get? b = some o ∧ H' b = none := fun b hb o e => ⟨(I'.pin (b, o) (List.mem_append_right _ (List.mem_append_right _ (mem_pinsAt hb e)))).1, (I'.pin (b, o) (List.mem_append_right _ (List.mem_append_right _ (mem_pinsAt hb e)))).2.1⟩
        refine ⟨m', hm, i + 1, H', (I'.unpinned (pins := [])).weak (by rw [← hw8, wipe_length]) (fun j v e => ?_), T.keep _ _ _ st7 fun b hb o e => (still b hb o e).1, fun b hb => ?_, w'⟩
        · rw [← hw8] at e; exact (wipe_some e).1
        · obtain ⟨o, e, _⟩ := T.obj _ _ st7 b hb; exact (still b hb o e).2
      cases b with
      | false =>
        simp only [Bool.false_eq_true, if_false] at q9 ⊢; exact again I9 q9
      | true =>
        simp only [if_true] at q9 ⊢
        refine thnF (pe.run _ s9 σ8 H9 _ I9 q9) fun z s10 ⟨yv, H10, I10, r10, acc, hD10, hz10, nx⟩ => app_ok (X := X.blk s3 H3 scope ce fp) I10 hD10 hz10 r10 fun s11 I11 => again I11 nx
  exact codeAny_compStart_list loop (T.self X.A 0 _ _ _ st4 loop)
theorem pe_lcX {elt tg iter : Expr} {ifs : List Expr} {scope : Scope} {own : List (Str × Nat)} {pos : Pos} {wi : TI} {g : TG} {tt : TT} {te : TE} (hc : L2H.HotC X) (hN : X.N.Nodup) (hi : PIX X tg iter wi) (ok : BlkOk X.N X.env.scope scope own)
    (hg : ∀ (s : Shared) (H : Hp) (C : Addr) (cl : List (Str × Addr)) (fp : List Addr), BlkHot X s H fp → PG (X.blk s H scope (compEnvC scope cl C X.env) fp) tg g) (ht : ∀ (s : Shared) (H : Hp) (C : Addr) (cl : List (Str × Addr)) (fp : List Addr), PTs (X.blk s H scope (compEnvC scope cl C X.env) fp) ifs tt)
    (he : ∀ (s : Shared) (H : Hp) (C : Addr) (cl : List (Str × Addr)) (fp : List Addr), PE (X.blk s H scope (compEnvC scope cl C X.env) fp) elt te) (hs : ∀ x, foldedSetIterable iter X.env x = pure x := by intro _; rfl) :
    PE X (.ListComp elt [⟨tg, iter, ifs, 0⟩] scope pos) (tLc wi g tt te (own.map (·.2))) := by
  refine ⟨fun pins s σ H Q I h => ?_⟩
  rw [eval_ListComp]
  refine lc_coreX hc hN I hi ok hg ht he hs h fun D C s' m H' I' q hn f => ⟨m, hn, fun h'' sb => ⟨.ref D, H', I'.turned (t' := s'.toks) (fun b o hb e => (sb.2 b hb).trans e) f.1 f.2.1 f.2.2.2.1 f.2.2.2.2.1 f.2.2.2.2.2, rfl, q⟩⟩
theorem ps_setLcX {i : Nat} {y : Str} {py : Pos} {elt tg iter : Expr} {ifs : List Expr} {scope : Scope} {own : List (Str × Nat)} {pos spos : Pos} {wi : TI} {g : TG} {tt : TT} {te : TE} (hc : L2H.HotC X) (hN : X.N.Nodup) (hy : X.N[i]? = some y) (hyl : X.env.scope.names.lookup y = some .local)
    (hsw : swapsWith (.ListComp elt [⟨tg, iter, ifs, 0⟩] scope pos) (some (.Name y py)) spos.line X.env = pure true) (hi : PIX X tg iter wi) (ok : BlkOk X.N X.env.scope scope own)
    (hg : ∀ (s : Shared) (H : Hp) (C : Addr) (cl : List (Str × Addr)) (fp : List Addr), BlkHot X s H fp → PG (X.blk s H scope (compEnvC scope cl C X.env) fp) tg g) (ht : ∀ (s : Shared) (H : Hp) (C : Addr) (cl : List (Str × Addr)) (fp : List Addr), PTs (X.blk s H scope (compEnvC scope cl C X.env) fp) ifs tt)
    (he : ∀ (s : Shared) (H : Hp) (C : Addr) (cl : List (Str × Addr)) (fp : List Addr), PE (X.blk s H scope (compEnvC scope cl C X.env) fp) elt te) (hs : ∀ x, foldedSetIterable iter X.env x = pure x := by intro _; rfl) :
    PS X (.Assign [.Name y py] (.ListComp elt [⟨tg, iter, ifs, 0⟩] scope pos) spos) (tAsg (tLc wi g tt te (own.map (·.2))) (gName i)) := by
  refine ⟨fun pins s σ H D I h => ?_⟩
  rw [exec_Assign_Name_used _ _ _ _ hsw]
  refine wpAny_bind (wpAny_standAt (wpAny_bind ?_))
  show wpAny _ X.A (do let _ ← comprehension (.ListComp elt [⟨tg, iter, ifs, 0⟩] scope pos) scope X.env (firstIterPos [⟨tg, iter, ifs, 0⟩] pos) (newList []) false (eval iter X.env) (some (assign (.Name y py) X.env))) _ _ s
  have h : tLc wi g tt te (own.map (·.2)) σ H (fun x H1 => gName i x σ H1 D.nx) := h
  refine wpAny_bind (thn (lc_coreX (Qf := fun _ s' => SP X pins D .next s') hc hN I hi ok hg ht he hs h fun L C s' m H' I' q hn f => ?_) fun _ s' hq => wpAny_pure (wpAny_pure hq))
  show wpAny _ _ (assign (.Name y py) X.env (.ref L)) _ _ _
  refine wpAny_assign_Name (store_ok2 (v := V.ref L) I' hN hy (.inl hyl) rfl (fun s2 I2 ⟨a, sb, ha⟩ => ?_) (.inr hyl))
  have nCa : C ≠ a := ha.elim (fun z => by rw [z]; exact f.2.1) fun z e => f.2.2.2.2.1 y a z e.symm
  exact ⟨m, hn.sameBut sb nCa, fun h3 sb3 => ⟨_, H', I2.turned (t' := s2.toks) (fun b o hb e => (sb3.2 b hb).trans e) f.1 f.2.1 f.2.2.2.1 f.2.2.2.2.1 f.2.2.2.2.2, q⟩⟩
end
end HX

set_option maxHeartbeats 2000000
/-! The data layer, part y: a def that is called while an exception is handled; lambdas handed to a def that tries them. -/
namespace DL
open PySem PySem.Spec PyProof.Rows L2
/-! ### zip, comprehension -/
theorem PIX.imp {X : Cx} {tg e : Expr} {t t' : TI} (h : HX.PIX X tg e t) (k : ∀ σ H R, t' σ H R → t σ H R) : HX.PIX X tg e t' := ⟨fun pins s σ H R I q => h.run pins s σ H R I (k σ H R q)⟩
def iZipL (t : AM) : IM := fun env => rb (t env) fun as e => match as with
  | [.list a, .list b] => rok (zipD a b) e
  | _ => none
section
variable {X : Cx} {m : Md} {E : XK} {pos tpos p : Pos} {e e2 : Expr} {t : AM} {elts : List Expr} {kk : Nat}
theorem serves_zip {K : PySem.W.Frag} {F : Fv} {a b : Addr} {as bs : List PyData} (ha : F a = some (.list as)) (hb : F b = some (.list bs)) : Serves (Itz K a b) F (zipD as bs) := by
  intro F' H' l v i
  obtain ⟨oa, ra, qa⟩ := v a _ (l _ _ ha)
  obtain ⟨ob, rb, qb⟩ := v b _ (l _ _ hb)
  cases oa with
  | lst vs => cases ob with
    | lst ws =>
      refine ⟨fun hi => ⟨vs, ws, .inl ra.rd, .inl rb.rd, ?_⟩, fun d hd => ?_⟩
      · rw [Paired.length qa, Paired.length qb]
        rw [zipD_len] at hi
        omega
      · obtain ⟨da, db, h1, h2, rfl⟩ := zipD_get hd
        obtain ⟨x, hx, rx⟩ := reps_get qa h1
        obtain ⟨y, hy, ry⟩ := reps_get qb h2
        refine ⟨⟨vs, ws, x, y, .inl ra.rd, .inl rb.rd, hx, hy⟩, fun z H'' ⟨T, x', y', e3, hT, e4, f1, f2⟩ => ?_⟩
        have e5 := f1 vs (.inl ra.rd)
        have e6 := f2 ws (.inl rb.rd)
        rw [hx] at e5; rw [hy] at e6
        cases e5; cases e6
        exact .inr (.inl ⟨T, .tup [x, y], hT, e4, e3, .cons rx (.cons ry .nil)⟩)
    | _ => exact qb.elim
  | _ => exact qa.elim
theorem di_zipX (hK : m.K = X.K) (hg : Gl X "zip") (hm : X.mg "zip" = none) (ha : PA X [e, e2] (dA m E t)) (hs : starEach [e, e2] X.env = (false, eval e X.env) :: starEach [e2] X.env := by rfl) (hpl : (backTo pos (starEach [e2] X.env)).any (·.1) = false := by rfl) :
    HX.PIX X (.Tuple elts kk tpos) (.Call (.Name "zip" p) [e, e2] [] pos) (dI m E (iZipL t)) := by
  refine PIX.imp (HX.pi_zipX hg hm ha hs hpl) fun σ H R ⟨g, F, env, S, P⟩ => ⟨g, F, env, S, (post_rb P).mono fun ds e1 _ P1 vs F1 H1 l1 S1 r1 => ?_⟩
  split at P1
  · rename_i as bs
    rcases r1 with _ | ⟨r1, t1⟩
    rcases t1 with _ | ⟨r2, t1⟩
    cases t1
    obtain ⟨a, e3, fa⟩ := r1
    obtain ⟨b, e4, fb⟩ := r2
    subst e3 e4
    obtain ⟨oa, ra, qa⟩ := S1.view a _ fa
    obtain ⟨ob, rb, qb⟩ := S1.view b _ fb
    cases oa with
    | lst vs => cases ob with
      | lst ws => exact ⟨a, b, vs, ws, rfl, .inl ra.rd, .inl rb.rd, P1 _ F1 H1 l1 S1 (serves_zip fa fb)⟩
      | _ => exact qb.elim
    | _ => exact qa.elim
  · exact P1.elim
end
section
variable {X : Cx} {m : Md} {E : XK} {pos : Pos} {elt tg iter : Expr} {ifs : List Expr} {scope : Scope} {own : List (Str × Nat)} {b : GM} {i : IM} {t : TM} {f : EM} {ts : List Nat}
theorem dg_tupX {es : List Expr} {kk : Nat} {bs : GsM} {n : Nat} {ts : List Nat} {s0 : Shared} {H0 : Hp} {scope : Scope} {ce : Env} {fp : List Addr} {pos : Pos} (hbk : HX.BlkHot X s0 H0 fp) (h : PGs (X.blk s0 H0 scope ce fp) es (dGs m ts bs)) (hn : (assignEach es (X.blk s0 H0 scope ce fp).env).length = n := by rfl) (hst : (assignEach es (X.blk s0 H0 scope ce fp).env).findIdx? (·.1) = none := by rfl)
    (hb : ∀ ds env e, bs ds env = some e → ds.length = n := by intro ds env e h; dsimp only [gsCons, gsNil] at h; revert h; repeat' (first | (split <;> try (intro h; first | rfl | exact absurd h (by simp)))))
    : PG (X.blk s0 H0 scope ce fp) (.Tuple es kk pos) (dG m ts (gTp bs)) := by
  refine PG.imp (HX.pg_tupX hbk h hn hst) fun v σ H Q ⟨g, F, env, d, env', S, r, e, k⟩ => ?_
  unfold gTp at e
  split at e
  · rename_i ds
    obtain ⟨a, rfl, ha⟩ := r
    obtain ⟨o, ro, hr⟩ := S.view a _ ha
    cases o with
    | tup vs => exact ⟨a, vs, rfl, .inl ro.rd, by rw [hr.length]; exact hb ds env env' e, g, F, env, ds, env', S, hr, e, k⟩
    | _ => exact hr.elim
  · cases e
theorem ds_setLcX {j : Nat} {y : Str} {py spos : Pos} (hc : L2H.HotC X) (hN : X.N.Nodup) (hy : X.N[j]? = some y) (hyl : X.env.scope.names.lookup y = some .local)
    (hsw : swapsWith (.ListComp elt [⟨tg, iter, ifs, 0⟩] scope pos) (some (.Name y py)) spos.line X.env = pure true) (hi : HX.PIX X tg iter (dI m E i)) (ok : BlkOk X.N X.env.scope scope own) (hts : ∀ i ∈ ts, i ∈ own.map (·.2))
    (hg : ∀ (s : Shared) (H : Hp) (C : Addr) (cl : List (Str × Addr)) (fp : List Addr), HX.BlkHot X s H fp → PG (X.blk s H scope (compEnvC scope cl C X.env) fp) tg (dG m ts b)) (ht : ∀ (s : Shared) (H : Hp) (C : Addr) (cl : List (Str × Addr)) (fp : List Addr), PTs (X.blk s H scope (compEnvC scope cl C X.env) fp) ifs (dT m E0 t))
    (he : ∀ (s : Shared) (H : Hp) (C : Addr) (cl : List (Str × Addr)) (fp : List Addr), PE (X.blk s H scope (compEnvC scope cl C X.env) fp) elt (dE m E0 f)) (hs : ∀ x, foldedSetIterable iter X.env x = pure x := by intro _; rfl) :
    PS X (.Assign [.Name y py] (.ListComp elt [⟨tg, iter, ifs, 0⟩] scope pos) spos) (dS m E (sSet j (eLc (own.map (·.2)) b i t f))) :=
  ds_setR (HX.ps_setLcX hc hN hy hyl hsw hi ok hg ht he hs) fun _ _ _ => rd_lc hts
end
/-! ### isinstance of the handled exception -/
/-- the dict of the handled exception p, if it has one, lies in the entry's heap, and nothing is told of it -/
def DctP (X : Cx) (p : Addr × Obj) : Prop := ∀ d, p.2.dict = some d → ∃ od, X.s_0.heap.get? d = some od ∧ X.H_0 d = none ∧ d ∉ X.fs ∧ d ∉ X.ex
theorem call_isP {X : Cx} {D : Addr} {p : Addr × Obj} (C : ExcC X.K D) (hp : p ∈ X.pn) (hz : p.2.cls = .ref D) (hf : ∃ vs, p.2.data = .fields vs) (hd : DctP X p) : CallR X (.builtin "isinstance") (rIsE X.K D p.1) := by
  intro pins s σ H xs us Q I r h
  obtain ⟨c, cv, b, rfl, hcv, e, q⟩ := h
  rcases r with _ | ⟨rx, r⟩
  rcases r with _ | ⟨rt, r⟩
  cases r; cases rx
  have ec := hcv _ rt
  subst ec
  have hget := (I.pin p (List.mem_append_left _ hp)).1
  obtain ⟨vs, hv⟩ := hf
  obtain ⟨a, oe⟩ := p
  have J : ∃ od, PySem.W.InstAt s.heap a oe D od := by
    obtain ⟨oc, od, oda, osl⟩ := oe
    dsimp only at hz hv
    subst hz hv
    cases od with
    | none => exact ⟨none, hget, rfl, rfl, trivial⟩
    | some dx =>
      obtain ⟨o, h1, h2, h3, h4⟩ := hd dx rfl
      exact ⟨some o, hget, rfl, rfl, I.base.keep dx o h1 h2 h3 h4⟩
  obtain ⟨od, J⟩ := J
  have hcl : (PySem.W.clsIn X.K D).isSome = true := by
    obtain ⟨cd, hc, _⟩ := PySem.W.any_some C.hd
    rw [hc]; rfl
  exact PySem.W.kia_one (PySem.W.kitx_exc hcl C.hg C.hk C.hs C.ha C.hn C.ht C.hm) I.kIn J e (fun z => nomatch z) fun tk => ⟨.bl b, H, I.kept (t' := tk) fun _ _ z => z, rfl, q⟩
def eIsX (i : Nat) (a : Addr) (b : Bool) : EM := fun env => match env[i]? with
  | some (.ptr a') => if a' = a then rok (false, .bool b) env else none
  | _ => none
section
variable {X : Cx} {m : Md} {E : XK} {pos p1 p2 p3 : Pos}
theorem rd_isX {i : Nat} {a : Addr} {b : Bool} {D : Addr} {c : V} {cv : Value} {K : PySem.W.Frag} (hcv : ∀ u, RelV c u → u = cv) (hk : PySem.W.kitOne K (.ref D) cv = some b) {σ : L2.St} {H : Hp} {Q : VK} (q : dE m E (eIsX i a b) σ H Q) : tCB (rIsE K D a) (tCons (tVar i) (tCons (tC c) tNil)) σ H Q := by
  obtain ⟨g, F, env, S, P⟩ := q
  unfold eIsX at P
  split at P
  · rename_i a' e
    split at P
    · rename_i ea
      obtain ⟨v, e1, z⟩ := S.slot i _ e
      have ev : v = some (V.ref a') := z
      subst ev ea
      exact ⟨.ref a', e1, c, cv, b, rfl, hcv, hk, P _ F H (.refl F) S rfl⟩
    · exact P.elim
  · exact P.elim
/-- isinstance(e, C), C a class of the text -/
theorem d_isP (i : Nat) {y x : Str} {D C : Addr} {b : Bool} {p : Addr × Obj} (ec : ExcC X.K D) (hp : p ∈ X.pn) (hz : p.2.cls = .ref D) (hf : ∃ vs, p.2.data = .fields vs) (hd2 : DctP X p) (hk : PySem.W.kitOne X.K (.ref D) (.ref C) = some b) (hi : Gl X "isinstance") (hmi : X.mg "isinstance" = none) (hx : Gl X x) (hmx : X.mg x = some (.ref C))
    (hN : X.N[i]? = some y := by rfl) (hv : Vis X.env.scope y := by first | exact Or.inl rfl | exact Or.inr (Or.inl rfl) | exact Or.inr (Or.inr rfl)) (hd : (y == ("__debug__" : Str)) = false := by decide) (hcd : (y == ("__classdict__" : Str)) = false := by decide) (hdx : (x == ("__debug__" : Str)) = false := by decide)
    (hs : starEach [.Name y p1, .Name x p2] X.env = (false, eval (.Name y p1) X.env) :: starEach [.Name x p2] X.env := by rfl) (hs2 : starEach [.Name x p2] X.env = (false, eval (.Name x p2) X.env) :: starEach [] X.env := by rfl) (hpl : (backTo pos (starEach [.Name x p2] X.env)).any (·.1) = false := by rfl) :
    PE X (.Call (.Name "isinstance" p3) [.Name y p1, .Name x p2] [] pos) (dE m E (eIsX i p.1 b)) :=
  PE.imp (pe_callB (call_isP ec hp hz hf hd2) hi hmi (by decide +kernel) (pa_cons (pe_var hN hv hd hcd) (pa_cons (pe_glob (v := V.ref C) hx hmx rfl hdx) pa_nil hs2) hs) (by decide) (by decide) hs hpl) fun σ H Q => rd_isX (c := V.ref C) (cv := .ref C) (fun _ r => r) hk
/-- isinstance(e, T), T a built-in type -/
theorem d_isPT (i : Nat) {y x : Str} {T : String} {D : Addr} {b : Bool} {p : Addr × Obj} (ec : ExcC X.K D) (hp : p ∈ X.pn) (hz : p.2.cls = .ref D) (hf : ∃ vs, p.2.data = .fields vs) (hd2 : DctP X p) (hk : PySem.W.kitOne X.K (.ref D) (.type T) = some b) (hi : Gl X "isinstance") (hmi : X.mg "isinstance" = none) (hx : Gl X x) (hmx : X.mg x = none) (hbx : bootBuiltins x = some (.type T)) (hnx : x ≠ "__name__" := by decide)
    (hN : X.N[i]? = some y := by rfl) (hv : Vis X.env.scope y := by first | exact Or.inl rfl | exact Or.inr (Or.inl rfl) | exact Or.inr (Or.inr rfl)) (hd : (y == ("__debug__" : Str)) = false := by decide) (hcd : (y == ("__classdict__" : Str)) = false := by decide) (hdx : (x == ("__debug__" : Str)) = false := by decide)
    (hs : starEach [.Name y p1, .Name x p2] X.env = (false, eval (.Name y p1) X.env) :: starEach [.Name x p2] X.env := by rfl) (hs2 : starEach [.Name x p2] X.env = (false, eval (.Name x p2) X.env) :: starEach [] X.env := by rfl) (hpl : (backTo pos (starEach [.Name x p2] X.env)).any (·.1) = false := by rfl) :
    PE X (.Call (.Name "isinstance" p3) [.Name y p1, .Name x p2] [] pos) (dE m E (eIsX i p.1 b)) :=
  PE.imp (pe_callB (call_isP ec hp hz hf hd2) hi hmi (by decide +kernel) (pa_cons (pe_var hN hv hd hcd) (pa_cons (pe_bltn (v := V.ty T) hx hmx hbx rfl hnx hdx) pa_nil hs2) hs) (by decide) (by decide) hs hpl) fun σ H Q => rd_isX (c := V.ty T) (cv := .type T) (fun _ r => r) hk
end
/-! ### a def that is called within an except suite; its promise is told of the handled exception p -/
structure FnHp (P : Program) (w : World) (K : PySem.W.Frag) (mg : Str → Option Value) (base : Heap) (CX : CXT) (k : Nat) (f : Addr) (fd : FuncData) (ps : List Str) (sp : Addr × Obj → Sp) : Prop where
  len : ∀ p vs H Q E, sp p vs H Q E → vs.length = ps.length
  run : ∀ (A : Around) (outer : List Env) (s : Shared) (H : Hp) (args : Args) (us : List Value) (vs : List V) (Q : VK) (E : XK) (p : Addr × Obj), L2H.RoomH k A → L2H.Hot1 A p → L2H.PinOk outer H s p → Env0 P w K mg base A outer s H → BindsTo s fd args (ps.zip us) → Vals vs us → sp p vs H Q E →
    codeAny (model P w) A (.call (.ref f) args) (CR CX outer P w H s Q E) s
theorem fn_ofHp {CX : CXT} {P : Program} {w : World} {K : PySem.W.Frag} {mg : Str → Option Value} {base : Heap} {k : Nat} {x q : Str} {st : Stmt} {f : Addr} {fd : FuncData} {N ps : List Str} {sp : Addr × Obj → Sp} (G : Fun K x q st f fd) (S : FnScope N ps (defScope st)) (ln : ∀ p vs H Q E, sp p vs H Q E → vs.length = ps.length)
    (hb : ∀ (cdv : Value) (A : Around) (outer : List Env) (s : Shared) (H : Hp) (vs : List V) (Q : VK) (E : XK) (p : Addr × Obj), L2H.Hot1 A p → L2H.RoomH k (A.deeper (envOfC q (defScope st) s.heap.objs.size f cdv)) → sp p vs H Q E →
      ∃ t, PSs (L2H.cxH CX P w K mg base N q (defScope st) f cdv A outer s H E p) (defBody st) t ∧ t { nx := fun _ H' => Q .non H', rt := Q } (L2.start N vs) H) : FnHp P w K mg base CX (k + 1) f fd ps sp := by
  obtain ⟨o1, o2, v1, v2, v3, v4, v5, v6, v7, e, look, code⟩ := G.ex
  subst e
  refine ⟨ln, fun A outer s H args us vs Q E p hr hot hpin e0 hbi r hsp => ?_⟩
  have hl := ln _ _ _ _ _ hsp
  have kin : K.In s.heap := e0.mod.kin.keeps fun b o e => (e0.bs b o e).1
  have lim : s.heap.NoLimit := e0.mod.nolimit.keeps fun b o e => (e0.bs b o e).1
  have kinds : ∀ y ∈ ps.zip us, (defScope st).names.lookup y.1 = some .local ∨ ((defScope st).names.lookup y.1 = some .cell ∧ ((cellsFrom (s.heap.objs.size + 1) (defScope st).names []).lookup y.1).isSome = true) := fun ⟨n, v⟩ hy =>
    (S.par n (List.of_mem_zip hy).1).elim .inl fun z => .inr ⟨z, PySem.W.cellsFrom_some _ _ _ (.inl z)⟩
  refine codeAny_call_function hr.depth (kin _ _ look) rfl S.co S.gen rfl (PySem.W.codeRec_of kin code) (hbi _ _ _ _ (wpAny_newFunctionEnv_cells S.kind kinds fun env he s1 x1 => ?_))
  subst he
  refine ⟨lim.keeps x1.toInCall.keep, codeAny_func ?_⟩
  obtain ⟨t, ht, hq⟩ := hb v5 A outer s H vs Q E p hot (hr.deeper _) hsp
  have I : Inv (L2H.cxH CX P w K mg base N q (defScope st) f v5 A outer s H E p) [] (L2.start N vs) H s1 := L2H.inv_startH S hpin e0 hl r x1
  refine wpAny_mono (ht.run [] s1 (L2.start N vs) H _ I hq) (fun fl s' hs => ?_) fun _ _ z => z
  cases fl with
  | ret u => obtain ⟨v, σ', H', J, rv, z⟩ := hs; exact ⟨v, H', J.os, J.bare, J.base, J.hok, rv, z⟩
  | next => obtain ⟨σ', H', J, z⟩ := hs; exact ⟨V.non, H', J.os, J.bare, J.base, J.hok, rfl, z⟩
  | brk => obtain ⟨_, _, _, z⟩ := hs; exact False.elim z
  | cont => obtain ⟨_, _, _, z⟩ := hs; exact False.elim z
/-- called with one name, in a suite -/
theorem pe_callHp {X : Cx} {CX : CXT} {k : Nat} {f : Addr} {fd : FuncData} {a x : Str} {sp : Addr × Obj → Sp} {E : XK} {q pos : Pos} {e : Expr} {ta : TE} {p : Addr × Obj} (G : FnHp X.prog X.w X.K X.mg X.base CX k f fd [a] sp) (hr : L2H.RoomH k X.A) (hot : L2H.Hot1 X.A p) (hp : p ∈ X.pn) (hg : Gl X x) (hm : X.mg x = some (.ref f)) (hk : PySem.W.keepIn X.K (.ref f) = true) (hb : L2.Binds X.K fd [a] []) (hx : Passes CX X E)
    (ha : PE X e ta) (hdb : (x == ("__debug__" : Str)) = false := by decide) (he : starEach [e] X.env = (false, eval e X.env) :: starEach [] X.env := by rfl) : PE X (.Call (.Name x q) [e] [] pos) (fun σ H Q => tCons ta tNil σ H fun vs H1 => sp p vs H1 Q E) := by
  refine ⟨fun pins s σ H Q I h => ?_⟩
  refine wpAny_Call_Name_kw (ld_glob I hg hm ?_ hdb)
  refine PySem.W.callWith_K (h₀ := X.base) I.ok.mod.kin hk (thn ((pa_cons ha pa_nil he).run pos pins s σ H (fun vs H1 => sp p vs H1 Q E) I h) fun us s1 ⟨vs, H1, I1, r, z⟩ => ⟨I1.kIn, ?_⟩) he (by rfl)
  have hl : us.length = [a].length := by rw [← r.length]; exact G.len _ _ _ _ _ z
  have bt := hb s1 us I1.kIn (by rw [List.append_nil]; exact hl)
  rw [List.append_nil] at bt
  have pin := I1.pin p (List.mem_append_left _ hp)
  have pok : L2H.PinOk X.stack H1 s1 p := ⟨pin.1, pin.2.1, fun hm => (List.mem_cons.mp (I1.stkSub p.1 hm)).elim pin.2.2.1 pin.2.2.2.1, pin.2.2.2.2⟩
  refine wpAny_call (codeAny_mono (G.run X.A X.stack s1 H1 ⟨us, []⟩ us vs Q E p hr hot pok I1.env0 bt r z) fun r' s' hq => ?_)
  cases r' with
  | error e => exact hx pins σ H1 s1 e s' I1 hq
  | ok fl =>
    cases fl with
    | ret u => exact I1.after hq
    | next => exact False.elim hq
    | brk => exact False.elim hq
    | cont => exact False.elim hq
/-- what is known of the handled exception p: its class nm; is: of which classes it is -/
def ExcAtt (m : Md) (names : List Str) (nm : Str) (is : Str → Bool) (p : Addr × Obj) : Prop := ∃ D, m.mg nm = some (.ref D) ∧ p.2.cls = .ref D ∧ (∃ vs, p.2.data = .fields vs) ∧ ExcC m.K D ∧ (∀ x ∈ names, ∃ C, m.mg x = some (.ref C) ∧ PySem.W.kitOne m.K (.ref D) (.ref C) = some (is x)) ∧ PySem.W.kitOne m.K (.ref D) (.type "ValueError") = some (is "ValueError")
def spN0 (m : Md) (names : List Str) (n : Nat) (b : Addr → (Str → Bool) → SM) : Addr × Obj → Sp := fun p vs H Q E => ∃ (F : Fv) (nm : Str) (is : Str → Bool) (z : Str), vs = [.ref p.1] ∧ View F H ∧ LamX.Tabs m.T H ∧ ExcAtt m names nm is p ∧ outOf (b p.1 is (.ptr p.1 :: List.replicate (n - 1) .no)) = some (.ok (false, .str z)) ∧ ∀ F' H', RetOk m F H none F' H' → Q (.str z) H'
/-- H without d -/
def dl (H : Hp) (d : Addr) : Hp := fun b => if b = d then none else H b
theorem dl_ne {H : Hp} {a b : Addr} (h : b ≠ a) : dl H a b = H b := if_neg h
theorem dl_same {H : Hp} {a : Addr} : dl H a a = none := if_pos rfl
theorem dl_none {H : Hp} {a b : Addr} (h : H b = none) : dl H a b = none := by unfold dl; split <;> first | rfl | exact h
theorem dl_some {H : Hp} {a b : Addr} {o : HO} (h : dl H a b = some o) : b ≠ a ∧ H b = some o := by
  unfold dl at h
  split at h
  · cases h
  · exact ⟨‹_›, h⟩
/-- a promise of the handled exception p, its dict (if it has one) left alone -/
def spDct (sp : Addr × Obj → Sp) : Addr × Obj → Sp := fun p vs H Q E => (∀ c d h, E c d h → False) ∧ match p.2.dict with
  | none => sp p vs H Q E
  | some d => ∃ fs, H d = some (.xd fs) ∧ sp p vs (dl H d) (fun v H' => H' d = none → Q v (upd H' d (.xd fs))) E
theorem hok_dl {P : Program} {w : World} {H : Hp} {h : Heap} {d : Addr} {fs : List (Str × V)} (k : HOk P w H h) (hd : H d = some (.xd fs)) : HOk P w (dl H d) h := fun b o e => by
  obtain ⟨hb, e⟩ := dl_some e
  exact (k b o e).stay (fun c v _ y => y) (fun c hc => by rw [dl_ne (fun z => by rw [z, hd] at hc; cases hc)]; exact hc) (fun c xs hc => by rw [dl_ne (fun z => by rw [z, hd] at hc; cases hc)]; exact hc)
theorem env0_dl {P : Program} {w : World} {K : PySem.W.Frag} {mg : Str → Option Value} {base : Heap} {A : Around} {outer : List Env} {s : Shared} {H : Hp} {d : Addr} {fs : List (Str × V)} (e : Env0 P w K mg base A outer s H) (hd : H d = some (.xd fs)) : Env0 P w K mg base A outer s (dl H d) :=
  ⟨e.frames, e.mod, fun b o z => ⟨(e.bs b o z).1, dl_none (e.bs b o z).2⟩, e.bsz, e.funs, fun b z => dl_none (e.frf b z), hok_dl e.hok hd, e.bare⟩
theorem fn_ofHpD {P : Program} {w : World} {K : PySem.W.Frag} {mg : Str → Option Value} {base : Heap} {k : Nat} {x q : Str} {st : Stmt} {f : Addr} {fd : FuncData} {N ps : List Str} {sp : Addr × Obj → Sp} (G : Fun K x q st f fd) (S : FnScope N ps (defScope st)) (ln : ∀ p vs H Q E, sp p vs H Q E → vs.length = ps.length)
    (hb : ∀ (cdv : Value) (A : Around) (outer : List Env) (s : Shared) (H : Hp) (vs : List V) (Q : VK) (E : XK) (p : Addr × Obj), L2H.Hot1 A p → L2H.RoomH k (A.deeper (envOfC q (defScope st) s.heap.objs.size f cdv)) → DctP (L2H.cxH (L2N.CX P w) P w K mg base N q (defScope st) f cdv A outer s H E p) p → sp p vs H Q E →
      ∃ t, PSs (L2H.cxH (L2N.CX P w) P w K mg base N q (defScope st) f cdv A outer s H E p) (defBody st) t ∧ t { nx := fun _ H' => Q .non H', rt := Q } (L2.start N vs) H) : FnHp P w K mg base (L2N.CX P w) (k + 1) f fd ps (spDct sp) := by
  obtain ⟨o1, o2, v1, v2, v3, v4, v5, v6, v7, e, look, code⟩ := G.ex
  subst e
  refine ⟨fun p vs H Q E h => ?_, fun A outer s H args us vs Q E p hr hot hpin e0 hbi r hsp => ?_⟩
  · obtain ⟨_, h⟩ := h
    split at h
    · exact ln _ _ _ _ _ h
    · obtain ⟨fs, _, h⟩ := h; exact ln _ _ _ _ _ h
  obtain ⟨hE, hsp⟩ := hsp
  split at hsp
  · rename_i hdn
    have hl := ln _ _ _ _ _ hsp
    have kin : K.In s.heap := e0.mod.kin.keeps fun b o e => (e0.bs b o e).1
    have lim : s.heap.NoLimit := e0.mod.nolimit.keeps fun b o e => (e0.bs b o e).1
    have kinds : ∀ y ∈ ps.zip us, (defScope st).names.lookup y.1 = some .local ∨ ((defScope st).names.lookup y.1 = some .cell ∧ ((cellsFrom (s.heap.objs.size + 1) (defScope st).names []).lookup y.1).isSome = true) := fun ⟨n, v⟩ hy =>
      (S.par n (List.of_mem_zip hy).1).elim .inl fun z => .inr ⟨z, PySem.W.cellsFrom_some _ _ _ (.inl z)⟩
    refine codeAny_call_function hr.depth (kin _ _ look) rfl S.co S.gen rfl (PySem.W.codeRec_of kin code) (hbi _ _ _ _ (wpAny_newFunctionEnv_cells S.kind kinds fun env he s1 x1 => ?_))
    subst he
    refine ⟨lim.keeps x1.toInCall.keep, codeAny_func ?_⟩
    obtain ⟨t, ht, hq⟩ := hb v5 A outer s H vs Q E p hot (hr.deeper _) (fun d z => by rw [hdn] at z; cases z) hsp
    have I : Inv (L2H.cxH (L2N.CX P w) P w K mg base N q (defScope st) f v5 A outer s H E p) [] (L2.start N vs) H s1 := L2H.inv_startH S hpin e0 hl r x1
    refine wpAny_mono (ht.run [] s1 (L2.start N vs) H _ I hq) (fun fl s' hs => ?_) fun _ _ z => z
    cases fl with
    | ret u => obtain ⟨v, σ', H', J, rv, z⟩ := hs; exact ⟨v, H', J.os, J.bare, J.base, J.hok, rv, z⟩
    | next => obtain ⟨σ', H', J, z⟩ := hs; exact ⟨V.non, H', J.os, J.bare, J.base, J.hok, rfl, z⟩
    | brk => obtain ⟨_, _, _, z⟩ := hs; exact False.elim z
    | cont => obtain ⟨_, _, _, z⟩ := hs; exact False.elim z
  · rename_i d hdn
    obtain ⟨fs, hd, hsp⟩ := hsp
    have hl := ln _ _ _ _ _ hsp
    have kin : K.In s.heap := e0.mod.kin.keeps fun b o e => (e0.bs b o e).1
    have lim : s.heap.NoLimit := e0.mod.nolimit.keeps fun b o e => (e0.bs b o e).1
    have kinds : ∀ y ∈ ps.zip us, (defScope st).names.lookup y.1 = some .local ∨ ((defScope st).names.lookup y.1 = some .cell ∧ ((cellsFrom (s.heap.objs.size + 1) (defScope st).names []).lookup y.1).isSome = true) := fun ⟨n, v⟩ hy =>
      (S.par n (List.of_mem_zip hy).1).elim .inl fun z => .inr ⟨z, PySem.W.cellsFrom_some _ _ _ (.inl z)⟩
    obtain ⟨mA, hns, rel⟩ := (show ∃ mA, s.heap.Ns1 d mA ∧ ∀ f, RelO (fs.lookup f) (mA f) from e0.hok d _ hd)
    obtain ⟨od, hod⟩ : ∃ od, s.heap.get? d = some od := by obtain ⟨o, _, _, z, _⟩ := hns; exact ⟨o, z⟩
    have nfr : d ∉ frs outer := fun z => by have y := e0.frf d z; rw [hd] at y; cases y
    refine codeAny_call_function hr.depth (kin _ _ look) rfl S.co S.gen rfl (PySem.W.codeRec_of kin code) (hbi _ _ _ _ (wpAny_newFunctionEnv_cells S.kind kinds fun env he s1 x1 => ?_))
    subst he
    refine ⟨lim.keeps x1.toInCall.keep, codeAny_func ?_⟩
    obtain ⟨t, ht, hq⟩ := hb v5 A outer s (dl H d) vs _ E p hot (hr.deeper _) (fun d' z => by
      rw [hdn] at z; cases z
      exact ⟨od, hod, dl_same, nfr, fun z => nomatch z⟩) hsp
    have I : Inv (L2H.cxH (L2N.CX P w) P w K mg base N q (defScope st) f v5 A outer s (dl H d) E p) [] (L2.start N vs) (dl H d) s1 := L2H.inv_startH S ⟨hpin.get, dl_none hpin.free, hpin.nofs, hpin.nocell⟩ (env0_dl e0 hd) hl r x1
    have fin : ∀ {σ' : L2.St} {H' : Hp} {s' : Shared} {v : V} {u : Value}, Inv (L2H.cxH (L2N.CX P w) P w K mg base N q (defScope st) f v5 A outer s (dl H d) E p) [] σ' H' s' → RelV v u → (H' d = none → Q v (upd H' d (.xd fs))) → CE outer P w H s Q u s' := fun {σ' H' s' v u} J rv z => by
      have hn : H' d = none := J.base.free d od hod dl_same (fun z => nomatch z)
      have hk : s'.heap.get? d = some od := J.base.keep d od hod dl_same nfr (fun z => nomatch z)
      have nb : ∀ {b : Addr}, H b = none → b ≠ d := fun {b} h z => by rw [z, hd] at h; cases h
      refine ⟨v, upd H' d (.xd fs), J.os, J.bare, ?_, ?_, rv, z hn⟩
      · exact {
          keep := fun b o e h hf hx => J.base.keep b o e (dl_none h) hf hx
          slot := fun b o e h hf hx => J.base.slot b o e (dl_none h) hf hx
          free := fun b o e h hx => by rw [upd_ne (nb h)]; exact J.base.free b o e (dl_none h) hx
          there := fun b o e hx => J.base.there b o e hx
          tups := fun b xs h => by
            have ne : b ≠ d := fun z => by rw [z, hd] at h; cases h
            rw [upd_ne ne]; exact J.base.tups b xs (by show dl H d b = _; rw [dl_ne ne]; exact h)
          frzs := fun b o u h => by
            have ne : b ≠ d := fun z => by rw [z, hd] at h; cases h
            rw [upd_ne ne]; exact J.base.frzs b o u (by show dl H d b = _; rw [dl_ne ne]; exact h)
          tbls := fun b ps h => by
            have ne : b ≠ d := fun z => by rw [z, hd] at h; cases h
            rw [upd_ne ne]; exact J.base.tbls b ps (by show dl H d b = _; rw [dl_ne ne]; exact h) }
      · exact J.hok.laidN (fun _ _ y => y) hn ⟨mA, hns.at fun o y => by rw [hod] at y; cases y; exact hk, rel⟩
    refine wpAny_mono (ht.run [] s1 (L2.start N vs) (dl H d) _ I hq) (fun fl s' hs => ?_) fun e' s' z => ?_
    · cases fl with
      | ret u => obtain ⟨v, σ', H', J, rv, z⟩ := hs; exact fin J rv z
      | next => obtain ⟨σ', H', J, z⟩ := hs; exact fin J (v := V.non) rfl z
      | brk => obtain ⟨_, _, _, z⟩ := hs; exact False.elim z
      | cont => obtain ⟨_, _, _, z⟩ := hs; exact False.elim z
    · have no : ∀ e'' s'', L2N.CX P w outer (dl H d) s E e'' s'' → L2N.CX P w outer H s E e'' s'' := fun e'' s'' ⟨_, _, _, _, _, _, _, _, _, _, _, _, z⟩ => (hE _ _ _ z).elim
      exact wpAny_mono z (fun _ s'' z => no _ s'' z) fun _ s'' z => no _ s'' z
/-- the dict of an exception with a field -/
def DcT (p : Addr × Obj) (H : Hp) : Prop := ∀ d, p.2.dict = some d → ∃ fs, H d = some (.xd fs)
def spN (m : Md) (names : List Str) (n : Nat) (b : Addr → (Str → Bool) → SM) : Addr × Obj → Sp := fun p vs H Q E => ∃ (F : Fv) (nm : Str) (is : Str → Bool) (z : Str), vs = [.ref p.1] ∧ View F H ∧ LamX.Tabs m.T H ∧ ExcAtt m names nm is p ∧ outOf (b p.1 is (.ptr p.1 :: List.replicate (n - 1) .no)) = some (.ok (false, .str z)) ∧ DcT p H ∧ (∀ c d h, E c d h → False) ∧ ∀ F' H', RetOk m F H none F' H' → Q (.str z) H'
theorem view_dl {F : Fv} {H : Hp} {d : Addr} {fs : List (Str × V)} (v : View F H) (hd : H d = some (.xd fs)) : View F (dl H d) := fun a x e => by
  obtain ⟨o, r, z⟩ := v a x e
  refine ⟨o, ?_, z⟩
  rcases r with r | ⟨u, u2, r⟩
  · refine .inl ?_
    rw [dl_ne (fun y => by rw [y, hd] at r; cases r; exact z.elim)]; exact r
  · refine .inr ⟨u, u2, ?_⟩
    rw [dl_ne (fun y => by rw [y, hd] at r; cases r)]; exact r
theorem spN_dct {m : Md} {names : List Str} {n : Nat} {b : Addr → (Str → Bool) → SM} {p : Addr × Obj} {vs : List V} {H : Hp} {Q : VK} {E : XK} (h : spN m names n b p vs H Q E) : spDct (spN0 m names n b) p vs H Q E := by
  obtain ⟨F, nm, is, z, rfl, hv, ht, ea, ho, hd, hE, q⟩ := h
  refine ⟨hE, ?_⟩
  split
  · exact ⟨F, nm, is, z, rfl, hv, ht, ea, ho, q⟩
  · rename_i d hdn
    obtain ⟨fs, hfs⟩ := hd d hdn
    have nt : ∀ p ∈ m.T, p.1 ≠ d := fun p hp e => by
      obtain ⟨ps, h1, _⟩ := ht p hp
      rw [e, hfs] at h1; cases h1
    have tab : LamX.Tabs m.T (dl H d) := fun p hp => by
      obtain ⟨ps, h1, h2, h3⟩ := ht p hp
      refine ⟨ps, by rw [dl_ne (nt p hp)]; exact h1, h2, fun pos cv hc => ?_⟩
      obtain ⟨c, e1, e2⟩ := h3 pos cv hc
      exact ⟨c, e1, by rw [dl_ne (fun y => by rw [y, hfs] at e2; cases e2)]; exact e2⟩
    refine ⟨fs, hfs, F, nm, is, z, rfl, view_dl hv hfs, tab, ea, ho, fun F' H' R hn => q F' _ ?_⟩
    refine ⟨fun a x e => ?_, R.ext, fun a e => ?_, fun a o e ne nt nl => ?_, fun a e => ?_, ?_⟩
    · obtain ⟨o, r, y⟩ := R.view a x e
      have na : a ≠ d := fun y2 => by
        rcases r with r | ⟨_, _, r⟩ <;> rw [y2, hn] at r <;> cases r
      refine ⟨o, ?_, y⟩
      rcases r with r | ⟨u, u2, r⟩
      · exact .inl (by rw [upd_ne na]; exact r)
      · exact .inr ⟨u, u2, by rw [upd_ne na]; exact r⟩
    · rcases R.new a e with y | y
      · exact .inl y
      · refine .inr fun o e2 mu => ?_
        by_cases na : a = d
        · have y2 := R.view.none (p := a) (by rw [na]; exact hn)
          exact e y2
        · exact y o (by rw [dl_ne na]; exact e2) mu
    · by_cases na : a = d
      · rw [na, hfs] at e; cases e
        rw [na, upd_same]
      · rw [upd_ne na]
        exact R.frame a o (by rw [dl_ne na]; exact e) ne nt nl
    · by_cases na : a = d
      · rw [na, upd_same] at e; cases e
      · rw [upd_ne na] at e
        have y := R.dom a e
        rw [dl_ne na] at y; exact y
    · intro p hp
      obtain ⟨ps, h1, h2, h3⟩ := R.tabs p hp
      have np : ∀ {c : Addr} {o : HO}, H' c = some o → c ≠ d := fun {c o} e y => by rw [y, hn] at e; cases e
      refine ⟨ps, by rw [upd_ne (np h1)]; exact h1, h2, fun pos cv hc => ?_⟩
      obtain ⟨c, e1, e2⟩ := h3 pos cv hc
      exact ⟨c, e1, by rw [upd_ne (np e2)]; exact e2⟩
theorem FnHp.imp {P : Program} {w : World} {K : PySem.W.Frag} {mg : Str → Option Value} {base : Heap} {CX : CXT} {k : Nat} {f : Addr} {fd : FuncData} {ps : List Str} {sp sp' : Addr × Obj → Sp} (G : FnHp P w K mg base CX k f fd ps sp) (h : ∀ p vs H Q E, sp' p vs H Q E → sp p vs H Q E) : FnHp P w K mg base CX k f fd ps sp' :=
  ⟨fun p vs H Q E q => G.len _ _ _ _ _ (h _ _ _ _ _ q), fun A outer s H args us vs Q E p a b c d e f q => G.run A outer s H args us vs Q E p a b c d e f (h _ _ _ _ _ q)⟩
theorem SR.entryP {m : Md} {F : Fv} {H : Hp} {a : Addr} {N : List Str} {n : Nat} (hv : View F H) (ht : LamX.Tabs m.T H) (hn : N.length = n) (hp : 1 ≤ n) : SR m (gAt F H none) F H (L2.start N [.ref a]) (.ptr a :: List.replicate (n - 1) .no) := by
  have hst : L2.start N [V.ref a] = some (V.ref a) :: List.replicate (n - 1) none := by
    unfold L2.start
    rw [hn]; rfl
  have rep : ∀ {i : Nat} {sl : Sl}, (List.replicate (n - 1) Sl.no)[i]? = some sl → sl = .no ∧ (List.replicate (n - 1) (none : Option V))[i]? = some none := fun {i sl} e => by
    rw [List.getElem?_replicate] at e ⊢
    split at e
    · rename_i h
      cases e
      exact ⟨rfl, by rw [if_pos h]⟩
    · cases e
  rw [hst]
  refine ⟨hv, .refl F, fun b h => .inl h, fun b o e _ _ _ => e, fun q hq => absurd (show q ∈ ([] : List (Addr × Obj × HO)) from hq) (by simp), (fun _ z => nomatch z), fun b e => e, ht, by simp, fun i sl e => ?_, fun i j b hi => ?_⟩
  · cases i with
    | zero => cases e; exact ⟨_, rfl, rfl⟩
    | succ i =>
      rw [List.getElem?_cons_succ] at e
      obtain ⟨rfl, z⟩ := rep e
      exact ⟨none, by rw [List.getElem?_cons_succ]; exact z, trivial⟩
  · obtain ⟨_, ⟨d, z⟩ | ⟨d, z⟩⟩ := hi <;>
    · cases i with
      | zero => cases z
      | succ i =>
        rw [List.getElem?_cons_succ] at z
        cases (rep z).1
theorem fn_defN {P : Program} {w : World} {K : PySem.W.Frag} {mg : Str → Option Value} {base : Heap} {m : Md} {names : List Str} {x q : Str} {st : Stmt} {f : Addr} {fd : FuncData} {N ps : List Str} {k n : Nat} {b : Addr → (Str → Bool) → SM} (G : Fun K x q st f fd) (S : FnScope N ps (defScope st)) (hn : N.length = n) (hp : ps.length = 1) (hpn : 1 ≤ n)
    (hb : ∀ (cdv : Value) (A : Around) (outer : List Env) (s : Shared) (H : Hp) (E : XK) (p : Addr × Obj) (nm : Str) (is : Str → Bool), L2H.Hot1 A p → L2H.RoomH k (A.deeper (envOfC q (defScope st) s.heap.objs.size f cdv)) → ExcAtt m names nm is p → DctP (L2H.cxH (L2N.CX P w) P w K mg base N q (defScope st) f cdv A outer s H E p) p → PSs (L2H.cxH (L2N.CX P w) P w K mg base N q (defScope st) f cdv A outer s H E p) (defBody st) (dS m E (b p.1 is))) :
    FnHp P w K mg base (L2N.CX P w) (k + 1) f fd ps (spN m names n b) :=
  (fn_ofHpD (sp := spN0 m names n b) G S (fun p vs H Q E h => by obtain ⟨F, nm, is, z, rfl, _⟩ := h; rw [hp]; rfl) fun cdv A outer s H vs Q E p hot hr hd h => by
    obtain ⟨F, nm, is, z, rfl, hv, ht, ea, ho, q⟩ := h
    refine ⟨_, hb cdv A outer s H E p nm is hot hr ea hd, _, F, _, SR.entryP hv ht hn hpn, ?_⟩
    unfold outOf at ho
    split at ho
    · rename_i own d env e
      cases ho
      rw [e]
      intro v F' H' σ' S' vo
      cases (show v = V.str z from vo)
      exact q F' H' S'.ret
    · cases ho
    · cases ho
    · cases ho).imp fun _ _ _ _ _ h => spN_dct h
end DL

set_option maxHeartbeats 2000000
/-! The data layer, part z: lambdas handed to a def that tries them. -/
namespace HX
open PySem PySem.Spec PyProof.Rows L2 LamX
section
variable {X : Cx} {pins : List (Addr × Obj)} {σ : L2.St} {H : Hp} {s : Shared}
/-- a lambda is made: nothing that is tracked goes -/
theorem lam_make3 {T : List (Addr × Str)} {c P : Addr} {params : Arguments} {body : Expr} {scope : Scope} {pos : Pos} {E : Value → Shared → Prop} {Q : Value → Shared → Prop} (I : Inv X pins σ H s) (TB : TabB X.base X.mg c P) (hcode : X.env.code = .ref c)
    (hm : (P, X.env.qual ++ "<lambda>") ∈ T) (hu : ∀ p ∈ T, p.1 = P → p.2 = X.env.qual ++ "<lambda>") (hT : Tabs T H) (hdef : defaultsOf params X.env = ([], [])) (hfree : ∀ y ∈ scope.names, y.2 = .free → ∃ c, X.env.cells.lookup y.1 = some c)
    (h : ∀ (f c' : Addr) (pm ctv : Value) (H1 : Hp) (s' : Shared), Inv X pins σ H1 s' → ExtN H H1 → (∀ b, H1 b = none → H b = none) → Tabs T H1 →
      s'.heap.get? f = some (PySem.W.kla_obj "<lambda>" (X.env.qual ++ "<lambda>") params body scope (cloFrom X.env.cells scope.names []) pm c' ctv) → H1 f = none → f ∉ frs X.stack → H1 c' = some (CodeO c' (X.env.qual ++ "<lambda>")) → Q (.ref f) s') :
    wpAny (model X.prog X.w) X.A (eval (.Lambda params body scope pos) X.env) Q E s := by
  obtain ⟨ps, hP, tri, among⟩ := hT _ hm
  refine PySem.W.kla_eval hdef ?_
  have gP : s.heap.get? P = some { cls := .none, data := .fields ps } := I.hok P _ hP
  have out : ∀ f, s.heap.objs.size ≤ f → f ∉ frs X.stack := fun f hf z => (List.mem_cons.mp (I.stkSub _ z)).elim (fun e => by
    have lt := I.lt
    rw [← e] at lt
    exact absurd lt (Nat.not_lt.mpr hf)) (I.nofs hf)
  cases hc : codeAmong pos ps.toList with
  | some cv =>
    obtain ⟨c', rfl, hco⟩ := among pos cv hc
    exact PySem.W.kla_makeFunctionHit (mg := X.mg) (c := c) (P := P) (ps := ps) (closure_ok hfree) I.ok.glob (I.mod.glob.keeps I.bk) hcode (TB.code.keeps I.bk) gP tri hc (TB.bm.keeps I.bk) fun ctv h' tk hx hz =>
      h h'.objs.size c' ((X.mg "__name__").getD .none) ctv H _ (I.kept fun b o e => Heap.get?_push_of_some _ (hx b o e)) (ExtN.refl H) (fun _ z => z) hT (Heap.get?_push_size _ rfl) (I.hok.fresh hz) (out _ hz) hco
  | none =>
    refine PySem.W.kla_makeFunction (mg := X.mg) (c := c) (P := P) (ps := ps) (closure_ok hfree) I.ok.glob (I.mod.glob.keeps I.bk) hcode (TB.code.keeps I.bk) gP tri hc TB.gP (TB.bm.keeps I.bk) fun c' ctv h' tk hx hge hlt hrec htb => ?_
    obtain ⟨c2, oc, vs, t, e2, hoc, hd, hv⟩ := hrec
    cases e2
    have sz : s.heap.objs.size ≤ h'.objs.size := Nat.le_trans hge (Nat.le_of_lt hlt)
    have nC : H c' = none := I.hok.fresh hge
    have nP : ∀ b, H b = none → b ≠ P := fun b e z => by rw [z, hP] at e; cases e
    generalize eH : upd (upd H P (.tbl (ps ++ #[rawInt pos.line, rawInt pos.col, .ref c']))) c' (CodeO c' (X.env.qual ++ "<lambda>")) = H1
    have at_ : ∀ b, b ≠ c' → b ≠ P → H1 b = H b := fun b h1 h2 => by rw [← eH, upd_ne h1, upd_ne h2]
    have atC : H1 c' = some (CodeO c' (X.env.qual ++ "<lambda>")) := by rw [← eH, upd_same]
    have atP : H1 P = some (.tbl (ps ++ #[rawInt pos.line, rawInt pos.col, .ref c'])) := by rw [← eH, upd_ne (ne_of_none hP nC), upd_same]
    have I1 : Inv X pins σ H1 _ := eH ▸ inv_table (t' := tk) (more := #[rawInt pos.line, rawInt pos.col, .ref c']) (h' := h'.push (PySem.W.kla_obj "<lambda>" (X.env.qual ++ "<lambda>") params body scope (cloFrom X.env.cells scope.names []) ((X.mg "__name__").getD .none) c' ctv)) I hP
      (fun b o hb e => Heap.get?_push_of_some _ (hx b o hb e)) (Heap.get?_push_of_some _ htb) hge ⟨oc, vs, t, Heap.get?_push_of_some _ hoc, hd, hv⟩
    have ext : ExtN H H1 := fun b o e n => by
      rw [at_ b (ne_of_none e nC) fun z => n ps (by rw [z, hP] at e; exact (Option.some.inj e).symm)]
      exact e
    have back : ∀ b, H1 b = none → H b = none := fun b e => by
      rw [at_ b (fun z => by rw [z, atC] at e; cases e) (fun z => by rw [z, atP] at e; cases e)] at e
      exact e
    have eL : (ps ++ #[rawInt pos.line, rawInt pos.col, .ref c']).toList = ps.toList ++ [rawInt pos.line, rawInt pos.col, .ref c'] := by simp
    refine h h'.objs.size c' ((X.mg "__name__").getD .none) ctv H1 _ I1 ext back (fun p hp => ?_) (Heap.get?_push_size _ rfl) ?_ (out _ sz) atC
    · by_cases hb : p.1 = P
      · rw [hu p hp hb, hb]
        refine ⟨_, atP, by rw [eL]; exact PySem.TriplesOk_snoc _ _ _ _ tri, fun p' cv hcv => ?_⟩
        rw [eL] at hcv
        rcases among_app _ tri hcv with z | z
        · obtain ⟨c0, e1, e2⟩ := among p' cv z
          exact ⟨c0, e1, ext _ _ e2 codeO_ne⟩
        · exact ⟨c', z, atC⟩
      · obtain ⟨ps', a1, a2, a3⟩ := hT p hp
        refine ⟨ps', (at_ _ (ne_of_none a1 nC) hb).trans a1, a2, fun p' cv hcv => ?_⟩
        obtain ⟨c0, e1, e2⟩ := a3 p' cv hcv
        exact ⟨c0, e1, ext _ _ e2 codeO_ne⟩
    · have n1 : h'.objs.size ≠ c' := Nat.ne_of_gt hlt
      have n2 : h'.objs.size ≠ P := Nat.ne_of_gt (Nat.lt_of_lt_of_le (Heap.lt_size gP) sz)
      rw [at_ _ n1 n2]
      exact I.hok.fresh sz
end
/-! ### the lambda's body, its exceptions with the context None -/
def lamN (X : Cx) (A : Around) (outer : List Env) (s : Shared) (H : Hp) (E : XK) (scope : Scope) (f c' : Addr) : Cx :=
  (lamCx X A outer s H E scope f c').tr [] fun e s' => wpAny (model X.prog X.w) (A.deeper (lamEnv X scope s.heap.objs.size f c')) (leaving (lamEnv X scope s.heap.objs.size f c') e) (fun _ s'' => L2N.CX X.prog X.w outer H s E e s'') (fun e' s'' => L2N.CX X.prog X.w outer H s E e' s'') s'
section
variable {X : Cx} {pins : List (Addr × Obj)} {σ : L2.St} {H : Hp} {s : Shared}
theorem pe_actN {Ng : List Str} {qg : Str} {sg : Scope} {g f c' : Addr} {cdg pm ctv : Value} {params : Arguments} {body : Expr} {scope : Scope} {k i : Nat} {a : Str} {pn : List (Addr × Obj)} {xe : Value → Shared → Prop} {W : WX} {E : XK} {tb : TE} {p1 p2 : Pos}
    (I : Inv X pins σ H s) (L : LamS X.env.scope scope) (hf : s.heap.get? f = some (PySem.W.kla_obj "<lambda>" (X.env.qual ++ "<lambda>") params body scope (cloFrom X.env.cells scope.names []) pm c' ctv)) (hfn : H f = none) (hfr : f ∉ frs X.stack)
    (hbind : bindArgs (PySem.W.kla_fn "<lambda>" (X.env.qual ++ "<lambda>") params body scope (cloFrom X.env.cells scope.names []) pm (.ref c') ctv) ⟨[], []⟩ = pure [])
    (tk : L2N.Takes ((cxOf C8.CX0 X.prog X.w X.K X.mg X.base Ng qg sg g cdg X.A X.stack s H C8.E0).tr pn xe) W) (hW : ∀ cls d σ' H', E cls d H' → W cls d σ' H') (hr : Room (k + 1) (X.A.deeper (envOfC qg sg s.heap.objs.size g cdg)))
    (hbody : ∀ (A : Around) (outer : List Env) (s : Shared) (H : Hp), Room k (A.deeper (lamEnv X scope s.heap.objs.size f c')) → PE (lamN X A outer s H E scope f c') body tb)
    (hN : Ng[i]? = some a) (hv : Vis sg a) (hd : (a == ("__debug__" : Str)) = false := by decide) (hcd : (a == ("__classdict__" : Str)) = false := by decide) :
    PE ((cxOf C8.CX0 X.prog X.w X.K X.mg X.base Ng qg sg g cdg X.A X.stack s H C8.E0).tr pn xe) (.Call (.Name a p1) [] [] p2) (fun σZ HZ Q => σZ[i]? = some (some (.ref f)) ∧ HZ c' = some (CodeO c' (X.env.qual ++ "<lambda>")) ∧ tb σ HZ Q) := by
  refine ⟨fun pinsZ sZ σZ HZ Q IZ ⟨hs, hco, ht⟩ => ?_⟩
  refine wpAny_Call_Name_kw (thn ((pe_var (pos := p1) (i := i) hN hv hd hcd).run pinsZ sZ σZ HZ (fun v H1 => v = .ref f ∧ H1 = HZ) IZ ⟨.ref f, hs, rfl, rfl⟩) fun u s1 ⟨v, H1, I1, r1, ev, eH⟩ => ?_)
  subst ev eH
  obtain rfl : u = Value.ref f := r1
  have fo : s1.heap.get? f = some (PySem.W.kla_obj "<lambda>" (X.env.qual ++ "<lambda>") params body scope (cloFrom X.env.cells scope.names []) pm c' ctv) := I1.base.keep f _ hf hfn hfr (fun z => nomatch (show f ∈ ([] : List Addr) from z))
  refine PySem.W.callWith_F0 ⟨_, _, _, _, fo⟩ ?_
  have un : Un (frs X.stack) [] H H1 s.heap s1.heap := I1.base
  obtain ⟨⟨oc, vs, t, q1, q2, q3⟩, _, _⟩ := I1.hok c' _ hco
  have rc : codeAny (model X.prog X.w) (X.A.deeper (envOfC qg sg s.heap.objs.size g cdg)) (.call (.ref f) ⟨[], []⟩) (CR (L2N.CX X.prog X.w) (envOfC qg sg s.heap.objs.size g cdg :: X.stack) X.prog X.w H1 s1 Q E) s1 := by
    refine PySem.W.kla_callFunE hr.depth fo rfl L.co L.gen rfl ⟨c', oc, vs, t, rfl, q1, q2, q3⟩ ?_
    rw [hbind]
    refine wpAny_pure (wpAny_newFunctionEnv (fun y hy => (L.own y hy).2) (fun y hy => absurd hy (by simp)) (fun hB hns hsb => ⟨I1.nolimit.fresh _ hsb, ?_⟩) L.kind)
    show codeAny _ _ (.expr body (lamEnv X scope s1.heap.objs.size f c')) _ _
    have kp : ∀ b o, s1.heap.get? b = some o → hB.get? b = some o := fun b o e => hsb.extBut b o (Nat.ne_of_lt (Heap.lt_size e)) (Heap.get?_push_of_some _ e)
    have J : Inv (lamCx X (X.A.deeper (envOfC qg sg s.heap.objs.size g cdg)) (envOfC qg sg s.heap.objs.size g cdg :: X.stack) s1 H1 E scope f c') [] σ H1 { s1 with heap := hB, toks := s1.toks + ([] : List (Str × Value)).length } := lam_start2 I L I1.env0 hr.hd un hns kp
    have J2 : Inv (lamN X (X.A.deeper (envOfC qg sg s.heap.objs.size g cdg)) (envOfC qg sg s.heap.objs.size g cdg :: X.stack) s1 H1 E scope f c') [] σ H1 { s1 with heap := hB, toks := s1.toks + ([] : List (Str × Value)).length } := J.toTry _
    refine PySem.W.kla_codeExpr (wpAny_mono ((hbody _ _ s1 H1 (hr.deeper _)).run [] _ _ H1 Q J2 ht) (fun v s' hq => ?_) fun e s' hq => hq)
    obtain ⟨w', H', J', rv, q⟩ := hq
    exact ⟨w', H', J'.os, J'.bare, J'.base, J'.hok, rv, q⟩
  have hx : Passes (L2N.CX X.prog X.w) ((cxOf C8.CX0 X.prog X.w X.K X.mg X.base Ng qg sg g cdg X.A X.stack s H C8.E0).tr pn xe) E := L2N.passes_call tk hW
  refine wpAny_call (codeAny_mono rc fun r s' hq => ?_)
  cases r with
  | error e => exact hx pinsZ σZ H1 s1 e s' I1 hq
  | ok fl =>
    cases fl with
    | ret u => exact I1.after hq
    | next => exact False.elim hq
    | brk => exact False.elim hq
    | cont => exact False.elim hq
/-- the def that calls what it got, told for such lambdas -/
def GivesN (X : Cx) (kr : Nat) (Ng : List Str) (x : Str) (sg : Scope) (g : Addr) (cdg : Value) (bg : List Stmt) (a : Str) (q : Str) (TT : (XK → Hp → VK → Prop) → Hp → VK → Prop) : Prop :=
  ∀ (f c' : Addr) (s : Shared) (H : Hp) (Q : VK) (tl : XK → Hp → VK → Prop), Room kr (X.A.deeper (envOfC x sg s.heap.objs.size g cdg)) →
    (∀ (W : WX) (pn : List (Addr × Obj)) (xe : Value → Shared → Prop) (E : XK) (p1 p2 : Pos), L2N.Takes ((cxOf C8.CX0 X.prog X.w X.K X.mg X.base Ng x sg g cdg X.A X.stack s H C8.E0).tr pn xe) W → (∀ cls d σ' H', E cls d H' → W cls d σ' H') →
      PE ((cxOf C8.CX0 X.prog X.w X.K X.mg X.base Ng x sg g cdg X.A X.stack s H C8.E0).tr pn xe) (.Call (.Name a p1) [] [] p2) (fun σZ HZ Q => σZ[0]? = some (some (.ref f)) ∧ HZ c' = some (CodeO c' q) ∧ tl E HZ Q)) →
    H c' = some (CodeO c' q) → TT tl H Q → ∃ t, PSs (cxOf C8.CX0 X.prog X.w X.K X.mg X.base Ng x sg g cdg X.A X.stack s H C8.E0).nox bg t ∧ t { nx := fun _ H' => Q .non H', rt := Q } (L2.start Ng [.ref f]) H
def tLamN (T : List (Addr × Str)) (TT : (XK → Hp → VK → Prop) → Hp → VK → Prop) (t : XK → TE) : TE := fun σ H Q => Tabs T H ∧ ∀ H1, ExtN H H1 → (∀ b, H1 b = none → H b = none) → Tabs T H1 → TT (fun E H' Q' => t E σ H' Q') H1 Q
theorem pe_lamN {T : List (Addr × Str)} {TT : (XK → Hp → VK → Prop) → Hp → VK → Prop} {x a : Str} {g c P : Addr} {k : Nat} {pg : Arguments} {bg : List Stmt} {sg : Scope} {dV kV doc pm cdv ct oc : Value} {an od : Option Addr} {osl : Array (Option Value)} {Ng : List Str}
    {params : Arguments} {body : Expr} {scope : Scope} {t : XK → TE} {p lpos pos : Pos} (hg : Gl X x) (hm : X.mg x = some (.ref g)) (hk : PySem.W.keepIn X.K (.ref g) = true) (lk : X.K.lookup g = some ⟨oc, od, .func (PySem.W.fnOf x x pg bg sg dV kV doc pm an cdv ct), osl⟩) (hcg : PySem.W.codeIn X.K cdv x = true)
    (hb : L2.Binds X.K (PySem.W.fnOf x x pg bg sg dV kV doc pm an cdv ct) [a] []) (Sg : FnScope Ng [a] sg) (hNg : Ng[0]? = some a) (hva : Vis sg a) (hG : GivesN X (k + 1) Ng x sg g cdv bg a (X.env.qual ++ "<lambda>") TT)
    (TB : TabB X.base X.mg c P) (hcode : X.env.code = .ref c) (hmT : (P, X.env.qual ++ "<lambda>") ∈ T) (hu : ∀ p ∈ T, p.1 = P → p.2 = X.env.qual ++ "<lambda>") (hr : Room (k + 2) X.A) (L : LamS X.env.scope scope) (hdef : defaultsOf params X.env = ([], []))
    (hbind : ∀ (q : Str) (cl : List (Str × Addr)) (pm cv ctv : Value), bindArgs (PySem.W.kla_fn "<lambda>" q params body scope cl pm cv ctv) ⟨[], []⟩ = pure [])
    (hbody : ∀ (A : Around) (outer : List Env) (s : Shared) (H : Hp) (E : XK) (f c' : Addr), Room k (A.deeper (lamEnv X scope s.heap.objs.size f c')) → PE (lamN X A outer s H E scope f c') body (t E))
    (hdb : (x == ("__debug__" : Str)) = false := by decide) (hd : (a == ("__debug__" : Str)) = false := by decide) (hcd : (a == ("__classdict__" : Str)) = false := by decide) :
    PE X (.Call (.Name x p) [.Lambda params body scope lpos] [] pos) (tLamN T TT t) := by
  refine ⟨fun pins s σ H Q I ⟨hT, h⟩ => wpAny_Call_Name_kw (ld_glob I hg hm (PySem.W.callWith_K (h₀ := X.base) I.ok.mod.kin hk ?_ (by rfl) (by rfl)) hdb)⟩
  show wpAny _ _ (spliced ((false, eval (.Lambda params body scope lpos) X.env) :: backTo pos (starEach [] X.env))) _ _ s
  refine Calls.spliced_cons (lam_make3 I TB hcode hmT hu hT hdef (L.has I.ok) fun f c' pm' ctv H1 s' I1 eN bk T1 hf hfn hfr hco => Calls.spliced_nil ⟨I1.kIn, ?_⟩)
  have rc : codeAny (model X.prog X.w) X.A (.call (.ref g) ⟨[.ref f], []⟩) (CR C8.CX0 X.stack X.prog X.w H1 s' Q C8.E0) s' := by
    refine run_ofS (N := Ng) (ps := [a]) (us := [.ref f]) (vs := [.ref f]) lk hcg Sg hr I1.env0 (hb s' [.ref f] I1.kIn rfl) (.cons rfl .nil) rfl fun hr' => ?_
    obtain ⟨t', ht', hq'⟩ := hG f c' s' H1 Q (fun E H' Q' => t E σ H' Q') hr' (fun W pn xe E p1 p2 tk hW => pe_actN (i := 0) I1 L hf hfn hfr (hbind _ _ _ _ _) tk hW hr' (fun A outer s H hr2 => hbody A outer s H E f c' hr2) hNg hva hd hcd) hco (h H1 eN bk T1)
    exact ⟨t', ht'.nox, hq'⟩
  refine wpAny_call (codeAny_mono rc fun r s2 hq => ?_)
  cases r with
  | error e => exact (show False from hq).elim
  | ok fl =>
    cases fl with
    | ret u => exact I1.after hq
    | next => exact False.elim hq
    | brk => exact False.elim hq
    | cont => exact False.elim hq
end
end HX
namespace DL
open PySem PySem.Spec PyProof.Rows L2 LamX
theorem passes0N {X : Cx} : Passes (L2N.CX X.prog X.w) X C8.E0 := fun _ _ _ _ _ _ _ c => by
  obtain ⟨_, _, _, _, _, _, _, _, _, _, _, _, z⟩ := c
  exact (show False from z).elim
theorem takes0N {X : Cx} : L2N.Takes X (fun _ _ _ _ => False) := fun _ _ x => by
  obtain ⟨_, _, _, _, _, _, _, _, _, _, _, _, _, _, _, _, z⟩ := x
  exact z.elim
/-- what a try of a lambda gives: ("told", its value), or the name of its exception -/
def TTry (m : Md) (names : List Str) (n : Nat) (b : Addr → (Str → Bool) → SM) (CT : Addr) : (XK → Hp → VK → Prop) → Hp → VK → Prop := fun tl H Q => ∀ R : VK, (∀ v H', (∀ p, H' p = none → Q (.ref p) (upd H' p (.tup [.str "told", v]))) → R v H') →
  tl (fun cls d H' => ∃ c, PySem.W.exmOne m.K cls (.ref CT) = some c ∧ (c = true → ∀ p : Addr × Obj, L2N.Zn cls d p.2 → (∃ vs, p.2.data = .fields vs) → H' p.1 = none → spN m names n b p [.ref p.1] H' Q C8.E0) ∧ (c = false → False)) H R
section
variable {X : Cx}
theorem gives_try {m : Md} {names : List Str} {n kr kn : Nat} {b : Addr → (Str → Bool) → SM} {CT fn g : Addr} {fdn : FuncData} {x q : Str} {sg : Scope} {cdg : Value} {j j2 kk : Nat} {p1 p2 p3 p4 p5 p6 p7 p8 p9 p10 p11 p12 p13 p14 p15 p16 p17 p18 p19 : Pos} (hK : m.K = X.K)
    (hdoor : Vis sg "door") (hfo : sg.names.lookup ("found" : Str) = some .local) (hen : sg.names.lookup ("e" : Str) = some .local) (hte : sg.names.lookup ("TripError" : Str) = some .globalImplicit) (hnf : sg.names.lookup ("_law_name_of" : Str) = some .globalImplicit) (hkind : sg.kind = .function) (hmt : X.mg "TripError" = some (.ref CT))
    (G : FnHp X.prog X.w X.K X.mg X.base (L2N.CX X.prog X.w) kn fn fdn ["e"] (spN m names n b)) (hkn : kn ≤ kr) (hmn : X.mg "_law_name_of" = some (.ref fn)) (hkp : PySem.W.keepIn X.K (.ref fn) = true) (hbn : L2.Binds X.K fdn ["e"] []) :
    HX.GivesN X kr ["door", "found", "e"] x sg g cdg
      [.Assign [.Name "found" p1] (.Constant .none j p2) p3,
       .Try [.Assign [.Name "found" p4] (.Tuple [.Constant (.str "told") j2 p5, .Call (.Name "door" p6) [] [] p7] kk p8) p9] [.ExceptHandler (some (.Name "TripError" p10)) (some "e") [.Assign [.Name "found" p11] (.Call (.Name "_law_name_of" p12) [.Name "e" p13] [] p14) p15] p16] [] [] p17,
       .Return (some (.Name "found" p18)) p19] "door" q (TTry m names n b CT) := by
  intro f c' s H Q tl room act hc h
  have vd : Vis sg ("door" : Str) := hdoor
  have lf : Loc sg ("found" : Str) := .inl hfo
  have vf : Vis sg ("found" : Str) := .inl hfo
  have ve : Vis sg ("e" : Str) := .inl hen
  have nd : (cxOf C8.CX0 X.prog X.w X.K X.mg X.base ["door", "found", "e"] x sg g cdg X.A X.stack s H C8.E0).nox.N.Nodup := (by decide : (["door", "found", "e"] : List Str).Nodup)
  refine ⟨_, pss_cons (X := (cxOf C8.CX0 X.prog X.w X.K X.mg X.base ["door", "found", "e"] x sg g cdg X.A X.stack s H C8.E0).nox) (ps_set (i := 1) (pos := p3) nd rfl lf (pe_non (j := j) (pos := p2)) (by rfl) (.inr hfo))
    (pss_cons (L2N.ps_try_as (c := .ref CT) (i := 2) (Wout := fun _ _ _ _ => False) (pos := p17) (pos' := p16) (np := p10)
      (tb := fun W => fun D σ H => ∃ Ech : XK, (∀ cls d σ' H', Ech cls d H' → W cls d σ' H') ∧ σ[0]? = some (some (.ref f)) ∧ H c' = some (CodeO c' q) ∧ tl Ech H fun v H' => 2 ≤ sizeLine ∧ ∀ p, H' p = none → D.nx (σ.set 1 (some (.ref p))) (upd H' p (.tup [.str "told", v])))
      (ts := fun a cls d => fun D σ H => σ.length = 3 → σ[2]? = some (some (.ref a)) ∧ ∀ oe, L2N.Zn cls d oe → (∃ vs, oe.data = .fields vs) → spN m names n b (a, oe) [.ref a] H (fun v H' => D.nx (σ.set 1 (some v)) H') C8.E0)
      rfl rfl nd rfl hen ⟨hte, by decide, .inl hmt⟩ takes0N (fun W pn xe tk _ => ?tryB) (fun a oe cls d pn hz hf => ?suiteB))
    (pss_one (ps_ret (pos := p19) (pe_var (i := 1) (pos := p18) rfl vf)))), ?fin⟩
  case tryB =>
    refine ⟨fun pins s' σ H' D I ⟨Ech, hW, h1, h2, h3⟩ => ?_⟩
    have hp := act W pn xe Ech p6 p7 tk hW
    have st := pss_one (ps_set (X := (cxOf C8.CX0 X.prog X.w X.K X.mg X.base ["door", "found", "e"] x sg g cdg X.A X.stack s H C8.E0).tr pn xe) (i := 1) (pos := p9) (pos' := p4) nd rfl lf (pe_tup (pos := p8) (x1 := kk) (pa_cons (pe_str (x := "told") (j := j2) (pos := p5)) (pa_cons hp pa_nil))) (by rfl) (.inr hfo))
    exact st.run pins s' σ H' D I ⟨h1, h2, h3⟩
  case suiteB =>
    refine ⟨fun pins s' σ H' D I hh => ?_⟩
    obtain ⟨h1, h2⟩ := hh I.len
    obtain ⟨vs, hv⟩ := hf
    have hot : L2H.Hot1 (X.A.deeper (envOfC x sg s.heap.objs.size g cdg) |>.mark (some (.ref a))) (a, oe) := ⟨rfl, vs, hv, hz.2.2 vs hv⟩
    have rm : L2H.RoomH kn ((X.A.deeper (envOfC x sg s.heap.objs.size g cdg)).mark (some (.ref a))) := ⟨(L2H.roomH_of (room.mono hkn)).dp, (L2H.roomH_of (room.mono hkn)).un⟩
    have call := pe_callHp (X := ((cxOf C8.CX0 X.prog X.w X.K X.mg X.base ["door", "found", "e"] x sg g cdg X.A X.stack s H C8.E0).nox).suite a ((a, oe) :: pn)) (x := "_law_name_of") (q := p12) (pos := p14) (p := (a, oe)) G rm hot (List.mem_cons_self ..) hnf hmn hkp hbn passes0N (pe_var (i := 2) (pos := p13) rfl ve)
    have st := pss_one (ps_set (X := ((cxOf C8.CX0 X.prog X.w X.K X.mg X.base ["door", "found", "e"] x sg g cdg X.A X.stack s H C8.E0).nox).suite a ((a, oe) :: pn)) (i := 1) (pos := p15) (pos' := p11) nd rfl lf call (by rfl) (.inr hfo))
    exact st.run pins s' σ H' D I ⟨.ref a, h1, h2 oe hz ⟨vs, hv⟩⟩
  case fin =>
    have hst : L2.start ["door", "found", "e"] [V.ref f] = [some (.ref f), none, none] := rfl
    rw [hst]
    refine ⟨_, fun cls d σ' H' he => ?_, rfl, hc, h _ fun v H' k => ⟨by decide, fun p hp => ⟨_, rfl, k p hp⟩⟩⟩
    obtain ⟨c, e1, e2, e3⟩ := he
    refine ⟨c, hK ▸ e1, fun hcT a na hl => ?_, fun hcF => (e3 hcF).elim⟩
    rw [List.length_set] at hl
    obtain ⟨v0, v1, v2, rfl⟩ : ∃ v0 v1 v2, σ' = [v0, v1, v2] := by
      match σ', hl with
      | [a, b, c], _ => exact ⟨a, b, c, rfl⟩
    refine ⟨rfl, fun oe hz hf => ?_⟩
    obtain ⟨F, nm, is, z, ev, hv, ht, ea, ho, hdc, hE0, q⟩ := e2 hcT (a, oe) hz hf na
    exact ⟨F, nm, is, z, rfl, hv, ht, ea, ho, hdc, hE0, fun F' H'' R => ⟨_, rfl, q F' H'' R⟩⟩
end
/-! ### trying an expression -/
def hideO : Sl → Sl
  | .ow _ => .no
  | .io _ => .no
  | s => s
def eTry (nameOf : Ex → Option Str) (f : EM) : EM := fun env => match f (env.map hideO) with
  | some (.ok ((_, d), _)) => rok (false, .tuple [.str "told", d]) env
  | some (.error x) => (match nameOf x with
    | some z => rok (false, .str z) env
    | none => none)
  | none => none
section
variable {m : Md} {g : Gc} {E : XK} {F F' : Fv} {H H' : Hp} {σ : L2.St} {env : Ev}
theorem view_frm {io : Option Addr} (v : View F H) (h : Frm H none [] H') : View F H' := fun b d e => by
  obtain ⟨o, r, z⟩ := v b d e
  refine ⟨o, ?_, z⟩
  have nt : ∀ ps, o ≠ .tbl ps := fun ps q => by subst q; exact z.elim
  rcases r with r | r
  · exact .inl (h b o r (fun z => nomatch z) nt (by simp))
  · obtain ⟨ik, ob, r⟩ := r
    exact .inr ⟨ik, ob, h b (.frz ob o) r (fun z => nomatch z) (fun ps q => by cases q) (by simp)⟩
theorem SR.hidden (S : SR m g F H σ env) : SR m (gAt F H none) F H σ (env.map hideO) := by
  refine ⟨S.view, .refl F, fun b h => .inl h, fun b o e _ _ _ => e, fun q hq => absurd (show q ∈ ([] : List (Addr × Obj × HO)) from hq) (by simp), (fun _ z => nomatch z), fun b e => e, S.tabs, by rw [List.length_map]; exact S.len, fun i sl e => ?_, fun i j b hi => ?_⟩
  · rw [List.getElem?_map] at e
    cases q : env[i]? with
    | none => rw [q] at e; cases e
    | some s0 =>
      rw [q] at e
      obtain ⟨v, e1, z⟩ := S.slot i s0 q
      refine ⟨v, e1, ?_⟩
      cases e
      cases s0 <;> first | exact z | trivial
  · obtain ⟨_, ⟨d, z⟩ | ⟨d, z⟩⟩ := hi <;>
    · rw [List.getElem?_map] at z
      cases q : env[i]? with
      | none => rw [q] at z; cases z
      | some s0 => rw [q] at z; cases s0 <;> cases z
theorem SR.framed (S : SR m g F H σ env) (h : Frm H none [] H') (d : ∀ b, H' b = none → H b = none) (t : LamX.Tabs m.T H') : SR m g F H' σ env :=
  S.called ⟨view_frm (io := none) S.view h, .refl F, fun b h => .inl h, h, d, t⟩
/-- what is told of the names: of an exception x that leaves, its class is a TripError, and the def says z of it -/
def NamesOk (m : Md) (names : List Str) (n : Nat) (b : Addr → (Str → Bool) → SM) (CT : Addr) (nameOf : Ex → Option Str) : Prop := ∀ x z, nameOf x = some z → ∀ C, m.mg x.name = some (.ref C) → PySem.W.exmOne m.K (.ref C) (.ref CT) = some true ∧
  ∃ is, (∀ p : Addr × Obj, p.2.cls = .ref C → (∃ vs, p.2.data = .fields vs) → ExcAtt m names x.name is p) ∧ ∀ a, outOf (b a is (.ptr a :: List.replicate (n - 1) .no)) = some (.ok (false, .str z))
theorem rd_try {names : List Str} {n : Nat} {b : Addr → (Str → Bool) → SM} {CT : Addr} {nameOf : Ex → Option Str} {f : EM} {Q : VK} (hn : NamesOk m names n b CT nameOf) (q : dE m E (eTry nameOf f) σ H Q) : HX.tLamN m.T (TTry m names n b CT) (fun E' => dE m E' f) σ H Q := by
  obtain ⟨g, F, env, S, P⟩ := q
  refine ⟨S.tabs, fun H1 eN bk T1 R hR => ?_⟩
  have S1 : SR m g F H1 σ env := S.framed (fun b o e _ nt _ => eN b o e nt) bk T1
  refine ⟨gAt F H1 none, F, _, S1.hidden, ?_⟩
  unfold eTry at P
  cases e : f (env.map hideO) with
  | none => rw [e] at P; exact P.elim
  | some r =>
    rw [e] at P
    cases r with
    | ok o =>
      obtain ⟨⟨own, d⟩, e2⟩ := o
      intro v F' H' l S' vo
      refine hR v H' fun p hp => ?_
      obtain ⟨F'', l2, S'', rp⟩ := vo.frozen S'
      obtain ⟨S3, r3⟩ := (S1.called S''.ret).allocFz (o := .tup [.str "told", v]) (d := .tuple [.str "told", d]) hp (.cons rfl (.cons rp .nil))
      exact P _ _ _ ((l.trans l2).trans (fput_le (S''.view.none hp))) S3 r3
    | error x =>
      simp only at P
      cases en : nameOf x with
      | none => rw [en] at P; exact P.elim
      | some z =>
        rw [en] at P
        have hC := hn x z en
        intro cls dd H' fr xo
        obtain ⟨C, c1, c2, c3⟩ := xo
        obtain ⟨k1, is, k2, k3⟩ := hC C c1
        subst c2
        have S2 : SR m g F H' σ env := S1.framed fr.frame fr.dom fr.tabs
        refine ⟨true, k1, fun _ p hz hfl _ => ⟨F, x.name, is, z, rfl, S2.view, S2.tabs, k2 p hz.1 hfl, k3 p.1, fun d hd => ?_, fun _ _ _ z => z, fun F'' H'' RR => ?_⟩, fun z => nomatch z⟩
        · have e : some d = dd := hd.symm.trans hz.2.1
          subst e
          split at c3
          · cases c3
          · obtain ⟨d', e, h⟩ := c3
            cases e
            exact ⟨_, h⟩
        exact P _ _ _ RR.ext (S2.called RR) rfl
end
/-- the text's def `_law_try` -/
structure TryF (P : Program) (w : World) (K : PySem.W.Frag) (mg : Str → Option Value) (base : Heap) (m : Md) (names : List Str) (n kn : Nat) (b : Addr → (Str → Bool) → SM) (CT : Addr) (st : Stmt) : Prop where
  ex : ∃ (g fn : Addr) (fd fdn : FuncData), mg "_law_try" = some (.ref g) ∧ Fun K "_law_try" "_law_try" st g fd ∧ PySem.W.keepIn K (.ref g) = true ∧ L2.Binds K fd ["door"] [] ∧
    FnHp P w K mg base (L2N.CX P w) kn fn fdn ["e"] (spN m names n b) ∧ mg "_law_name_of" = some (.ref fn) ∧ PySem.W.keepIn K (.ref fn) = true ∧ L2.Binds K fdn ["e"] []
  te : mg "TripError" = some (.ref CT)
  sc : FnScope ["door", "found", "e"] ["door"] (defScope st)
section
variable {X : Cx} {m : Md} {E : XK}
theorem d_try {names : List Str} {n kn k : Nat} {b : Addr → (Str → Bool) → SM} {CT c P : Addr} {st : Stmt} {nameOf : Ex → Option Str} {f : EM} {j j2 kk : Nat} {p1 p2 p3 p4 p5 p6 p7 p8 p9 p10 p11 p12 p13 p14 p15 p16 p17 p18 p19 p lpos pos : Pos} {params : Arguments} {body : Expr} {scope : Scope}
    (T : TryF X.prog X.w X.K X.mg X.base m names n kn b CT st) (hK : m.K = X.K) (hn : NamesOk m names n b CT nameOf) (hkn : kn ≤ k + 1)
    (hbd : defBody st = [.Assign [.Name "found" p1] (.Constant .none j p2) p3,
       .Try [.Assign [.Name "found" p4] (.Tuple [.Constant (.str "told") j2 p5, .Call (.Name "door" p6) [] [] p7] kk p8) p9] [.ExceptHandler (some (.Name "TripError" p10)) (some "e") [.Assign [.Name "found" p11] (.Call (.Name "_law_name_of" p12) [.Name "e" p13] [] p14) p15] p16] [] [] p17,
       .Return (some (.Name "found" p18)) p19])
    (hdoor : Vis (defScope st) "door") (hfo : (defScope st).names.lookup ("found" : Str) = some .local) (hen : (defScope st).names.lookup ("e" : Str) = some .local) (hte : (defScope st).names.lookup ("TripError" : Str) = some .globalImplicit) (hnf : (defScope st).names.lookup ("_law_name_of" : Str) = some .globalImplicit) (hkind : (defScope st).kind = .function)
    (hg : Gl X "_law_try") (TB : TabB X.base X.mg c P) (hcode : X.env.code = .ref c) (hmT : (P, X.env.qual ++ "<lambda>") ∈ m.T) (hu : ∀ p ∈ m.T, p.1 = P → p.2 = X.env.qual ++ "<lambda>") (hr : Room (k + 2) X.A) (L : LamS X.env.scope scope) (hdef : defaultsOf params X.env = ([], []))
    (hbind : ∀ (q : Str) (cl : List (Str × Addr)) (pm cv ctv : Value), bindArgs (PySem.W.kla_fn "<lambda>" q params body scope cl pm cv ctv) ⟨[], []⟩ = pure [])
    (hbody : ∀ (A : Around) (outer : List Env) (s : Shared) (H : Hp) (E : XK) (f0 c' : Addr), Room k (A.deeper (lamEnv X scope s.heap.objs.size f0 c')) → PE (HX.lamN X A outer s H E scope f0 c') body (dE m E f)) :
    PE X (.Call (.Name "_law_try" p) [.Lambda params body scope lpos] [] pos) (dE m E (eTry nameOf f)) := by
  obtain ⟨g, fn, fd, fdn, h1, G, h2, h3, h4, h5, h6, h7⟩ := T.ex
  obtain ⟨o1, o2, v1, v2, v3, v4, v5, v6, v7, e, look, code⟩ := G.ex
  subst e
  refine PE.imp (HX.pe_lamN (T := m.T) (TT := TTry m names n b CT) (t := fun E' => dE m E' f) hg h1 h2 look code h3 T.sc rfl hdoor ?_ TB hcode hmT hu hr L hdef hbind hbody) fun σ H Q => rd_try hn
  rw [hbd]
  exact gives_try hK hdoor hfo hen hte hnf hkind T.te h4 hkn h5 h6 h7
end
end DL

/-! The data layer, part w: the head's facts, with a def's table of code objects and one more Bool. -/
namespace HM
open PySem PySem.Spec PyProof.Rows L2 He
structure SaysM (fa : List Fa) (fn : List FnD) (tf : List Defn) (ex : PySem.W.Frag → Bool) (h : Heap) (K : PySem.W.Frag) : Prop where
  e : SaysE fa fn K
  more : ex K = true
  hd : ∀ p ∈ tf, PySem.W.codeHdIn K (cT K p).1 (cT K p).2 = true
  out : ∀ p ∈ tf, K.lookup (cT K p).2 = none
  empty : ∀ p ∈ tf, h.get? (cT K p).2 = some { cls := .none, data := .fields #[] }
abbrev AlM : Type := Al × Bool
def obsM (n : Nat) (fa : List Fa) (fn : List FnD) (tf : List Defn) (ex : PySem.W.Frag → Bool) (g : Addr → Option Obj) : AlM := (obsE fa fn (frT g (asG g n)), ex (frT g (asG g n)) && tabsB g tf (frT g (asG g n)))
theorem says_of {n : Nat} {fa : List Fa} {fn : List FnD} {tf : List Defn} {ex : PySem.W.Frag → Bool} {h : Heap} (e : obsM n fa fn tf ex h.get? = (valE fn, true)) : SaysM fa fn tf ex h (frT h.get? (asG h.get? n)) := by
  have e1 : obsE fa fn (frT h.get? (asG h.get? n)) = valE fn := congrArg (fun z : AlM => z.1) e
  have e2 : (ex (frT h.get? (asG h.get? n)) && tabsB h.get? tf (frT h.get? (asG h.get? n))) = true := congrArg (fun z : AlM => z.2) e
  obtain ⟨h1, h2⟩ := ba e2
  have each : ∀ p ∈ tf, PySem.W.codeHdIn (frT h.get? (asG h.get? n)) (cT (frT h.get? (asG h.get? n)) p).1 (cT (frT h.get? (asG h.get? n)) p).2 = true ∧ ∃ o, h.get? (cT (frT h.get? (asG h.get? n)) p).2 = some o ∧ emptyTab o = true := fun p hp => by
    obtain ⟨k1, k2⟩ := ba (List.all_eq_true.mp h2 p hp)
    refine ⟨k1, ?_⟩
    cases q : h.get? (cT (frT h.get? (asG h.get? n)) p).2 with
    | none => rw [q] at k2; cases k2
    | some o => rw [q] at k2; exact ⟨o, rfl, k2⟩
  refine ⟨e1, h1, fun p hp => (each p hp).1, fun p hp => ?_, fun p hp => ?_⟩
  · obtain ⟨_, o, q, z⟩ := each p hp; exact frT_none q z
  · obtain ⟨_, o, q, z⟩ := each p hp; rw [q, emptyTab_eq z]
def hookM (n : Nat) (fa : List Fa) (fn : List FnD) (tf : List Defn) (ex : PySem.W.Frag → Bool) : PySem.W.Hook where
  α := AlM
  obs := fun s => obsM n fa fn tf ex s.heap.get?
  val := fun _ => (valE fn, true)
  says := fun _ h => ∃ K : PySem.W.Frag, K.In h ∧ SaysM fa fn tf ex h K
  of := fun _ _ e => ⟨_, frT_in, says_of e⟩
  keeps := fun _ _ _ ⟨K, hK, c⟩ k => ⟨K, PySem.W.Frag.In.keeps hK k, ⟨c.e, c.more, c.hd, c.out, fun p hp => k _ _ (c.empty p hp)⟩⟩
theorem obsM_eq {n : Nat} {fa : List Fa} {fn : List FnD} {tf : List Defn} {ex : PySem.W.Frag → Bool} {g : Addr → Option Obj} {s : Shared} (h : ∀ a, g a = s.heap.get? a) : obsM n fa fn tf ex g = (hookM n fa fn tf ex).obs s := by
  have e : g = s.heap.get? := funext h
  rw [e] <;> rfl
end HM
namespace HM
open PySem PySem.Spec PyProof.Rows L2 He
/-- what the head has to say of an exception class nm of the text: isinstance asks its instances rightly; isL: of which of the names it is -/
def excB (names isL : List Str) (nm : Str) (K : PySem.W.Frag) : Bool :=
  eqO (PySem.W.findIn K (.ref (ga K nm)) "__getattribute__") (some (some (.builtin "BaseException.__getattribute__"))) && (eqO (PySem.W.findIn K (.ref (ga K nm)) "__getattr__") (some none) && (decide (PySem.W.subIn K (.ref (ga K nm)) (.type "BaseException") = some true) && (PySem.W.hasDictIn K (ga K nm) &&
  (eqO (PySem.W.findIn K (.ref (ga K nm)) "__class__") (some (some (.builtin "object.__class__"))) && (eqO (PySem.W.specialIn K (.builtin "object.__class__") "__get__") (some (some (.builtin "getset_descriptor.__get__"))) && (decide (PySem.W.takesIn K (.builtin "object.__class__") = some true) && (decide (PySem.W.mroIn K (ga K nm) (.type "object") = some true) &&
  ((names.all fun x => decide (PySem.W.kitOne K (.ref (ga K nm)) (.ref (ga K x)) = some (isL.contains x))) && (decide (PySem.W.kitOne K (.ref (ga K nm)) (.type "ValueError") = some true) && decide (PySem.W.exmOne K (.ref (ga K nm)) (.ref (ga K "TripError")) = some true))))))))))
theorem excB_ok {names isL : List Str} {nm : Str} {K : PySem.W.Frag} (h : excB names isL nm K = true) : ExcC K (ga K nm) ∧ (∀ x ∈ names, PySem.W.kitOne K (.ref (ga K nm)) (.ref (ga K x)) = some (isL.contains x)) ∧ PySem.W.kitOne K (.ref (ga K nm)) (.type "ValueError") = some true ∧ PySem.W.exmOne K (.ref (ga K nm)) (.ref (ga K "TripError")) = some true := by
  obtain ⟨a1, h⟩ := ba h
  obtain ⟨a2, h⟩ := ba h
  obtain ⟨a3, h⟩ := ba h
  obtain ⟨a4, h⟩ := ba h
  obtain ⟨a5, h⟩ := ba h
  obtain ⟨a6, h⟩ := ba h
  obtain ⟨a7, h⟩ := ba h
  obtain ⟨a8, h⟩ := ba h
  obtain ⟨a9, h⟩ := ba h
  obtain ⟨a10, a11⟩ := ba h
  exact ⟨⟨eqO_ok a1, eqO_ok a2, of_decide_eq_true a3, a4, eqO_ok a5, eqO_ok a6, of_decide_eq_true a7, of_decide_eq_true a8⟩, fun x hx => of_decide_eq_true (List.all_eq_true.mp a9 x hx), of_decide_eq_true a10, of_decide_eq_true a11⟩
end HM
namespace DL
open PySem PySem.Spec PyProof.Rows L2
section
variable {X : Cx} {m : Md} {E : XK} {pos p1 p2 p3 : Pos}
theorem d_isPx (i : Nat) {y x : Str} {D : Addr} {b : Bool} {p : Addr × Obj} (hk : ∃ C, X.mg x = some (.ref C) ∧ PySem.W.kitOne X.K (.ref D) (.ref C) = some b) (ec : ExcC X.K D) (hp : p ∈ X.pn) (hz : p.2.cls = .ref D) (hf : ∃ vs, p.2.data = .fields vs) (hd2 : DctP X p) (hi : Gl X "isinstance") (hmi : X.mg "isinstance" = none) (hx : Gl X x)
    (hN : X.N[i]? = some y := by rfl) (hv : Vis X.env.scope y := by first | exact Or.inl rfl | exact Or.inr (Or.inl rfl) | exact Or.inr (Or.inr rfl)) (hd : (y == ("__debug__" : Str)) = false := by decide) (hcd : (y == ("__classdict__" : Str)) = false := by decide) (hdx : (x == ("__debug__" : Str)) = false := by decide)
    (hs : starEach [.Name y p1, .Name x p2] X.env = (false, eval (.Name y p1) X.env) :: starEach [.Name x p2] X.env := by rfl) (hs2 : starEach [.Name x p2] X.env = (false, eval (.Name x p2) X.env) :: starEach [] X.env := by rfl) (hpl : (backTo pos (starEach [.Name x p2] X.env)).any (·.1) = false := by rfl) :
    PE X (.Call (.Name "isinstance" p3) [.Name y p1, .Name x p2] [] pos) (dE m E (eIsX i p.1 b)) := by
  obtain ⟨C, h1, h2⟩ := hk
  exact d_isP i ec hp hz hf hd2 h2 hi hmi hx h1 hN hv hd hcd hdx hs hs2 hpl
end
end DL

/-! The data layer, part v: defs whose code object is known (lambdas in them); the text's def that tries; enumerate of tuples and texts. -/
namespace DL
open PySem PySem.Spec PyProof.Rows L2
section
variable {P : Program} {w : World} {K : PySem.W.Frag} {mg : Str → Option Value} {base : Heap} {m : Md}
theorem fun_okC {x q : Str} {st : Stmt} {f c : Addr} {fd : FuncData} {N ps : List Str} {k : Nat} {sp : Sp} (G : Fun K x q st f fd) (hcd : fd.code = .ref c) (S : FnScope N ps (defScope st)) (ln : ∀ vs H Q E, sp vs H Q E → vs.length = ps.length)
    (hb : ∀ (A : Around) (outer : List Env) (s : Shared) (H : Hp) (vs : List V) (Q : VK) (E : XK), Room k (A.deeper (envOfC q (defScope st) s.heap.objs.size f (.ref c))) → sp vs H Q E →
      ∃ t, PSs (cxOf (L2N.CX P w) P w K mg base N q (defScope st) f (.ref c) A outer s H E) (defBody st) t ∧ t { nx := fun _ H' => Q .non H', rt := Q } (L2.start N vs) H) : FnOk P w K mg base (L2N.CX P w) (k + 1) f fd ps sp := by
  obtain ⟨o1, o2, v1, v2, v3, v4, v5, v6, v7, e, look, code⟩ := G.ex
  subst e
  have e5 : v5 = .ref c := hcd
  subst e5
  exact fn_of look code S ln fun A outer s H vs Q E hr hsp => hb A outer s H vs Q E hr hsp
theorem fn_defC {x qual : Str} {st : Stmt} {f c : Addr} {fd : FuncData} {N ps : List Str} {k n p : Nat} {b : SM} (F : Fun K x qual st f fd) (hcd : fd.code = .ref c) (S : FnScope N ps (defScope st)) (hn : N.length = n) (hp : ps.length = p) (hpn : p ≤ n)
    (hb : ∀ (A : Around) (outer : List Env) (s : Shared) (H : Hp) (E : XK), Room k (A.deeper (envOfC qual (defScope st) s.heap.objs.size f (.ref c))) → PSs (cxOf (L2N.CX P w) P w K mg base N qual (defScope st) f (.ref c) A outer s H E) (defBody st) (dS m E b)) :
    FnOk P w K mg base (L2N.CX P w) (k + 1) f fd ps (spD m (mkFn n p b)) :=
  fun_okC F hcd S (fun vs H Q E h => by rw [hp]; exact len_def h) fun A outer s H vs Q E hr h => ⟨_, hb A outer s H E hr, pure_def hn hpn h⟩
theorem fn_lawC {T : List (Addr × Str)} {x qual : Str} {st : Stmt} {f c : Addr} {fd : FuncData} {N ps : List Str} {k n : Nat} {b : SM} (F : Fun K x qual st f fd) (hcd : fd.code = .ref c) (S : FnScope N ps (defScope st)) (hn : N.length = n) (hp : ps.length = 1) (hpn : 1 ≤ n) (hb' : LawTrue n b)
    (hb : ∀ (A : Around) (outer : List Env) (s : Shared) (H : Hp) (E : XK), Room k (A.deeper (envOfC qual (defScope st) s.heap.objs.size f (.ref c))) → PSs (cxOf (L2N.CX P w) P w K mg base N qual (defScope st) f (.ref c) A outer s H E) (defBody st) (dS ⟨K, mg, T⟩ E b)) :
    FnOk P w K mg base (L2N.CX P w) (k + 1) f fd ps (spLaw K T) :=
  fun_okC F hcd S (fun vs H Q E h => by obtain ⟨a, ns, rfl, _⟩ := h; rw [hp]; rfl) fun A outer s H vs Q E hr h => ⟨_, hb A outer s H E hr, pure_law hn hpn hb' h⟩
/-- a def as the head's facts tell it, with its code object -/
theorem okf_funC {h : Heap} (KX : K.In h) (G : h.Ns mainGlobals mg) {fa : List He.Fa} {fn : List He.FnD} (c : He.SaysE fa fn K) (i j l : Nat) {x : Str} {st : Stmt} (h1 : fn[i]? = some ⟨(x, none), x, x, defArgs st, defBody st, defScope st⟩) (h2 : fa[j]? = some (.glo x)) (h3 : fa[l]? = some (.keep x)) :
    ∃ f fd, Fun K x x st f fd ∧ mg x = some (.ref f) ∧ fd.code = .ref (He.cT K (x, none)).1 := by
  obtain ⟨oc, od, osl, kV, doc, pm, an, cdv, ct, e1, e2⟩ := c.def_ i h1
  obtain ⟨c0, rfl⟩ := He.codeIn_ref e2
  exact ⟨_, _, fun_mk e1 e2 (He.keep_ok (c.fact l h3)), He.glo_ok KX G (c.fact j h2), congrArg Value.ref (He.codeOf_eq e1 rfl).symm⟩
end
/-! ### the text's def that tries, told once -/
structure TryS (st : Stmt) : Prop where
  bd : ∃ (j j2 kk : Nat) (p1 p2 p3 p4 p5 p6 p7 p8 p9 p10 p11 p12 p13 p14 p15 p16 p17 p18 p19 : Pos), defBody st = [.Assign [.Name "found" p1] (.Constant .none j p2) p3,
       .Try [.Assign [.Name "found" p4] (.Tuple [.Constant (.str "told") j2 p5, .Call (.Name "door" p6) [] [] p7] kk p8) p9] [.ExceptHandler (some (.Name "TripError" p10)) (some "e") [.Assign [.Name "found" p11] (.Call (.Name "_law_name_of" p12) [.Name "e" p13] [] p14) p15] p16] [] [] p17,
       .Return (some (.Name "found" p18)) p19]
  door : Vis (defScope st) "door"
  fo : (defScope st).names.lookup ("found" : Str) = some .local
  en : (defScope st).names.lookup ("e" : Str) = some .local
  te : (defScope st).names.lookup ("TripError" : Str) = some .globalImplicit
  nf : (defScope st).names.lookup ("_law_name_of" : Str) = some .globalImplicit
  kind : (defScope st).kind = .function
/-- the qualified name of the lambdas of a def at the top -/
def lamQ (x : Str) : Str := (x ++ (".<locals>." : Str)) ++ "<lambda>"
section
variable {X : Cx} {m : Md} {E : XK}
theorem d_tryS {names : List Str} {n kn : Nat} (k : Nat) {b : Addr → (Str → Bool) → SM} {CT c P : Addr} {st : Stmt} {nameOf : Ex → Option Str} {f : EM} {p lpos pos : Pos} {params : Arguments} {body : Expr} {scope : Scope}
    (T : TryF X.prog X.w X.K X.mg X.base m names n kn b CT st) (TS : TryS st) (hK : m.K = X.K) (hn : NamesOk m names n b CT nameOf) (hkn : kn ≤ k + 1)
    (hg : Gl X "_law_try") (TB : LamX.TabB X.base X.mg c P) (hcode : X.env.code = .ref c) (hmT : (P, X.env.qual ++ "<lambda>") ∈ m.T) (hu : ∀ p ∈ m.T, p.1 = P → p.2 = X.env.qual ++ "<lambda>") (hr : Room (k + 2) X.A) (L : LamX.LamS X.env.scope scope) (hdef : defaultsOf params X.env = ([], []))
    (hbind : ∀ (q : Str) (cl : List (Str × Addr)) (pm cv ctv : Value), bindArgs (PySem.W.kla_fn "<lambda>" q params body scope cl pm cv ctv) ⟨[], []⟩ = pure [])
    (hbody : ∀ (A : Around) (outer : List Env) (s : Shared) (H : Hp) (E : XK) (f0 c' : Addr), Room k (A.deeper (LamX.lamEnv X scope s.heap.objs.size f0 c')) → PE (HX.lamN X A outer s H E scope f0 c') body (dE m E f)) :
    PE X (.Call (.Name "_law_try" p) [.Lambda params body scope lpos] [] pos) (dE m E (eTry nameOf f)) := by
  obtain ⟨⟨j, j2, kk, p1, p2, p3, p4, p5, p6, p7, p8, p9, p10, p11, p12, p13, p14, p15, p16, p17, p18, p19, hbd⟩, t1, t2, t3, t4, t5, t6⟩ := TS
  exact d_try T hK hn hkn hbd t1 t2 t3 t4 t5 t6 hg TB hcode hmT hu hr L hdef hbind hbody
end
/-! ### the names that the text gives to exceptions -/
def tabGet : List (Str × Str) → Str → Option Str
  | [], _ => none
  | p :: r, x => if p.1 = x then some p.2 else tabGet r x
theorem tabGet_mem {x z : Str} : ∀ {tab : List (Str × Str)}, tabGet tab x = some z → x ∈ tab.map (·.1)
  | [], h => nomatch h
  | p :: r, h => by
    unfold tabGet at h
    split at h
    · rename_i e
      exact List.mem_cons.mpr (.inl e.symm)
    · exact List.mem_cons_of_mem _ (tabGet_mem h)
def nameBy (tab : List (Str × Str)) : Ex → Option Str := fun x => tabGet tab x.name
theorem names_ok {m : Md} {n : Nat} {b : Addr → (Str → Bool) → SM} {tab : List (Str × Str)} {names : List Str} (hx : ∀ nm ∈ tab.map (·.1), HM.excB names [nm, "ValueError"] nm m.K = true) (hin : ∀ nm ∈ tab.map (·.1), nm ∈ names)
    (g0 : ∀ x ∈ names, m.mg x = some (.ref (He.ga m.K x))) (hN : ∀ nm z, tabGet tab nm = some z → ∀ a, outOf (b a (fun y => [nm, "ValueError"].contains y) (.ptr a :: List.replicate (n - 1) .no)) = some (.ok (false, .str z))) :
    NamesOk m names n b (He.ga m.K "TripError") (nameBy tab) := by
  intro x z h
  have hm := tabGet_mem (show tabGet tab x.name = some z from h)
  obtain ⟨e1, e2, e3, e4⟩ := HM.excB_ok (hx _ hm)
  intro C hC
  rw [g0 _ (hin _ hm)] at hC
  cases hC
  exact ⟨e4, fun y => [x.name, "ValueError"].contains y, fun p hz hfl => ⟨_, g0 _ (hin _ hm), hz, hfl, e1, fun y hy => ⟨_, g0 _ hy, e2 y hy⟩, by rw [e3]; simp⟩, hN _ _ h⟩
end DL

/-! enumerate over a tuple, over a text. -/
namespace HX
open PySem PySem.Spec PyProof.Rows L2
open AutoSeq1 (wpAny_loadPart')
set_option maxHeartbeats 1000000 in
theorem meets_enum1 {v : Value} {o : Obj} {H : Heap → Prop} (B : Begins v o H) :
    Meets (Builtin.«enumerate.__new__» ⟨[.type "enumerate", v], []⟩) (fun _ R s => H s.heap ∧
      R (.ok (.ret (.ref (s.heap.push o).objs.size))) { s with heap := (s.heap.push o).push { cls := .type "enumerate", data := .fields #[.none, .bool false, .ref s.heap.objs.size, rawInt 0, .none, .none] } }) :=
  .of_wp fun prog w A R s h => by
    obtain ⟨hp, g, d, tk, os⟩ := s; obtain ⟨h1, h⟩ := h
    have hsub := sub_enumerate
    have q1 : ∀ {A' : Around} {E : Value → Shared → Prop} {Q : Value → Shared → Prop}, Q (.ref hp.objs.size) ⟨hp.push o, g, d, tk, os⟩ → wpAny (model prog w) A' (pyIter v) Q E ⟨hp, g, d, tk, os⟩ :=
      fun q => B.iter prog w _ _ ⟨hp, g, d, tk, os⟩ _ h1 q
    wp_walk using q1
    refine wpAny_stack_any fun st => wpAny_pure ?_
    split
    · rename_i c _ _ _ _ _
      cases (c == Value.type "enumerate")
      · wp_walk using q1
        exact ⟨_, rfl, h⟩
      · wp_walk using q1
        exact ⟨_, rfl, h⟩
    · wp_walk using q1
      exact ⟨_, rfl, h⟩
theorem call_enum1 {prog : Program} {w : World} {A : Around} {E : Value → Shared → Prop} {s : Shared} {v : Value} {o : Obj} {H : Heap → Prop} {Q : Value → Shared → Prop} (B : Begins v o H) (h1 : H s.heap)
    (h : ∀ h', IsEnum h' (s.heap.objs.size + 1) s.heap.objs.size 0 .none → h'.get? s.heap.objs.size = some o → h'.objs.size = s.heap.objs.size + 2 →
      (∀ b o, s.heap.get? b = some o → h'.get? b = some o) → Q (.ref (s.heap.objs.size + 1)) { s with heap := h' }) :
    wpAny (model prog w) A (call (.type "enumerate") [v]) Q E s := by
  refine callType_new F.called_enumerate (by decide) (F.typeCall_enumerate_1 _) (F.newCall_enumerate_1 _) (fun obj => F.args_object_init_2 obj _) F.entry_enumerate_new
    (meets_enum1 B) ⟨h1, ?_⟩
  have hz : (s.heap.push o).objs.size = s.heap.objs.size + 1 := Heap.size_push ..
  show _ ∧ _
  rw [hz]
  have he : IsEnum ((s.heap.push o).push { cls := .type "enumerate", data := .fields #[.none, .bool false, .ref s.heap.objs.size, rawInt 0, .none, .none] }) (s.heap.objs.size + 1) s.heap.objs.size 0 .none := by
    have := Heap.get?_push_size (s.heap.push o) (o := { cls := .type "enumerate", data := .fields #[.none, .bool false, .ref s.heap.objs.size, rawInt 0, .none, .none] }) rfl
    rw [hz] at this; exact this
  refine ⟨⟨_, he, rfl⟩, h _ he (Heap.get?_push_of_some _ (Heap.get?_push_size _ B.free)) (by rw [Heap.size_push, hz]) fun b o x => Heap.get?_push_of_some _ (Heap.get?_push_of_some _ x)⟩
/-- the items (i, x), x told by at: each in a new pair -/
def Iei (st go : Nat → Hp → Prop) (at_ : Nat → Hp → V → Prop) : It :=
  ⟨go, fun i H v H' => ∃ T x, v = .ref T ∧ H T = none ∧ H' = upd H T (.tup [.int (i : Nat), x]) ∧ at_ i H x, st⟩
/-- what an inner iterator does, told turn by turn -/
structure Inner (P : Program) (w : World) (K : PySem.W.Frag) (it : Addr) (SI : Nat → Heap → Prop) (st go : Nat → Hp → Prop) (at_ : Nat → Hp → V → Prop) : Prop where
  obj : ∀ i h, SI i h → ∃ o, h.get? it = some o ∧ ∀ v, o.data ≠ .cell v
  keep : ∀ i h h', SI i h → (∀ o, h.get? it = some o → h'.get? it = some o) → SI i h'
  item : ∀ (X : Cx), X.prog = P → X.w = w → X.K = K → ∀ (pins : List (Addr × Obj)) (s : Shared) (σ : L2.St) (H : Hp) (i : Nat), Inv X pins σ H s → SI i s.heap → go i H → H it = none → ∀ e, H e = none →
    ∃ (fp : List Addr) (n : Nat) (Pv : Nat → Value → Prop) (St : Nat → Heap → Prop), (∀ A : Around, A.handled = none → Draws P w A it fp n Pv St) ∧ St i s.heap ∧ i < n ∧ (e ≠ it → e ∉ fp) ∧ (∀ h', St (i + 1) h' → SI (i + 1) h') ∧ ∀ u, Pv i u → ∃ x, RelV x u ∧ at_ i H x
  done : ∀ (X : Cx), X.prog = P → X.w = w → X.K = K → ∀ (pins : List (Addr × Obj)) (s : Shared) (σ : L2.St) (H : Hp) (i : Nat), Inv X pins σ H s → SI i s.heap → st i H →
    ∃ (fp : List Addr) (Pv : Nat → Value → Prop) (St : Nat → Heap → Prop) (n : Nat), (∀ A : Around, A.handled = none → Draws P w A it fp n Pv St) ∧ St n s.heap
theorem turn_enumI {P : Program} {w : World} {K : PySem.W.Frag} {elts : List Expr} {kk : Nat} {tpos : Pos} {e it : Addr} {SI : Nat → Heap → Prop} {stp go : Nat → Hp → Prop} {at_ : Nat → Hp → V → Prop} (N : Inner P w K it SI stp go at_) :
    Turn P w K (.Tuple elts kk tpos) (Iei stp go at_) [e, it] e (fun i h => (∃ old, IsEnum h e it ((i : Nat) : Int) old) ∧ SI i h ∧ e ≠ it) where
  mem := by simp
  obj := fun i h st b hb => by
    obtain ⟨⟨old, he⟩, hs, _⟩ := st
    have e' : b = e ∨ b = it := by simpa using hb
    rcases e' with z | z
    · rw [z]; exact ⟨_, he, fun v q => nomatch q⟩
    · rw [z]; exact N.obj _ _ hs
  keep := fun i h h' st k => let ⟨⟨old, he⟩, hi, hne⟩ := st; ⟨⟨old, k e (by simp) _ he⟩, N.keep _ _ _ hi fun o q => k it (by simp) o q, hne⟩
  item := by
    intro X hP hw hK hc i pins s σ H E I hf st hg
    subst hP hw hK
    obtain ⟨⟨old, he⟩, hit, hne⟩ := st
    have hel : e < s.heap.objs.size := Heap.lt_size he
    have hil : it < s.heap.objs.size := by obtain ⟨_, q, _⟩ := N.obj _ _ hit; exact Heap.lt_size q
    obtain ⟨fp, n, Pv, St, D, hSt, hlt, hef, hnx, hitem⟩ := N.item X rfl rfl rfl pins s σ H i I hit hg (hf it (by simp)).1 e (hf e (by simp)).1
    refine wpAny_pyNext_enum_itemC (D X.A.in1 (I.ok.hd hc)) he hSt hlt hne (hef hne) fun u h' tk hPu ho hit' hT hsz hk => ?_
    obtain ⟨x, ru, hat⟩ := hitem u hPu
    refine ⟨_, rfl, wpAny_letOwnedTupleGo_enum (s := { s with heap := h', toks := tk + 1 }) ho fun h'' he' sb => ?_⟩
    have hT2 : h''.get? s.heap.objs.size = some { cls := .type "tuple", data := .seq #[.int i tk, u] } := (sb.2 _ (Nat.ne_of_gt hel)).trans hT
    have new : ObjOk X.prog X.w (upd H s.heap.objs.size (.tup [.int (i : Nat), x])) h'' s.heap.objs.size (.tup [.int (i : Nat), x]) :=
      ⟨by show 2 ≤ sizeLine; decide, [.int i tk, u], .cons ⟨_, rfl⟩ (.cons ru .nil), ⟨_, hT2, rfl, _, rfl⟩⟩
    have I1 : Inv X pins σ (upd H s.heap.objs.size (.tup [.int (i : Nat), x])) { s with heap := h'', toks := tk + 1 } :=
      I.turnedNew (ch := [e, it]) (fun b ob hb q => (sb.2 b (fun z => hb (by simp [z]))).trans (hk b ob (fun z => hb (by simp [z])) (fun z => hb (by simp [z])) q)) hf (Nat.le_refl _) new
    refine ⟨.ref s.heap.objs.size, _, I1, rfl, ⟨_, x, rfl, I.hok.fresh (Nat.le_refl _), rfl, hat⟩, ⟨⟨u, ?_⟩, N.keep _ _ _ (hnx _ hit') fun o q => (sb.2 it (Ne.symm hne)).trans q, hne⟩, fun b hb => ?_⟩
    · have e1 : ((i + 1 : Nat) : Int) = (i : Int) + 1 := by omega
      rw [e1]; exact he'
    · have hb' : b < s.heap.objs.size := by
        have e' : b = e ∨ b = it := by simpa using hb
        rcases e' with z | z
        · rw [z]; exact hel
        · rw [z]; exact hil
      rw [upd_ne (Nat.ne_of_lt hb')]
      exact (hf b hb).1
  done := by
    intro X hP hw hK hc i pins s σ H E I hf st hg
    subst hP hw hK
    obtain ⟨⟨old, he⟩, hit, hne⟩ := st
    obtain ⟨fp, Pv, St, n, D, hSt⟩ := N.done X rfl rfl rfl pins s σ H i I hit hg
    obtain ⟨f0, f1, f2, f3, f4, f5⟩ := hf it (by simp)
    exact wpAny_pyNext_enum_endD (D X.A.in1 (I.ok.hd hc)) he hSt fun h' eb => ⟨rfl, I.turned (t' := s.toks) (fun b o hb q => eb b o hb q) f0 f1 f3 f4 f5⟩
  self := fun A i s Q E st h => let ⟨⟨_, he⟩, _⟩ := st; wpAny_pyIter_enum he h
theorem inner_tup {P : Program} {w : World} {K : PySem.W.Frag} {a it : Addr} : Inner P w K it (fun i h => h.IsTupleIter it a i) (fun i H => ∃ xs : List V, SqT K H a xs ∧ xs.length ≤ i ∧ ∃ o, H a = some o) (fun i H => ∃ (xs : List V) (x : V), SqT K H a xs ∧ xs[i]? = some x ∧ ∃ o, H a = some o) (fun i H x => ∀ xs, SqT K H a xs → xs[i]? = some x) where
  obj := fun i h st => by
    obtain ⟨o, e, c, d⟩ := st
    exact ⟨o, e, fun v z => by rw [d] at z; cases z⟩
  keep := fun i h h' st k => st.at fun o e => k o e
  item := by
    intro X hP hw hK pins s σ H i I st hg hn e he
    subst hP hw hK
    obtain ⟨xs, x, hq, hx, ob, hH⟩ := hg
    obtain ⟨its, rv, p, hz⟩ := I.tuple hq
    have hai : a ≠ it := fun z => by rw [z, hn] at hH; cases hH
    have hae : e ≠ a := fun z => by rw [← z, he] at hH; cases hH
    obtain ⟨u, hu, ru⟩ := rv.get hx
    have hl : i < its.toArray.size := by
      rw [List.size_toArray]
      exact (List.getElem?_eq_some_iff.mp hu).1
    refine ⟨[it, a], _, _, _, fun A hA => Draws.tuple hA it a hai its.toArray, ⟨st, p⟩, hl, fun z => by simp [z, hae], fun h' z => z.1, fun u' hu' => ⟨x, ?_, fun ys hy => by rw [I.tuple_inj hy hq]; exact hx⟩⟩
    have : u' = u := by
      have e1 : its[i]? = some u' := by simpa using hu'
      rw [hu] at e1
      exact (Option.some.inj e1).symm
    rw [this]; exact ru
  done := by
    intro X hP hw hK pins s σ H i I st hg
    subst hP hw hK
    obtain ⟨xs, hq, hx, ob, hH⟩ := hg
    obtain ⟨its, rv, p, hz⟩ := I.tuple hq
    have hl := rv.length
    exact ⟨[it, a], fun _ _ => True, fun j h => j = i ∧ h.IsTupleIter it a i ∧ h.IsTuple a its.toArray, i, fun A hA => ⟨fun j h z => let ⟨o, ho, _⟩ := z.2.1; ⟨o, ho⟩, fun j h h' z k => ⟨z.1, z.2.1.at fun o e => k it (by simp) o e, z.2.2.at fun o e => k a (by simp) o e⟩,
      fun j s Q E hj z => by rw [z.1] at hj; exact absurd hj (Nat.lt_irrefl _), fun s Q E z hE => wpAny_nextOf_tuple_end hA z.2.1 z.2.2 (by simp; omega) hE⟩, rfl, st, p⟩
theorem inner_str {P : Program} {w : World} {K : PySem.W.Frag} {x : Str} {t : Tok} {it : Addr} : Inner P w K it (fun i h => h.IsStrIter it (strIterType x) x t i) (fun i _ => x.cps.size ≤ i) (fun i _ => i < x.cps.size) (fun i _ v => ∃ c, x.cps[i]? = some c ∧ v = .str ⟨#[c]⟩) where
  obj := fun i h st => by
    obtain ⟨o, e, c, d⟩ := st
    exact ⟨o, e, fun v z => by rw [d] at z; cases z⟩
  keep := fun i h h' st k => let ⟨o, ho, r⟩ := st; ⟨o, k o ho, r⟩
  item := by
    intro X hP hw hK pins s σ H i I st hg hn e he
    subst hP hw hK
    refine ⟨[it], _, _, _, fun A hA => Draws.text hA it x t, st, hg, fun z => by simp [z], fun h' z => z, fun u hu => ?_⟩
    obtain ⟨c, u', h1, rfl⟩ := hu
    exact ⟨.str ⟨#[c]⟩, ⟨u', rfl⟩, c, h1, rfl⟩
  done := by
    intro X hP hw hK pins s σ H i I st hg
    subst hP hw hK
    have hx : x.cps[i]? = none := Array.getElem?_eq_none hg
    refine ⟨[it], fun _ _ => True, fun j h => j = i ∧ h.IsStrIter it (strIterType x) x t i, i, fun A hA => ⟨fun j h z => let ⟨o, ho, _⟩ := z.2; ⟨o, ho⟩, fun j h h' z k => ⟨z.1, let ⟨o, ho, r⟩ := z.2; ⟨o, k it (by simp) o ho, r⟩⟩,
      fun j s Q E hj z => by rw [z.1] at hj; exact absurd hj (Nat.lt_irrefl _), fun s Q E z hE => ?_⟩, rfl, st⟩
    have z := z.2
    cases ha : x.cps.all (· < 128)
    · simp only [strIterType, ha, Bool.false_eq_true, if_false] at z
      exact wpAny_nextOf_wide_end hA z hx hE
    · simp only [strIterType, ha, if_true] at z
      exact wpAny_nextOf_ascii_end hA z hx hE
def Iet (K : PySem.W.Frag) (a : Addr) : It := Iei (fun i H => ∃ xs : List V, SqT K H a xs ∧ xs.length ≤ i ∧ ∃ o, H a = some o) (fun i H => ∃ (xs : List V) (x : V), SqT K H a xs ∧ xs[i]? = some x ∧ ∃ o, H a = some o) (fun i H x => ∀ xs, SqT K H a xs → xs[i]? = some x)
def Ies (x : Str) : It := Iei (fun i _ => x.cps.size ≤ i) (fun i _ => i < x.cps.size) (fun i _ v => ∃ c, x.cps[i]? = some c ∧ v = .str ⟨#[c]⟩)
section
variable {X : Cx}
def iEnumA (K : PySem.W.Frag) (ta : TA) : TI := fun σ H R => ta σ H fun vs H1 => (∃ a xs, vs = [.ref a] ∧ SqL K H1 a xs ∧ R (Ite K a) H1) ∨ (∃ a xs, vs = [.ref a] ∧ SqT K H1 a xs ∧ R (Iet K a) H1) ∨ ∃ x, vs = [.str x] ∧ R (Ies x) H1
theorem pi_enumA {e : Expr} {ta : TA} {p pos tpos : Pos} {elts : List Expr} {kk : Nat} (hg : Gl X "enumerate") (hm : X.mg "enumerate" = none) (ha : PA X [e] ta) (hs : starEach [e] X.env = [(false, eval e X.env)] := by rfl) :
    PI X (.Tuple elts kk tpos) (.Call (.Name "enumerate" p) [e] [] pos) (iEnumA X.K ta) := by
  refine ⟨fun pins s σ H R I h => ?_⟩
  refine Call_ (ld_blt I hg hm boot_enumerate (PyProof.Rows.callWith_type1 (thn (ha.run pos pins s σ H _ I h) fun us s1 ⟨vs, H1, I1, r1, q1⟩ => ?_) hs rfl))
  rcases q1 with ⟨a, xs, ex, hq, q⟩ | ⟨a, xs, ex, hq, q⟩ | ⟨x, ex, q⟩
  · subst ex
    cases r1 with
    | cons r rr =>
      cases rr
      cases r
      obtain ⟨its, rv, p', hz⟩ := I1.list hq
      refine call_enumerate_list p'.isList fun h' he hit hsz hk => wpAny_pyIter_enum he ?_
      have I2 : Inv X pins σ H1 { s1 with heap := h' } := I1.kept (t' := s1.toks) hk
      refine ⟨s1.heap.objs.size + 1, [s1.heap.objs.size + 1, s1.heap.objs.size], _, _, H1, rfl, I2, turn_enum a (s1.heap.objs.size + 1) s1.heap.objs.size, ⟨⟨.none, he⟩, hit, Nat.succ_ne_self _⟩, fun b hb => ?_, q⟩
      have e' : b = s1.heap.objs.size + 1 ∨ b = s1.heap.objs.size := by simpa using hb
      have hle : s1.heap.objs.size ≤ b := by
        rcases e' with z | z
        · rw [z]; exact Nat.le_add_right _ _
        · rw [z]; exact Nat.le_refl _
      exact I1.fpOk hle (I1.hok.fresh hle)
  · subst ex
    cases r1 with
    | cons r rr =>
      cases rr
      cases r
      obtain ⟨its, rv, p', hz⟩ := I1.tuple hq
      refine call_enum1 (begins_tuple a its.toArray) p' fun h' he hit hsz hk => wpAny_pyIter_enum he ?_
      have I2 : Inv X pins σ H1 { s1 with heap := h' } := I1.kept (t' := s1.toks) hk
      refine ⟨s1.heap.objs.size + 1, [s1.heap.objs.size + 1, s1.heap.objs.size], _, _, H1, rfl, I2, turn_enumI inner_tup, ⟨⟨.none, he⟩, ⟨_, hit, rfl, rfl⟩, Nat.succ_ne_self _⟩, fun b hb => ?_, q⟩
      have e' : b = s1.heap.objs.size + 1 ∨ b = s1.heap.objs.size := by simpa using hb
      have hle : s1.heap.objs.size ≤ b := by
        rcases e' with z | z
        · rw [z]; exact Nat.le_add_right _ _
        · rw [z]; exact Nat.le_refl _
      exact I1.fpOk hle (I1.hok.fresh hle)
  · subst ex
    cases r1 with
    | cons r rr =>
      cases rr
      obtain ⟨t, rfl⟩ := r
      refine call_enumerate_str fun h' he hit hsz hk => wpAny_pyIter_enum he ?_
      have I2 : Inv X pins σ H1 { s1 with heap := h' } := I1.kept (t' := s1.toks) hk
      refine ⟨s1.heap.objs.size + 1, [s1.heap.objs.size + 1, s1.heap.objs.size], _, _, H1, rfl, I2, turn_enumI (inner_str (x := x) (t := t)), ⟨⟨.none, he⟩, hit, Nat.succ_ne_self _⟩, fun b hb => ?_, q⟩
      have e' : b = s1.heap.objs.size + 1 ∨ b = s1.heap.objs.size := by simpa using hb
      have hle : s1.heap.objs.size ≤ b := by
        rcases e' with z | z
        · rw [z]; exact Nat.le_add_right _ _
        · rw [z]; exact Nat.le_refl _
      exact I1.fpOk hle (I1.hok.fresh hle)
end
end HX
namespace DL
open PySem PySem.Spec PyProof.Rows L2
theorem enumD_get {ds : List PyData} {i : Nat} {d : PyData} (h : (enumD ds)[i]? = some d) : ∃ x, ds[i]? = some x ∧ d = .tuple [.int (i : Nat), x] := by
  unfold enumD at h
  rw [List.getElem?_map, List.getElem?_zipIdx] at h
  cases e : ds[i]? with
  | none => rw [e] at h; cases h
  | some x =>
    rw [e] at h
    cases h
    exact ⟨x, rfl, by simp⟩
theorem enumD_len {ds : List PyData} : (enumD ds).length = ds.length := by simp [enumD]
section
variable {X : Cx} {m : Md} {E : XK} {e : Expr} {t : AM} {p pos tpos : Pos} {elts : List Expr} {kk : Nat}
theorem di_enum (hK : m.K = X.K) (hg : Gl X "enumerate") (hm : X.mg "enumerate" = none) (ha : PA X [e] (dA m E t)) (hs : starEach [e] X.env = [(false, eval e X.env)] := by rfl) :
    PI X (.Tuple elts kk tpos) (.Call (.Name "enumerate" p) [e] [] pos) (dI m E (iEnumD t)) := by
  refine PI.imp (HX.pi_enumA hg hm ha hs) fun σ H R ⟨g, F, env, S, P⟩ => ⟨g, F, env, S, (post_rb P).mono fun ds e1 _ P1 vs F1 H1 l1 S1 r1 => ?_⟩
  rcases ds with _ | ⟨d, _ | ⟨d2, ds2⟩⟩
  · exact P1.elim
  · obtain ⟨ds, hd, P2⟩ := post_lift P1
    rcases r1 with _ | ⟨r1, t1⟩
    cases t1
    have r1' := r1
    cases d with
    | list as =>
      cases hd
      obtain ⟨a, vs, rfl, ha, ra⟩ := view_lst S1.view r1
      refine .inl ⟨a, vs, rfl, .inl (.inl ha), P2 _ F1 H1 l1 S1 fun F' H' l' v' i => ⟨fun hi => ?_, fun d hd => ?_⟩⟩
      · obtain ⟨a', vs', e1, ha', ra'⟩ := view_lst v' (r1'.mono l')
        cases e1
        exact ⟨vs', .inl (.inl ha'), by rw [Paired.length ra']; rw [enumD_len] at hi; exact hi⟩
      · obtain ⟨a', vs', e1, ha', ra'⟩ := view_lst v' (r1'.mono l')
        cases e1
        obtain ⟨x, hx, rfl⟩ := enumD_get hd
        obtain ⟨y, hy, ry⟩ := reps_get ra' hx
        refine ⟨⟨vs', y, .inl (.inl ha'), hy⟩, fun z H'' ⟨T, y', e3, hT, e4, f1⟩ => ?_⟩
        have e5 := f1 vs' (.inl (.inl ha'))
        rw [hy] at e5; cases e5
        exact .inr (.inl ⟨T, .tup [.int (i : Nat), y], hT, e4, e3, .cons rfl (.cons ry .nil)⟩)
    | tuple as =>
      cases hd
      obtain ⟨a, vs, rfl, ha, ra⟩ := view_tup S1.view r1
      refine .inr (.inl ⟨a, vs, rfl, .inl (.inl ha), P2 _ F1 H1 l1 S1 fun F' H' l' v' i => ⟨fun hi => ?_, fun d hd => ?_⟩⟩)
      · obtain ⟨a', vs', e1, ha', ra'⟩ := view_tup v' (r1'.mono l')
        cases e1
        exact ⟨vs', .inl (.inl ha'), by rw [Paired.length ra']; rw [enumD_len] at hi; exact hi, _, ha'⟩
      · obtain ⟨a', vs', e1, ha', ra'⟩ := view_tup v' (r1'.mono l')
        cases e1
        obtain ⟨x, hx, rfl⟩ := enumD_get hd
        obtain ⟨y, hy, ry⟩ := reps_get ra' hx
        refine ⟨⟨vs', y, .inl (.inl ha'), hy, _, ha'⟩, fun z H'' ⟨T, y', e3, hT, e4, f1⟩ => ?_⟩
        have e5 := f1 vs' (.inl (.inl ha'))
        rw [hy] at e5; cases e5
        exact .inr (.inl ⟨T, .tup [.int (i : Nat), y], hT, e4, e3, .cons rfl (.cons ry .nil)⟩)
    | str x =>
      cases hd
      cases (show _ = V.str x from r1)
      refine .inr (.inr ⟨x, rfl, P2 _ F1 H1 l1 S1 fun F' H' l' v' i => ⟨fun hi => ?_, fun d hd => ?_⟩⟩)
      · rw [enumD_len] at hi
        show x.cps.size ≤ i
        simpa [DL.signs] using hi
      · obtain ⟨y, hy, rfl⟩ := enumD_get hd
        unfold DL.signs at hy
        rw [List.getElem?_map] at hy
        cases hc : x.cps.toList[i]? with
        | none => rw [hc] at hy; cases hy
        | some c =>
          rw [hc] at hy
          cases hy
          have hc' : x.cps[i]? = some c := by simpa using hc
          refine ⟨(Array.getElem?_eq_some_iff.mp hc').1, fun z H'' ⟨T, y', e3, hT, e4, c2, h2, e5⟩ => ?_⟩
          rw [hc'] at h2; cases h2
          subst e5
          exact .inr (.inl ⟨T, .tup [.int (i : Nat), .str ⟨#[c]⟩], hT, e4, e3, .cons rfl (.cons rfl .nil)⟩)
    | _ => cases hd
  · exact P1.elim
end
end DL

/-! The data layer, part s: a name that goes through a list of the text's defs, and is called. -/
namespace DL
open PySem PySem.Spec PyProof.Rows L2
def tabF : List (Str × FnS) → Str → Option FnS
  | [], _ => none
  | p :: r, x => if p.1 = x then some p.2 else tabF r x
/-- a call of what the slot i holds -/
def eCallV (i : Nat) (tab : List (Str × FnS)) (f : AM) : EM := fun env => match env[i]? with
  | some (.fn x) => (match tabF tab x with
    | some s => eCall s f env
    | none => none)
  | _ => none
def TabOk (P : Program) (w : World) (K : PySem.W.Frag) (mg : Str → Option Value) (base : Heap) (m : Md) (k0 : Nat) (tab : List (Str × FnS)) : Prop := ∀ x s, tabF tab x = some s → ∃ ps k, k ≤ k0 ∧ Okf P w K mg base x ps k (spD m s)
section
variable {P : Program} {w : World} {K : PySem.W.Frag} {mg : Str → Option Value} {base : Heap} {m : Md} {k0 : Nat}
theorem tab_nil : TabOk P w K mg base m k0 [] := fun x s h => nomatch h
theorem tab_cons {x : Str} {s : FnS} {tab : List (Str × FnS)} {ps : List Str} {k : Nat} (o : Okf P w K mg base x ps k (spD m s)) (h : k ≤ k0) (t : TabOk P w K mg base m k0 tab) : TabOk P w K mg base m k0 ((x, s) :: tab) := fun y s' e => by
  unfold tabF at e
  split at e
  · rename_i q
    cases e
    cases (show x = y from q)
    exact ⟨ps, k, h, o⟩
  · exact t y s' e
end
section
variable {X : Cx} {m : Md} {E : XK} {e : Expr} {es : List Expr} {t : AM} {p pos : Pos}
theorem d_callV (i : Nat) {y : Str} {k0 : Nat} {tab : List (Str × FnS)} (hT : TabOk X.prog X.w X.K X.mg X.base m k0 tab) (hmg : m.mg = X.mg) (hr : Room k0 X.A) (hx : Passes (L2N.CX X.prog X.w) X E) (ha : PA X (e :: es) (dA m E t))
    (hN : X.N[i]? = some y := by rfl) (hv : Vis X.env.scope y := by first | exact Or.inl rfl | exact Or.inr (Or.inl rfl) | exact Or.inr (Or.inr rfl)) (hd : (y == ("__debug__" : Str)) = false := by decide) (hcd : (y == ("__classdict__" : Str)) = false := by decide)
    (he : starEach (e :: es) X.env = (false, eval e X.env) :: starEach es X.env := by rfl) (hpl : (backTo pos (starEach es X.env)).any (·.1) = false := by rfl) :
    PE X (.Call (.Name y p) (e :: es) [] pos) (dE m E (eCallV i tab t)) := by
  refine ⟨fun pins s σ H Q I h => ?_⟩
  obtain ⟨g, F, env, S, q⟩ := h
  unfold eCallV at q
  split at q
  · rename_i x ex
    split at q
    · rename_i sp es'
      obtain ⟨v, e1, a, e2, hma⟩ := S.slot i _ ex
      subst e2
      obtain ⟨ps, k, hk, f, fd, hm, kp, bi, G⟩ := hT x sp es'
      have ef : f = a := by
        rw [hmg, hm] at hma
        exact Value.ref.inj (Option.some.inj hma)
      subst ef
      have ht : tCall (spD m sp) [] E (dA m E t) σ H Q := rd_eCall ⟨g, F, env, S, q⟩
      refine wpAny_Call_Name_kw (thn ((pe_var (pos := p) hN hv hd hcd).run pins s σ H (fun v H1 => v = .ref f ∧ H1 = H) I ⟨.ref f, e1, rfl, rfl⟩) fun u s1 ⟨v, H1, I1, r1, q1⟩ => ?_)
      obtain ⟨rfl, rfl⟩ := q1
      cases r1
      refine PySem.W.callWith_K (h₀ := X.base) I.ok.mod.kin kp (thn (ha.run pos pins s1 σ _ _ I1 ht) fun us s2 ⟨vs, H2, I2, r, q⟩ => ⟨I2.kIn, ?_⟩) he hpl
      exact run_fn G (hr.mono hk) bi .nil hx I2 r q
    · exact q.elim
  · exact q.elim
end
theorem paired_get {α β : Type} {R : α → β → Prop} {as : List α} {bs : List β} (h : Paired R as bs) : ∀ {j : Nat} (h1 : j < as.length) (h2 : j < bs.length), R as[j] bs[j] := by
  induction h with
  | nil => exact fun h1 => absurd h1 (Nat.not_lt_zero _)
  | cons a t ih =>
    intro j h1 h2
    cases j with
    | zero => exact a
    | succ j => exact ih (by simpa using h1) (by simpa using h2)
/-! ### what is not reached -/
def sNever : SM := fun _ => none
theorem ds_neverD {X : Cx} {m : Md} {E : XK} {st : Stmt} : PS X st (dS m E sNever) := PS.imp ps_never fun D σ H ⟨g, F, env, S, P⟩ => P.elim
/-! ### the loop -/
def forFn (i : Nat) (body : SM) : List Str → SM
  | [] => fun env => rok .nx env
  | x :: r => fun env => rb (body (env.set i (.fn x))) fun o e => match o with
    | .nx => forFn i body r e
    | .ct => forFn i body r e
    | .bk => rok .nx e
    | .rt own d => rok (.rt own d) e
def sForFn (i : Nat) (names : List Str) (body : SM) : SM := forFn i body names
/-- the defs, read -/
def tFns (as : List Addr) : TA := fun σ H Q => Q (as.map V.ref) H
def FnsAt (X : Cx) (es : List Expr) (names : List Str) : Prop := ∃ as : List Addr, PA X es (tFns as) ∧ Paired (fun a x => X.mg x = some (.ref a)) as names
section
variable {X : Cx} {m : Md} {E : XK} {pos p : Pos} {es : List Expr} {names : List Str}
theorem fns_nil : FnsAt X [] [] := ⟨[], pa_nil, .nil⟩
theorem fns_cons {x : Str} (h : ∃ a, X.mg x = some (.ref a)) (t : FnsAt X es names) (hg : Gl X x := by rfl) (hd : (x == ("__debug__" : Str)) = false := by decide) (he : starEach (.Name x p :: es) X.env = (false, eval (.Name x p) X.env) :: starEach es X.env := by rfl) : FnsAt X (.Name x p :: es) (x :: names) := by
  obtain ⟨a, ha⟩ := h
  obtain ⟨as, h1, h2⟩ := t
  exact ⟨a :: as, PA.imp (pa_cons (pe_glob (v := V.ref a) hg ha rfl hd) h1 he) fun σ H Q h => h, .cons ha h2⟩
theorem okf_mg {P : Program} {w : World} {K : PySem.W.Frag} {mg : Str → Option Value} {base : Heap} {x : Str} {ps : List Str} {k : Nat} {sp : Sp} (o : Okf P w K mg base x ps k sp) : ∃ a, mg x = some (.ref a) := by
  obtain ⟨f, fd, h, _⟩ := o
  exact ⟨f, h⟩
end
section
variable {m : Md} {g : Gc} {E : XK} {F F' : Fv} {H H' : Hp} {σ σ' : L2.St} {env env' : Ev}
/-- a slot that owns nothing is told anew -/
theorem SR.storeSl {i : Nat} {sl : Sl} {v : V} (S : SR m g F H σ env) (n1 : ∀ d, sl ≠ .ow d) (n2 : ∀ d, sl ≠ .io d) (ok : SlotOk m g F H (some v) sl) : SR m g F H (σ.set i (some v)) (env.set i sl) := by
  have old : ∀ j b, OwnA (σ.set i (some v)) (env.set i sl) j b → OwnA σ env j b := fun j b q => by
    obtain ⟨q1, q2⟩ := q
    by_cases hj : i = j
    · subst hj
      have hl : i < env.length := by
        rcases q2 with ⟨_, z⟩ | ⟨_, z⟩
        · have := (List.getElem?_eq_some_iff.mp z).1
          simpa using this
        · have := (List.getElem?_eq_some_iff.mp z).1
          simpa using this
      rw [List.getElem?_set_self hl] at q2
      rcases q2 with ⟨d, z⟩ | ⟨d, z⟩
      · exact (n1 d (Option.some.inj z)).elim
      · exact (n2 d (Option.some.inj z)).elim
    · rw [List.getElem?_set_ne hj] at q1
      rw [List.getElem?_set_ne hj] at q2
      exact ⟨q1, q2⟩
  refine ⟨S.view, S.ext, S.new, S.frame, S.locks, S.ioL, S.dom, S.tabs, by simpa using S.len, fun j s e => ?_, fun j k b hj hk => S.dist j k b (old j b hj) (old k b hk)⟩
  by_cases hj : i = j
  · subst hj
    have hl : i < env.length := by
      have := (List.getElem?_eq_some_iff.mp e).1
      simpa using this
    rw [List.getElem?_set_self hl] at e; cases e
    rw [List.getElem?_set_self (by rw [S.len]; exact hl)]
    exact ⟨_, rfl, ok⟩
  · rw [List.getElem?_set_ne hj] at e
    rw [List.getElem?_set_ne hj]
    exact S.slot j s e
/-- what is held is forgotten: errors -/
theorem EPost.unhold {D : Addr} {o : HO} {F0 : Fv} {e : Ex} (h : EPost m g E e) (hn : g.H0 D = none) : EPost m ((g.at F0).hold D o) E e := fun cls dd H' fr xo => by
  refine h cls dd H' ⟨fun b u e h1 h2 h3 => ?_, fr.tabs, fun b e => ?_⟩ xo
  · have : b ≠ D := fun z => by rw [z, hn] at e; cases e
    exact fr.frame b u (by show (if b = D then some o else g.H0 b) = some u; rw [if_neg this]; exact e) h1 h2 h3
  · have := fr.dom b e
    by_cases hb : b = D
    · rw [hb]; exact hn
    · have z : (if b = D then some o else g.H0 b) = none := this
      rwa [if_neg hb] at z
theorem Post.held {α : Type} {D : Addr} {o : HO} {F0 : Fv} {r : Res α} {K K' : α → Ev → Prop} (h : Post m g E r K) (hn : g.H0 D = none) (k : ∀ a e, r = some (.ok (a, e)) → K a e → K' a e) : Post m ((g.at F0).hold D o) E r K' := by
  cases r with
  | none => exact h
  | some x => cases x with
    | error e => exact EPost.unhold h hn
    | ok p => exact k _ _ rfl h
theorem VOk.unheld {D : Addr} {o : HO} {F0 : Fv} {own : Bool} {d : PyData} {v : V} (h : VOk ((g.at F0).hold D o) F H σ env own d v) : VOk g F H σ env own d v := by
  cases own with
  | false => exact h
  | true =>
    obtain ⟨a, e, oa, n, x⟩ := h
    refine ⟨a, e, oa, ?_, x⟩
    by_cases hb : a = D
    · have z : (if a = D then some o else g.H0 a) = none := n
      rw [if_pos hb] at z; cases z
    · have z : (if a = D then some o else g.H0 a) = none := n
      rwa [if_neg hb] at z
theorem SR.rebased {F0 : Fv} (S0 : SR m g F0 H σ env) (S : SR m (g.at F0) F' H' σ' env') : SR m g F' H' σ' env' := S0.unbase S
theorem PostO.held {D0 : Ends} {D : Addr} {o : HO} {F0 : Fv} {H0' : Hp} {σ0 : L2.St} {env0 : Ev} {out : Out} {e : Ev} (S0 : SR m g F0 H0' σ0 env0) (hn : g.H0 D = none) (mu : Ldk o) (hf : F0 D = none) (hio : g.io ≠ some D) (hl : D ∉ g.L.map (·.1)) (h : PostO m g D0 out e) : PostO m ((g.at F0).hold D o) D0 out e := by
  cases out with
  | nx => exact fun F' H' σ' S' => h F' H' σ' (S0.unbase (S'.unhold hn mu hf hio hl).1)
  | bk => exact fun F' H' σ' S' => h F' H' σ' (S0.unbase (S'.unhold hn mu hf hio hl).1)
  | ct => exact fun F' H' σ' S' => h F' H' σ' (S0.unbase (S'.unhold hn mu hf hio hl).1)
  | rt own d => exact fun v F' H' σ' S' vo => h v F' H' σ' (S0.unbase (S'.unhold hn mu hf hio hl).1) vo.unheld
end
section
variable {X : Cx} {m : Md} {E : XK} {pos p lp : Pos} {es : List Expr} {names : List Str} {body : SM}
theorem rd_forFn {i : Nat} {as : List Addr} (hK : m.K = X.K) (hmg : m.mg = X.mg) (hp : Paired (fun a x => X.mg x = some (.ref a)) as names) (hz : names.length ≤ sizeLine) {D : Ends} {σ : L2.St} {H : Hp} (q : dS m E (sForFn i names body) D σ H) : tFor (iList X.K (tLst (tFns as))) (gName i) (dS m E body) D σ H := by
  obtain ⟨g, F, env, S, P⟩ := q
  have hla := Paired.length hp
  unfold tFor iList tLst tFns
  refine ⟨by rw [List.length_map, hla]; exact hz, fun a ha => ?_⟩
  obtain ⟨hn, hf, hx, hio, hl⟩ := S.apart ha
  have S1 : SR m g F (upd H a (.lst (as.map V.ref))) σ env := S.alloc ha
  have hD : (upd H a (.lst (as.map V.ref))) a = some (.lst (as.map V.ref)) := upd_same
  refine ⟨a, rfl, ⟨as.map V.ref, .inl (.inl hD)⟩, ?_⟩
  have Sb : SR m (g.at F) F (upd H a (.lst (as.map V.ref))) σ env := S1.rebase
  have Sh := Sb.hold hD trivial hn hx hf
  refine ⟨fun j n σ' H' => ∃ F2 env2, SR m ((g.at F).hold a (.lst (as.map V.ref))) F2 H' σ' env2 ∧ n = names.length - j ∧ j ≤ names.length ∧ Post m ((g.at F).hold a (.lst (as.map V.ref))) E (forFn i body (names.drop j) env2) fun o e => PostO m ((g.at F).hold a (.lst (as.map V.ref))) D o e,
    ⟨names.length, F, env, Sh, rfl, Nat.zero_le _, Post.held P hn fun o e _ k => PostO.held S1 hn trivial hf hio hl k⟩, ?_⟩
  rintro j n σ' H' ⟨F2, env2, S2, rfl, hj, P2⟩
  have e0 : ((g.at F).hold a (.lst (as.map V.ref))).H0 a = some (.lst (as.map V.ref)) := if_pos rfl
  have hD2 : H' a = some (.lst (as.map V.ref)) := S2.frame a _ e0 hio (fun _ z => nomatch z) hl
  by_cases hlt : j < names.length
  · have hla2 : j < as.length := by rw [hla]; exact hlt
    rw [drop_get hlt] at P2
    have hga : (as.map V.ref)[j]? = some (V.ref as[j]) := by simp [hla2]
    refine .inr ⟨⟨as.map V.ref, _, .inl (.inl hD2), hga⟩, fun σ'' H'' => ∃ F3 env3, SR m ((g.at F).hold a (.lst (as.map V.ref))) F3 H'' σ'' env3 ∧ Post m ((g.at F).hold a (.lst (as.map V.ref))) E (forFn i body (names.drop (j + 1)) env3) fun o e => PostO m ((g.at F).hold a (.lst (as.map V.ref))) D o e, fun σ'' H'' ⟨F3, env3, S3, P3⟩ => ⟨names.length - (j + 1), by omega, F3, env3, S3, rfl, by omega, P3⟩, fun x H'' y => ?_⟩
    obtain ⟨y1, y2⟩ := y
    subst y1
    have ex := y2 (as.map V.ref) (.inl (.inl hD2))
    rw [hga] at ex
    cases ex
    have hmx : X.mg names[j] = some (.ref as[j]) := paired_get hp hla2 hlt
    have S3 : SR m ((g.at F).hold a (.lst (as.map V.ref))) F2 H'' (σ'.set i (some (V.ref as[j]))) (env2.set i (.fn names[j])) := S2.storeSl (fun _ z => nomatch z) (fun _ z => nomatch z) ⟨as[j], rfl, hmg ▸ hmx⟩
    refine ⟨_, F2, _, S3, ?_⟩
    unfold forFn at P2
    refine (post_rb P2).mono fun o e4 _ P4 => ?_
    cases o with
    | nx => exact fun F' H' σ' S' => ⟨F', e4, S', P4⟩
    | ct => exact fun F' H' σ' S' => ⟨F', e4, S', P4⟩
    | bk => exact P4
    | rt own d => exact P4
  · have e : j = names.length := by omega
    subst e
    rw [List.drop_length] at P2
    refine .inl ⟨⟨as.map V.ref, .inl (.inl hD2), by rw [List.length_map, hla]; exact Nat.le_refl _⟩, ?_⟩
    exact P2 F2 H' σ' S2
theorem ds_forFn {i : Nat} {x : Str} {bd : List Stmt} (hK : m.K = X.K) (hmg : m.mg = X.mg) (hp : PassesOwn (model X.prog X.w) X.A X.env X.xe) (hc : X.calm = true) (hf : FnsAt X es names) (hz : names.length ≤ sizeLine) (hN : X.N.Nodup) (hi : X.N[i]? = some x) (hx : Loc X.env.scope x) (hb : PSs X bd (dS m E body))
    (hfn : X.fn x = true ∨ X.env.scope.names.lookup x = some .local := by first | exact .inl rfl | exact .inr rfl | assumption) (hs : ∀ z, foldedSetIterable (.List es lp) X.env z = pure z := by intro _; rfl) :
    PS X (.For (.Name x p) (.List es lp) bd [] pos) (dS m E (sForFn i names body)) := by
  obtain ⟨as, h1, h2⟩ := hf
  exact PS.imp (ps_for hp hc (pi_list (pe_lst h1)) (pg_name hN hi hx hfn) hb hs) fun D σ H => rd_forFn hK hmg h2 hz
end
end DL

/-! The data layer, part r: raise of the own classes whose `__init__` says super().__init__(z); self.f = f. -/
namespace DLR
open PySem PySem.Spec PySem.W PySem.Calls PyProof.Rows L2
/-- the `__init__`'s body -/
def iniBody (f z : Str) (j : Nat) (p0 p1 p2 p3 p4 p5 p6 p7 p8 p9 : Pos) : List Stmt :=
  [.Expr (.Call (.Attribute (.Call (.Name "super" p0) [] [] p1) "__init__" p2) [.Constant (.str z) j p3] [] p4) p5, .Assign [.Attribute (.Name "self" p6) f p7] (.Name f p8) p9]
structure ScI (f : Str) (sc : Scope) : Prop where
  kind : sc.kind = .function
  co : sc.isCoroutine = false
  gen : sc.isGenerator = false
  cell : ∀ x ∈ sc.names, x.2 ≠ .cell
  self : sc.names.lookup ("self" : Str) = some .local
  fld : sc.names.lookup f = some .local
  sup : sc.names.lookup ("super" : Str) = some .globalImplicit
  cls : sc.names.lookup ("__class__" : Str) = some .free
  ne : f ≠ "self"
  db : (f == ("__debug__" : Str)) = false
/-- what is to be known of the class at C -/
structure IniC (prog : Program) (K : Frag) (C fI : Addr) (f : Str) : Prop where
  oex : OexC K C
  find : findIn K (.ref C) "__init__" = some (some (.ref fI))
  typ : typeIn K (.ref fI) = some (.type "function")
  ini : ∃ (oc : Value) (od : Option Addr) (osl : Array (Option Value)) (qual : Str) (params : Arguments) (scope : Scope) (dV kV doc pm ct : Value) (an : Option Addr) (cda cc : Addr) (z : Str) (j : Nat) (p0 p1 p2 p3 p4 p5 p6 p7 p8 p9 : Pos),
    (p2.endLine == p4.line) = true ∧ K.lookup fI = some ⟨oc, od, .func (ksFn "__init__" qual params (iniBody f z j p0 p1 p2 p3 p4 p5 p6 p7 p8 p9) scope dV kV doc pm an (.ref cda) ct cc), osl⟩ ∧ codeIn K (.ref cda) qual = true ∧ ScI f scope ∧
    (∃ ar : Arg, (params.posonlyargs ++ params.args).head? = some ar ∧ ar.arg = "self") ∧
    (∀ (s : Shared) (a v : Value), BindsTo s (ksFn "__init__" qual params (iniBody f z j p0 p1 p2 p3 p4 p5 p6 p7 p8 p9) scope dV kV doc pm an (.ref cda) ct cc) ⟨[a, v], []⟩ [("self", a), (f, v)]) ∧
    (∃ (ccl : Value) (cdd : Option Addr) (vs : Array Value) (ccs : Array (Option Value)) (file : Str) (tf : Tok), K.lookup cda = some ⟨ccl, cdd, .fields vs, ccs⟩ ∧ vs[2]? = some (.str file tf) ∧ ((prog.main.file : Str) == file) = true) ∧
    (∃ (cl : Value) (cld : Option Addr) (csl : Array (Option Value)), K.lookup cc = some ⟨cl, cld, .cell (some (.ref C)), csl⟩)
  al : ks_superIn K C C "__init__" = some (some (.builtin "ValueError.__init__"))
  sub : subIn K (.ref C) (.type "ValueError") = some true
  subC : mroIn K C (.ref C) = some true
  opq : nsIn K cStatics "thirdparty.any" = some none
  noat : findIn K (.ref C) f = some none
  top : (prog.main.scope.names.lookup ("super" : Str)).isSome = false
section
variable {prog : Program} {w : World} {A : Around} {K : Frag} {C fI x t0 : Addr} {f : Str} {hp : Heap} {g : Array GenState} {d : Drawn} {t : Nat} {os : OsState} {v : Value} {R : Result → Shared → Prop} {mg : Str → Option Value}
theorem init_run (I : IniC prog K C fI f) (X : K.In hp) (lim : hp.NoLimit) (hG : hp.Ns mainGlobals mg) (hms : mg "super" = none) (hB : ∃ mb, hp.Ns builtinsNs mb ∧ ∀ x : Str, x ≠ "__name__" → mb x = bootBuiltins x) (hx : hp.get? x = some (HandSPX.excO C t0)) (hxK : ∀ o, K.lookup x ≠ some o) (hroom : A.depth < recursionLimit)
    (hq : ∀ h' t' dx t1, (∀ b o, b ≠ x → hp.get? b = some o → h'.get? b = some o) → hp.objs.size ≤ dx → dx ≠ x → h'.get? x = some ({ cls := .ref C, dict := some dx, data := .fields #[.ref t1, .none, .none, .none, .bool false, .none] } : Obj) → h'.Ns1 dx (fun y => if y = f then some v else none) → R (.ok (.ret .none)) ⟨h', g, d, t', os⟩) :
    codeAny (model prog w) A (.call (.ref fI) ⟨[.ref x, v], []⟩) R ⟨hp, g, d, t, os⟩ := by
  obtain ⟨oc, od, osl, qual, params, scope, dV, kV, doc, pm, ct, an, cda, cc, z, j, p0, p1, p2, p3, p4, p5, p6, p7, p8, p9, hpos, lk, hcd, S, ⟨ar, har, ear⟩, bnd, ⟨ccl, cdd, vs, ccs, file, tf, lc, hvs, hfile⟩, cl, cld, csl, lcell⟩ := I.ini
  obtain ⟨nm, q, N, bs, bm, sn, sub, ab, col, dd, k0, k1, k2, k3, k5, hC, hbm⟩ := I.oex.cls
  obtain ⟨mb, hB1, hB2⟩ := hB
  have hcl : clsIn K C = some { name := nm, bases := bs, mro := .ref C :: bm, ns := N, qualname := q, hasDict := true, slotNames := sn, subclasses := sub, abstract := ab, collection := col, hasDel := false } := by unfold clsIn; rw [hC] <;> rfl
  refine ks_codeAny_call_defAt (binds := [("self", .ref x), (f, v)]) hroom (X _ _ lk) rfl lim (codeRec_of X hcd) rfl (bnd _ _ _) S.cell (fun y hy => ?_) (fun h1 hns kk => ?_) S.co S.gen S.kind
  · rcases List.mem_cons.mp hy with rfl | hy
    · exact S.self
    rcases List.mem_cons.mp hy with rfl | hy
    · exact S.fld
    · exact absurd hy (by simp)
  have X1 : K.In h1 := X.keeps kk
  obtain ⟨oD, hD1, hD2⟩ : ∃ oD, h1.get? C = some oD ∧ oD.data = .cls { name := nm, bases := bs, mro := .ref C :: bm, ns := N, qualname := q, hasDict := true, slotNames := sn, subclasses := sub, abstract := ab, collection := col, hasDel := false } := ⟨_, X1 _ _ hC, rfl⟩
  have hx1 := kk _ _ hx
  have xC : x ≠ C := fun e => by
    rw [e, X _ _ hC] at hx
    have e2 := congrArg (·.data) (Option.some.inj hx)
    cases e2
  show _root_.PySem.wpAt (model prog w) _ (.func (iniBody f z j p0 p1 p2 p3 p4 p5 p6 p7 p8 p9) (ksEnv qual scope hp.objs.size fI (.ref cda) cc)) (execs (iniBody f z j p0 p1 p2 p3 p4 p5 p6 p7 p8 p9) (ksEnv qual scope hp.objs.size fI (.ref cda) cc)) _ _ _
  have hself : (fun y => ([("self", Value.ref x), (f, v)] : List (Str × Value)).reverse.lookup y) "self" = some (.ref x) := by
    show ([(f, v), ("self", Value.ref x)] : List (Str × Value)).lookup ("self" : Str) = _
    have e : (("self" : Str) == f) = false := beq_eq_false_iff_ne.mpr (Ne.symm S.ne)
    rw [List.lookup_cons, e, List.lookup_cons]
    rfl
  have hfv : (fun y => ([("self", Value.ref x), (f, v)] : List (Str × Value)).reverse.lookup y) f = some v := by
    show ([(f, v), ("self", Value.ref x)] : List (Str × Value)).lookup f = _
    rw [List.lookup_cons, beq_self_eq_true]
  have he : eval (.Call (.Attribute (.Call (.Name "super" p0) [] [] p1) "__init__" p2) [.Constant (.str z) j p3] [] p4) (ksEnv qual scope hp.objs.size fI (.ref cda) cc) = (do
      let ov ← attributeBase (.Call (.Name "super" p0) [] [] p1) "__init__" (ksEnv qual scope hp.objs.size fI (.ref cda) cc) (eval (.Call (.Name "super" p0) [] [] p1) (ksEnv qual scope hp.objs.size fI (.ref cda) cc))
      standAt p2.atName
      let (f, first) ← holding [ov] (getMethod ov "__init__" (do return (← importBound (.Call (.Name "super" p0) [] [] p1) (ksEnv qual scope hp.objs.size fI (.ref cda) cc)).getD true))
      callWith p4 f first (backTo p4 (starEach [.Constant (.str z) j p3] (ksEnv qual scope hp.objs.size fI (.ref cda) cc))) []) := by
    have e1 : ∀ (few : Bool) (o : Expr) (env : Env), methodCallPos few o env p2 p4 = pure p4 := fun few o env => by
      unfold methodCallPos
      rw [hpos, Bool.or_true, if_pos rfl]
    show (do
      let ov ← attributeBase (.Call (.Name "super" p0) [] [] p1) "__init__" (ksEnv qual scope hp.objs.size fI (.ref cda) cc) (eval (.Call (.Name "super" p0) [] [] p1) (ksEnv qual scope hp.objs.size fI (.ref cda) cc))
      standAt p2.atName
      methodCall (.Call (.Name "super" p0) [] [] p1) "__init__" p2 p4 (ksEnv qual scope hp.objs.size fI (.ref cda) cc) ov 1 (backTo p4 (starEach [.Constant (.str z) j p3] (ksEnv qual scope hp.objs.size fI (.ref cda) cc))) []) = _
    unfold methodCall
    simp only [e1, pure_bind]
    rfl
  have hi : interactive (ksEnv qual scope hp.objs.size fI (.ref cda) cc) = false := by
    unfold interactive
    rw [show (ksEnv qual scope hp.objs.size fI (.ref cda) cc).scope.kind = .function from S.kind]
    rfl
  refine ks_wpAt_execs_cons (ks_wpAt_Expr_any (hi := hi) (ks_wpAt_MethodCall (he := he) (ks_wpAt_super_base (env := ksEnv qual scope hp.objs.size fI (.ref cda) cc) S.sup S.cls (by decide) rfl (X1 _ _ lk) rfl har rfl (X1 _ _ lc) rfl hvs hfile I.top ?_)))
  refine ks_loadName_global S.kind S.sup (loadGlobal_builtin (env := ksEnv qual scope hp.objs.size fI (.ref cda) cc) (hG.keeps kk) hms (hB1.keeps kk) ((hB2 _ (by decide)).trans PyProof.Rows.Boot.«super») ⟨rfl, ?_⟩)
  refine wpAny_loadName_free S.kind S.cls rfl ⟨_, X1 _ _ lcell, rfl⟩ ?_
  rw [ear]
  refine wpAny_loadName_local S.kind S.self hns hself ?_
  refine ks_wpAny_isType_cls hD1 hD2 ⟨rfl, ?_⟩
  refine ks_wpAny_call_super hD1 hD2 hx1 rfl (fun c e => by cases e) (looks_mroIn X1 I.subC) (fun h2 e2 k2 => ?_)
  have X2 : K.In h2 := X1.keeps k2
  have hx2 := k2 _ _ hx1
  have hI : Looks (model prog w) h2 (isInstance (.ref x) (.type "ValueError")) true := (InstAt.type (⟨hx2, rfl, rfl, trivial⟩ : InstAt h2 x (HandSPX.excO C t0) C none)).andThen (looks_subIn X2 I.sub)
  have al := I.al
  unfold ks_superIn at al
  rw [hcl] at al
  refine kxs_getMethod kxs_ValueError e2 (looks_opaque X2 I.opq) (l₀ := .ref C :: bm) (fun A Q E s k q => wpAny_bind ((looks_clsIn X2 hcl) A _ E s k (wpAny_pure q))) rfl X2 al hI xC (by decide) ?_
  have hu : (h2.push (kxs_mw "ValueError.__init__" x)).get? h2.objs.size = some (kxs_mw "ValueError.__init__" x) := Heap.get?_push_at rfl rfl
  have k3 : ∀ b o, h2.get? b = some o → (h2.push (kxs_mw "ValueError.__init__" x)).get? b = some o := fun b o e => Heap.get?_push_of_some _ e
  have X3 : K.In (h2.push (kxs_mw "ValueError.__init__" x)) := X2.keeps k3
  have hx3 := k3 _ _ hx2
  refine kxs_callWith (i := "ValueError.__init__") (x := x) rfl (evalArgs_plain (spliced_cons (wpAny_Constant_str (k := j) (pos := p3) (spliced_nil ?_))))
  refine ⟨hu, ?_⟩
  refine wpAny_call (codeAny_of_tree ?_)
  show wpAny _ _ (callAny (.ref h2.objs.size) ⟨_, []⟩) _ _ _
  simp only [callAny]
  refine wpAny_bind (wpAny_load hu ?_)
  simp only [kxs_mw, show (Value.type "method-wrapper" == Value.type "method" || Value.type "method-wrapper" == Value.type "builtin_function_or_method" || Value.type "method-wrapper" == Value.type "method-wrapper") = true by decide, if_true]
  refine KFB.if_so (by decide) ?_
  refine wpAny_bind (check_bound_init F.excBase_ValueError.toExcCallFacts (X3 _ _ hC) hx3 rfl ?_)
  refine wpAny_bind (wpAny_pure (wpAny_pure ?_))
  refine ⟨plainId_quiet F.excBase_ValueError.init.plain _, codeAny_builtin F.excBase_ValueError.initEntry ?_⟩
  refine exc_init_tree (cls := .ref C) (t0 := t0) (dv := none) (c2 := .none) (c3 := .none) (b4 := .bool false) hx3 (by simp [sizeLine_eq]) fun h4 k4 e4 t4 => ?_
  have kx : ∀ b o, b ≠ x → hp.get? b = some o → h4.get? b = some o := fun b o ne e => k4 b o ne (k3 b o (k2 b o (kk b o e)))
  have X4 : K.In h4 := fun b o e => kx b o (fun z => hxK o (z ▸ e)) (X b o e)
  have nL : hp.objs.size ≠ x := fun z => Nat.lt_irrefl _ (z ▸ Heap.lt_size hx)
  have hns4 : h4.Ns hp.objs.size (fun y => ([("self", Value.ref x), (f, v)] : List (Str × Value)).reverse.lookup y) := hns.at fun o e => k4 _ o nL (k3 _ o (k2 _ o e))
  refine _root_.PySem.wpAt_of_wpAny (wpAny_execs_cons (plainObj_wpAny_Assign_Attribute (wpAny_Name (wpAny_loadName_local (env := ksEnv qual scope hp.objs.size fI (.ref cda) cc) S.kind S.fld hns4 hfv (wpAny_Name (wpAny_loadName_local (env := ksEnv qual scope hp.objs.size fI (.ref cda) cc) S.kind S.self hns4 hself ?_) (by decide))) S.db)))
  generalize (h2.push ({ cls := Value.type "method-wrapper", data := Data.fields #[Value.builtin "ValueError.__init__", Value.ref x] } : Obj)).objs.size = t1 at e4 t4
  refine set_plain X4 (ox := { cls := .ref C, dict := none, data := .fields #[.ref t1, .none, .none, .none, .bool false, .none] }) (od := none) ⟨e4, rfl, rfl, trivial⟩ I.oex.sa ?_
  refine HandSPX.exc_osa X4 e4 hcl (show HandSPX.refsVE (.ref C :: bm) = true from hbm) rfl I.noat (fun h' tk' dx k dn dne hx' hn => ?_)
  refine wpAny_execs_nil (hq h' _ dx _ (fun b o ne e => k b o ne (kx b o ne e)) ?_ dne hx' hn)
  refine Nat.le_trans ?_ dn
  exact Nat.le_of_lt (hns4.lt)
end
section
variable {X : Cx} {x f : Str} {C fI : Addr} {e : Expr} {ta : TA} {p pos : Pos} {k : Nat}
/-- C(e), C's own `__init__` keeping its argument as the field f -/
theorem pmk_ini (I : IniC X.prog X.K C fI f) (hms : X.mg "super" = none) (kC : keepIn X.K (.ref C) = true) (hr : Room k X.A) (hg : Gl X x) (hm : X.mg x = some (.ref C)) (ha : PA X [e] ta)
    (hdb : (x == ("__debug__" : Str)) = false := by decide) (he : starEach [e] X.env = (false, eval e X.env) :: starEach [] X.env := by rfl) (hpl : (backTo pos (starEach [] X.env)).any (·.1) = false := by rfl) :
    L2N.PMk X (.Call (.Name x p) [e] [] pos) (fun σ H Q => ta σ H fun vs H1 => ∃ v, vs = [v] ∧ ∀ d, H1 d = none → Q (.ref C) (some d) (upd H1 d (.xd [(f, v)]))) := by
  intro pins s σ H Q I0 h
  obtain ⟨nm, q, N, bs, bm, sn, sub, ab, col, dd, k0, k1, k2, k3, k5, hC, hbm⟩ := I.oex.cls
  refine wpAny_Call_Name_kw (ld_glob I0 hg hm ?_ hdb)
  refine callWith_K (h₀ := X.base) I0.ok.mod.kin kC (thn (ha.run pos pins s σ H _ I0 h) fun us s1 ⟨vs, H1, I1, r1, v, ev, q1⟩ => ⟨I1.kIn, ?_⟩) he hpl
  show wpAny _ _ (call (.ref C) us) _ _ _
  subst ev
  obtain ⟨u, rfl, ru⟩ : ∃ u, us = [u] ∧ RelV v u := by
    cases r1 with
    | cons ra rr => cases rr; exact ⟨_, rfl, ra⟩
  obtain ⟨hp, g, dr, tk, os⟩ := s1
  have kk : ∀ b o, hp.get? b = some o → ((hp.push (kdv_tup [u])).push (HandSPX.excO C hp.objs.size)).get? b = some o := fun b o e => Heap.get?_push_of_some _ (Heap.get?_push_of_some _ e)
  have hget : ((hp.push (kdv_tup [u])).push (HandSPX.excO C hp.objs.size)).get? (hp.objs.size + 1) = some (HandSPX.excO C hp.objs.size) := by heap_get
  obtain ⟨mb, h1, h2⟩ := I1.mod.blt
  refine wpAny_call (HandSPX.call_own F.excBase_ValueError (fun Y => HandSPX.refsVE_contains Y bm hbm) (I1.kIn _ _ hC) (looks_findIn I1.kIn I.find) (fun self => bind_fn I1.kIn self I.typ) (by simp [sizeLine_eq])
    (init_run (x := hp.objs.size + 1) (t0 := hp.objs.size) I (I1.kIn.keeps kk) (I1.nolimit.keeps kk) ((I1.mod.glob.keeps I1.bk).keeps kk) hms ⟨mb, (h1.keeps I1.bk).keeps kk, h2⟩ hget (fun o e => ?_) ?_ fun h' t' dx t1 k dn dne hx hn => ?_))
  · exact absurd (Heap.lt_size (I1.kIn _ _ e)) (by show ¬ hp.objs.size + 1 < hp.objs.size; omega)
  · rw [make_depth]
    have hd := hr.dp
    omega
  · have ksz : hp.objs.size + 2 ≤ dx := by
      have e : ((hp.push (kdv_tup [u])).push (HandSPX.excO C hp.objs.size)).objs.size = hp.objs.size + 2 := by simp [Heap.push]
      omega
    obtain ⟨G, g1', g2'⟩ := restrict h' fun b => decide (b ≠ hp.objs.size + 1)
    have gk : ∀ b, b ≠ hp.objs.size + 1 → G.get? b = h'.get? b := fun b hb => g1' b (decide_eq_true hb)
    have ge : G.get? (hp.objs.size + 1) = none := g2' _ (by simp)
    have kG : ∀ b o, hp.get? b = some o → G.get? b = some o := fun b o e => by
      have hb : b ≠ hp.objs.size + 1 := Nat.ne_of_lt (Nat.lt_succ_of_lt (Heap.lt_size e))
      rw [gk b hb]
      exact k b o hb (kk b o e)
    have hn1 : H1 dx = none := I1.hok.fresh (by show hp.objs.size ≤ dx; omega)
    have J : Inv X pins σ (upd H1 dx (.xd [(f, v)])) ⟨G, g, dr, t', os⟩ := I1.laid (t' := t') (a := dx) (o := .xd [(f, v)]) (h' := G) kG (by show hp.objs.size ≤ dx; omega)
      ⟨_, hn.at fun o e => (gk dx dne).trans e, fun y => by
        show RelO (([(f, v)] : List (Str × V)).lookup y) (if y = f then some u else none)
        rw [List.lookup_cons]
        by_cases hy : y = f
        · subst hy; rw [beq_self_eq_true, if_pos rfl]; exact ru
        · rw [beq_eq_false_iff_ne.mpr hy, if_neg hy]; trivial⟩
    refine ⟨rfl, hp.objs.size + 1, _, _, ⟨G, g, dr, t', os⟩, _, .ref C, some dx, rfl, J, fun b o e => ?_, ge, hx, ⟨rfl, rfl, fun vs hv => ?_⟩, rfl, rfl, ?_, rfl, I1.bare, raises_own I.oex.exC I.oex.tyC, q1 dx hn1⟩
    · have hb : b ≠ hp.objs.size + 1 := fun z => by rw [z, ge] at e; cases e
      exact (gk b hb).symm.trans e
    · cases hv; rfl
    · rw [upd_ne (Ne.symm dne)]
      exact I1.hok.fresh (Nat.le_succ _)
end
end DLR
namespace DL
open PySem PySem.Spec PyProof.Rows L2 DLR
def XokF (prog : Program) (K : PySem.W.Frag) (mg : Str → Option Value) (x f : Str) : Prop := ∃ C fI, mg x = some (.ref C) ∧ IniC prog K C fI f ∧ PySem.W.keepIn K (.ref C) = true ∧ mg "super" = none
def sRaiseF (x f : Str) (t : AM) : SM := fun env => rb (t env) fun ds _ => match ds with
  | [.int i] => some (.error ⟨x, some (f, i)⟩)
  | _ => none
section
variable {X : Cx} {m : Md} {E : XK} {pos pos' p : Pos} {e : Expr} {t : AM}
theorem ds_raiseF {x f : Str} {k : Nat} (hc : X.calm = true) (hmg : m.mg = X.mg) (tk : L2N.Takes X (fun c d _ H => E c d H)) (c : XokF X.prog X.K X.mg x f) (hr : Room k X.A) (hg : Gl X x) (ha : PA X [e] (dA m E t)) (hdb : (x == ("__debug__" : Str)) = false := by decide)
    (he : starEach [e] X.env = (false, eval e X.env) :: starEach [] X.env := by rfl) (hpl : (backTo pos (starEach [] X.env)).any (·.1) = false := by rfl) :
    PS X (.Raise (some (.Call (.Name x p) [e] [] pos)) none pos') (dS m E (sRaiseF x f t)) := by
  obtain ⟨C, fI, h1, h2, h3, h4⟩ := c
  refine PS.imp (L2N.ps_raise hc tk (pmk_ini h2 h4 h3 hr hg h1 ha hdb he hpl)) fun D σ H ⟨g, F, env, S, P⟩ => ⟨g, F, env, S, (post_rb P).mono fun ds e1 _ P1 vs F1 H1 l1 S1 r1 => ?_⟩
  split at P1
  · rename_i _ i _
    cases r1 with
    | cons ra rr =>
      cases rr
      obtain rfl : _ = V.int i := ra
      refine ⟨_, rfl, fun d hd => ?_⟩
      exact (show EPost m g E ⟨x, some (f, i)⟩ from P1) (.ref C) (some d) _ (S1.alloc hd).efr ⟨C, hmg ▸ h1, rfl, d, rfl, upd_same⟩
  · exact P1.elim
end
end DL

/-! The data layer, part q: the head's facts of the own exceptions with an `__init__`. -/
namespace HM
open PySem PySem.Spec PyProof.Rows L2 He DLR
abbrev IniV : Type := Option (Str × Str × Arguments × FuncBody × Scope × Addr × List Str × Value × Addr)
def iniObs (K : PySem.W.Frag) (p : Str × Option Str) : IniV := match K.lookup (fAd K p) with
  | some ⟨_, _, .func fd, _⟩ => some (fd.name, fd.qualname, fd.params, fd.body, fd.scope, fd.globals, fd.closure.map (·.1), fd.defaults, fd.builtins)
  | _ => none
def iniVal (d : FnD) : IniV := some (d.name, d.qual, d.params, .stmts d.body, d.scope, mainGlobals, ["__class__"], .none, builtinsNs)
def oexB (K : PySem.W.Frag) (C : Addr) : Bool := (match K.lookup C with
  | some ⟨.type "type", _, .cls cd, sl⟩ => (match cd.mro, sl.toList with
    | .ref C' :: bm, [_, _, _, _, some (.builtin n), _] => C' == C && n == "ValueError.__new__" && !cd.hasDel && cd.hasDict && PySem.HandSPX.refsVE bm
    | _, _ => false)
  | _ => false) && (eqO (PySem.W.findIn K (.ref C) "__setattr__") (some (some (.builtin "object.__setattr__"))) && (decide (PySem.W.subIn K (.ref C) (.type "BaseException") = some true) && (decide (PySem.W.typeIn K (.ref C) = some (.type "type")) && PySem.W.keepIn K (.ref C))))
theorem oexB_ok {K : PySem.W.Frag} {C : Addr} (h : oexB K C = true) : OexC K C := by
  unfold oexB at h
  obtain ⟨h0, h⟩ := ba h
  obtain ⟨h1, h⟩ := ba h
  obtain ⟨h2, h⟩ := ba h
  obtain ⟨h3, h4⟩ := ba h
  refine ⟨?_, eqO_ok h1, of_decide_eq_true h2, of_decide_eq_true h3, h4⟩
  split at h0
  · rename_i dd cd sl ho
    split at h0
    · rename_i C' bm k0 k1 k2 k3 n k5 hm hs
      simp only [Bool.and_eq_true, beq_iff_eq, Bool.not_eq_true'] at h0
      obtain ⟨⟨⟨⟨rfl, rfl⟩, hdel⟩, hdct⟩, ht⟩ := h0
      obtain ⟨nm, bs, mro, ns, qn, hd, sn, sub, ab, col, del⟩ := cd
      dsimp only at hm hdel hdct
      subst hm hdel hdct
      have hsl : sl = #[k0, k1, k2, k3, some (.builtin "ValueError.__new__"), k5] := by
        obtain ⟨l⟩ := sl
        simp only at hs
        rw [hs]
      subst hsl
      exact ⟨_, _, _, _, _, _, _, _, _, _, _, _, _, _, _, ho, ht⟩
    · cases h0
  · cases h0
/-- the class x with an `__init__` of its own that keeps the field f -/
def iniB (prog : Program) (K : PySem.W.Frag) (x f : Str) : Bool :=
  oexB K (ga K x) && (eqO (PySem.W.findIn K (.ref (ga K x)) "__init__") (some (some (.ref (ma K (ga K x) "__init__")))) && (decide (PySem.W.typeIn K (.ref (ma K (ga K x) "__init__")) = some (.type "function")) && (eqO (ks_superInB K (ga K x)) (some (some (.builtin "ValueError.__init__"))) &&
  (decide (PySem.W.subIn K (.ref (ga K x)) (.type "ValueError") = some true) && (decide (PySem.W.mroIn K (ga K x) (.ref (ga K x)) = some true) && (eqO (PySem.W.nsIn K cStatics "thirdparty.any") (some none) && (eqO (PySem.W.findIn K (.ref (ga K x)) f) (some none) &&
  ((!(prog.main.scope.names.lookup ("super" : Str)).isSome) && ((match K.lookup (ma K (ga K x) "__init__") with
    | some ⟨_, _, .func fd, _⟩ => (match fd.closure, fd.code with
      | [(_, cc)], .ref cda => PySem.W.codeIn K (.ref cda) fd.qualname && ((match K.lookup cc with
          | some ⟨_, _, .cell (some (.ref C')), _⟩ => C' == ga K x
          | _ => false) && (match K.lookup cda with
          | some ⟨_, _, .fields vs, _⟩ => (match (vs[2]? : Option Value) with
            | some (.str file _) => (prog.main.file : Str) == file
            | _ => false)
          | _ => false))
      | _, _ => false)
    | _ => false) && (eqO (PySem.W.nsIn K mainGlobals x) (some (some (.ref (ga K x)))) && eqO (PySem.W.nsIn K mainGlobals "super") (some none)))))))))))
where ks_superInB (K : PySem.W.Frag) (C : Addr) : Option (Option Value) := PySem.W.ks_superIn K C C "__init__"
/-- the head's addresses, the statics and the cells of the classes' `__init__` -/
def asX (g : Addr → Option Obj) (n : Nat) (xs : List Str) : List Addr := asG g n ++ (cStatics :: xs.flatMap fun x => match (frT g (asG g n)).lookup (ma (frT g (asG g n)) (ga (frT g (asG g n)) x) "__init__") with
  | some ⟨_, _, .func fd, _⟩ => fd.closure.map (·.2)
  | _ => [])
structure SaysI (fa : List Fa) (fn : List FnD) (tf : List Defn) (ex : PySem.W.Frag → Bool) (fi : List FnD) (h : Heap) (K : PySem.W.Frag) : Prop where
  m : SaysM fa fn tf ex h K
  ini : ∀ d ∈ fi, iniObs K d.at_ = iniVal d
abbrev AlI : Type := AlM × List IniV
def obsK (fa : List Fa) (fn : List FnD) (tf : List Defn) (ex : PySem.W.Frag → Bool) (fi : List FnD) (g : Addr → Option Obj) (K : PySem.W.Frag) : AlI := ((obsE fa fn K, ex K && tabsB g tf K), fi.map fun d => iniObs K d.at_)
theorem says_ofK {as : List Addr} {fa : List Fa} {fn : List FnD} {tf : List Defn} {ex : PySem.W.Frag → Bool} {fi : List FnD} {h : Heap} (e : obsK fa fn tf ex fi h.get? (frT h.get? as) = ((valE fn, true), fi.map iniVal)) : SaysI fa fn tf ex fi h (frT h.get? as) := by
  have e1 : obsE fa fn (frT h.get? as) = valE fn := congrArg (fun z : AlI => z.1.1) e
  have e2 : (ex (frT h.get? as) && tabsB h.get? tf (frT h.get? as)) = true := congrArg (fun z : AlI => z.1.2) e
  have e3 : fi.map (fun d => iniObs (frT h.get? as) d.at_) = fi.map iniVal := congrArg (fun z : AlI => z.2) e
  obtain ⟨h1, h2⟩ := ba e2
  have each : ∀ p ∈ tf, PySem.W.codeHdIn (frT h.get? as) (cT (frT h.get? as) p).1 (cT (frT h.get? as) p).2 = true ∧ ∃ o, h.get? (cT (frT h.get? as) p).2 = some o ∧ emptyTab o = true := fun p hp => by
    obtain ⟨k1, k2⟩ := ba (List.all_eq_true.mp h2 p hp)
    refine ⟨k1, ?_⟩
    cases q : h.get? (cT (frT h.get? as) p).2 with
    | none => rw [q] at k2; cases k2
    | some o => rw [q] at k2; exact ⟨o, rfl, k2⟩
  refine ⟨⟨e1, h1, fun p hp => (each p hp).1, fun p hp => ?_, fun p hp => ?_⟩, fun d hd => ?_⟩
  · obtain ⟨_, o, q, z⟩ := each p hp; exact frT_none q z
  · obtain ⟨_, o, q, z⟩ := each p hp; rw [q, emptyTab_eq z]
  · obtain ⟨i, hi⟩ := List.mem_iff_getElem?.mp hd
    have e4 : (fi.map fun d => iniObs (frT h.get? as) d.at_)[i]? = (fi.map iniVal)[i]? := by rw [e3]
    rw [List.getElem?_map, List.getElem?_map, hi] at e4
    exact Option.some.inj e4
def obsI (n : Nat) (fa : List Fa) (fn : List FnD) (tf : List Defn) (ex : PySem.W.Frag → Bool) (fi : List FnD) (g : Addr → Option Obj) : AlI := obsK fa fn tf ex fi g (frT g (asX g n (fi.map fun d => d.at_.1)))
def hookI (n : Nat) (fa : List Fa) (fn : List FnD) (tf : List Defn) (ex : PySem.W.Frag → Bool) (fi : List FnD) : PySem.W.Hook where
  α := AlI
  obs := fun s => obsI n fa fn tf ex fi s.heap.get?
  val := fun _ => ((valE fn, true), fi.map iniVal)
  says := fun _ h => ∃ K : PySem.W.Frag, K.In h ∧ SaysI fa fn tf ex fi h K
  of := fun _ s e => ⟨_, frT_in, says_ofK e⟩
  keeps := fun _ _ _ ⟨K, hK, c⟩ k => ⟨K, PySem.W.Frag.In.keeps hK k, ⟨⟨c.m.e, c.m.more, c.m.hd, c.m.out, fun p hp => k _ _ (c.m.empty p hp)⟩, c.ini⟩⟩
theorem obsI_eq {n : Nat} {fa : List Fa} {fn : List FnD} {tf : List Defn} {ex : PySem.W.Frag → Bool} {fi : List FnD} {g : Addr → Option Obj} {s : Shared} (h : ∀ a, g a = s.heap.get? a) : obsI n fa fn tf ex fi g = (hookI n fa fn tf ex fi).obs s := by
  have e : g = s.heap.get? := funext h
  rw [e] <;> rfl
theorem iniB_ok {prog : Program} {K : PySem.W.Frag} {h : Heap} {mg : Str → Option Value} {x f q z : Str} {j : Nat} {p0 p1 p2 p3 p4 p5 p6 p7 p8 p9 : Pos} {params : Arguments} {scope : Scope} (X : K.In h) (G : h.Ns mainGlobals mg) (b : iniB prog K x f = true)
    (o : iniObs K (x, some "__init__") = iniVal ⟨(x, some "__init__"), "__init__", q, params, iniBody f z j p0 p1 p2 p3 p4 p5 p6 p7 p8 p9, scope⟩) (S : ScI f scope) (hpos : (p2.endLine == p4.line) = true) (har : ∃ ar : Arg, (params.posonlyargs ++ params.args).head? = some ar ∧ ar.arg = "self")
    (hb : ∀ (kV doc pm : Value) (an : Option Addr) (cdv ct : Value) (cc : Addr) (a v : Value), bindArgs (PySem.W.ksFn "__init__" q params (iniBody f z j p0 p1 p2 p3 p4 p5 p6 p7 p8 p9) scope .none kV doc pm an cdv ct cc) ⟨[a, v], []⟩ = pure [(("self" : Str), a), (f, v)]) : DL.XokF prog K mg x f := by
  unfold iniB at b
  obtain ⟨b1, b⟩ := ba b
  obtain ⟨b2, b⟩ := ba b
  obtain ⟨b3, b⟩ := ba b
  obtain ⟨b4, b⟩ := ba b
  obtain ⟨b5, b⟩ := ba b
  obtain ⟨b6, b⟩ := ba b
  obtain ⟨b7, b⟩ := ba b
  obtain ⟨b8, b⟩ := ba b
  obtain ⟨b9, b⟩ := ba b
  obtain ⟨b10, b⟩ := ba b
  obtain ⟨b11, b12⟩ := ba b
  have T := oexB_ok b1
  refine ⟨ga K x, ma K (ga K x) "__init__", glo_ok X G b11, ⟨T, eqO_ok b2, of_decide_eq_true b3, ?_, eqO_ok b4, of_decide_eq_true b5, of_decide_eq_true b6, eqO_ok b7, eqO_ok b8, by simpa using b9⟩, T.kC, free_ok X G b12⟩
  have o2 := o
  unfold iniObs at o2
  rw [show fAd K (x, some ("__init__" : Str)) = ma K (ga K x) "__init__" from rfl] at o2
  cases lk : K.lookup (ma K (ga K x) "__init__") with
  | none => rw [lk] at b10; cases b10
  | some ob =>
    obtain ⟨oc, od, dt, osl⟩ := ob
    rw [lk] at b10 o2
    cases dt with
    | func fd =>
      dsimp only at b10 o2
      obtain ⟨n1, n2, n3, n4, n5, n6, n7, n8, n9, n10, n11, n12, n13, n14, n15⟩ := fd
      simp only [iniVal, Option.some.injEq, Prod.mk.injEq] at o2
      obtain ⟨h1, h2, h3, h4, h5, h6, h7, h8, h9⟩ := o2
      subst h1 h2 h3 h4 h5 h6 h8 h9
      dsimp only at b10
      split at b10
      · rename_i cn cc cda
        obtain ⟨c1, b10⟩ := ba b10
        obtain ⟨c2, c3⟩ := ba b10
        simp only [List.map_cons, List.map_nil, List.cons.injEq, and_true] at h7
        subst h7
        refine ⟨oc, od, osl, _, _, _, _, _, _, _, _, _, cda, cc, z, j, p0, p1, p2, p3, p4, p5, p6, p7, p8, p9, hpos, rfl, c1, S, har, fun s a v => BindsTo.of_eq (hb _ _ _ _ _ _ _ _ _), ?_, ?_⟩
        · cases lc : K.lookup cda with
          | none => rw [lc] at c3; cases c3
          | some oc2 =>
            obtain ⟨e1, e2, dt2, e3⟩ := oc2
            rw [lc] at c3
            cases dt2 with
            | fields vs =>
              dsimp only at c3
              split at c3
              · rename_i file tf hv
                exact ⟨_, _, _, _, _, _, rfl, hv, c3⟩
              · cases c3
            | _ => cases c3
        · split at c2
          · rename_i lc
            have e := beq_iff_eq.mp c2
            subst e
            exact ⟨_, _, _, lc⟩
          · cases c2
      · cases b10
    | _ => cases b10
end HM

/-! The data layer, part k: min and max of a list of data; tuples compared. -/
namespace DL
open PySem PySem.Spec PyProof.Rows L2
section
variable {prog : Program} {w : World} {A : Around} {s : Shared} {E : Value → Shared → Prop}
theorem getD_some {xs : List PyData} {i : Nat} (h : i < xs.length) : xs[i]? = some (xs.getD i .none) := by
  rw [List.getD_eq_getElem?_getD, List.getElem?_eq_getElem h]
  rfl
theorem max_list_at {l : Addr} {vs : Array Value} {x : PyData} {xs : List PyData} {as : List Addr} {Q : Value → Shared → Prop} (hh : A.handled = none) (hl : s.heap.IsList l vs) (hr : ReadsAll s.heap vs.toList (x :: xs) as) (ha : PySem.W.AlikeAll (x :: xs)) (hu : A.units + 1 + PyData.depthAll (x :: xs) < cLine)
    (h : ∀ (i : Nat) v h' tk, vs[i]? = some v → (x :: xs)[i]? = some (PySem.W.maxD x xs) → (∀ b o, s.heap.get? b = some o → h'.get? b = some o) → Q v { s with heap := h', toks := tk }) :
    wpAny (model prog w) A (call (.builtin "max") [.ref l]) Q E s := by
  have hn : vs.size = xs.length + 1 := PySem.W.readsAll_len hr
  refine call_max_walkH (PySem.W.iter_listW (A := A.in1) hh hl fun s₂ e W st hfp hw hk => ?_)
  refine ⟨_, _, _, _, _, _, _, s.heap, _, rfl, W, st, hfp, by omega, hw, hk, PySem.W.cmpIn_gt (A := A.in1) hr ha (by show A.units + 1 + _ < _; exact hu), fun v s' hP m => ?_⟩
  obtain ⟨h', tk, rfl, hk'⟩ := PySem.W.moved_old e rfl m
  obtain ⟨bs, r, hlt, _, _⟩ := PySem.W.readsAll_atA hr _ v hP
  have e1 : vs.size - 1 = xs.length := by omega
  have e2 := (PySem.W.argBest_fold (fun a b => PySem.W.dataLt b a) PyData.none x xs xs.length (Nat.le_refl _)).2
  rw [List.take_length] at e2
  refine h _ v h' tk hP ?_ hk'
  rw [getD_some hlt, e1]
  unfold PySem.W.maxD
  rw [← e2]
theorem min_list_at {l : Addr} {vs : Array Value} {x : PyData} {xs : List PyData} {as : List Addr} {Q : Value → Shared → Prop} (hh : A.handled = none) (hl : s.heap.IsList l vs) (hr : ReadsAll s.heap vs.toList (x :: xs) as) (ha : PySem.W.AlikeAll (x :: xs)) (hu : A.units + 1 + PyData.depthAll (x :: xs) < cLine)
    (h : ∀ (i : Nat) v h' tk, vs[i]? = some v → (x :: xs)[i]? = some (PySem.W.minD x xs) → (∀ b o, s.heap.get? b = some o → h'.get? b = some o) → Q v { s with heap := h', toks := tk }) :
    wpAny (model prog w) A (call (.builtin "min") [.ref l]) Q E s := by
  have hn : vs.size = xs.length + 1 := PySem.W.readsAll_len hr
  refine call_min_walkH (PySem.W.iter_listW (A := A.in1) hh hl fun s₂ e W st hfp hw hk => ?_)
  refine ⟨_, _, _, _, _, _, _, s.heap, _, rfl, W, st, hfp, by omega, hw, hk, PySem.W.cmpIn_lt (A := A.in1) hr ha (by show A.units + 1 + _ < _; exact hu), fun v s' hP m => ?_⟩
  obtain ⟨h', tk, rfl, hk'⟩ := PySem.W.moved_old e rfl m
  obtain ⟨bs, r, hlt, _, _⟩ := PySem.W.readsAll_atA hr _ v hP
  have e1 : vs.size - 1 = xs.length := by omega
  have e2 := (PySem.W.argBest_fold PySem.W.dataLt PyData.none x xs xs.length (Nat.le_refl _)).2
  rw [List.take_length] at e2
  refine h _ v h' tk hP ?_ hk'
  rw [getD_some hlt, e1]
  unfold PySem.W.minD
  rw [← e2]
end
/-- all can be compared -/
def alikeL (ds : List PyData) : Bool := (ds.all fun x => ds.all fun y => PySem.W.alike x y) && (ds.all (fun x => !isNone x)) && noDicts ds && decide (PyData.depthAll ds ≤ 60)
theorem alikeL_all {ds : List PyData} (h : alikeL ds = true) : PySem.W.AlikeAll ds ∧ noDicts ds = true ∧ PyData.depthAll ds ≤ 60 := by
  unfold alikeL at h
  simp only [Bool.and_eq_true, decide_eq_true_eq] at h
  obtain ⟨⟨⟨h1, h2⟩, h3⟩, h4⟩ := h
  refine ⟨⟨fun x hx y hy => ?_, fun x hx z => ?_⟩, h3, h4⟩
  · exact List.all_eq_true.mp (List.all_eq_true.mp h1 x hx) y hy
  · have := List.all_eq_true.mp h2 x hx
    subst z
    cases this
def mxD : OpN := fun as => match as with
  | [.list (d :: ds)] => if alikeL (d :: ds) = true then yes (PySem.W.maxD d ds) else none
  | _ => none
def mnD : OpN := fun as => match as with
  | [.list (d :: ds)] => if alikeL (d :: ds) = true then yes (PySem.W.minD d ds) else none
  | _ => none
def rMx (b : PyData → List PyData → PyData) (K : PySem.W.Frag) : List V → Hp → VK → Prop := fun vs H Q => ∃ (a : Addr) (xs : List V) (d : PyData) (ds : List PyData), vs = [V.ref a] ∧ SqL K H a xs ∧ DpAll K H xs (d :: ds) ∧ alikeL (d :: ds) = true ∧ ∀ (i : Nat) v, xs[i]? = some v → (d :: ds)[i]? = some (b d ds) → Q v H
section
variable {X : Cx}
theorem vals_at {xs : List V} {us : List Value} {i : Nat} {u : Value} (r : Vals xs us) (h : us[i]? = some u) : ∃ x, xs[i]? = some x ∧ RelV x u := by
  cases e : xs[i]? with
  | none => rw [Vals.none_of r e] at h; cases h
  | some x =>
    obtain ⟨u', h', r'⟩ := Vals.get r e
    rw [h] at h'; cases h'
    exact ⟨x, rfl, r'⟩
theorem cr_mx (hc : X.calm = true) (hu : X.A.units + 64 < cLine) : CallR X (.builtin "max") (rMx PySem.W.maxD X.K) := by
  intro pins s σ H vs us Q I r h
  obtain ⟨a, xs, d, ds, rfl, hs, hd, ha, q⟩ := h
  obtain ⟨its, rv, hl, _⟩ := I.list hs
  obtain ⟨as, hr⟩ := Dp.readsAll I (d :: ds) xs its hd rv
  rw [Vals.ref1 r]
  obtain ⟨h1, h2, h3⟩ := alikeL_all ha
  refine max_list_at (I.ok.hd hc) hl.isList (vs := its.toArray) hr h1 (by omega) fun i v h' tk hv hm hk => ?_
  obtain ⟨x, hx, rx⟩ := vals_at rv (show its[i]? = some v by simpa using hv)
  exact ⟨x, H, I.kept hk, rx, q i x hx hm⟩
theorem cr_mn (hc : X.calm = true) (hu : X.A.units + 64 < cLine) : CallR X (.builtin "min") (rMx PySem.W.minD X.K) := by
  intro pins s σ H vs us Q I r h
  obtain ⟨a, xs, d, ds, rfl, hs, hd, ha, q⟩ := h
  obtain ⟨its, rv, hl, _⟩ := I.list hs
  obtain ⟨as, hr⟩ := Dp.readsAll I (d :: ds) xs its hd rv
  rw [Vals.ref1 r]
  obtain ⟨h1, h2, h3⟩ := alikeL_all ha
  refine min_list_at (I.ok.hd hc) hl.isList (vs := its.toArray) hr h1 (by omega) fun i v h' tk hv hm hk => ?_
  obtain ⟨x, hx, rx⟩ := vals_at rv (show its[i]? = some v by simpa using hv)
  exact ⟨x, H, I.kept hk, rx, q i x hx hm⟩
end
theorem ok_mx {K : PySem.W.Frag} : CallOk (rMx PySem.W.maxD K) mxD := by
  intro F H xs ds own d Q w r e c
  unfold mxD at e
  split at e
  · rename_i d0 ds0
    split at e
    · rename_i ha
      cases e
      rcases r with _ | ⟨r1, t1⟩
      cases t1
      obtain ⟨a, vs, rfl, hva, ra⟩ := view_lst w r1
      obtain ⟨h1, h2, h3⟩ := alikeL_all ha
      refine ⟨a, vs, d0, ds0, rfl, .inl (.inl hva), reps_dp w h2 ra, ha, fun i v hv hm => c.1 _ ?_⟩
      obtain ⟨v', hv', rv⟩ := reps_get ra hm
      rw [hv] at hv'
      cases hv'
      exact rv
    · cases e
  · cases e
theorem ok_mn {K : PySem.W.Frag} : CallOk (rMx PySem.W.minD K) mnD := by
  intro F H xs ds own d Q w r e c
  unfold mnD at e
  split at e
  · rename_i d0 ds0
    split at e
    · rename_i ha
      cases e
      rcases r with _ | ⟨r1, t1⟩
      cases t1
      obtain ⟨a, vs, rfl, hva, ra⟩ := view_lst w r1
      obtain ⟨h1, h2, h3⟩ := alikeL_all ha
      refine ⟨a, vs, d0, ds0, rfl, .inl (.inl hva), reps_dp w h2 ra, ha, fun i v hv hm => c.1 _ ?_⟩
      obtain ⟨v', hv', rv⟩ := reps_get ra hm
      rw [hv] at hv'
      cases hv'
      exact rv
    · cases e
  · cases e
section
variable {X : Cx} {m : Md} {E : XK} {pos p p1 : Pos} {e a b c : Expr} {f k l : EM} {es : List Expr} {t : AM}
theorem g_mx (hc : X.calm = true) (hu : X.A.units + 64 < cLine) (hg : Gl X "max") (hm : X.mg "max" = none) (ha : PA X (e :: es) (dA m E t)) (he : starEach (e :: es) X.env = (false, eval e X.env) :: starEach es X.env := by rfl) (hpl : (backTo pos (starEach es X.env)).any (·.1) = false := by rfl) : PE X (.Call (.Name "max" p) (e :: es) [] pos) (dE m E (eB mxD t)) := d_callB (cr_mx hc hu) ok_mx hg hm (by decide +kernel) ha (by decide) (by decide) he hpl
theorem g_mn (hc : X.calm = true) (hu : X.A.units + 64 < cLine) (hg : Gl X "min") (hm : X.mg "min" = none) (ha : PA X (e :: es) (dA m E t)) (he : starEach (e :: es) X.env = (false, eval e X.env) :: starEach es X.env := by rfl) (hpl : (backTo pos (starEach es X.env)).any (·.1) = false := by rfl) : PE X (.Call (.Name "min" p) (e :: es) [] pos) (dE m E (eB mnD t)) := d_callB (cr_mn hc hu) ok_mn hg hm (by decide +kernel) ha (by decide) (by decide) he hpl
end
/-! ### one tuple greater than another -/
def gtTD : Op2 := fun x y => match x, y with
  | .tuple a, .tuple b => if noDicts a && noDicts b && PySem.W.alikeAll a b && decide (PyData.depthAll a ≤ 60) then bD (PySem.W.dataLt (.tuple b) (.tuple a)) else none
  | _, _ => none
def rGtT (K : PySem.W.Frag) : R2 := fun x y H Q => ∃ a b, Dp K H x (.tuple a) ∧ Dp K H y (.tuple b) ∧ PySem.W.alikeAll a b = true ∧ PyData.depthAll a ≤ 60 ∧ Q (.bl (PySem.W.dataLt (.tuple b) (.tuple a))) H
theorem op_gtT {X : Cx} (hu : X.A.units + 64 < cLine) : OpR X (compareOp .Gt) (rGtT X.K) := by
  intro pins s σ H x y v u Q I rx ry h
  obtain ⟨a, b, hd, he, hal, hz, q⟩ := h
  obtain ⟨as, r1⟩ := Dp.reads I _ x v hd rx
  obtain ⟨bs, r2⟩ := Dp.reads I _ y u he ry
  refine PySem.W.gt_data r1 r2 (by simpa [PySem.W.alike] using hal) (fun z => nomatch z) ?_ ⟨.bl _, H, I, rfl, q⟩
  have := Nat.min_le_left (PyData.tuple a).depth (PyData.tuple b).depth
  have e : (PyData.tuple a).depth = PyData.depthAll a + 1 := by simp [PyData.depth]
  omega
theorem ok_gtT {K : PySem.W.Frag} : BinOk (rGtT K) gtTD := by
  intro F H x y d1 d2 own d Q w r1 r2 h c
  unfold gtTD at h
  split at h
  · rename_i a b
    split at h
    · rename_i hz
      simp only [Bool.and_eq_true, decide_eq_true_eq] at hz
      cases h
      exact ⟨a, b, rep_dp w (by simpa [noDict] using hz.1.1.1) r1, rep_dp w (by simpa [noDict] using hz.1.1.2) r2, hz.1.2, hz.2, c.1 _ rfl⟩
    · cases h
  · cases h
section
variable {X : Cx} {m : Md} {E : XK} {pos p : Pos} {s : FnS} {k : Nat} {ps : List Str} {x : Str}
/-- a call with no arguments -/
theorem d_callO0 (O : Okf X.prog X.w X.K X.mg X.base x ps k (spD m s)) (hr : Room k X.A) (hx : Passes (L2N.CX X.prog X.w) X E) (hg : Gl X x := by rfl) (hdb : (x == ("__debug__" : Str)) = false := by decide) : PE X (.Call (.Name x p) [] [] pos) (dE m E (eCall s aNil)) := by
  obtain ⟨f, fd, h1, h2, h3, h4⟩ := O
  refine PE.imp (pe_call0 h4 hr hg h1 h2 h3 .nil hx hdb) fun σ H Q q => ?_
  obtain ⟨g, F, env, S, P⟩ := rd_eCall q
  exact P [] F H (.refl F) S .nil
end
end DL

/-! The data layer, part m: comprehensions with two fors. -/
namespace DL
open PySem PySem.Spec PyProof.Rows L2
def lcL2 (vs vs1 : List Nat) (b : GM) (t : TM) (i1 : IM) (b1 : GM) (t1 : TM) (f : EM) : List PyData → Ev → List PyData → Res (List PyData)
  | [], env, acc => rok acc env
  | d :: ds, env, acc => match b d env with
    | none => none
    | some e1 => rb (noErr (t e1)) fun c e2 => if c = true then rb (noErr (i1 e2)) fun ds1 e3 => rb (lcL vs1 b1 t1 f ds1 (hide e3 vs1) acc) fun acc' e4 => lcL2 vs vs1 b t i1 b1 t1 f ds (hide e4 vs) acc' else lcL2 vs vs1 b t i1 b1 t1 f ds (hide e2 vs) acc
def eLc2 (vs vs1 : List Nat) (b : GM) (i : IM) (t : TM) (b1 : GM) (i1 : IM) (t1 : TM) (f : EM) : EM := fun env => rb (i env) fun ds e => if noOwn e vs = true then rb (lcL2 vs vs1 b t i1 b1 t1 f ds (hide e vs) []) fun acc e2 => rok (true, .list acc) (unhide e e2 vs) else none
theorem own_hide {σ : L2.St} {env : Ev} {vs : List Nat} {i : Nat} {a : Addr} (h : OwnA (wipe σ vs) (DL.hide env vs) i a) : OwnA σ env i a := by
  obtain ⟨h1, h2⟩ := h
  have hi : i ∉ vs := fun z => by
    rcases h2 with ⟨d, e⟩ | ⟨d, e⟩ <;> (rcases hide_get e with ⟨_, q⟩ | ⟨q, _⟩ <;> first | (cases q; done) | exact q z)
  refine ⟨by rw [wipe_off hi] at h1; exact h1, ?_⟩
  rcases h2 with ⟨d, e⟩ | ⟨d, e⟩
  · rcases hide_get e with ⟨q, _⟩ | ⟨_, q⟩
    · exact (hi q).elim
    · exact .inl ⟨d, q⟩
  · rcases hide_get e with ⟨q, _⟩ | ⟨_, q⟩
    · exact (hi q).elim
    · exact .inr ⟨d, q⟩
theorem wipe_sub {σ : L2.St} {vs vs1 : List Nat} (h : ∀ i ∈ vs1, i ∈ vs) : wipe (wipe σ vs1) vs = wipe σ vs := wipe_same (ts := vs1) ⟨wipe_length _ _, fun j hj => wipe_off hj⟩ h
section
variable {m : Md} {g g1 g2 : Gc} {E E2 : XK} {F : Fv} {H : Hp} {σ : L2.St} {env : Ev} {vs vs1 ts ts1 : List Nat} {b b1 : GM} {i i1 : IM} {t t1 : TM} {f : EM} {ds ad : List PyData} {av : List V} {D : Addr} {J : It} {K : List PyData → Ev → Prop} {NX : Hp → Prop}
/-- the turns that fill a list at D that stands -/
theorem lc_core (hts : ∀ i ∈ ts, i ∈ vs) (S : SR m g1 F H (wipe σ vs) env) (hn' : g1.H0 D = none) (hio : g1.io ≠ some D) (hl : D ∉ g1.L.map (·.1)) (hav : H D = some (.lst av)) (hr : Reps F av ad) (hF : F D = none) (hx : ∀ j, ¬ OwnA (wipe σ vs) env j D)
    (sv : Serves J F ds) (P : Post m g2 E2 (lcL vs b t f ds env ad) K)
    (done : ∀ F' H' env' av ad, Fle F F' → SR m g1 F' H' (wipe σ vs) env' → H' D = some (.lst av) → Reps F' av ad → F' D = none → (∀ j, ¬ OwnA (wipe σ vs) env' j D) → K ad env' → NX H') :
    ∃ W : Nat → Nat → Hp → Prop, (∃ n, W 0 n H) ∧ ∀ i n H, W i n H → (J.stop i H ∧ NX H) ∨ (J.go i H ∧ ∃ Nx : Hp → Prop, (∀ H', Nx H' → ∃ n', n' < n ∧ W (i + 1) n' H') ∧ ∀ x H', J.yld i H x H' → dG m ts b x (wipe σ vs) H' fun σ3 H5 => wipe σ3 vs = wipe σ vs ∧ dT m E0 t σ3 H5 fun c H6 => if c = true then dE m E0 f σ3 H6 fun y H7 => ∃ acc, H7 D = some (.lst acc) ∧ acc.length < sizeLine ∧ Nx (upd H7 D (.lst (acc ++ [y]))) else Nx H6) := by
  refine ⟨fun i n H' => ∃ F2 env2 av ad, Fle F F2 ∧ SR m g1 F2 H' (wipe σ vs) env2 ∧ H' D = some (.lst av) ∧ Reps F2 av ad ∧ F2 D = none ∧ (∀ j, ¬ OwnA (wipe σ vs) env2 j D) ∧ n = ds.length - i ∧ i ≤ ds.length ∧ Post m g2 E2 (lcL vs b t f (ds.drop i) env2 ad) K,
    ⟨ds.length, F, env, av, ad, .refl F, S, hav, hr, hF, hx, rfl, Nat.zero_le _, P⟩, ?_⟩
  rintro i n H' ⟨F2, env2, av, ad, lF, S2, hav, hr, hF2, hx2, rfl, hi, P2⟩
  have sv2 := sv F2 H' lF S2.view i
  by_cases hlt : i < ds.length
  · rw [drop_get hlt] at P2
    obtain ⟨go, yl⟩ := sv2.2 ds[i] (List.getElem?_eq_getElem hlt)
    unfold lcL at P2
    refine .inr ⟨go, fun H'' => ∃ F2 env2 av ad, Fle F F2 ∧ SR m g1 F2 H'' (wipe σ vs) env2 ∧ H'' D = some (.lst av) ∧ Reps F2 av ad ∧ F2 D = none ∧ (∀ j, ¬ OwnA (wipe σ vs) env2 j D) ∧ Post m g2 E2 (lcL vs b t f (ds.drop (i + 1)) env2 ad) K,
      fun H'' ⟨F3, env3, av3, ad3, a0, a1, a2, a3, a4, a5, a6⟩ => ⟨ds.length - (i + 1), by omega, F3, env3, av3, ad3, a0, a1, a2, a3, a4, a5, rfl, by omega, a6⟩, fun x H'' y => ?_⟩
    have S2h := (show SR m (g1.at F2) F2 H' (wipe σ vs) env2 from S2.rebase).hold (o := .lst av) hav trivial hn' hx2 hF2
    obtain ⟨F3, l3, S3, r3⟩ := S2h.yielded (yl x H'' y)
    cases eb : b ds[i] env2 with
    | none => rw [eb] at P2; exact P2.elim
    | some e3 =>
      rw [eb] at P2
      refine ⟨_, F3, env2, ds[i], e3, S3, r3, eb, fun σ3 S4 so => ?_⟩
      have hw : wipe σ3 vs = wipe (wipe σ vs) vs := wipe_same so hts
      refine ⟨hw.trans wipe_wipe, ?_⟩
      refine ⟨_, F3, e3, S4, Post.mono (post_noErr (post_rb P2)) fun c e4 _ P4 F4 H4 l4 S5 => ?_⟩
      cases c with
      | true =>
        refine iteT (dE_use S5 (Post.mono (post_noErr (post_rb P4)) fun od e5 _ P5 y5 F5 H5 l5 S6 r6 => ?_))
        obtain ⟨S7, hD7, hF7, hx7⟩ := SR.unhold (g := g1) S6 hn' trivial hF2 hio hl
        by_cases hz : ad.length < sizeLine
        · rw [if_pos hz] at P5
          refine ⟨av, hD7, by rw [Paired.length hr]; exact hz, F5, hide e5 vs, av ++ [y5], ad ++ [od.2], lF.trans ((l3.trans l4).trans l5), ?_, upd_same, Paired.snoc (Reps.mono ((l3.trans l4).trans l5) hr) r6, hF7, ?_, P5⟩
          · have S8 := (S7.wrote (o := .lst (av ++ [y5])) hD7 trivial (.inl hn') hF7 hx7 hl).hide vs
            rw [hw.trans wipe_wipe] at S8
            exact S2.unbase S8
          · intro j hj
            exact hx7 j (own_hide (vs := vs) (by rw [hw.trans wipe_wipe]; exact hj))
        · rw [if_neg hz] at P5
          exact P5.elim
      | false =>
        refine iteF ?_
        obtain ⟨S7, hD7, hF7, hx7⟩ := SR.unhold (g := g1) S5 hn' trivial hF2 hio hl
        refine ⟨F4, hide e4 vs, av, ad, lF.trans (l3.trans l4), ?_, hD7, Reps.mono (l3.trans l4) hr, hF7, ?_, P4⟩
        · have S8 := S7.hide vs
          rw [hw.trans wipe_wipe] at S8
          exact S2.unbase S8
        · intro j hj
          exact hx7 j (own_hide (vs := vs) (by rw [hw.trans wipe_wipe]; exact hj))
  · have e : i = ds.length := by omega
    subst e
    rw [List.drop_length] at P2
    exact .inl ⟨sv2.1 (Nat.le_refl _), done F2 H' env2 av ad lF S2 hav hr hF2 hx2 P2⟩
theorem rd_lc2 (hts : ∀ i ∈ ts, i ∈ vs) (hts1 : ∀ i ∈ ts1, i ∈ vs1) (hv : ∀ i ∈ vs1, i ∈ vs) {Q : VK} (q : dE m E (eLc2 vs vs1 b i t b1 i1 t1 f) σ H Q) : tLc2 (dI m E i) (dG m ts b) (dT m E0 t) (dI m E0 i1) (dG m ts1 b1) (dT m E0 t1) (dE m E0 f) vs vs1 σ H Q := by
  obtain ⟨g, F, env, S, P⟩ := q
  refine ⟨g, F, env, S, (post_rb P).mono fun ds e1 _ P1 J F1 H1 l1 S1 sv D hD => ?_⟩
  split at P1
  · rename_i hno
    have P1 := post_rb P1
    obtain ⟨hn, hfD, hx, hio, hl⟩ := S1.apart hD
    have hn' : (g.at F1).H0 D = none := hn
    refine ⟨fun i n H' => ∃ F2 env2 av ad, SR m (g.at F1) F2 H' (wipe σ vs) env2 ∧ H' D = some (.lst av) ∧ Reps F2 av ad ∧ F2 D = none ∧ (∀ j, ¬ OwnA (wipe σ vs) env2 j D) ∧ n = ds.length - i ∧ i ≤ ds.length ∧
        Post m (g.at F1) E (lcL2 vs vs1 b t i1 b1 t1 f (ds.drop i) env2 ad) (fun acc e2 => ∀ v F' H', SR m (g.at F1) F' H' σ (unhide e1 e2 vs) → VOk (g.at F1) F' H' σ (unhide e1 e2 vs) true (.list acc) v → Q v H'),
      ⟨ds.length, F1, hide e1 vs, [], [], ?_, upd_same, .nil, hfD, ?_, rfl, Nat.zero_le _, ?_⟩, ?_⟩
    · exact (S1.rebase.hide vs).alloc hD
    · intro j hj
      obtain ⟨_, o, h, _⟩ := (S1.hide vs).own hj
      rw [hD] at h; cases h
    · exact Post.at P1 fun acc e2 _ k v F' H' S' vo => k v F' H' (l1.trans S'.ext) (S1.unbase S') vo
    · rintro i n H' ⟨F2, env2, av, ad, S2, hav, hr, hF2, hx2, rfl, hi, P2⟩
      have sv2 := sv F2 H' S2.ext S2.view i
      by_cases hlt : i < ds.length
      · rw [drop_get hlt] at P2
        obtain ⟨go, yl⟩ := sv2.2 ds[i] (List.getElem?_eq_getElem hlt)
        unfold lcL2 at P2
        refine .inr ⟨go, fun H'' => ∃ F2 env2 av ad, SR m (g.at F1) F2 H'' (wipe σ vs) env2 ∧ H'' D = some (.lst av) ∧ Reps F2 av ad ∧ F2 D = none ∧ (∀ j, ¬ OwnA (wipe σ vs) env2 j D) ∧
            Post m (g.at F1) E (lcL2 vs vs1 b t i1 b1 t1 f (ds.drop (i + 1)) env2 ad) (fun acc e2 => ∀ v F' H', SR m (g.at F1) F' H' σ (unhide e1 e2 vs) → VOk (g.at F1) F' H' σ (unhide e1 e2 vs) true (.list acc) v → Q v H'),
          fun H'' ⟨F3, env3, av3, ad3, a1, a2, a3, a4, a5, a6⟩ => ⟨ds.length - (i + 1), by omega, F3, env3, av3, ad3, a1, a2, a3, a4, a5, rfl, by omega, a6⟩, fun x H'' y => ?_⟩
        have S2h := (show SR m ((g.at F1).at F2) F2 H' (wipe σ vs) env2 from S2.rebase).hold (o := .lst av) hav trivial hn hx2 hF2
        obtain ⟨F3, l3, S3, r3⟩ := S2h.yielded (yl x H'' y)
        cases eb : b ds[i] env2 with
        | none => rw [eb] at P2; exact P2.elim
        | some e3 =>
          rw [eb] at P2
          refine ⟨_, F3, env2, ds[i], e3, S3, r3, eb, fun σ3 S4 so => ?_⟩
          have hw : wipe σ3 vs = wipe (wipe σ vs) vs := wipe_same so hts
          refine ⟨hw.trans wipe_wipe, ?_⟩
          refine ⟨_, F3, e3, S4, Post.mono (post_noErr (post_rb P2)) fun c e4 _ P4 F4 H4 l4 S5 => ?_⟩
          cases c with
          | true =>
            refine iteT ⟨_, F4, e4, S5, Post.mono (post_noErr (post_rb P4)) fun ds1 e5 _ P5 J1 F5 H5 l5 S6 sv1 => ?_⟩
            obtain ⟨S7, hD7, hF7, hx7⟩ := SR.unhold (g := g.at F1) S6 hn' trivial hF2 hio hl
            refine lc_core (g1 := (g.at F1).at F2) hts1 (S7.hide vs1) hn' hio hl hD7 (Reps.mono ((l3.trans l4).trans l5) hr) hF7 (fun j hj => hx7 j (own_hide hj)) sv1 (post_rb P5) ?_
            intro F6 H6 e6 av6 ad6 l6 S8 h1 h2 h3 h4 P6
            refine ⟨F6, hide e6 vs, av6, ad6, ?_, h1, h2, h3, ?_, P6⟩
            · have S9 := S8.hide vs
              rw [wipe_sub hv, hw.trans wipe_wipe] at S9
              exact S2.unbase S9
            · intro j hj
              refine h4 j (own_hide (vs := vs) ?_)
              rw [wipe_sub hv, hw.trans wipe_wipe]
              exact hj
          | false =>
            refine iteF ?_
            obtain ⟨S7, hD7, hF7, hx7⟩ := SR.unhold (g := g.at F1) S5 hn' trivial hF2 hio hl
            refine ⟨F4, hide e4 vs, av, ad, ?_, hD7, Reps.mono (l3.trans l4) hr, hF7, ?_, P4⟩
            · have S8 := S7.hide vs
              rw [hw.trans wipe_wipe] at S8
              exact S2.unbase S8
            · intro j hj
              exact hx7 j (own_hide (vs := vs) (by rw [hw.trans wipe_wipe]; exact hj))
      · have e : i = ds.length := by omega
        subst e
        rw [List.drop_length] at P2
        refine .inl ⟨sv2.1 (Nat.le_refl _), ?_⟩
        have S3 : SR m (g.at F1) F2 H' σ (unhide e1 env2 vs) := S1.rebase.unhide hno S2.ext S2
        refine P2 _ F2 H' S3 ⟨D, rfl, ⟨hF2, _, hav, trivial, hr⟩, hn, fun j hj => hx2 j ?_⟩
        have hl2 : env2.length = e1.length := by rw [← S2.len, wipe_length, S1.len]
        obtain ⟨q1, q2⟩ := hj
        have nv : ∀ i ∈ vs, (∀ d, e1[i]? ≠ some (.ow d)) ∧ ∀ d, e1[i]? ≠ some (.io d) := fun i hi => by
          have h := List.all_eq_true.mp hno i hi
          refine ⟨fun d z => ?_, fun d z => ?_⟩ <;> (rw [z] at h; simp at h)
        have hjv : j ∉ vs := fun z => by
          rcases q2 with ⟨d, q⟩ | ⟨d, q⟩ <;> (rcases unhide_get hl2 q with ⟨_, w⟩ | ⟨w, _⟩ <;> first | exact (nv j z).1 _ w | exact (nv j z).2 _ w | exact w z)
        refine ⟨by rw [wipe_off hjv]; exact q1, ?_⟩
        rcases q2 with ⟨d, q⟩ | ⟨d, q⟩
        · exact .inl ⟨d, (unhide_get hl2 q).elim (fun w => (hjv w.1).elim) (·.2)⟩
        · exact .inr ⟨d, (unhide_get hl2 q).elim (fun w => (hjv w.1).elim) (·.2)⟩
  · exact P1.elim
end
section
variable {X : Cx} {m : Md} {E : XK} {pos : Pos} {elt tg iter tg1 iter1 : Expr} {ifs ifs1 : List Expr} {scope : Scope} {own : List (Str × Nat)} {b b1 : GM} {i i1 : IM} {t t1 : TM} {f : EM} {ts ts1 vs1 : List Nat}
theorem d_lc2 (hc : X.calm = true) (hN : X.N.Nodup) (hi : PI X tg iter (dI m E i)) (ok : BlkOk X.N X.env.scope scope own) (hts : ∀ i ∈ ts, i ∈ own.map (·.2)) (hts1 : ∀ i ∈ ts1, i ∈ vs1) (hv : ∀ i ∈ vs1, i ∈ own.map (·.2))
    (hg : ∀ (s : Shared) (H : Hp) (C : Addr) (cl : List (Str × Addr)) (fp : List Addr), PG (X.blk s H scope (compEnvC scope cl C X.env) fp) tg (dG m ts b)) (ht : ∀ (s : Shared) (H : Hp) (C : Addr) (cl : List (Str × Addr)) (fp : List Addr), PTs (X.blk s H scope (compEnvC scope cl C X.env) fp) ifs (dT m E0 t))
    (hi1 : ∀ (s : Shared) (H : Hp) (C : Addr) (cl : List (Str × Addr)) (fp : List Addr), PI (X.blk s H scope (compEnvC scope cl C X.env) fp) tg1 iter1 (dI m E0 i1))
    (hg1 : ∀ (s : Shared) (H : Hp) (C : Addr) (cl : List (Str × Addr)) (fp : List Addr), PG (X.blk s H scope (compEnvC scope cl C X.env) fp) tg1 (dG m ts1 b1)) (ht1 : ∀ (s : Shared) (H : Hp) (C : Addr) (cl : List (Str × Addr)) (fp : List Addr), PTs (X.blk s H scope (compEnvC scope cl C X.env) fp) ifs1 (dT m E0 t1))
    (he : ∀ (s : Shared) (H : Hp) (C : Addr) (cl : List (Str × Addr)) (fp : List Addr), PE (X.blk s H scope (compEnvC scope cl C X.env) fp) elt (dE m E0 f)) (hs : ∀ x, foldedSetIterable iter X.env x = pure x := by intro _; rfl) (hs1 : ∀ env x, foldedSetIterable iter1 env x = pure x := by intro _ _; rfl) :
    PE X (.ListComp elt [⟨tg, iter, ifs, 0⟩, ⟨tg1, iter1, ifs1, 0⟩] scope pos) (dE m E (eLc2 (own.map (·.2)) vs1 b i t b1 i1 t1 f)) := PE.imp (pe_lc2 hc hN hi ok hv hg ht hi1 hg1 ht1 he hs hs1) fun _ _ _ => rd_lc2 hts hts1 hv
theorem ds_setLc2 {j : Nat} {y : Str} {py spos : Pos} (hc : X.calm = true) (hN : X.N.Nodup) (hy : X.N[j]? = some y) (hyl : X.env.scope.names.lookup y = some .local)
    (hsw : swapsWith (.ListComp elt [⟨tg, iter, ifs, 0⟩, ⟨tg1, iter1, ifs1, 0⟩] scope pos) (some (.Name y py)) spos.line X.env = pure true) (hi : PI X tg iter (dI m E i)) (ok : BlkOk X.N X.env.scope scope own) (hts : ∀ i ∈ ts, i ∈ own.map (·.2)) (hts1 : ∀ i ∈ ts1, i ∈ vs1) (hv : ∀ i ∈ vs1, i ∈ own.map (·.2))
    (hg : ∀ (s : Shared) (H : Hp) (C : Addr) (cl : List (Str × Addr)) (fp : List Addr), PG (X.blk s H scope (compEnvC scope cl C X.env) fp) tg (dG m ts b)) (ht : ∀ (s : Shared) (H : Hp) (C : Addr) (cl : List (Str × Addr)) (fp : List Addr), PTs (X.blk s H scope (compEnvC scope cl C X.env) fp) ifs (dT m E0 t))
    (hi1 : ∀ (s : Shared) (H : Hp) (C : Addr) (cl : List (Str × Addr)) (fp : List Addr), PI (X.blk s H scope (compEnvC scope cl C X.env) fp) tg1 iter1 (dI m E0 i1))
    (hg1 : ∀ (s : Shared) (H : Hp) (C : Addr) (cl : List (Str × Addr)) (fp : List Addr), PG (X.blk s H scope (compEnvC scope cl C X.env) fp) tg1 (dG m ts1 b1)) (ht1 : ∀ (s : Shared) (H : Hp) (C : Addr) (cl : List (Str × Addr)) (fp : List Addr), PTs (X.blk s H scope (compEnvC scope cl C X.env) fp) ifs1 (dT m E0 t1))
    (he : ∀ (s : Shared) (H : Hp) (C : Addr) (cl : List (Str × Addr)) (fp : List Addr), PE (X.blk s H scope (compEnvC scope cl C X.env) fp) elt (dE m E0 f)) (hs : ∀ x, foldedSetIterable iter X.env x = pure x := by intro _; rfl) (hs1 : ∀ env x, foldedSetIterable iter1 env x = pure x := by intro _ _; rfl) :
    PS X (.Assign [.Name y py] (.ListComp elt [⟨tg, iter, ifs, 0⟩, ⟨tg1, iter1, ifs1, 0⟩] scope pos) spos) (dS m E (sSet j (eLc2 (own.map (·.2)) vs1 b i t b1 i1 t1 f))) :=
  ds_setR (ps_setLc2 hc hN hy hyl hsw hi ok hv hg ht hi1 hg1 ht1 he hs hs1) fun _ _ _ => rd_lc2 hts hts1 hv
end
end DL

/-! The data layer, part n: dicts whose keys are ints, texts, or tuples of these. -/
namespace DL
open PySem PySem.Spec PyProof.Rows L2
/-! ### dict comprehensions whose keys are tuples -/
theorem d_setT {X : Cx} {pins : List (Addr × Obj)} {σ : L2.St} {H : Hp} {s : Shared} {E : Value → Shared → Prop} {D b : Addr} {kvs : List (List Key × V)} {k : List Key} {v : V} {u r : Value} {Q : Unit → Shared → Prop} (hu : X.A.units + 1 < cLine) (I : Inv X pins σ H s) (hD : H D = some (.dT kvs)) (hz : kvs.length < sizeLine)
    (ry : RelV (.ref b) u) (hb : H b = some (.tup (k.map kV))) (rv : RelV v r) (h : ∀ s', Inv X pins σ (upd H D (.dT (putK kvs k v))) s' → Q () s') : wpAny (model X.prog X.w) X.A (dictSet D u r) Q E s := by
  cases (show u = Value.ref b from ry)
  obtain ⟨z, hd, xs, rel, dd⟩ := dt_of I.hok hD
  have hxs : xs.length ≤ sizeLine := by rw [← Paired.length rel]; exact z
  have hl : (putK kvs k v).length ≤ sizeLine := by have := length_putK kvs k v; omega
  refine wpAny_dictSet_heap (hsz := hxs) (by show X.A.units < cLine; omega) (key_of I.hok hb) dd fun h' dd' hs => h _ ?_
  obtain ⟨q, es, ep, hq, h2, h3, h4, _, h5⟩ := dd'
  refine d_write I (by rw [hD]; exact True.intro) hs ⟨q, hq⟩ ⟨hl, hd, _, (rel.put k hb rv).keeps fun c ys ec => ?_, q, es, ep, hq, h2, h3, h4, h5⟩
  rw [upd_ne (ne_of ec hD (fun z => nomatch z))]
  exact ec
section
variable {X : Cx}
/-- as tDc of the hand layer, the keys tuples of ints and texts -/
def tDcT (wi : TI) (g : TG) (tt : TT) (tk tv : TE) (vs : List Nat) : TE := fun σ H Q => wi σ H fun J H1 => ∀ D, H1 D = none → ∃ W : Nat → Nat → Hp → Prop, (∃ m, W 0 m (upd H1 D (.dT []))) ∧ ∀ i m H, W i m H →
  (J.stop i H ∧ Q (.ref D) H) ∨ (J.go i H ∧ ∃ Nx : Hp → Prop, (∀ H', Nx H' → ∃ m', m' < m ∧ W (i + 1) m' H') ∧ ∀ x H', J.yld i H x H' → g x (wipe σ vs) H' fun σ2 H2 => wipe σ2 vs = wipe σ vs ∧ tt σ2 H2 fun b H3 =>
    if b = true then tk σ2 H3 fun y H4 => tv σ2 H4 fun z H5 => ∃ kvs k c, y = .ref c ∧ H5 c = some (.tup (List.map kV k)) ∧ H5 D = some (.dT kvs) ∧ kvs.length < sizeLine ∧ Nx (upd H5 D (.dT (putK kvs k z))) else Nx H3)
theorem dcT_core {pins : List (Addr × Obj)} {s : Shared} {σ : L2.St} {H : Hp} {Q : VK} {kx vx tg iter : Expr} {ifs : List Expr} {scope : Scope} {own : List (Str × Nat)} {pos pos' : Pos} {wi : TI} {g : TG} {tt : TT} {tk tv : TE} {use : Option (Value → Sem Unit)} {Qf : Value → Shared → Prop}
    (hu : X.A.units + 1 < cLine) (hc : X.calm = true) (hN : X.N.Nodup) (I : Inv X pins σ H s) (hi : PI X tg iter wi) (ok : BlkOk X.N X.env.scope scope own)
    (hg : ∀ (s : Shared) (H : Hp) (C : Addr) (cl : List (Str × Addr)) (fp : List Addr), PG (X.blk s H scope (compEnvC scope cl C X.env) fp) tg g) (ht : ∀ (s : Shared) (H : Hp) (C : Addr) (cl : List (Str × Addr)) (fp : List Addr), PTs (X.blk s H scope (compEnvC scope cl C X.env) fp) ifs tt)
    (hk : ∀ (s : Shared) (H : Hp) (C : Addr) (cl : List (Str × Addr)) (fp : List Addr), PE (X.blk s H scope (compEnvC scope cl C X.env) fp) kx tk)
    (he : ∀ (s : Shared) (H : Hp) (C : Addr) (cl : List (Str × Addr)) (fp : List Addr), PE (X.blk s H scope (compEnvC scope cl C X.env) fp) vx tv) (hs : ∀ x, foldedSetIterable iter X.env x = pure x)
    (h : tDcT wi g tt tk tv (own.map (·.2)) σ H Q)
    (hRR : ∀ D C s' m H', Inv X pins σ H' s' → Q (.ref D) H' → s'.heap.Ns C m → FpOk X pins H' C → compPost (model X.prog X.w) X.A X.xe use Qf (.ref D) C (.ok .next) s') :
    wpAny (model X.prog X.w) X.A (comprehension (.DictComp kx vx [⟨tg, iter, ifs, 0⟩] scope pos) scope X.env pos' newDict false (eval iter X.env) use) Qf X.xe s := by
  have hfree : ∀ y ∈ scope.names, y.2 = .free → ∃ c, X.env.cells.lookup y.1 = some c := fun y hy e => (ok.free y hy e).elim (fun k => I.ok.has _ (.inl k)) (fun k => I.ok.has _ (.inr k))
  refine wpAny_comprehension_free (use := use) rfl hs (closure_ok hfree) ok.kind (fun y hy e => by rw [ok.uniq y hy, e]) (thn (hi.run pins s σ H _ I h) fun xv s1 hx => thn hx fun itv s2 h2 => ?_)
  obtain ⟨it, fp, tn, J, H2, e, I2, T, st2, f2, q⟩ := h2
  subst e
  refine wpAny_newObj_type (newEnv_comp ?_)
  generalize hD : s2.heap.objs.size = D
  have hDn : H2 D = none := I2.hok.fresh (Nat.le_of_eq hD)
  obtain ⟨W, ⟨m0, w0⟩, turn⟩ := q D hDn
  generalize hs3 : ({ s2 with heap := s2.heap.push { cls := .type "dict", data := .dict #[] } } : Shared) = s3
  have I3 : Inv X pins σ (upd H2 D (.dT [])) s3 := by
    rw [← hs3]
    refine I2.laid (t' := s2.toks) (fun b o e => Heap.get?_push_of_some _ e) (Nat.le_of_eq hD) ?_
    rw [← hD]
    exact dt_empty s2.heap I2.big
  have h3 : s3.heap = s2.heap.push { cls := .type "dict", data := .dict #[] } := by rw [← hs3]
  have f3 : ∀ b ∈ fp, FpOk X pins (upd H2 D (.dT [])) b ∧ b < s3.heap.objs.size := fun b hb => by
    obtain ⟨o, eo, _⟩ := T.obj _ _ st2 b hb
    have hlt := Heap.lt_size eo
    refine ⟨⟨?_, (f2 b hb).2⟩, by rw [h3, Heap.size_push]; exact Nat.lt_succ_of_lt hlt⟩
    rw [upd_ne (by rw [← hD]; exact Nat.ne_of_lt hlt)]
    exact (f2 b hb).1
  have st3 : tn 0 s3.heap := T.keep _ _ _ st2 fun b _ o e => by rw [h3]; exact Heap.get?_push_of_some _ e
  have I4 := block_start I3 ok hN f3
  have pg := hg s3 (upd H2 D (.dT [])) s3.heap.objs.size (cellsFrom (s3.heap.objs.size + 1) scope.names (cloFrom X.env.cells scope.names [])) fp
  have pt := ht s3 (upd H2 D (.dT [])) s3.heap.objs.size (cellsFrom (s3.heap.objs.size + 1) scope.names (cloFrom X.env.cells scope.names [])) fp
  have pk := hk s3 (upd H2 D (.dT [])) s3.heap.objs.size (cellsFrom (s3.heap.objs.size + 1) scope.names (cloFrom X.env.cells scope.names [])) fp
  have pe := he s3 (upd H2 D (.dT [])) s3.heap.objs.size (cellsFrom (s3.heap.objs.size + 1) scope.names (cloFrom X.env.cells scope.names [])) fp
  show codeAny _ _ (.compStart (.DictComp kx vx [⟨tg, iter, ifs, 0⟩] scope pos) 0 (.ref it) (.ref D) (compEnvC scope (cellsFrom (s3.heap.objs.size + 1) scope.names (cloFrom X.env.cells scope.names [])) s3.heap.objs.size X.env)) (compPost (model X.prog X.w) X.A X.xe use Qf (.ref D) s3.heap.objs.size) { s3 with heap := pushCells (s3.heap.push { cls := .type "dict", data := .dict #[] }) scope.names }
  have nfp : ∀ b ∈ fp, (upd H2 D (.dT [])) b = none := fun b hb => (f3 b hb).1.1
  generalize hce : compEnvC scope (cellsFrom (s3.heap.objs.size + 1) scope.names (cloFrom X.env.cells scope.names [])) s3.heap.objs.size X.env = ce at I4 pg pt pk pe ⊢
  have cL : ce.locals = s3.heap.objs.size := by subst hce; rfl
  generalize hH3 : upd H2 D (.dT []) = H3 at I3 I4 pg pt pk pe w0 nfp f3
  generalize hs4 : ({ s3 with heap := pushCells (s3.heap.push { cls := .type "dict", data := .dict #[] }) scope.names } : Shared) = s4 at I4 ⊢
  have st4 : tn 0 s4.heap := T.keep _ _ _ st3 fun b _ o e => by rw [← hs4]; exact pushCells_keeps _ _ _ _ (Heap.get?_push_of_some _ e)
  have stat : ∀ {σ' : L2.St} {H' : Hp} {s' : Shared}, Inv (X.blk s3 H3 scope ce fp) [] σ' H' s' → (∀ b ∈ fp, H' b = none) → ∀ b ∈ fp, FpOk (X.blk s3 H3 scope ce fp) [] H' b := fun {σ' H' s'} I' hn b hb =>
    ⟨hn b hb, (I'.ok.exf b hb).1, I'.ok.exfs b hb, .inl hb, fun x c e => (I'.ok.exf b hb).2 x c e, fun p hp => absurd (show p ∈ ([] : List (Addr × Obj)) ++ [] from hp) (by simp)⟩
  have loop : codeAny (model X.prog X.w) X.A (.compLoop (.DictComp kx vx [⟨tg, iter, ifs, 0⟩] scope pos) 0 (.ref it) (.ref D) ce) (compPost (model X.prog X.w) X.A X.xe use Qf (.ref D) s3.heap.objs.size) s4 := by
    refine compLoop_anyD (fun n s' => ∃ i H', Inv (X.blk s3 H3 scope ce fp) [] (wipe σ (own.map (·.2))) H' s' ∧ tn i s'.heap ∧ (∀ b ∈ fp, H' b = none) ∧ W i n H') ?_ m0 ⟨0, H3, I4, st4, nfp, w0⟩
    rintro n s5 ⟨i, H5, I5, st5, n5, w5⟩
    rcases turn i n H5 w5 with ⟨stop, qq⟩ | ⟨go, Nx, hNx, step⟩
    · have td := T.done (X.blk s3 H3 scope ce fp) rfl rfl rfl hc i [] s5 _ H5 (fun _ _ => False) I5 (stat I5 n5) st5 stop
      refine thnF td fun r s6 ⟨hr, I6⟩ => ?_
      subst hr
      have I7 : Inv X pins σ H5 s6 := I3.call' (ch := fp) I6.os I6.base I6.hok I6.bare fun b hb => ⟨(f3 b hb).1.2.2.2.1, (f3 b hb).1.2.1, (f3 b hb).1.2.2.2.2.1, (f3 b hb).1.2.2.2.2.2⟩
      have nC : H5 s3.heap.objs.size = none := cL ▸ (show H5 ce.locals = none from I6.free)
      obtain ⟨m, hn, _⟩ := I6.loc
      have hn : s6.heap.Ns ce.locals m := hn
      rw [cL] at hn
      exact hRR D s3.heap.objs.size s6 m H5 I7 qq hn (I3.fpOk (Nat.le_refl _) nC)
    · have ti := T.item (X.blk s3 H3 scope ce fp) rfl rfl rfl hc i [] s5 _ H5 (fun _ _ => False) I5 (stat I5 n5) st5 go
      refine thnF ti fun r s6 ⟨u, hr, h6⟩ => ?_
      subst hr
      refine thnF h6 fun _ s7 ⟨x, H7, I7, r7, y7, st7, n7⟩ => ?_
      have I7' := I7.pinned (stat I7 n7) (T.obj _ _ st7)
      refine thnF (pg.run _ s7 _ H7 x u _ I7' r7 (step x H7 y7)) fun _ s8 ⟨σ8, H8, I8, hw8, q8⟩ => ?_
      refine thnF (pt.run _ s8 σ8 H8 _ I8 q8) fun b s9 ⟨H9, I9, q9⟩ => ?_
      have fin : ∀ {s' : Shared} {H' : Hp}, Inv (X.blk s3 H3 scope ce fp) ([] ++ pinsAt fp s7.heap) σ8 H' s' → Nx H' → ∃ m, m < n ∧ ∃ i H', Inv (X.blk s3 H3 scope ce fp) [] (wipe σ (own.map (·.2))) H' s' ∧ tn i s'.heap ∧ (∀ b ∈ fp, H' b = none) ∧ W i m H' := fun {s' H'} I' nx => by
        obtain ⟨m', hm, w'⟩ := hNx H' nx
        have pin' : ∀ b ∈ fp, ∀ o, s7.heap.get? b = some o → s'.heap.get? b = some o ∧ H' b = none := fun b hb o e =>
          let z := I'.pin (b, o) (List.mem_append_right _ (List.mem_append_right _ (mem_pinsAt hb e)))
          ⟨z.1, z.2.1⟩
        refine ⟨m', hm, i + 1, H', (I'.unpinned (pins := [])).weak (by rw [← hw8, wipe_length]) (fun j v e => ?_), T.keep _ _ _ st7 fun b hb o e => (pin' b hb o e).1, fun b hb => ?_, w'⟩
        · rw [← hw8] at e
          exact (wipe_some e).1
        · obtain ⟨o, e, _⟩ := T.obj _ _ st7 b hb
          exact (pin' b hb o e).2
      cases b with
      | false =>
        simp only [Bool.false_eq_true, if_false] at q9 ⊢
        exact fin I9 q9
      | true =>
        simp only [if_true] at q9 ⊢
        refine thnF (pk.run _ s9 σ8 H9 _ I9 q9) fun z s10 ⟨yk, H10, I10, r10, q10⟩ => ?_
        refine thnF (pe.run _ s10 σ8 H10 _ I10 q10) fun z2 s11 ⟨yv, H11, I11, r11, kvs, k, c, ek, hc11, hD11, hz11, nx⟩ => ?_
        subst ek
        exact d_setT (X := X.blk s3 H3 scope ce fp) hu I11 hD11 hz11 r10 hc11 r11 fun s12 I12 => fin I12 nx
  exact codeAny_compStart_dict loop (T.self X.A 0 _ _ _ st4 loop)
theorem pe_dcT {kx vx tg iter : Expr} {ifs : List Expr} {scope : Scope} {own : List (Str × Nat)} {pos : Pos} {wi : TI} {g : TG} {tt : TT} {tk tv : TE} (hu : X.A.units + 1 < cLine) (hc : X.calm = true) (hN : X.N.Nodup) (hi : PI X tg iter wi) (ok : BlkOk X.N X.env.scope scope own)
    (hg : ∀ (s : Shared) (H : Hp) (C : Addr) (cl : List (Str × Addr)) (fp : List Addr), PG (X.blk s H scope (compEnvC scope cl C X.env) fp) tg g) (ht : ∀ (s : Shared) (H : Hp) (C : Addr) (cl : List (Str × Addr)) (fp : List Addr), PTs (X.blk s H scope (compEnvC scope cl C X.env) fp) ifs tt)
    (hk : ∀ (s : Shared) (H : Hp) (C : Addr) (cl : List (Str × Addr)) (fp : List Addr), PE (X.blk s H scope (compEnvC scope cl C X.env) fp) kx tk)
    (he : ∀ (s : Shared) (H : Hp) (C : Addr) (cl : List (Str × Addr)) (fp : List Addr), PE (X.blk s H scope (compEnvC scope cl C X.env) fp) vx tv) (hs : ∀ x, foldedSetIterable iter X.env x = pure x := by intro _; rfl) :
    PE X (.DictComp kx vx [⟨tg, iter, ifs, 0⟩] scope pos) (tDcT wi g tt tk tv (own.map (·.2))) := by
  refine ⟨fun pins s σ H Q I h => ?_⟩
  rw [arm_eval_DictComp]
  refine dcT_core hu hc hN I hi ok hg ht hk he hs h fun D C s' m H' I' q hn f => ⟨m, hn, fun h'' sb => ?_⟩
  obtain ⟨f0, f1, f2, f3, f4, f5⟩ := f
  exact ⟨.ref D, H', I'.turned (t' := s'.toks) (fun b o hb e => (sb.2 b hb).trans e) f0 f1 f3 f4 f5, rfl, q⟩
theorem ps_setDcT {i : Nat} {y : Str} {py : Pos} {kx vx tg iter : Expr} {ifs : List Expr} {scope : Scope} {own : List (Str × Nat)} {pos spos : Pos} {wi : TI} {g : TG} {tt : TT} {tk tv : TE} (hu : X.A.units + 1 < cLine) (hc : X.calm = true) (hN : X.N.Nodup) (hy : X.N[i]? = some y) (hyl : X.env.scope.names.lookup y = some .local)
    (hsw : swapsWith (.DictComp kx vx [⟨tg, iter, ifs, 0⟩] scope pos) (some (.Name y py)) spos.line X.env = pure true) (hi : PI X tg iter wi) (ok : BlkOk X.N X.env.scope scope own)
    (hg : ∀ (s : Shared) (H : Hp) (C : Addr) (cl : List (Str × Addr)) (fp : List Addr), PG (X.blk s H scope (compEnvC scope cl C X.env) fp) tg g) (ht : ∀ (s : Shared) (H : Hp) (C : Addr) (cl : List (Str × Addr)) (fp : List Addr), PTs (X.blk s H scope (compEnvC scope cl C X.env) fp) ifs tt)
    (hk : ∀ (s : Shared) (H : Hp) (C : Addr) (cl : List (Str × Addr)) (fp : List Addr), PE (X.blk s H scope (compEnvC scope cl C X.env) fp) kx tk)
    (he : ∀ (s : Shared) (H : Hp) (C : Addr) (cl : List (Str × Addr)) (fp : List Addr), PE (X.blk s H scope (compEnvC scope cl C X.env) fp) vx tv) (hs : ∀ x, foldedSetIterable iter X.env x = pure x := by intro _; rfl) :
    PS X (.Assign [.Name y py] (.DictComp kx vx [⟨tg, iter, ifs, 0⟩] scope pos) spos) (tAsg (tDcT wi g tt tk tv (own.map (·.2))) (gName i)) := by
  refine ⟨fun pins s σ H D I h => ?_⟩
  rw [exec_Assign_Name_used _ _ _ _ hsw]
  refine wpAny_bind (wpAny_standAt (wpAny_bind ?_))
  show wpAny _ X.A (do let _ ← comprehension (.DictComp kx vx [⟨tg, iter, ifs, 0⟩] scope pos) scope X.env (firstIterPos [⟨tg, iter, ifs, 0⟩] pos) newDict false (eval iter X.env) (some (assign (.Name y py) X.env))) _ _ s
  have h : tDcT wi g tt tk tv (own.map (·.2)) σ H (fun x H1 => gName i x σ H1 D.nx) := h
  refine wpAny_bind (thn (dcT_core (Qf := fun _ s' => SP X pins D .next s') hu hc hN I hi ok hg ht hk he hs h fun L C s' m H' I' q hn f => ?_) fun _ s' hq => wpAny_pure (wpAny_pure hq))
  show wpAny _ _ (assign (.Name y py) X.env (.ref L)) _ _ _
  refine wpAny_assign_Name (store_ok2 (v := V.ref L) I' hN hy (.inl hyl) rfl (fun s2 I2 ⟨a, sb, ha⟩ => ?_) (.inr hyl))
  obtain ⟨f0, f1, f2, f3, f4, f5⟩ := f
  have haC : C ≠ a := ha.elim (fun z => by rw [z]; exact f1) (fun z e => f4 y a z e.symm)
  refine ⟨m, hn.sameBut sb haC, fun h3 sb3 => ?_⟩
  exact ⟨_, H', I2.turned (t' := s2.toks) (fun b o hb e => (sb3.2 b hb).trans e) f0 f1 f3 f4 f5, q⟩
end
theorem sw_dict {kx vx : Expr} {gs : List Comprehension} {scope : Scope} {pos py : Pos} {y : Str} {l : Nat} {env : Env} (hk : env.scope.kind = .function) (hy : env.scope.names.lookup y = some .local) (hl : (py.line == pos.line) = true)
    (ha : (scope.names.any fun (n, k) => n == y && (k == .local || k == .cell)) = false) : swapsWith (.DictComp kx vx gs scope pos) (some (.Name y py)) l env = pure true := by
  have e1 : env.kindOf y = some .local := hy
  have e2 : env.blockKind = .function := by unfold Env.blockKind; rw [hk]; rfl
  unfold swapsWith
  simp only [e2, e1, ha, Expr.pos, hl]
  rfl
end DL

/-! The data layer, part o: dicts read, written, made. The tree of a dict whose keys are tuples begins with the pair (.none, .none). -/
namespace DL
open PySem PySem.Spec PyProof.Rows L2
/-! ### keys -/
theorem keq_keyD_eq {k : Key} {y : PyData} (h : keq (keyD k) y = true) : y = keyD k := by
  cases k <;> cases y <;> simp [keq, keyD] at h ⊢
  · exact h.symm
  · exact h.symm
theorem keq_tup_eq {k : List Key} {y : PyData} (h : keq (.tuple (k.map keyD)) y = true) : y = .tuple (k.map keyD) := by
  cases y with
  | tuple bs =>
    cases e : keyN bs with
    | none =>
      have : keq (.tuple (k.map keyD)) (.tuple bs) = false := by
        show (match keyN (k.map keyD), keyN bs with | some ks, some ls => decide (ks = ls) | _, _ => false) = false
        rw [e]
        cases keyN (k.map keyD) <;> rfl
      rw [this] at h; cases h
    | some ls =>
      obtain rfl := keyN_of e
      rw [keq_tup] at h
      rw [of_decide_eq_true h]
  | none => exact absurd (show false = true from h) (by decide)
  | bool b => exact absurd (show false = true from h) (by decide)
  | int i => exact absurd (show false = true from h) (by decide)
  | str x => exact absurd (show false = true from h) (by decide)
  | list ds => exact absurd (show false = true from h) (by decide)
  | dict kvs => exact absurd (show false = true from h) (by decide)
theorem keq_mark {y : PyData} : keq .none y = false := by cases y <;> rfl
theorem dget_cons {p : PyData × PyData} {r : List (PyData × PyData)} {y : PyData} : dget (p :: r) y = if keq p.1 y = true then some p.2 else dget r y := by
  unfold dget
  rw [List.find?_cons]
  cases keq p.1 y <;> rfl
theorem dget_mark {r : List (PyData × PyData)} {y : PyData} : dget ((.none, .none) :: r) y = dget r y := by
  rw [dget_cons, keq_mark]
  rfl
theorem dput_mark {r : List (PyData × PyData)} {y v : PyData} : dput ((.none, .none) :: r) y v = (.none, .none) :: dput r y v := by
  unfold dput
  simp only [List.any_cons, keq_mark, Bool.false_or, List.map_cons, Bool.false_eq_true, if_false]
  split <;> rfl
theorem krep_key {F : Fv} {ks : List (Key × V)} {kvs : List (PyData × PyData)} (r : KRep F ks kvs) {y d : PyData} (h : dget kvs y = some d) : ∃ k, y = keyD k := by
  induction r with
  | nil => cases h
  | @cons p q ks kvs hh t ih =>
    rw [dget_cons] at h
    cases e : keq q.1 y with
    | true =>
      rw [hh.1] at e
      exact ⟨p.1, keq_keyD_eq e⟩
    | false =>
      rw [e] at h
      exact ih h
theorem trep_key {F : Fv} {ks : List (List Key × V)} {kvs : List (PyData × PyData)} (r : TRep F ks kvs) {y d : PyData} (h : dget kvs y = some d) : ∃ k : List Key, y = .tuple (k.map keyD) := by
  induction r with
  | nil => cases h
  | @cons p q ks kvs hh t ih =>
    rw [dget_cons] at h
    cases e : keq q.1 y with
    | true =>
      rw [hh.1] at e
      exact ⟨p.1, keq_tup_eq e⟩
    | false =>
      rw [e] at h
      exact ih h
/-- a plain key, a tuple of such -/
def plainK (y : PyData) : Option Key := key1 y
def tupK (y : PyData) : Option (List Key) := match y with
  | .tuple ds => keyN ds
  | _ => none
theorem tupK_of {y : PyData} {k : List Key} (h : tupK y = some k) : y = .tuple (k.map keyD) := by
  unfold tupK at h
  split at h
  · rw [keyN_of h]
  · cases h
/-- a dict whose keys are tuples -/
def isMark (kvs : List (PyData × PyData)) : Bool := match kvs with
  | (.none, .none) :: _ => true
  | _ => false
section
variable {F : Fv} {H : Hp} {m : Md} {g : Gc} {σ : L2.St} {env : Ev}
theorem view_dict (w : View F H) {v : V} {kvs : List (PyData × PyData)} (r : Rep F v (.dict kvs)) : ∃ a o, v = .ref a ∧ F a = some (.dict kvs) ∧ RdM H a o ∧ HoRep F o (.dict kvs) := by
  obtain ⟨a, rfl, h⟩ := r
  obtain ⟨o, ro, hr⟩ := w a _ h
  exact ⟨a, o, rfl, h, ro, hr⟩
theorem horep_dict {o : HO} {kvs : List (PyData × PyData)} (h : HoRep F o (.dict kvs)) : (∃ ks, o = .dK ks ∧ KRep F ks kvs) ∨ ∃ ks r, o = .dT ks ∧ kvs = (.none, .none) :: r ∧ TRep F ks r := by
  unfold HoRep at h
  split at h
  · rename_i e; cases e
  · rename_i e; cases e
  · rename_i ks kvs' e
    cases e
    exact .inl ⟨ks, rfl, h⟩
  · rename_i ks kvs' e
    cases e
    exact .inr ⟨ks, kvs', rfl, rfl, h⟩
  · exact h.elim
theorem rep_keyD {v : V} {k : Key} (r : Rep F v (keyD k)) : v = kV k := by
  cases k <;> cases r <;> rfl
theorem reps_keyD : ∀ {ks : List Key} {vs : List V}, Reps F vs (ks.map keyD) → vs = ks.map kV
  | [], _, .nil => rfl
  | k :: ks, _, .cons r t => by rw [List.map_cons, rep_keyD r, reps_keyD t]
theorem view_key (w : View F H) {v : V} {k : List Key} (r : Rep F v (.tuple (k.map keyD))) : ∃ b, v = .ref b ∧ H b = some (.tup (k.map kV)) := by
  obtain ⟨b, vs, rfl, hb, rb⟩ := view_tup w r
  rw [reps_keyD rb] at hb
  exact ⟨b, rfl, hb⟩
/-- what stands at a key, of what stands at an address -/
theorem get_of (w : View F H) {a : Addr} {o : HO} {kvs : List (PyData × PyData)} (ro : RdM H a o) (hr : HoRep F o (.dict kvs)) {y d : PyData} {v : V} (rv : Rep F v y) (h : dget kvs y = some d) : ∃ x, DGet H a v (some x) ∧ Rep F x d := by
  rcases horep_dict hr with ⟨ks, rfl, kr⟩ | ⟨ks, r, rfl, rfl, tr⟩
  · obtain ⟨k, rfl⟩ := krep_key kr h
    rcases krep_get kr k with ⟨x, d', e1, e2, rx⟩ | ⟨_, e2⟩
    · rw [h] at e2; cases e2
      exact ⟨x, .inl ⟨ks, k, ro.rd, rep_keyD rv, e1.symm⟩, rx⟩
    · rw [h] at e2; cases e2
  · rw [dget_mark] at h
    obtain ⟨k, rfl⟩ := trep_key tr h
    obtain ⟨b, rfl, hb⟩ := view_key w rv
    rcases trep_get tr k with ⟨x, d', e1, e2, rx⟩ | ⟨_, e2⟩
    · rw [h] at e2; cases e2
      exact ⟨x, .inr ⟨ks, k, b, ro.rd, rfl, hb, e1.symm⟩, rx⟩
    · rw [h] at e2; cases e2
/-- may such a key be asked for -/
def mayAsk (kvs : List (PyData × PyData)) (y : PyData) : Bool := if isMark kvs = true then (tupK y).isSome else (key1 y).isSome
theorem ask_of (w : View F H) {a : Addr} {o : HO} {kvs : List (PyData × PyData)} (ro : RdM H a o) (hr : HoRep F o (.dict kvs)) {y : PyData} {v : V} (rv : Rep F v y) (h : mayAsk kvs y = true) : ∃ x, DGet H a v x ∧ (match dget kvs y, x with | some d, some x => Rep F x d | none, none => True | _, _ => False) := by
  cases e : dget kvs y with
  | some d =>
    obtain ⟨x, h1, h2⟩ := get_of w ro hr rv e
    exact ⟨some x, h1, h2⟩
  | none =>
    refine ⟨none, ?_, trivial⟩
    unfold mayAsk at h
    rcases horep_dict hr with ⟨ks, rfl, kr⟩ | ⟨ks, r, rfl, rfl, tr⟩
    · have hm : isMark kvs = false := by
        cases kr with
        | nil => rfl
        | @cons p q ks kvs hh t =>
          unfold isMark
          split
          · rename_i e2
            cases e2
            have := hh.1
            cases hp : p.1 <;> rw [hp] at this <;> cases this
          · rfl
      rw [hm] at h
      simp only [Bool.false_eq_true, if_false] at h
      cases hk : key1 y with
      | none => rw [hk] at h; cases h
      | some k =>
        obtain rfl := key1_of hk
        rcases krep_get kr k with ⟨x, d', e1, e2, rx⟩ | ⟨e1, _⟩
        · rw [e] at e2; cases e2
        · exact .inl ⟨ks, k, ro.rd, rep_keyD rv, e1.symm⟩
    · rw [dget_mark] at e
      have hm : isMark ((PyData.none, PyData.none) :: r) = true := rfl
      rw [hm] at h
      simp only [if_true] at h
      cases hk : tupK y with
      | none => rw [hk] at h; cases h
      | some k =>
        obtain rfl := tupK_of hk
        obtain ⟨b, rfl, hb⟩ := view_key w rv
        rcases trep_get tr k with ⟨x, d', e1, e2, rx⟩ | ⟨e1, _⟩
        · rw [e] at e2; cases e2
        · exact .inr ⟨ks, k, b, ro.rd, rfl, hb, e1.symm⟩
end
/-! ### d[k] -/
def dgD : Op2 := fun x y => match x with
  | .dict kvs => oY (dget kvs y)
  | _ => none
def dinD : Op2 := fun x y => match y with
  | .dict kvs => if mayAsk kvs x = true then bD (dget kvs x).isSome else none
  | _ => none
def dnotinD : Op2 := fun x y => match y with
  | .dict kvs => if mayAsk kvs x = true then bD (!(dget kvs x).isSome) else none
  | _ => none
section
variable {X : Cx} {m : Md} {E : XK} {pos : Pos} {a b c : Expr} {f k h : EM}
theorem d_dget (hu : X.A.units + 64 < cLine) (ha : PE X a (dE m E f)) (hb : PE X b (dE m E k)) (hs : NoSl b := by exact fun _ _ => rfl) : PE X (.Subscript a b pos) (dE m E (eBin dgD f k)) := by
  refine PE.imp (pe_dget (by omega) ha hb hs) fun σ H Q ⟨g, F, env, S, P⟩ => ?_
  refine dE_use S ((post_rb P).mono fun od1 e1 _ P1 v F1 H1 l1 S1 r1 => ?_)
  refine dE_use S1 ((post_rb P1).mono fun od2 e2 _ P2 w F2 H2 l2 S2 r2 => ?_)
  obtain ⟨⟨own, d⟩, e, P3⟩ := post_lift P2
  unfold dgD at e
  split at e
  · rename_i kvs ek
    unfold oY at e
    split at e
    · rename_i d' ed
      cases e
      rw [ek] at r1
      obtain ⟨p, o, rfl, hp, ro, hr⟩ := view_dict S2.view (r1.mono l2)
      obtain ⟨x, hx, rx⟩ := get_of S2.view ro hr r2 ed
      exact ⟨p, x, rfl, hx, P3 x F2 H2 (l1.trans l2) S2 rx⟩
    · cases e
  · cases e
theorem rd_din (neg : Bool) {σ : L2.St} {H : Hp} {Q : VK} (q : dE m E (eBin (if neg = true then dnotinD else dinD) f k) σ H Q) : dE m E f σ H fun y H1 => dE m E k σ H1 fun x H2 => ∃ a o, x = .ref a ∧ DGet H2 a y o ∧ Q (.bl (xor neg o.isSome)) H2 := by
  obtain ⟨g, F, env, S, P⟩ := q
  refine dE_use S ((post_rb P).mono fun od1 e1 _ P1 v F1 H1 l1 S1 r1 => ?_)
  refine dE_use S1 ((post_rb P1).mono fun od2 e2 _ P2 w F2 H2 l2 S2 r2 => ?_)
  obtain ⟨⟨own, d⟩, e, P3⟩ := post_lift P2
  have key : ∃ kvs, od2.2 = .dict kvs ∧ mayAsk kvs od1.2 = true ∧ own = false ∧ d = .bool (xor neg (dget kvs od1.2).isSome) := by
    cases neg with
    | true =>
      simp only [if_true] at e
      unfold dnotinD at e
      split at e
      · rename_i kvs ek
        split at e
        · rename_i hm
          cases e
          exact ⟨kvs, ek, hm, rfl, by simp⟩
        · cases e
      · cases e
    | false =>
      simp only [Bool.false_eq_true, if_false] at e
      unfold dinD at e
      split at e
      · rename_i kvs ek
        split at e
        · rename_i hm
          cases e
          exact ⟨kvs, ek, hm, rfl, by simp⟩
        · cases e
      · cases e
  obtain ⟨kvs, ek, hm, rfl, rfl⟩ := key
  rw [ek] at r2
  obtain ⟨p, o, rfl, hp, ro, hr⟩ := view_dict S2.view r2
  obtain ⟨x, hx, rx⟩ := ask_of S2.view ro hr (r1.mono l2) hm
  have hs : x.isSome = (dget kvs od1.2).isSome := by
    revert rx
    cases dget kvs od1.2 <;> cases x <;> simp
  refine ⟨p, x, rfl, hx, ?_⟩
  rw [hs]
  exact P3 _ F2 H2 (l1.trans l2) S2 rfl
end
/-! ### {} -/
def eDnK : EM := fun env => rok (true, .dict []) env
def eDnT : EM := fun env => rok (true, .dict [(.none, .none)]) env
section
variable {X : Cx} {m : Md} {E : XK} {pos : Pos}
theorem d_dnK : PE X (.Dict [] [] pos) (dE m E eDnK) := by
  refine PE.imp pe_dnewK fun σ H Q ⟨g, F, env, S, P⟩ p hp => ?_
  obtain ⟨S', r⟩ := S.allocOwn (o := .dK []) (d := .dict []) hp .nil trivial
  exact P _ _ _ (.refl F) S' r
theorem d_dnT : PE X (.Dict [] [] pos) (dE m E eDnT) := by
  refine PE.imp pe_dnewT fun σ H Q ⟨g, F, env, S, P⟩ p hp => ?_
  obtain ⟨S', r⟩ := S.allocOwn (o := .dT []) (d := .dict [(.none, .none)]) hp .nil trivial
  exact P _ _ _ (.refl F) S' r
end
/-! ### d[k] = v -/
/-- what a dict's tree is then -/
def putD (kvs : List (PyData × PyData)) (k v : PyData) : Option (List (PyData × PyData)) := if mayAsk kvs k = true ∧ kvs.length < sizeLine then some (dput kvs k v) else none
def sPutD (i : Nat) (fk fv : EM) : SM := fun env => rb (fv env) fun v e1 => match slDict e1[i]? with
  | none => none
  | some _ => rb (fk e1) fun k e2 => match slDict e2[i]? with
    | some kvs => match putD kvs k.2 v.2 with
      | some kvs' => rok .nx (e2.set i (.ow (.dict kvs')))
      | none => none
    | none => none
theorem Paired.len {α β : Type} {R : α → β → Prop} {xs : List α} {ys : List β} (h : Paired R xs ys) : xs.length = ys.length := by
  induction h with
  | nil => rfl
  | cons _ _ ih => simp [ih]
section
variable {m : Md} {g : Gc} {F : Fv} {H : Hp} {σ : L2.St} {env : Ev}
theorem SR.slDictAt (S : SR m g F H σ env) {i : Nat} {kvs : List (PyData × PyData)} (h : slDict env[i]? = some kvs) : ∃ a o, σ[i]? = some (some (.ref a)) ∧ H a = some o ∧ HoRep F o (.dict kvs) ∧ ∀ o' kvs', Ldk o' → HoRep F o' (.dict kvs') → SR m g F (upd H a o') σ (env.set i (.ow (.dict kvs'))) := by
  unfold slDict at h
  split at h
  · rename_i kvs' e
    cases h
    obtain ⟨v, e1, a, rfl, ⟨f, o, ho, mu, r⟩, n⟩ := S.slot i _ e
    exact ⟨a, o, e1, ho, r, fun o' kvs' mu' r' => S.putOw e e1 mu' r'⟩
  · cases h
theorem put_of (w : View F H) {a : Addr} {o : HO} {kvs kvs' : List (PyData × PyData)} (ho : H a = some o) (hr : HoRep F o (.dict kvs)) {k d : PyData} {y x : V} (ry : Rep F y k) (rx : Rep F x d) (h : putD kvs k d = some kvs') : ∃ o', DPut H a y x (upd H a o') ∧ Ldk o' ∧ HoRep F o' (.dict kvs') := by
  unfold putD at h
  split at h
  · rename_i hc
    cases h
    obtain ⟨hm, hz⟩ := hc
    unfold mayAsk at hm
    rcases horep_dict hr with ⟨ks, rfl, kr⟩ | ⟨ks, r, rfl, rfl, tr⟩
    · have hmk : isMark kvs = false := by
        cases kr with
        | nil => rfl
        | @cons p q ks kvs hh t =>
          unfold isMark
          split
          · rename_i e2
            cases e2
            have := hh.1
            cases hp : p.1 <;> rw [hp] at this <;> cases this
          · rfl
      rw [hmk] at hm
      simp only [Bool.false_eq_true, if_false] at hm
      cases hk : key1 k with
      | none => rw [hk] at hm; cases hm
      | some k0 =>
        obtain rfl := key1_of hk
        obtain rfl := rep_keyD ry
        exact ⟨.dK (putK ks k0 x), .k ho (by rw [Paired.len kr]; exact hz), trivial, krep_put kr k0 rx⟩
    · have hmk : isMark ((PyData.none, PyData.none) :: r) = true := rfl
      rw [hmk] at hm
      simp only [if_true] at hm
      cases hk : tupK k with
      | none => rw [hk] at hm; cases hm
      | some k0 =>
        obtain rfl := tupK_of hk
        obtain ⟨b, rfl, hb⟩ := view_key w ry
        refine ⟨.dT (putK ks k0 x), .t ho hb (by rw [Paired.len tr]; simp at hz; omega), trivial, ?_⟩
        rw [dput_mark]
        exact trep_put tr k0 rx
  · cases h
end
section
variable {X : Cx} {m : Md} {E : XK} {pos : Pos} {fk fv : EM} {e k : Expr}
theorem ds_putD {i : Nat} {x : Str} {p1 p2 : Pos} (hu : X.A.units + 64 < cLine) (hN : X.N[i]? = some x) (hv : Vis X.env.scope x) (hk : PE X k (dE m E fk)) (he : PE X e (dE m E fv)) (hd : (x == ("__debug__" : Str)) = false := by decide) (hcd : (x == ("__classdict__" : Str)) = false := by decide)
    (hs : swapsWith e (some (.Subscript (.Name x p1) k p2)) pos.line X.env = pure false := by rfl) :
    PS X (.Assign [.Subscript (.Name x p1) k p2] e pos) (dS m E (sPutD i fk fv)) := by
  refine PS.imp (ps_dput (by omega) (pe_var hN hv hd hcd) hk he hs) fun D σ H ⟨g, F, env, S, P⟩ => ?_
  refine dE_use S ((post_rb P).mono fun ov e1 _ P1 v F1 H1 l1 S1 r1 => ?_)
  split at P1
  · exact P1.elim
  · rename_i kvs0 q0
    obtain ⟨a, o0, hsa, ho0, hr0, _⟩ := S1.slDictAt q0
    refine ⟨.ref a, hsa, ?_⟩
    refine dE_use S1 ((post_rb P1).mono fun ok e2 _ P2 y F2 H2 l2 S2 r2 => ?_)
    split at P2
    · rename_i kvs q1
      obtain ⟨a', o, hsa', ho, hr, hput⟩ := S2.slDictAt q1
      rw [hsa] at hsa'
      cases hsa'
      split at P2
      · rename_i kvs' q2
        obtain ⟨o', h1, h2, h3⟩ := put_of S2.view ho hr r2 (r1.mono l2) q2
        exact ⟨a, _, rfl, h1, P2 F2 _ σ (hput o' kvs' h2 h3)⟩
      · exact P2.elim
    · exact P2.elim
end
end DL

/-! The data layer, part oa: dict comprehensions whose keys are tuples. -/
namespace DL
open PySem PySem.Spec PyProof.Rows L2
def dcL (vs : List Nat) (b : GM) (t : TM) (fk fv : EM) : List PyData → Ev → List (PyData × PyData) → Res (List (PyData × PyData))
  | [], env, acc => rok acc env
  | d :: ds, env, acc => match b d env with
    | none => none
    | some e1 => rb (noErr (t e1)) fun c e2 => if c = true then rb (noErr (fk e2)) fun ok e3 => rb (noErr (fv e3)) fun ov e4 => if (tupK ok.2).isSome = true ∧ acc.length < sizeLine then dcL vs b t fk fv ds (hide e4 vs) (dput acc ok.2 ov.2) else none else dcL vs b t fk fv ds (hide e2 vs) acc
def eDc (vs : List Nat) (b : GM) (i : IM) (t : TM) (fk fv : EM) : EM := fun env => rb (i env) fun ds e => if noOwn e vs = true then rb (dcL vs b t fk fv ds (hide e vs) []) fun acc e2 => rok (true, .dict ((.none, .none) :: acc)) (unhide e e2 vs) else none
section
variable {m : Md} {g g1 g2 : Gc} {E E2 : XK} {F : Fv} {H : Hp} {σ : L2.St} {env : Ev} {vs ts : List Nat} {b : GM} {i : IM} {t : TM} {fk fv : EM}
theorem rd_dcT (hts : ∀ i ∈ ts, i ∈ vs) {Q : VK} (q : dE m E (eDc vs b i t fk fv) σ H Q) : tDcT (dI m E i) (dG m ts b) (dT m E0 t) (dE m E0 fk) (dE m E0 fv) vs σ H Q := by
  obtain ⟨g, F, env, S, P⟩ := q
  refine ⟨g, F, env, S, (post_rb P).mono fun ds e1 _ P1 J F1 H1 l1 S1 sv D hD => ?_⟩
  split at P1
  · rename_i hno
    have P1 := post_rb P1
    obtain ⟨hn, hfD, hx, hio, hl⟩ := S1.apart hD
    have hn' : (g.at F1).H0 D = none := hn
    refine ⟨fun i n H' => ∃ F2 env2 av ad, SR m (g.at F1) F2 H' (wipe σ vs) env2 ∧ H' D = some (.dT av) ∧ TRep F2 av ad ∧ F2 D = none ∧ (∀ j, ¬ OwnA (wipe σ vs) env2 j D) ∧ n = ds.length - i ∧ i ≤ ds.length ∧
        Post m (g.at F1) E (dcL vs b t fk fv (ds.drop i) env2 ad) (fun acc e2 => ∀ v F' H', SR m (g.at F1) F' H' σ (unhide e1 e2 vs) → VOk (g.at F1) F' H' σ (unhide e1 e2 vs) true (.dict ((.none, .none) :: acc)) v → Q v H'),
      ⟨ds.length, F1, hide e1 vs, [], [], ?_, upd_same, .nil, hfD, ?_, rfl, Nat.zero_le _, ?_⟩, ?_⟩
    · exact (S1.rebase.hide vs).alloc hD
    · intro j hj
      obtain ⟨_, o, h, _⟩ := (S1.hide vs).own hj
      rw [hD] at h; cases h
    · exact Post.at P1 fun acc e2 _ k v F' H' S' vo => k v F' H' (l1.trans S'.ext) (S1.unbase S') vo
    · rintro i n H' ⟨F2, env2, av, ad, S2, hav, hr, hF2, hx2, rfl, hi, P2⟩
      have sv2 := sv F2 H' S2.ext S2.view i
      by_cases hlt : i < ds.length
      · rw [drop_get hlt] at P2
        obtain ⟨go, yl⟩ := sv2.2 ds[i] (List.getElem?_eq_getElem hlt)
        unfold dcL at P2
        refine .inr ⟨go, fun H'' => ∃ F2 env2 av ad, SR m (g.at F1) F2 H'' (wipe σ vs) env2 ∧ H'' D = some (.dT av) ∧ TRep F2 av ad ∧ F2 D = none ∧ (∀ j, ¬ OwnA (wipe σ vs) env2 j D) ∧
            Post m (g.at F1) E (dcL vs b t fk fv (ds.drop (i + 1)) env2 ad) (fun acc e2 => ∀ v F' H', SR m (g.at F1) F' H' σ (unhide e1 e2 vs) → VOk (g.at F1) F' H' σ (unhide e1 e2 vs) true (.dict ((.none, .none) :: acc)) v → Q v H'),
          fun H'' ⟨F3, env3, av3, ad3, a1, a2, a3, a4, a5, a6⟩ => ⟨ds.length - (i + 1), by omega, F3, env3, av3, ad3, a1, a2, a3, a4, a5, rfl, by omega, a6⟩, fun x H'' y => ?_⟩
        have S2h := (show SR m ((g.at F1).at F2) F2 H' (wipe σ vs) env2 from S2.rebase).hold (o := .dT av) hav trivial hn hx2 hF2
        obtain ⟨F3, l3, S3, r3⟩ := S2h.yielded (yl x H'' y)
        cases eb : b ds[i] env2 with
        | none => rw [eb] at P2; exact P2.elim
        | some e3 =>
          rw [eb] at P2
          refine ⟨_, F3, env2, ds[i], e3, S3, r3, eb, fun σ3 S4 so => ?_⟩
          have hw : wipe σ3 vs = wipe (wipe σ vs) vs := wipe_same so hts
          refine ⟨hw.trans wipe_wipe, ?_⟩
          refine ⟨_, F3, e3, S4, Post.mono (post_noErr (post_rb P2)) fun c e4 _ P4 F4 H4 l4 S5 => ?_⟩
          cases c with
          | true =>
            refine iteT (dE_use S5 (Post.mono (post_noErr (post_rb P4)) fun okk e5 _ P5 y5 F5 H5 l5 S6 r6 => ?_))
            refine dE_use S6 (Post.mono (post_noErr (post_rb P5)) fun ovv e6 _ P6 z6 F6 H6 l6 S6' r6' => ?_)
            obtain ⟨S7, hD7, hF7, hx7⟩ := SR.unhold (g := g.at F1) S6' hn' trivial hF2 hio hl
            by_cases hz : (tupK okk.2).isSome = true ∧ ad.length < sizeLine
            · rw [if_pos hz] at P6
              obtain ⟨hk, hz⟩ := hz
              cases hk0 : tupK okk.2 with
              | none => rw [hk0] at hk; cases hk
              | some k0 =>
                have ek := tupK_of hk0
                rw [ek] at r6 P6
                obtain ⟨c, rfl, hc⟩ := view_key S7.view (r6.mono l6)
                have le : Fle F2 F6 := ((l3.trans l4).trans l5).trans l6
                have tr' : TRep F6 av ad := Paired.mono (fun _ _ z => ⟨z.1, z.2.mono le⟩) hr
                refine ⟨av, k0, c, rfl, hc, hD7, by rw [Paired.len hr]; exact hz, F6, hide e6 vs, putK av k0 z6, dput ad (.tuple (k0.map keyD)) ovv.2, ?_, upd_same, trep_put tr' k0 r6', hF7, ?_, P6⟩
                · have S8 := (S7.wrote (o := .dT (putK av k0 z6)) hD7 trivial (.inl hn') hF7 hx7 hl).hide vs
                  rw [hw.trans wipe_wipe] at S8
                  exact S2.unbase S8
                · intro j hj
                  exact hx7 j (own_hide (vs := vs) (by rw [hw.trans wipe_wipe]; exact hj))
            · rw [if_neg hz] at P6
              exact P6.elim
          | false =>
            refine iteF ?_
            obtain ⟨S7, hD7, hF7, hx7⟩ := SR.unhold (g := g.at F1) S5 hn' trivial hF2 hio hl
            refine ⟨F4, hide e4 vs, av, ad, ?_, hD7, Paired.mono (fun _ _ z => ⟨z.1, z.2.mono (l3.trans l4)⟩) hr, hF7, ?_, P4⟩
            · have S8 := S7.hide vs
              rw [hw.trans wipe_wipe] at S8
              exact S2.unbase S8
            · intro j hj
              exact hx7 j (own_hide (vs := vs) (by rw [hw.trans wipe_wipe]; exact hj))
      · have e : i = ds.length := by omega
        subst e
        rw [List.drop_length] at P2
        refine .inl ⟨sv2.1 (Nat.le_refl _), ?_⟩
        have S3 : SR m (g.at F1) F2 H' σ (unhide e1 env2 vs) := S1.rebase.unhide hno S2.ext S2
        refine P2 _ F2 H' S3 ⟨D, rfl, ⟨hF2, _, hav, trivial, hr⟩, hn, fun j hj => hx2 j ?_⟩
        have hl2 : env2.length = e1.length := by rw [← S2.len, wipe_length, S1.len]
        obtain ⟨q1, q2⟩ := hj
        have nv : ∀ i ∈ vs, (∀ d, e1[i]? ≠ some (.ow d)) ∧ ∀ d, e1[i]? ≠ some (.io d) := fun i hi => by
          have h := List.all_eq_true.mp hno i hi
          refine ⟨fun d z => ?_, fun d z => ?_⟩ <;> (rw [z] at h; simp at h)
        have hjv : j ∉ vs := fun z => by
          rcases q2 with ⟨d, q⟩ | ⟨d, q⟩ <;> (rcases unhide_get hl2 q with ⟨_, w⟩ | ⟨w, _⟩ <;> first | exact (nv j z).1 _ w | exact (nv j z).2 _ w | exact w z)
        refine ⟨by rw [wipe_off hjv]; exact q1, ?_⟩
        rcases q2 with ⟨d, q⟩ | ⟨d, q⟩
        · exact .inl ⟨d, (unhide_get hl2 q).elim (fun w => (hjv w.1).elim) (·.2)⟩
        · exact .inr ⟨d, (unhide_get hl2 q).elim (fun w => (hjv w.1).elim) (·.2)⟩
  · exact P1.elim
end
section
variable {X : Cx} {m : Md} {E : XK} {pos : Pos} {kx vx tg iter : Expr} {ifs : List Expr} {scope : Scope} {own : List (Str × Nat)} {b : GM} {i : IM} {t : TM} {fk fv : EM} {ts : List Nat}
theorem d_dcT (hu : X.A.units + 64 < cLine) (hc : X.calm = true) (hN : X.N.Nodup) (hi : PI X tg iter (dI m E i)) (ok : BlkOk X.N X.env.scope scope own) (hts : ∀ i ∈ ts, i ∈ own.map (·.2))
    (hg : ∀ (s : Shared) (H : Hp) (C : Addr) (cl : List (Str × Addr)) (fp : List Addr), PG (X.blk s H scope (compEnvC scope cl C X.env) fp) tg (dG m ts b)) (ht : ∀ (s : Shared) (H : Hp) (C : Addr) (cl : List (Str × Addr)) (fp : List Addr), PTs (X.blk s H scope (compEnvC scope cl C X.env) fp) ifs (dT m E0 t))
    (hk : ∀ (s : Shared) (H : Hp) (C : Addr) (cl : List (Str × Addr)) (fp : List Addr), PE (X.blk s H scope (compEnvC scope cl C X.env) fp) kx (dE m E0 fk))
    (he : ∀ (s : Shared) (H : Hp) (C : Addr) (cl : List (Str × Addr)) (fp : List Addr), PE (X.blk s H scope (compEnvC scope cl C X.env) fp) vx (dE m E0 fv)) (hs : ∀ x, foldedSetIterable iter X.env x = pure x := by intro _; rfl) :
    PE X (.DictComp kx vx [⟨tg, iter, ifs, 0⟩] scope pos) (dE m E (eDc (own.map (·.2)) b i t fk fv)) := PE.imp (pe_dcT (by omega) hc hN hi ok hg ht hk he hs) fun _ _ _ => rd_dcT hts
theorem ds_setDcT {j : Nat} {y : Str} {py spos : Pos} (hu : X.A.units + 64 < cLine) (hc : X.calm = true) (hN : X.N.Nodup) (hy : X.N[j]? = some y) (hyl : X.env.scope.names.lookup y = some .local)
    (hsw : swapsWith (.DictComp kx vx [⟨tg, iter, ifs, 0⟩] scope pos) (some (.Name y py)) spos.line X.env = pure true) (hi : PI X tg iter (dI m E i)) (ok : BlkOk X.N X.env.scope scope own) (hts : ∀ i ∈ ts, i ∈ own.map (·.2))
    (hg : ∀ (s : Shared) (H : Hp) (C : Addr) (cl : List (Str × Addr)) (fp : List Addr), PG (X.blk s H scope (compEnvC scope cl C X.env) fp) tg (dG m ts b)) (ht : ∀ (s : Shared) (H : Hp) (C : Addr) (cl : List (Str × Addr)) (fp : List Addr), PTs (X.blk s H scope (compEnvC scope cl C X.env) fp) ifs (dT m E0 t))
    (hk : ∀ (s : Shared) (H : Hp) (C : Addr) (cl : List (Str × Addr)) (fp : List Addr), PE (X.blk s H scope (compEnvC scope cl C X.env) fp) kx (dE m E0 fk))
    (he : ∀ (s : Shared) (H : Hp) (C : Addr) (cl : List (Str × Addr)) (fp : List Addr), PE (X.blk s H scope (compEnvC scope cl C X.env) fp) vx (dE m E0 fv)) (hs : ∀ x, foldedSetIterable iter X.env x = pure x := by intro _; rfl) :
    PS X (.Assign [.Name y py] (.DictComp kx vx [⟨tg, iter, ifs, 0⟩] scope pos) spos) (dS m E (sSet j (eDc (own.map (·.2)) b i t fk fv))) :=
  ds_setR (ps_setDcT (by omega) hc hN hy hyl hsw hi ok hg ht hk he hs) fun _ _ _ => rd_dcT hts
end
end DL

/-! The data layer, part ob: {k: v}, d.get(k, x), for k in d, sorted(set(tuple of ints)). -/
namespace DL
open PySem PySem.Spec PyProof.Rows L2
/-! ### {k: v} -/
def eD1 (fk fv : EM) : EM := fun env => rb (fk env) fun k e1 => rb (fv e1) fun v e2 => if (key1 k.2).isSome = true then rok (true, .dict [(k.2, v.2)]) e2 else none
section
variable {X : Cx} {m : Md} {E : XK} {pos : Pos} {k v : Expr} {fk fv : EM}
theorem d_d1 (hk : PE X k (dE m E fk)) (hv : PE X v (dE m E fv)) : PE X (.Dict [some k] [v] pos) (dE m E (eD1 fk fv)) := by
  refine PE.imp (pe_disp (pps_cons hk hv pps_nil) rfl rfl (fun z => nomatch z) (by simp)) fun σ H Q ⟨g, F, env, S, P⟩ p hp => ?_
  obtain ⟨hn, hf, hx, hio, hl⟩ := S.apart hp
  have hn' : (g.at F).H0 p = none := hn
  have S1 : SR m g F (upd H p (.dK [])) σ env := S.alloc hp
  have hD : (upd H p (.dK [])) p = some (.dK []) := upd_same
  have Sh := S1.rebase.hold hD trivial hn' hx hf
  show dE m E fk σ _ _
  refine dE_use Sh (Post.held (post_rb P) hn fun od1 e1 _ P1 y F1 H1 l1 S2 r1 => ?_)
  show dE m E fv σ _ _
  refine dE_use S2 (Post.held (post_rb P1) hn fun od2 e2 _ P2 z F2 H2 l2 S3 r2 => ?_)
  obtain ⟨S4, hD2, hf2, hx2⟩ := SR.unhold S3 hn' trivial hf hio hl
  by_cases hk : (key1 od1.2).isSome = true
  · rw [if_pos hk] at P2
    cases hk0 : key1 od1.2 with
    | none => rw [hk0] at hk; cases hk
    | some k0 =>
      have ek := key1_of hk0
      rw [ek] at r1 P2
      refine ⟨hD2, [(k0, z)], ?_, by simp, ?_⟩
      · rw [rep_keyD r1]; rfl
      · have S5 := (S.unbase S4).wrote (o := .dK [(k0, z)]) hD2 trivial (.inl hn) hf2 hx2 hl
        exact P2 _ F2 _ (l1.trans l2) S5 ⟨p, rfl, ⟨hf2, _, upd_same, trivial, .cons ⟨rfl, r2⟩ .nil⟩, hn, hx2⟩
  · rw [if_neg hk] at P2
    exact P2.elim
end
/-! ### d.get(k, x) -/
def eGet2 (fd fk fx : EM) : EM := fun env => rb (fd env) fun d e1 => match d.2 with
  | .dict kvs => rb (fk e1) fun k e2 => rb (fx e2) fun x e3 => if mayAsk kvs k.2 = true then rok (false, (dget kvs k.2).getD x.2) e3 else none
  | _ => none
section
variable {X : Cx} {m : Md} {E : XK} {o e f : Expr} {apos cpos : Pos} {fd fk fx : EM}
theorem d_get2 (hu : X.A.units + 64 < cLine) (ho : PE X o (dE m E fd)) (he : PE X e (dE m E fk)) (hf : PE X f (dE m E fx)) (mm : M2 X o "get" apos e f cpos := by exact ⟨rfl, rfl, rfl, rfl⟩) : PE X (.Call (.Attribute o "get" apos) [e, f] [] cpos) (dE m E (eGet2 fd fk fx)) := by
  refine PE.imp (pe_dget2 (by omega) ho he hf mm) fun σ H Q ⟨g, F, env, S, P⟩ => ?_
  refine dE_use S ((post_rb P).mono fun od1 e1 _ P1 v F1 H1 l1 S1 r1 => ?_)
  split at P1
  · rename_i kvs ek
    rw [ek] at r1
    obtain ⟨a, o1, rfl, ha, ro, hr⟩ := view_dict S1.view r1
    refine ⟨a, rfl, ?_, ?_⟩
    · rcases horep_dict hr with ⟨ks, rfl, _⟩ | ⟨ks, r, rfl, _, _⟩
      · exact .inl ⟨ks, ro.rd⟩
      · exact .inr ⟨ks, ro.rd⟩
    refine dE_use S1 ((post_rb P1).mono fun od2 e2 _ P2 w F2 H2 l2 S2 r2 => ?_)
    refine dE_use S2 ((post_rb P2).mono fun od3 e3 _ P3 z F3 H3 l3 S3 r3 => ?_)
    obtain ⟨hm, P3⟩ := post_ite P3
    obtain ⟨o3, ro3, hr3⟩ := S3.view a _ (l3 _ _ (l2 _ _ ha))
    obtain ⟨x, hx, rx⟩ := ask_of S3.view ro3 hr3 (r2.mono l3) hm
    refine ⟨x, hx, P3 _ F3 H3 ((l1.trans l2).trans l3) S3 ?_⟩
    show Rep F3 _ _
    revert rx
    cases dget kvs od2.2 <;> cases x
    · exact fun _ => r3
    · exact fun h => h.elim
    · exact fun h => h.elim
    · exact fun h => h
  · exact P1.elim
end
/-! ### for k in d -/
def slDictF (s : Option Sl) : Option (List (PyData × PyData)) := match s with
  | some (.fz (.dict kvs)) => some kvs
  | some (.ow (.dict kvs)) => some kvs
  | _ => none
def sForK (i : Nat) (b : GM) (body : SM) : SM := fun env => match slDictF env[i]? with
  | some kvs => if isMark kvs = true then none else forL b (fun e => noErr (body e)) (kvs.map (·.1)) (env.set i (.fz (.dict kvs)))
  | none => none
theorem PS.or {X : Cx} {s : Stmt} {t t' : TS} (h : PS X s t) (h' : PS X s t') : PS X s (fun D σ H => t D σ H ∨ t' D σ H) := ⟨fun pins s σ H D I q => q.elim (h.run pins s σ H D I) (h'.run pins s σ H D I)⟩
section
variable {X : Cx} {m : Md} {E : XK} {g : Gc} {F F' : Fv} {H H' : Hp} {σ σ' : L2.St} {env env' : Ev} {d : Addr} {kvs : List (PyData × PyData)} {ks : List (Key × V)} {od : Obj} {b : GM} {body : SM}
theorem krep_at (r : KRep F ks kvs) {i : Nat} {p : Key × V} (h : ks[i]? = some p) : ∃ q, kvs[i]? = some q ∧ q.1 = keyD p.1 := by
  induction r generalizing i with
  | nil => simp at h
  | cons hh t ih =>
    cases i with
    | zero => simp at h; subst h; exact ⟨_, rfl, hh.1⟩
    | succ i => simpa using ih (by simpa using h)
theorem rep_kV (F : Fv) (k : Key) : Rep F (kV k) (keyD k) := by cases k <;> rfl
/-- the turns, the dict being locked all the while -/
theorem forK_core {ts : List Nat} {D : Ends} (S : SR m g F H σ env) (kr : KRep F ks kvs) (fix : ∀ F' H' σ' env', SR m g F' H' σ' env' → H' d = some (.frz od (.dK ks))) (P : Post m (g.at F) E (forL b (fun e => noErr (body e)) (kvs.map (·.1)) env) fun o e => PostO m (g.at F) D o e) :
    ∃ W : Nat → Nat → L2.St → Hp → Prop, (∃ n, W 0 n σ H) ∧ ∀ i n σ H, W i n σ H → ((Itk d od ks).stop i H ∧ D.nx σ H) ∨ ((Itk d od ks).go i H ∧ ∃ N : L2.St → Hp → Prop, (∀ σ' H', N σ' H' → ∃ n', n' < n ∧ W (i + 1) n' σ' H') ∧
      ∀ x H', (Itk d od ks).yld i H x H' → dG m ts b x σ H' fun σ2 H2 => dS m E body { D with nx := N, ct := N, bk := D.nx } σ2 H2) := by
  have hl : ks.length = kvs.length := Paired.length kr
  have P0 : Post m (g.at F) E (forL b (fun e => noErr (body e)) ((kvs.map (·.1)).drop 0) env) fun o e => PostO m (g.at F) D o e := P
  refine ⟨fun i n σ' H' => ∃ F2 env2, SR m (g.at F) F2 H' σ' env2 ∧ n = kvs.length - i ∧ i ≤ kvs.length ∧ Post m (g.at F) E (forL b (fun e => noErr (body e)) ((kvs.map (·.1)).drop i) env2) fun o e => PostO m (g.at F) D o e,
    ⟨kvs.length, F, env, S.rebase, rfl, Nat.zero_le _, P0⟩, ?_⟩
  rintro i n σ' H' ⟨F2, env2, S2, rfl, hi, P2⟩
  have hd := fix _ _ _ _ (S.unbase S2)
  by_cases hlt : i < kvs.length
  · have hlt' : i < (kvs.map (·.1)).length := by simpa using hlt
    rw [drop_get hlt'] at P2
    refine .inr ⟨⟨hd, by rw [hl]; exact hlt⟩, fun σ'' H'' => ∃ F3 env3, SR m (g.at F) F3 H'' σ'' env3 ∧ Post m (g.at F) E (forL b (fun e => noErr (body e)) ((kvs.map (·.1)).drop (i + 1)) env3) fun o e => PostO m (g.at F) D o e, fun σ'' H'' ⟨F3, env3, S3, P3⟩ => ⟨kvs.length - (i + 1), by omega, F3, env3, S3, rfl, by omega, P3⟩, fun x H'' y => ?_⟩
    obtain ⟨rfl, k, v, hk, rfl⟩ := y
    obtain ⟨q, hq, hqk⟩ := krep_at kr hk
    have eq : (kvs.map (·.1))[i] = keyD k := by
      rw [List.getElem_map]
      rw [List.getElem?_eq_getElem hlt] at hq
      cases hq
      exact hqk
    rw [eq] at P2
    unfold forL at P2
    cases eb : b (keyD k) env2 with
    | none => rw [eb] at P2; exact P2.elim
    | some e3 =>
      rw [eb] at P2
      refine ⟨g.at F, F2, env2, keyD k, e3, S2, rep_kV _ k, eb, fun σ3 S4 _ => ⟨g.at F, F2, e3, S4, Post.mono (post_noErr (post_rb P2)) fun o e4 _ P4 => ?_⟩⟩
      cases o with
      | nx => exact fun F' H' σ' S' => ⟨F', e4, S', P4⟩
      | ct => exact fun F' H' σ' S' => ⟨F', e4, S', P4⟩
      | bk => exact P4
      | rt own d => exact P4
  · have e : i = kvs.length := by omega
    subst e
    have e0 : (kvs.map (·.1)).drop kvs.length = [] := by
      have := List.drop_length (l := kvs.map (·.1))
      rwa [List.length_map] at this
    rw [e0] at P2
    exact .inl ⟨⟨hd, by rw [hl]; exact Nat.le_refl _⟩, P2 F2 H' σ' S2⟩

/-- a dict of the frozen view is locked -/
def Gc.lock (g : Gc) (d : Addr) (od : Obj) (o : HO) : Gc := { g with L := (d, od, o) :: g.L, H0 := fun b => if b = d then none else g.H0 b }
theorem notSelf {o : HO} {ob : Obj} (h : Ldk o) : o ≠ .frz ob o := fun z => by rw [z] at h; exact h
theorem SR.lockAt {o : HO} {dd : PyData} (S : SR m g F H σ env) (hF : F d = some dd) (ho : H d = some o) (mu : Ldk o) (dk : IsDk o) : SR m (g.lock d od o) F (upd H d (.frz od o)) σ env := by
  have ne : ∀ b, b ≠ d → upd H d (.frz od o) b = H b := fun b h => upd_ne h
  have nD : ∀ b u, ¬ Ldk u → H b = some u → b ≠ d := fun b u nl e z => by
    rw [z, ho] at e; cases e; exact nl mu
  have nL := S.notLock ho mu
  have nF : ∀ b, F b = none → b ≠ d := fun b h z => by rw [z, hF] at h; cases h
  have nio : ∀ a, g.io = some a → a ≠ d := fun a h z => by
    obtain ⟨_, ws, e⟩ := S.ioL a h
    rw [z, ho] at e; cases e
    exact dk
  have h0 : ∀ b u, (g.lock d od o).H0 b = some u → b ≠ d ∧ g.H0 b = some u := fun b u e => by
    have e' : (if b = d then none else g.H0 b) = some u := e
    by_cases hb : b = d
    · rw [if_pos hb] at e'; cases e'
    · rw [if_neg hb] at e'; exact ⟨hb, e'⟩
  have h0n : ∀ b, g.H0 b = none → (g.lock d od o).H0 b = none := fun b e => by
    show (if b = d then none else g.H0 b) = none
    split
    · rfl
    · exact e
  refine ⟨fun b dd' q => ?_, S.ext, fun b h => (S.new b h).imp id fun u u' e => u u' (h0 b u' e).2, fun b u e h1 h2 h3 => ?_, fun p hp => ?_, fun a h => ?_, fun b e => ?_, fun p hp => ?_, S.len, fun i sl e => ?_, S.dist⟩
  · obtain ⟨u, r, z⟩ := S.view b dd' q
    by_cases hb : b = d
    · subst hb
      rcases r with r | ⟨_, ob, r⟩
      · rw [ho] at r; cases r
        exact ⟨o, .inr ⟨dk, od, upd_same⟩, z⟩
      · rw [ho] at r; cases r; exact mu.elim
    · exact ⟨u, r.keep fun u e => by rw [ne b hb]; exact e, z⟩
  · have h3' : b ∉ d :: g.L.map (·.1) := h3
    simp only [List.mem_cons, not_or] at h3'
    rw [ne b h3'.1]
    exact S.frame b u (h0 b u e).2 h1 h2 h3'.2
  · have hp' : p ∈ (d, od, o) :: g.L := hp
    rcases List.mem_cons.mp hp' with rfl | hp'
    · exact ⟨upd_same, fun u e => ((h0 _ u e).1 rfl).elim, fun z => by rw [hF] at z; cases z⟩
    · have nb : p.1 ≠ d := fun z => nL (z ▸ List.mem_map.mpr ⟨p, hp', rfl⟩)
      exact ⟨by rw [ne _ nb]; exact (S.locks p hp').1, fun u e => (S.locks p hp').2.1 u (h0 _ u e).2, (S.locks p hp').2.2⟩
  · obtain ⟨n0, ws, e⟩ := S.ioL a h
    refine ⟨fun z => n0 ?_, ws, by rw [ne _ (nio a h)]; exact e⟩
    have z' : (if a = d then none else g.H0 a) = none := z
    rwa [if_neg (nio a h)] at z'
  · by_cases hb : b = d
    · rw [hb, upd_same] at e; cases e
    · rw [ne b hb] at e
      exact h0n b (S.dom b e)
  · obtain ⟨ps, h1, h2, h3⟩ := S.tabs p hp
    refine ⟨ps, by rw [ne _ (nD _ (.tbl ps) (fun z => z) h1)]; exact h1, h2, fun pos cv hc => ?_⟩
    obtain ⟨c, e1, e2⟩ := h3 pos cv hc
    exact ⟨c, e1, by rw [ne c (nD _ (LamX.CodeO c p.2) (fun z => z) e2)]; exact e2⟩
  · obtain ⟨v, e1, z⟩ := S.slot i sl e
    refine ⟨v, e1, ?_⟩
    cases sl with
    | no => trivial
    | fz d => exact z
    | fn x => exact z
    | ptr a => exact z
    | ow d =>
      obtain ⟨a, e2, ⟨f, o', h1, mu', r⟩, n⟩ := z
      exact ⟨a, e2, ⟨f, o', by rw [ne a (nF a f)]; exact h1, mu', r⟩, h0n a n⟩
    | io d =>
      obtain ⟨a, ws, e2, hi, f, h1, r⟩ := z
      exact ⟨a, ws, e2, hi, f, by rw [ne a (nF a f)]; exact h1, r⟩
    | sc ns =>
      obtain ⟨a, e2, z⟩ := z
      refine ⟨a, e2, z.imp (fun ⟨ob, h⟩ => ⟨ob, ?_⟩) id⟩
      rw [ne a (nD a (.frz ob (.lst (ns.map V.int))) (fun z => z) h)]
      exact h
theorem SR.unlockAt {o : HO} {dd : PyData} (S : SR m g F H σ env) (hF : F d = some dd) (ho : H d = some o) (mu : Ldk o) (dk : IsDk o) (hr : HoRep F o dd) (S' : SR m (g.lock d od o) F' H' σ' env') (l : Fle F F') : H' d = some (.frz od o) ∧ SR m g F' (upd H' d o) σ' env' := by
  have nL := S.notLock ho mu
  have hd : H' d = some (.frz od o) := (S'.locks (d, od, o) (List.mem_cons_self ..)).1
  have ne : ∀ b, b ≠ d → upd H' d o b = H' b := fun b h => upd_ne h
  have nD : ∀ b u, (∀ ob x, u ≠ .frz ob x) → H' b = some u → b ≠ d := fun b u nl e z => by
    rw [z, hd] at e; cases e; exact nl _ _ rfl
  have nF : ∀ b, F' b = none → b ≠ d := fun b h z => by rw [z, l _ _ hF] at h; cases h
  have nio : ∀ a, g.io = some a → a ≠ d := fun a h z => by
    obtain ⟨_, ws, e⟩ := S.ioL a h
    rw [z, ho] at e; cases e
    exact dk
  have h0 : ∀ b, b ≠ d → (g.lock d od o).H0 b = g.H0 b := fun b h => if_neg h
  refine ⟨hd, fun b dd' q => ?_, S.ext.trans l, fun b h => ?_, fun b u e h1 h2 h3 => ?_, fun p hp => ?_, fun a h => ?_, fun b e => ?_, fun p hp => ?_, S'.len, fun i sl e => ?_, S'.dist⟩
  · by_cases hb : b = d
    · subst hb
      rw [l _ _ hF] at q; cases q
      exact ⟨o, .inl upd_same, hr.mono l⟩
    · obtain ⟨u, r, z⟩ := S'.view b dd' q
      exact ⟨u, r.keep fun u e => by rw [ne b hb]; exact e, z⟩
  · by_cases hb : b = d
    · subst hb
      exact S.new b (by rw [hF]; exact fun z => nomatch z)
    · exact (S'.new b h).imp id fun u u' e => u u' (by rw [h0 b hb]; exact e)
  · by_cases hb : b = d
    · subst hb
      have := S.frame b u e h1 h2 h3
      rw [ho] at this
      rw [upd_same]; exact this
    · rw [ne b hb]
      refine S'.frame b u (by rw [h0 b hb]; exact e) h1 h2 fun z => ?_
      have z' : b ∈ d :: g.L.map (·.1) := z
      exact (List.mem_cons.mp z').elim hb h3
  · have nb : p.1 ≠ d := fun z => nL (z ▸ List.mem_map.mpr ⟨p, hp, rfl⟩)
    have hp' : p ∈ (g.lock d od o).L := List.mem_cons_of_mem _ hp
    exact ⟨by rw [ne _ nb]; exact (S'.locks p hp').1, fun u e => (S'.locks p hp').2.1 u (by rw [h0 _ nb]; exact e), (S'.locks p hp').2.2⟩
  · obtain ⟨n0, ws, e⟩ := S'.ioL a h
    exact ⟨(S.ioL a h).1, ws, by rw [ne _ (nio a h)]; exact e⟩
  · by_cases hb : b = d
    · rw [hb, upd_same] at e; cases e
    · rw [ne b hb] at e
      rw [← h0 b hb]
      exact S'.dom b e
  · obtain ⟨ps, h1, h2, h3⟩ := S'.tabs p hp
    refine ⟨ps, by rw [ne _ (nD _ (.tbl ps) (fun _ _ z => nomatch z) h1)]; exact h1, h2, fun pos cv hc => ?_⟩
    obtain ⟨c, e1, e2⟩ := h3 pos cv hc
    exact ⟨c, e1, by rw [ne c (nD _ (LamX.CodeO c p.2) (fun _ _ z => nomatch z) e2)]; exact e2⟩
  · obtain ⟨v, e1, z⟩ := S'.slot i sl e
    refine ⟨v, e1, ?_⟩
    cases sl with
    | no => trivial
    | fz d => exact z
    | fn x => exact z
    | ptr a => exact z
    | ow d =>
      obtain ⟨a, e2, ⟨f, o', h1, mu', r⟩, n⟩ := z
      have na := nF a f
      exact ⟨a, e2, ⟨f, o', by rw [ne a na]; exact h1, mu', r⟩, by rw [← h0 a na]; exact n⟩
    | io d =>
      obtain ⟨a, ws, e2, hi, f, h1, r⟩ := z
      exact ⟨a, ws, e2, hi, f, by rw [ne a (nF a f)]; exact h1, r⟩
    | sc ns =>
      obtain ⟨a, e2, z⟩ := z
      refine ⟨a, e2, z.imp (fun ⟨ob, h⟩ => ⟨ob, ?_⟩) id⟩
      rw [ne a (fun z => by rw [z, hd] at h; cases h; exact dk)]
      exact h

/-- one that nobody tells of -/
def Gc.pin (g : Gc) (d : Addr) (u : HO) : Gc := { g with H0 := fun b => if b = d then some u else g.H0 b }
theorem VOk.ofH0 {g g' : Gc} {own : Bool} {dd : PyData} {v : V} (h : VOk g F H σ env own dd v) (k : ∀ a o, H a = some o → Ldk o → g.H0 a = none → g'.H0 a = none) : VOk g' F H σ env own dd v := by
  cases own with
  | false => exact h
  | true =>
    obtain ⟨a, e, ⟨f, o, ho, mu, r⟩, n, x⟩ := h
    exact ⟨a, e, ⟨f, o, ho, mu, r⟩, k a o ho mu n, x⟩
/-- it is locked, and stays so while the frame is told so -/
theorem SR.pinned {ob : Obj} {o : HO} (S : SR m g F H σ env) (ho : H d = some (.frz ob o)) (dk : IsDk o) : ∃ g', SR m g' F H σ env ∧ (∀ F' H' σ' env', SR m g' F' H' σ' env' → H' d = some (.frz ob o) ∧ SR m g F' H' σ' env') ∧ (∀ F' H' σ' env' own dd v, VOk g' F' H' σ' env' own dd v → VOk g F' H' σ' env' own dd v) := by
  have nio : g.io ≠ some d := fun h => by
    obtain ⟨_, ws, e⟩ := S.ioL d h
    rw [ho] at e; cases e
  by_cases hL : d ∈ g.L.map (·.1)
  · obtain ⟨p, hp, e⟩ := List.mem_map.mp hL
    refine ⟨g, S, fun F' H' σ' env' S' => ⟨?_, S'⟩, fun _ _ _ _ _ _ _ h => h⟩
    have h1 := (S.locks p hp).1
    have h2 := (S'.locks p hp).1
    rw [e] at h1 h2
    rw [ho] at h1; cases h1
    exact h2
  · let g' := g.pin d (.frz ob o)
    have h0 : ∀ b, b ≠ d → g'.H0 b = g.H0 b := fun b h => if_neg h
    have h0d : g'.H0 d = some (.frz ob o) := if_pos rfl
    have nOwn : ∀ b u, H b = some u → Ldk u → b ≠ d := fun b u e nl z => by
      rw [z, ho] at e; cases e; exact nl
    have hdg : ∀ u, g.H0 d = some u → u = .frz ob o ∨ ∃ ps, u = .tbl ps := fun u e => by
      by_cases ht : ∃ ps, u = .tbl ps
      · exact .inr ht
      · have := S.frame d u e nio (fun ps z => ht ⟨ps, z⟩) hL
        rw [ho] at this
        exact .inl (Option.some.inj this).symm
    have unmD : Unm g.H0 d := fun u e mu => by
      rcases hdg u e with rfl | ⟨ps, rfl⟩
      · exact mu
      · exact mu
    have unmD' : Unm g'.H0 d := fun u e mu => by
      rw [h0d] at e; cases e
      exact mu
    refine ⟨g', ⟨S.view, S.ext, fun b h => (S.new b h).imp id fun u => ?_, fun b u e h1 h2 h3 => ?_, fun p hp => ⟨(S.locks p hp).1, fun u e => ?_, (S.locks p hp).2.2⟩, fun a h => ⟨fun z => ?_, (S.ioL a h).2⟩, fun b e => ?_, S.tabs, S.len, fun i sl e => ?_, S.dist⟩, fun F' H' σ' env' S' => ?_, fun F' H' σ' env' own dd v h => h.ofH0 fun a o' ho' mu n => ?_⟩
    · by_cases hb : b = d
      · subst hb; exact unmD'
      · exact fun u' e => u u' (by rw [← h0 b hb]; exact e)
    · by_cases hb : b = d
      · subst hb
        rw [h0d] at e; cases e
        exact ho
      · exact S.frame b u (by rw [← h0 b hb]; exact e) h1 h2 h3
    · have nb : p.1 ≠ d := fun z => hL (z ▸ List.mem_map.mpr ⟨p, hp, rfl⟩)
      exact (S.locks p hp).2.1 u (by rw [← h0 _ nb]; exact e)
    · have na : a ≠ d := fun z => nio (z ▸ h)
      exact (S.ioL a h).1 (by rw [← h0 a na]; exact z)
    · have nb : b ≠ d := fun z => by rw [z, ho] at e; cases e
      rw [h0 b nb]
      exact S.dom b e
    · obtain ⟨v, e1, z⟩ := S.slot i sl e
      refine ⟨v, e1, ?_⟩
      cases sl with
      | no => trivial
      | fz d => exact z
      | fn x => exact z
      | ptr a => exact z
      | io d => exact z
      | sc d => exact z
      | ow d =>
        obtain ⟨a, e2, ⟨f, o', h1, mu', r⟩, n⟩ := z
        have na := nOwn a o' h1 mu'
        exact ⟨a, e2, ⟨f, o', h1, mu', r⟩, by rw [h0 a na]; exact n⟩
    · have hd : H' d = some (.frz ob o) := S'.frame d _ h0d nio (fun _ z => nomatch z) hL
      let D0 := d
      refine ⟨hd, S'.view, S'.ext, fun b h => (S'.new b h).imp id fun u => ?_, fun b u e h1 h2 h3 => ?_, fun p hp => ⟨(S'.locks p hp).1, fun u e => ?_, (S'.locks p hp).2.2⟩, fun a h => ⟨(S.ioL a h).1, (S'.ioL a h).2⟩, fun b e => ?_, S'.tabs, S'.len, fun i sl e => ?_, S'.dist⟩
      · by_cases hb : b = d
        · subst hb; exact unmD
        · exact fun u' e => u u' (by rw [h0 b hb]; exact e)
      · by_cases hb : b = d
        · subst hb
          rcases hdg u e with rfl | ⟨ps, rfl⟩
          · exact hd
          · exact (h2 ps rfl).elim
        · exact S'.frame b u (by rw [h0 b hb]; exact e) h1 h2 h3
      · have nb : p.1 ≠ d := fun z => hL (z ▸ List.mem_map.mpr ⟨p, hp, rfl⟩)
        exact (S'.locks p hp).2.1 u (by rw [h0 _ nb]; exact e)
      · have nb : b ≠ d := fun z => by rw [z, hd] at e; cases e
        rw [← h0 b nb]
        exact S'.dom b e
      · obtain ⟨v, e1, z⟩ := S'.slot i sl e
        refine ⟨v, e1, ?_⟩
        cases sl with
        | no => trivial
        | fz d => exact z
        | fn x => exact z
        | ptr a => exact z
        | io d => exact z
        | sc d => exact z
        | ow d =>
          obtain ⟨a, e2, ⟨f, o', h1, mu', r⟩, n⟩ := z
          have na : a ≠ D0 := fun z => by
            rw [z, hd] at h1; cases h1
            exact mu'
          exact ⟨a, e2, ⟨f, o', h1, mu', r⟩, by rw [← h0 a na]; exact n⟩
    · by_cases hb : a = d
      · subst hb; rw [h0d] at n; cases n
      · rw [← h0 a hb]; exact n
theorem Post.clean {α : Type} {g g' : Gc} {E E' : XK} {r : Res α} {K K' : α → Ev → Prop} (h : Post m g E r K) (hc : ∀ e, r ≠ some (.error e)) (k : ∀ a e, r = some (.ok (a, e)) → K a e → K' a e) : Post m g' E' r K' := by
  cases r with
  | none => exact h
  | some x => cases x with
    | error e => exact (hc e rfl).elim
    | ok p => exact k _ _ rfl h
theorem forL_clean {b : GM} {s : SM} (hs : ∀ e x, s e ≠ some (.error x)) : ∀ (ds : List PyData) (env : Ev) (x : Ex), forL b s ds env ≠ some (.error x)
  | [], env, x => fun z => nomatch z
  | d :: ds, env, x => by
    unfold forL
    cases b d env with
    | none => exact fun z => nomatch z
    | some e1 =>
      simp only
      cases h : s e1 with
      | none => exact fun z => nomatch z
      | some y => cases y with
        | error y => exact (hs e1 y h).elim
        | ok p =>
          obtain ⟨o, e2⟩ := p
          cases o with
          | nx => exact forL_clean hs ds e2 x
          | ct => exact forL_clean hs ds e2 x
          | bk => exact fun z => nomatch z
          | rt own d => exact fun z => nomatch z
theorem noErr_clean {α : Type} {r : Res α} (x : Ex) : noErr r ≠ some (.error x) := by
  cases r with
  | none => exact fun z => nomatch z
  | some y => cases y <;> exact fun z => nomatch z
theorem rd_forK {i : Nat} {ts : List Nat} {D : Ends} {σ : L2.St} {H : Hp} (q : dS m E (sForK i b body) D σ H) :
    tLock (tFor (iKeys (tVar i)) (dG m ts b) (dS m E body)) D σ H ∨ tFor (iKeys (tVar i)) (dG m ts b) (dS m E body) D σ H := by
  obtain ⟨g, F, env, S, P⟩ := q
  unfold sForK at P
  split at P
  · rename_i kvs hk
    split at P
    · exact P.elim
    · rename_i hm
      obtain ⟨a, F1, hs, l1, S1, r1⟩ : ∃ a F1, σ[i]? = some (some (.ref a)) ∧ Fle F F1 ∧ SR m g F1 H σ (env.set i (.fz (.dict kvs))) ∧ Rep F1 (.ref a) (.dict kvs) := by
        unfold slDictF at hk
        split at hk
        · rename_i kvs' e
          cases hk
          obtain ⟨v, e1, x, rfl, r⟩ := S.slot i _ e
          have r0 := r
          obtain ⟨a, rfl, _⟩ := r
          have es : env.set i (.fz (.dict kvs)) = env := by
            have hi := (List.getElem?_eq_some_iff.mp e)
            obtain ⟨hi, e⟩ := hi
            rw [← e]
            exact List.set_getElem_self hi
          exact ⟨a, F, e1, .refl F, by rw [es]; exact S, r0⟩
        · rename_i kvs' e
          cases hk
          obtain ⟨a, F', h1, h2, h3, h4⟩ := S.freezeAt e
          exact ⟨a, F', h1, h2, h3, h4⟩
        · cases hk
      obtain ⟨a', ea, hF⟩ := r1
      cases ea
      obtain ⟨o, ro, hr⟩ := S1.view a _ hF
      have P1 : Post m g E (forL b (fun e => noErr (body e)) (kvs.map (·.1)) (env.set i (.fz (.dict kvs)))) fun o e => PostO m g D o e := P
      have hcl := forL_clean (b := b) (s := fun e => noErr (body e)) (fun e x => noErr_clean x) (kvs.map (·.1)) (env.set i (.fz (.dict kvs)))
      rcases horep_dict hr with ⟨ks, rfl, kr⟩ | ⟨ks, r, rfl, rfl, _⟩
      · rcases ro with ro | ⟨dk, ob, ro⟩
        · refine .inl ⟨a, .dK ks, ro, trivial, fun od => ?_⟩
          have S2 := S1.lockAt (od := od) hF ro trivial trivial
          refine ⟨.ref a, hs, a, od, rfl, .inl ⟨ks, upd_same, ?_⟩⟩
          refine forK_core S2 kr (fun F' H' σ' env' S' => (S'.locks (a, od, .dK ks) (List.mem_cons_self ..)).1) (Post.clean P1 hcl fun o e _ h => ?_)
          cases o with
          | nx => exact fun F' H' σ' S' => let ⟨x, y⟩ := S1.unlockAt hF ro trivial trivial hr (S2.unbase S') S'.ext; ⟨x, h F' _ σ' y⟩
          | bk => exact fun F' H' σ' S' => let ⟨x, y⟩ := S1.unlockAt hF ro trivial trivial hr (S2.unbase S') S'.ext; ⟨x, h F' _ σ' y⟩
          | ct => exact fun F' H' σ' S' => let ⟨x, y⟩ := S1.unlockAt hF ro trivial trivial hr (S2.unbase S') S'.ext; ⟨x, h F' _ σ' y⟩
          | rt own d =>
            refine fun v F' H' σ' S' vo => ?_
            obtain ⟨x, y⟩ := S1.unlockAt hF ro trivial trivial hr (S2.unbase S') S'.ext
            refine ⟨x, h v F' _ σ' y ?_⟩
            cases own with
            | false => exact vo
            | true =>
              obtain ⟨p, e1, ⟨f, o, ho, mu, r⟩, n, nx⟩ := vo
              have np : p ≠ a := fun z => by rw [z, S'.ext _ _ hF] at f; cases f
              refine ⟨p, e1, ⟨f, o, by rw [upd_ne np]; exact ho, mu, r⟩, ?_, nx⟩
              have n' : (if p = a then none else g.H0 p) = none := n
              rwa [if_neg np] at n'
        · obtain ⟨g', S2, fix, vok⟩ := S1.pinned ro dk
          refine .inr ⟨.ref a, hs, a, ob, rfl, .inl ⟨ks, ro, ?_⟩⟩
          refine forK_core S2 kr (fun F' H' σ' env' S' => (fix _ _ _ _ S').1) (Post.clean P1 hcl fun o e _ h => ?_)
          cases o with
          | nx => exact fun F' H' σ' S' => h F' _ σ' (fix _ _ _ _ (S2.unbase S')).2
          | bk => exact fun F' H' σ' S' => h F' _ σ' (fix _ _ _ _ (S2.unbase S')).2
          | ct => exact fun F' H' σ' S' => h F' _ σ' (fix _ _ _ _ (S2.unbase S')).2
          | rt own d => exact fun v F' H' σ' S' vo => h v F' _ σ' (fix _ _ _ _ (S2.unbase S')).2 (vok _ _ _ _ _ _ _ vo)
      · exact (hm rfl).elim
  · exact P.elim
end

section
variable {X : Cx} {m : Md} {E : XK} {pos p : Pos} {tg : Expr} {bd : List Stmt} {b : GM} {body : SM}
theorem ds_forK {i : Nat} {x : Str} {ts : List Nat} (hN : X.N[i]? = some x) (hv : Vis X.env.scope x) (hp : PassesOwn (model X.prog X.w) X.A X.env X.xe) (hc : X.calm = true) (hg : PG X tg (dG m ts b)) (hb : PSs X bd (dS m E body)) (hd : (x == ("__debug__" : Str)) = false := by decide) (hcd : (x == ("__classdict__" : Str)) = false := by decide)
    (hs : ∀ z, foldedSetIterable (.Name x p) X.env z = pure z := by intro _; rfl) : PS X (.For tg (.Name x p) bd [] pos) (dS m E (sForK i b body)) := by
  have h := ps_for (pos := pos) hp hc (pi_keys (tg := tg) (pe_var (pos := p) hN hv hd hcd)) hg hb hs
  exact PS.imp (PS.or (ps_lock h) h) fun D σ H => rd_forK
end
/-! ### sorted(set(t)), t a tuple of ints in rising order -/
theorem asc_ext : ∀ {xs ys : List Int}, xs.Pairwise (· < ·) → ys.Pairwise (· < ·) → (∀ k, k ∈ xs ↔ k ∈ ys) → xs = ys
  | [], [], _, _, _ => rfl
  | [], y :: ys, _, _, h => by
    have := (h y).mpr (List.mem_cons_self ..)
    simp at this
  | x :: xs, [], _, _, h => by
    have := (h x).mp (List.mem_cons_self ..)
    simp at this
  | x :: xs, y :: ys, h1, h2, h => by
    rw [List.pairwise_cons] at h1 h2
    have e : x = y := by
      rcases List.mem_cons.mp ((h x).mp (List.mem_cons_self ..)) with e | a
      · exact e
      · rcases List.mem_cons.mp ((h y).mpr (List.mem_cons_self ..)) with e | b
        · exact e.symm
        · have := h2.1 x a
          have := h1.1 y b
          omega
    subst e
    congr 1
    refine asc_ext h1.2 h2.2 fun k => ⟨fun a => ?_, fun a => ?_⟩
    · rcases List.mem_cons.mp ((h k).mp (List.mem_cons_of_mem _ a)) with e | b
      · have := h1.1 k a; omega
      · exact b
    · rcases List.mem_cons.mp ((h k).mpr (List.mem_cons_of_mem _ a)) with e | b
      · have := h2.1 k a; omega
      · exact b
def rSetT (w : World) (K : PySem.W.Frag) : List V → Hp → VK → Prop := fun vs H Q => ∃ (p : Addr) (ns : List Int), vs = [.ref p] ∧ SqT K H p (ns.map V.int) ∧ ns.length ≤ 1000 ∧ ∀ q c, H q = none → c ≤ ns.length → Q (.ref q) (upd H q (SetO w q (fun j => decide (j ∈ ns)) c))
section
variable {X : Cx}
theorem cr_setT (hc : X.calm = true) : CallR X (.type "set") (rSetT X.w X.K) := by
  intro pins s σ H vs us Q I r h
  obtain ⟨p0, ns, e1, hq, hl, q⟩ := h
  subst e1
  rw [Vals.ref1 r]
  obtain ⟨its, rv, pt, hz⟩ := I.tuple hq
  have hi : IntsAre its.toArray.toList ns := ints_of_vals rv
  refine call_set_tupI ns (I.ok.hd hc) (show s.heap.IsTuple p0 its.toArray from pt) hi (by unfold scanBound; omega) fun h' tk c R1 hcn k => ?_
  exact ⟨.ref _, upd H s.heap.objs.size (SetO X.w s.heap.objs.size (fun j => decide (j ∈ ns)) c), I.laid k (Nat.le_refl _) (setO_new R1), rfl, q _ c (I.hok.fresh (Nat.le_refl _)) hcn⟩
end
def intsTup : List PyData → Option (List Int)
  | [] => some []
  | .int i :: ds => (intsTup ds).map (i :: ·)
  | _ => none
def ascB : List Int → Bool
  | [] => true
  | i :: is => is.all (fun j => decide (i < j)) && ascB is
theorem ascB_ok : ∀ {is : List Int}, ascB is = true → is.Pairwise (· < ·)
  | [], _ => .nil
  | i :: is, h => by
    unfold ascB at h
    obtain ⟨h1, h2⟩ := Bool.and_eq_true_iff.mp h
    exact .cons (fun j hj => of_decide_eq_true (List.all_eq_true.mp h1 j hj)) (ascB_ok h2)
theorem intsTup_ok : ∀ {ds : List PyData} {ns : List Int}, intsTup ds = some ns → ds = ns.map PyData.int
  | [], ns, h => by unfold intsTup at h; cases h; rfl
  | .int i :: ds, ns, h => by
    unfold intsTup at h
    obtain ⟨r, hr, rfl⟩ := Option.map_eq_some_iff.mp h
    rw [intsTup_ok hr]; rfl
  | .none :: ds, ns, h => by unfold intsTup at h; cases h
  | .bool _ :: ds, ns, h => by unfold intsTup at h; cases h
  | .str _ :: ds, ns, h => by unfold intsTup at h; cases h
  | .list _ :: ds, ns, h => by unfold intsTup at h; cases h
  | .tuple _ :: ds, ns, h => by unfold intsTup at h; cases h
  | .dict _ :: ds, ns, h => by unfold intsTup at h; cases h
theorem reps_intsV {F : Fv} : ∀ {ns : List Int} {vs : List V}, Reps F vs (ns.map PyData.int) → vs = ns.map V.int
  | [], _, .nil => rfl
  | i :: is, _, .cons r t => by
    rw [List.map_cons, reps_intsV t]
    have : _ = V.int i := r
    rw [this]
theorem ints_reps (F : Fv) : ∀ ns : List Int, Reps F (ns.map V.int) (ns.map PyData.int)
  | [] => .nil
  | i :: is => .cons rfl (ints_reps F is)
def eSrtSet (f : EM) : EM := fun env => rb (f env) fun od e => match od.2 with
  | .tuple ds => match intsTup ds with
    | some ns => if ascB ns = true ∧ ns.length < 64 then rok (true, .list ds) e else none
    | none => none
  | _ => none
section
variable {X : Cx} {m : Md} {E : XK} {pos p p1 p2 : Pos} {e : Expr} {f : EM}
theorem d_srtSet (hc : X.calm = true) (hg : Gl X "sorted") (hm : X.mg "sorted" = none) (hg2 : Gl X "set") (hm2 : X.mg "set" = none) (he : PE X e (dE m E f))
    (h1 : starEach (e :: []) X.env = (false, eval e X.env) :: starEach [] X.env := by rfl) (h2 : (backTo p1 (starEach [] X.env)).any (·.1) = false := by rfl)
    (h3 : starEach (.Call (.Name "set" p) [e] [] p1 :: []) X.env = (false, eval (.Call (.Name "set" p) [e] [] p1) X.env) :: starEach [] X.env := by rfl) (h4 : (backTo pos (starEach [] X.env)).any (·.1) = false := by rfl) :
    PE X (.Call (.Name "sorted" p2) [.Call (.Name "set" p) [e] [] p1] [] pos) (dE m E (eSrtSet f)) := by
  refine PE.imp (pe_callB (cr_sortedSet hc) hg hm (by decide +kernel) (pa_cons (pe_callTy (cr_setT hc) hg2 hm2 (by decide +kernel) (pa_cons he pa_nil h1) (by decide) (by decide) h1 h2) pa_nil h3) (by decide) (by decide) h3 h4) fun σ H Q ⟨g, F, env, S, P⟩ => ?_
  refine dE_use S ((post_rb P).mono fun od1 e1 _ P1 v F1 H1 l1 S1 r1 => ?_)
  split at P1
  · rename_i ds ek
    split at P1
    · rename_i ns en
      obtain ⟨hz, P2⟩ := post_ite P1
      obtain ⟨ha, hl⟩ := hz
      rw [ek] at r1
      obtain ⟨b, vs, rfl, hb, rb⟩ := view_tup S1.view r1
      rw [intsTup_ok en] at rb
      rw [reps_intsV rb] at hb
      refine ⟨b, ns, rfl, .inl (.inl hb), by omega, fun q c hq hcn => ?_⟩
      refine ⟨q, _, c, rfl, upd_same, by omega, fun ns' p' hp hmem _ hpn => ?_⟩
      have e2 : ns' = ns := asc_ext hp (ascB_ok ha) fun k => by rw [hmem k, decide_eq_true_eq]
      subst e2
      have S2 : SR m g F1 (upd H1 q (SetO X.w q (fun j => decide (j ∈ ns')) c)) σ e1 := S1.alloc hq
      obtain ⟨S3, vo⟩ := S2.allocOwn (o := .lst (ns'.map V.int)) (d := .list ds) hpn (by rw [intsTup_ok en]; exact ints_reps F1 ns') trivial
      exact P2 _ F1 _ l1 S3 vo
    · exact P1.elim
  · exact P1.elim
end
end DL

/-! The data layer, part oc: the head's facts over a written list of addresses (the walk that finds them is not made anew in the proof). -/
namespace HM
open PySem PySem.Spec PyProof.Rows L2 He DLR
def obsL (as : List Addr) (fa : List Fa) (fn : List FnD) (tf : List Defn) (ex : PySem.W.Frag → Bool) (fi : List FnD) (g : Addr → Option Obj) : AlI := obsK fa fn tf ex fi g (frT g as)
def hookL (as : List Addr) (fa : List Fa) (fn : List FnD) (tf : List Defn) (ex : PySem.W.Frag → Bool) (fi : List FnD) : PySem.W.Hook where
  α := AlI
  obs := fun s => obsL as fa fn tf ex fi s.heap.get?
  val := fun _ => ((valE fn, true), fi.map iniVal)
  says := fun _ h => ∃ K : PySem.W.Frag, K.In h ∧ SaysI fa fn tf ex fi h K
  of := fun _ s e => ⟨_, frT_in, says_ofK e⟩
  keeps := fun _ _ _ ⟨K, hK, c⟩ k => ⟨K, PySem.W.Frag.In.keeps hK k, ⟨⟨c.m.e, c.m.more, c.m.hd, c.m.out, fun p hp => k _ _ (c.m.empty p hp)⟩, c.ini⟩⟩
theorem obsL_eq {as : List Addr} {fa : List Fa} {fn : List FnD} {tf : List Defn} {ex : PySem.W.Frag → Bool} {fi : List FnD} {g : Addr → Option Obj} {s : Shared} (h : ∀ a, g a = s.heap.get? a) : obsL as fa fn tf ex fi g = (hookL as fa fn tf ex fi).obs s := by
  have e : g = s.heap.get? := funext h
  rw [e] <;> rfl
end HM

/-! The data layer, part od: texts: split, find, f-strings, str(int). -/
namespace DL
open PySem PySem.Spec PyProof.Rows L2
theorem reps_strs (F : Fv) : ∀ ys : List Str, Reps F (ys.map V.str) (ys.map PyData.str)
  | [] => .nil
  | y :: ys => .cons rfl (reps_strs F ys)
/-! ### split, find -/
def splitD : Op2 := fun x y => match x, y with
  | .str a, .str b => if (b.length == 0) = false ∧ a.length + 2 ≤ sizeLine then some (true, .list ((Txt.split a b).map PyData.str)) else none
  | _, _ => none
def findD : Op2 := fun x y => match x, y with
  | .str a, .str b => some (false, .int (Txt.find a b))
  | _, _ => none
section
variable {X : Cx} {m : Md} {E : XK} {pos apos : Pos} {f k : EM} {o e : Expr}
theorem d_split (ho : PE X o (dE m E f)) (he : PE X e (dE m E k)) (hs : starEach [e] X.env = [(false, eval e X.env)] := by rfl) (hbase : attributeBase o "split" X.env (eval o X.env) = eval o X.env := by rfl) (hline : (apos.endLine == pos.line) = true := by rfl) : PE X (.Call (.Attribute o "split" apos) [e] [] pos) (dE m E (eM1 splitD f k)) :=
  PE.imp (pe_split ho he hs hbase hline) fun σ H Q => rd_m1 fun F H x y d1 d2 own d Q w r1 r2 h c => by
    unfold splitD at h
    split at h
    · split at h
      · rename_i hz
        cases h; cases r1; cases r2
        exact ⟨_, _, rfl, rfl, hz.1, hz.2, fun p hp => c p (.lst ((Txt.split _ _).map V.str)) hp (reps_strs F _) trivial⟩
      · cases h
    · cases h
theorem d_find (ho : PE X o (dE m E f)) (he : PE X e (dE m E k)) (hs : starEach [e] X.env = [(false, eval e X.env)] := by rfl) (hbase : attributeBase o "find" X.env (eval o X.env) = eval o X.env := by rfl) (hline : (apos.endLine == pos.line) = true := by rfl) : PE X (.Call (.Attribute o "find" apos) [e] [] pos) (dE m E (eM1 findD f k)) :=
  PE.imp (pe_m1 F.slot_str_find F.type_str_find mt_find ho he hs hbase hline) fun σ H Q => rd_m1 fun F H x y d1 d2 own d Q w r1 r2 h c => by
    unfold findD at h
    split at h
    · cases h; cases r1; cases r2
      exact ⟨_, _, rfl, rfl, c.1 _ rfl⟩
    · cases h
end
/-! ### f-strings -/
def fmtD : Op1 := fun x => match x with
  | .str y => if y.length ≤ sizeLine then some (false, .str y) else none
  | .int i => if i.natAbs.log2 < 1920 then some (false, .str (toString i)) else none
  | _ => none
/-- the parts one behind the other -/
def jsM : List EM → Str → Ev → Res Str
  | [], acc, env => rok acc env
  | f :: fs, acc, env => rb (f env) fun od e => match od.2 with
    | .str y => if (acc ++ y).length ≤ sizeLine then jsM fs (acc ++ y) e else none
    | _ => none
def eJs (fs : List EM) : EM := fun env => rb (jsM fs Str.empty env) fun out e => rok (false, .str out) e
section
variable {X : Cx} {m : Md} {E : XK} {pos : Pos} {f : EM} {e : Expr}
theorem d_fmt (he : PE X e (dE m E f)) : PE X (.FormattedValue e (-1) none pos) (dE m E (eUn fmtD f)) := by
  refine PE.imp (pe_fmt he) fun σ H Q ⟨g, F, env, S, P⟩ => ?_
  refine dE_use S ((post_rb P).mono fun od1 e1 _ P1 v F1 H1 l1 S1 r1 => ?_)
  obtain ⟨⟨own, d⟩, ed, P2⟩ := post_lift P1
  unfold fmtD at ed
  split at ed
  · rename_i y ey
    split at ed
    · rename_i hz
      cases ed
      rw [ey] at r1
      cases r1
      exact .inl ⟨y, rfl, hz, P2 _ F1 H1 l1 S1 rfl⟩
    · cases ed
  · rename_i i ei
    split at ed
    · rename_i hz
      cases ed
      rw [ei] at r1
      cases r1
      exact .inr ⟨i, rfl, hz, P2 _ F1 H1 l1 S1 rfl⟩
    · cases ed
  · cases ed
theorem rd_js {g0 : Gc} {F0 : Fv} : ∀ {fs : List EM} {acc : Str} {σ : L2.St} {H : Hp} {Q : Str → Hp → Prop}, (∃ g F env, SR m g F H σ env ∧ Post m g E (jsM fs acc env) fun out e => ∀ F' H', Fle F F' → SR m g F' H' σ e → Q out H') → tJs (fs.map (dE m E)) acc σ H Q
  | [], acc, σ, H, Q, ⟨g, F, env, S, P⟩ => P F H (.refl F) S
  | f :: fs, acc, σ, H, Q, ⟨g, F, env, S, P⟩ => by
    refine dE_use S ((post_rb P).mono fun od1 e1 _ P1 v F1 H1 l1 S1 r1 => ?_)
    split at P1
    · rename_i y ey
      split at P1
      · rename_i hz
        rw [ey] at r1
        refine ⟨y, r1, hz, rd_js (g0 := g0) (F0 := F0) ⟨g, F1, e1, S1, Post.mono P1 fun out e _ h F' H' l S' => h F' H' (l1.trans l) S'⟩⟩
      · exact P1.elim
    · exact P1.elim
theorem d_js {v1 v2 : Expr} {rest : List Expr} {fs : List EM} (h : PJ X (v1 :: v2 :: rest) (fs.map (dE m E))) : PE X (.JoinedStr (v1 :: v2 :: rest) pos) (dE m E (eJs fs)) := by
  refine PE.imp (pe_joined h) fun σ H Q ⟨g, F, env, S, P⟩ => ?_
  refine rd_js (g0 := g) (F0 := F) ⟨g, F, env, S, (post_rb P).mono fun out e _ P1 F' H' l S' => ?_⟩
  exact P1 _ F' H' l S' rfl
end

/-! ### str(int), int(text), list of texts .index(text) -/
def strID : OpN := fun ds => match ds with
  | [.int i] => if i.natAbs.log2 < 1920 then some (false, .str (toString i)) else none
  | _ => none
def intTD : OpN := fun ds => match ds with
  | [.str a] => match PySem.intText? a with
    | some n => if a.length ≤ 640 then some (false, .int n) else none
    | none => none
  | _ => none
theorem ok_strI : CallOk (fun xs H Q => ∃ i, xs = [.int i] ∧ i.natAbs.log2 < 1920 ∧ Q (.str (toString i)) H) strID := by
  intro F H xs ds own d Q w r h c
  unfold strID at h
  split at h
  · split at h
    · rename_i hz
      cases h
      rcases r with _ | ⟨r1, t⟩
      cases t
      cases r1
      exact ⟨_, rfl, hz, c.1 _ rfl⟩
    · cases h
  · cases h
theorem ok_intT : CallOk (fun xs H Q => ∃ a n, xs = [.str a] ∧ PySem.intText? a = some n ∧ a.length ≤ 640 ∧ Q (.int n) H) intTD := by
  intro F H xs ds own d Q w r h c
  unfold intTD at h
  split at h
  · split at h
    · rename_i n hn
      split at h
      · rename_i hz
        cases h
        rcases r with _ | ⟨r1, t⟩
        cases t
        cases r1
        exact ⟨_, n, rfl, hn, hz, c.1 _ rfl⟩
      · cases h
    · cases h
  · cases h
section
variable {X : Cx} {m : Md} {E : XK} {pos p : Pos} {e : Expr} {es : List Expr} {t : AM}
theorem g_strI (hg : Gl X "str") (hm : X.mg "str" = none) (ha : PA X (e :: es) (dA m E t)) (he : starEach (e :: es) X.env = (false, eval e X.env) :: starEach es X.env := by rfl) (hpl : (backTo pos (starEach es X.env)).any (·.1) = false := by rfl) : PE X (.Call (.Name "str" p) (e :: es) [] pos) (dE m E (eB strID t)) := d_callTy call_str_int ok_strI hg hm (by decide +kernel) ha (by decide) (by decide) he hpl
theorem g_intT (hg : Gl X "int") (hm : X.mg "int" = none) (ha : PA X (e :: es) (dA m E t)) (he : starEach (e :: es) X.env = (false, eval e X.env) :: starEach es X.env := by rfl) (hpl : (backTo pos (starEach es X.env)).any (·.1) = false := by rfl) : PE X (.Call (.Name "int" p) (e :: es) [] pos) (dE m E (eB intTD t)) := d_callTy call_int_str ok_intT hg hm (by decide +kernel) ha (by decide) (by decide) he hpl
end
/-- the first place of a text in a list of texts -/
def sIdx (ds : List PyData) (x : Str) : Option Nat := (strsD ds).bind fun ys => ys.findIdx? (fun y => decide (y = x))
def eSIdx (f k : EM) : EM := fun env => rb (f env) fun od e1 => match od.2 with
  | .list _ => rb (k e1) fun ok e2 => match od.2, ok.2 with
    | .list ds, .str x => match sIdx ds x with
      | some j => rok (false, .int (j : Int)) e2
      | none => none
    | _, _ => none
  | _ => none
theorem strsD_ok : ∀ {ds : List PyData} {ys : List Str}, strsD ds = some ys → ds = ys.map PyData.str := by
  intro ds
  induction ds with
  | nil => intro ys h; unfold strsD at h; cases h; rfl
  | cons d ds ih =>
    intro ys h
    cases d with
    | str x =>
      unfold strsD at h
      obtain ⟨r, hr, rfl⟩ := Option.map_eq_some_iff.mp h
      rw [ih hr]; rfl
    | _ => unfold strsD at h; cases h
theorem reps_strV {F : Fv} : ∀ {ys : List Str} {vs : List V}, Reps F vs (ys.map PyData.str) → vs = ys.map V.str
  | [], _, .nil => rfl
  | y :: ys, _, .cons r t => by
    rw [List.map_cons, reps_strV t]
    have : _ = V.str y := r
    rw [this]
section
variable {X : Cx} {m : Md} {E : XK} {cpos apos : Pos} {o e : Expr} {f k : EM}
theorem d_lindex (hK : m.K = X.K) (ho : PE X o (dE m E f)) (he : PE X e (dE m E k)) (hbase : attributeBase o "index" X.env (eval o X.env) = eval o X.env := by rfl)
    (hfew : ((backTo cpos (starEach (e :: []) X.env)).all (fun x => !x.1) && (backToKw cpos (keywordEach [] X.env)).all (fun x => x.1.isSome)
      && decide ((e :: ([] : List Expr)).length + ([] : List Keyword).length + (if ([] : List Keyword).isEmpty then 0 else 1) < 30)) = true := by rfl)
    (hline : (apos.endLine == cpos.line) = true := by rfl) (hst : starEach (e :: []) X.env = (false, eval e X.env) :: starEach [] X.env := by rfl) (hplain : (backTo cpos (starEach [] X.env)).any (·.1) = false := by rfl) :
    PE X (.Call (.Attribute o "index" apos) [e] [] cpos) (dE m E (eSIdx f k)) := by
  refine PE.imp (pe_bm PySem.F.plainAttrs_list PySem.F.slot_list_index PySem.F.type_list_index mt_index ho (pa_cons he pa_nil hst) hbase hfew hline hst hplain) fun σ H Q ⟨g, F, env, S, P⟩ => ?_
  refine dE_use S ((post_rb P).mono fun od e1 _ P1 v F1 H1 l1 S1 r1 => ?_)
  split at P1
  · rename_i ds ek
    rw [ek] at r1 P1
    obtain ⟨a, vs, rfl, hva, _⟩ := view_lst S1.view r1
    refine ⟨.inl ⟨rfl, vs, .inl (.inl hva)⟩, ?_⟩
    refine dE_use S1 ((post_rb P1).mono fun ok e2 _ P2 y F2 H2 l2 S2 r2 => ?_)
    split at P2
    · rename_i ds2 x e3 e4
      cases e3
      rw [e4] at r2
      cases r2
      split at P2
      · rename_i j hj
        obtain ⟨a', vs', ea, hva', ra'⟩ := view_lst S2.view (r1.mono l2)
        cases ea
        unfold sIdx at hj
        cases hys : strsD ds with
        | none => rw [hys] at hj; cases hj
        | some ys =>
          rw [hys] at hj
          have hj : ys.findIdx? (fun y => decide (y = x)) = some j := hj
          rw [strsD_ok hys] at ra'
          rw [reps_strV ra'] at hva'
          obtain ⟨hlt, hp, hno⟩ := List.findIdx?_eq_some_iff_getElem.mp hj
          refine ⟨a, ys.map V.str, .str x, j, .str ys[j], rfl, rfl, .inl (.inl hva'), rfl, ?_, by simp [hlt], ?_, fun q z hq hz => ?_, P2 _ F2 H2 (l1.trans l2) S2 rfl⟩
          · simp [flatV]
          · simp [eqV, of_decide_eq_true hp]
          · have hql : q < ys.length := by omega
            have hn := hno q hq
            rw [List.getElem?_map, List.getElem?_eq_getElem hql] at hz
            cases hz
            simpa [eqV] using hn
      · exact P2.elim
    · exact P2.elim
  · exact P1.elim
end
end DL

/-! The data layer, part oe: found[k], x = e; a def that tries a call and returns its value, or a field of its exception. -/
namespace DL
open PySem PySem.Spec PyProof.Rows L2
/-! ### found[k], x = e -/
def sSubNm (i : Nat) (n : Int) (j : Nat) (h : EM) : SM := fun env => rb (h env) fun od e => match od.2 with
  | .tuple [a, b] => (match slList e[i]? with
    | some ds => (match ixN ds.length n with
      | some k => if i ≠ j then rok .nx ((e.set i (reSl e[i]? (ds.set k a))).set j (.fz b)) else none
      | none => none)
    | none => none)
  | _ => none
section
variable {X : Cx} {m : Md} {E : XK} {pos : Pos} {e : Expr} {h : EM}
theorem ds_subNm {i j : Nat} {n : Int} {x y : Str} {z kk : Nat} {p1 p2 p3 p4 p5 : Pos} (hc : X.calm = true) (hN : X.N.Nodup) (hi : X.N[i]? = some x) (hv : Vis X.env.scope x) (hj : X.N[j]? = some y) (hy : Loc X.env.scope y) (he : PE X e (dE m E h))
    (hf : X.fn y = true ∨ X.env.scope.names.lookup y = some .local := by first | exact .inl rfl | exact .inr rfl | assumption) (hd : (x == ("__debug__" : Str)) = false := by decide) (hcd : (x == ("__classdict__" : Str)) = false := by decide)
    (ha : ∀ v, assign (.Subscript (.Name x p1) (.Constant (.int n) z p2) p3) X.env v = (do
      let ov ← holding [v] (eval (.Name x p1) X.env)
      let iv ← holding [v, ov] (eval (.Constant (.int n) z p2) X.env)
      standAt p3
      holding [v, ov, iv] (setItem ov iv v)
      release [v, ov, iv] []) := by intro _; rfl)
    (hs1 : (assignEach [.Name y p4] X.env).map (·.2) = assign (.Name y p4) X.env :: (assignEach [] X.env).map (·.2) := by rfl)
    (hs2 : (assignEach [.Subscript (.Name x p1) (.Constant (.int n) z p2) p3, .Name y p4] X.env).map (·.2) = assign (.Subscript (.Name x p1) (.Constant (.int n) z p2) p3) X.env :: (assignEach [.Name y p4] X.env).map (·.2) := by rfl)
    (hn : (assignEach [.Subscript (.Name x p1) (.Constant (.int n) z p2) p3, .Name y p4] X.env).length = 2 := by rfl) (hst : (assignEach [.Subscript (.Name x p1) (.Constant (.int n) z p2) p3, .Name y p4] X.env).findIdx? (·.1) = none := by rfl)
    (hs : swapsWithSole [.Tuple [.Subscript (.Name x p1) (.Constant (.int n) z p2) p3, .Name y p4] kk p5] e pos.line X.env = pure false := by rfl) (hw : swappedStores [.Tuple [.Subscript (.Name x p1) (.Constant (.int n) z p2) p3, .Name y p4] kk p5] e X.env = pure none := by rfl)
    (h1 : (assignEach [.Tuple [.Subscript (.Name x p1) (.Constant (.int n) z p2) p3, .Name y p4] kk p5] X.env).map (·.2) = [assign (.Tuple [.Subscript (.Name x p1) (.Constant (.int n) z p2) p3, .Name y p4] kk p5) X.env] := by rfl) :
    PS X (.Assign [.Tuple [.Subscript (.Name x p1) (.Constant (.int n) z p2) p3, .Name y p4] kk p5] e pos) (dS m E (sSubNm i n j h)) := by
  refine PS.imp (ps_asg he (pg_tup hc (pgs_cons (pg_sub (pe_var hi hv hd hcd) (pe_int (i := n)) set_list ha) (pgs_cons (pg_name hN hj hy hf) pgs_nil hs1) hs2) hn hst) hs hw h1) fun D σ H ⟨g, F, env, S, P⟩ => ?_
  refine dE_use S ((post_rb P).mono fun od e1 _ P1 v F1 H1 l1 S1 r1 => ?_)
  split at P1
  · rename_i a b eo
    rw [eo] at r1
    obtain ⟨ad, rfl, ht⟩ := r1
    obtain ⟨o, ro, hr⟩ := S1.view ad _ ht
    cases o with
    | tup vs =>
      obtain ⟨va, vb, rfl, ra, rbb⟩ : ∃ va vb, vs = [va, vb] ∧ Rep F1 va a ∧ Rep F1 vb b := by
        have hr : Reps F1 vs [a, b] := hr
        rcases hr with _ | ⟨ra, t⟩
        rcases t with _ | ⟨rb', t⟩
        cases t
        exact ⟨_, _, rfl, ra, rb'⟩
      split at P1
      · rename_i ds q0
        obtain ⟨la, ws, hsa, hwa, hr2, hput⟩ := S1.slListAt q0
        split at P1
        · rename_i k hk
          split at P1
          · rename_i hij
            refine ⟨ad, [va, vb], rfl, .inl ro.rd, rfl, va, [vb], rfl, .ref la, hsa, la, ws, n, k, rfl, rfl, hwa, by rw [Paired.length hr2]; exact hk, vb, [], rfl, rfl, ?_⟩
            have S2 := hput _ _ (reps_set hr2 ra k)
            exact P1 F1 _ _ (S2.store (own := false) rbb)
          · exact P1.elim
        · exact P1.elim
      · exact P1.elim
    | _ => exact hr.elim
  · exact P1.elim
end
/-! ### try: return g(y) except C as e: return e.f -/
def toldF (s : FnS) (x f : Str) : FnS := fun ds => if ds.length = 1 then (match s ds with
  | some (.ok r) => some (.ok r)
  | some (.error e) => (match e.fld with
    | some (f', i) => if e.name = x ∧ f' = f then some (.ok (false, .int i)) else none
    | none => none)
  | none => none) else none
def toldBody (g y x en f : Str) (p1 p2 p3 p4 p5 p6 p7 p8 p9 p10 : Pos) : List Stmt := [.Try [.Return (some (.Call (.Name g p1) [.Name y p2] [] p3)) p4] [.ExceptHandler (some (.Name x p5)) (some en) [.Return (some (.Attribute (.Name en p6) f p7)) p8] p9] [] [] p10]
/-- what is to be known of the class x, whose instances' field f is read -/
def Tld (K : PySem.W.Frag) (mg : Str → Option Value) (x f : Str) : Prop := ∃ C, mg x = some (.ref C) ∧ L2.XfC K C ∧ PySem.W.findIn K (.ref C) f = some none ∧ PySem.W.exmOne K (.ref C) (.ref C) = some true
theorem fn_told {P : Program} {w : World} {K : PySem.W.Frag} {mg : Str → Option Value} {base : Heap} {T : List (Addr × Str)} {q : Str} {st : Stmt} {f : Addr} {fd : FuncData} {k : Nat} {ps : List Str} {s : FnS} {p1 p2 p3 p4 p5 p6 p7 p8 p9 p10 : Pos}
    (O : Okf P w K mg base "read_rules" ps k (spD ⟨K, mg, T⟩ s)) (tl : Tld K mg "InvalidText" "line") (F : Fun K q q st f fd) (S : FnScope ["text", "e"] ["text"] (defScope st)) (hbd : defBody st = toldBody "read_rules" "text" "InvalidText" "e" "line" p1 p2 p3 p4 p5 p6 p7 p8 p9 p10)
    (h1 : (defScope st).names.lookup ("text" : Str) = some .local) (h2 : (defScope st).names.lookup ("e" : Str) = some .local) (h3 : (defScope st).names.lookup ("InvalidText" : Str) = some .globalImplicit) (h4 : (defScope st).names.lookup ("read_rules" : Str) = some .globalImplicit) :
    FnOk P w K mg base (L2N.CX P w) (k + 1) f fd ["text"] (spD ⟨K, mg, T⟩ (toldF s "InvalidText" "line")) := by
  obtain ⟨C, c1, c2, c3, c4⟩ := tl
  refine fun_okN F S (fun vs H Q E h => ?_) fun cdv A outer sh H vs Q E hr hsp => ?_
  · obtain ⟨F0, ds, hv, ht, r, qq⟩ := h
    unfold toldF at qq
    by_cases hl : ds.length = 1
    · rw [r.length]; exact hl
    · rw [if_neg hl] at qq; exact qq.elim
  · rw [hbd]
    refine ⟨_, pss_one (L2N.ps_try_as (X := cxOf (L2N.CX P w) P w K mg base ["text", "e"] q (defScope st) f cdv A outer sh H E) (c := .ref C) (i := 1) (Wout := fun c d _ H => E c d H) (pos := p10) (pos' := p9) (np := p5)
      (tb := fun W => fun D σ H => ∃ Ech : XK, (∀ cls d σ' H', Ech cls d H' → W cls d σ' H') ∧ dE ⟨K, mg, T⟩ Ech (eCall s (aCons (eVar 0) aNil)) σ H D.rt)
      (ts := fun a cls d => fun D σ H => σ.length = 2 → σ[1]? = some (some (.ref a)) ∧ cls = .ref C ∧ ∃ dd fs v, d = some dd ∧ H dd = some (.xd fs) ∧ fs.lookup ("line" : Str) = some v ∧ D.rt v H)
      rfl rfl (by decide : (["text", "e"] : List Str).Nodup) rfl h2 ⟨h3, by decide, .inl c1⟩ (L2N.takes_of rfl rfl rfl rfl) (fun W pn xe tk _ => ?tryB) (fun a oe cls d pn hz hf => ?suiteB)), ?fin⟩
    case tryB =>
      refine ⟨fun pins s' σ H' D I ⟨Ech, hW, h⟩ => ?_⟩
      exact (pss_one (ps_ret (pos := p4) (d_callO (X := (cxOf (L2N.CX P w) P w K mg base ["text", "e"] q (defScope st) f cdv A outer sh H E).tr pn xe) (p := p1) (pos := p3) O hr (L2N.passes_call tk hW) (da_cons (d_var 0 (pos := p2) rfl (.inl h1)) da_nil) h4))).run pins s' σ H' D I h
    case suiteB =>
      refine ⟨fun pins s' σ H' D I hh => ?_⟩
      obtain ⟨q1, q2, dd, fs, v, q3, q4, q5, q6⟩ := hh I.len
      exact (pss_one (ps_ret (pos := p8) (pe_xf (X := cxOf (L2N.CX P w) P w K mg base ["text", "e"] q (defScope st) f cdv A outer sh H E) (pos := p7) c2 c3 hz.zc hf (pe_var (i := 1) (pos := p6) rfl (.inl h2))))).run pins s' σ H' D I ⟨_, q1, rfl, q2, dd, fs, v, q3, q4, q5, q6⟩
    case fin =>
      obtain ⟨F0, ds, hv, ht, r, qq⟩ := hsp
      unfold toldF at qq
      by_cases hl : ds.length = 1
      · rw [if_pos hl] at qq
        obtain ⟨d0, rfl⟩ : ∃ d0, ds = [d0] := by
          match ds, hl with
          | [d0], _ => exact ⟨d0, rfl⟩
        refine ⟨fun cls dd H' => cls = .ref C ∧ ∃ da i, dd = some da ∧ H' da = some (.xd [("line", .int i)]) ∧ Q (.int i) H', fun cls d σ' H' he => ?_, ?_⟩
        · obtain ⟨rfl, da, i, rfl, e1, e2⟩ := he
          exact ⟨true, c4, fun _ a na hln => ⟨by rw [List.length_set] at hln; rw [List.getElem?_set_self (by omega)], rfl, da, _, _, rfl, e1, rfl, e2⟩, fun z => nomatch z⟩
        · refine ⟨gAt F0 H none, F0, _, SR.entry (N := ["text", "e"]) (n := 2) (p := 1) hv ht r rfl rfl (by decide), ?_⟩
          have he : eCall s (aCons (eVar 0) aNil) (([d0] : List PyData).map Sl.fz ++ List.replicate (2 - 1) .no) = (match s [d0] with
            | some (.ok od) => some (.ok (od, [.fz d0, .no]))
            | some (.error x) => some (.error x)
            | none => none) := rfl
          rw [he]
          cases es : s [d0] with
          | none => rw [es] at qq; exact qq.elim
          | some x =>
            rw [es] at qq
            cases x with
            | ok od =>
              obtain ⟨own, d⟩ := od
              exact fun v F' H' _ S' vo => qq v F' H' S'.ret vo.ret
            | error x =>
              intro cls dd H' fr xo
              obtain ⟨nm, fl⟩ := x
              cases fl with
              | none => exact qq.elim
              | some p =>
                obtain ⟨f', i⟩ := p
                dsimp only at qq
                by_cases hx : nm = "InvalidText" ∧ f' = "line"
                · rw [if_pos hx] at qq
                  obtain ⟨C', x1, rfl, x2⟩ := xo
                  obtain ⟨rfl, rfl⟩ := hx
                  obtain ⟨da, rfl, x3⟩ := x2
                  have : C' = C := by
                    have := c1.symm.trans x1
                    cases this; rfl
                  subst this
                  exact ⟨rfl, da, i, rfl, x3, qq _ F0 H' ⟨view_frm (io := none) hv fr.frame, .refl _, fun b z => .inl z, fr.frame, fr.dom, fr.tabs⟩ rfl⟩
                · rw [if_neg hx] at qq
                  exact qq.elim
      · rw [if_neg hl] at qq; exact qq.elim
end DL
namespace HM
open PySem PySem.Spec PyProof.Rows L2 He
def tldB (K : PySem.W.Frag) (x f : Str) : Bool :=
  eqO (PySem.W.findIn K (.ref (ga K x)) "__getattribute__") (some (some (.builtin "BaseException.__getattribute__"))) && (eqO (PySem.W.findIn K (.ref (ga K x)) "__getattr__") (some none) && (decide (PySem.W.subIn K (.ref (ga K x)) (.type "BaseException") = some true) && (PySem.W.hasDictIn K (ga K x) &&
  (eqO (PySem.W.findIn K (.ref (ga K x)) f) (some none) && decide (PySem.W.exmOne K (.ref (ga K x)) (.ref (ga K x)) = some true)))))
theorem tldB_ok {K : PySem.W.Frag} {mg : Str → Option Value} {x f : Str} (hg : mg x = some (.ref (ga K x))) (h : tldB K x f = true) : DL.Tld K mg x f := by
  obtain ⟨a1, h⟩ := ba h
  obtain ⟨a2, h⟩ := ba h
  obtain ⟨a3, h⟩ := ba h
  obtain ⟨a4, h⟩ := ba h
  obtain ⟨a5, a6⟩ := ba h
  exact ⟨_, hg, ⟨eqO_ok a1, eqO_ok a2, of_decide_eq_true a3, a4⟩, eqO_ok a5, of_decide_eq_true a6⟩
end HM
/-! ### zip of a text and a tuple of as many items -/
namespace HX
open PySem PySem.Spec PyProof.Rows L2
def IzST (K : PySem.W.Frag) (x : Str) (a : Addr) : It :=
  ⟨fun i H => ∃ (ys : List V) (y : V), SqT K H a ys ∧ ys.length = x.cps.size ∧ ys[i]? = some y ∧ ∃ o, H a = some o,
    fun i H v H' => ∃ T c y, v = .ref T ∧ H T = none ∧ H' = upd H T (.tup [.str ⟨#[c]⟩, y]) ∧ x.cps[i]? = some c ∧ ∀ ys, SqT K H a ys → ys[i]? = some y,
    fun i H => ∃ ys : List V, SqT K H a ys ∧ ys.length = x.cps.size ∧ x.cps.size ≤ i ∧ ∃ o, H a = some o⟩
structure Apart5 (z TI TO i1 i2 : Addr) : Prop where
  TIz : TI ≠ z
  TOz : TO ≠ z
  TITO : TI ≠ TO
  TIi1 : TI ≠ i1
  TIi2 : TI ≠ i2
  zi1 : z ≠ i1
  zi2 : z ≠ i2
  Ti1 : TO ≠ i1
  Ti2 : TO ≠ i2
  i12 : i1 ≠ i2
theorem Apart5.sep {z TI TO i1 i2 a : Addr} (D : Apart5 z TI TO i1 i2) (h1 : a ≠ z) (h2 : a ≠ TO) (h3 : a ≠ i1) : ZipSep2 z TI TO i1 i2 [i1] [i2, a] :=
  ⟨D.TIz, D.TOz, D.TITO, D.TIi1, by simp, by simp [D.zi1], by simp [D.Ti1], D.TIi2, by simp, by simp [D.zi2, Ne.symm h1], by simp [D.Ti2, Ne.symm h2], by simp [D.i12, Ne.symm h3], by simp [Ne.symm D.i12]⟩
theorem str_end {P : Program} {w : World} {A : Around} {x : Str} {t : Tok} {it : Addr} {i : Nat} (hA : A.handled = none) (hx : x.cps.size ≤ i) : Draws P w A it [it] i (fun _ _ => True) (fun j h => j = i ∧ h.IsStrIter it (strIterType x) x t i) :=
  ⟨fun j h z => let ⟨o, ho, _⟩ := z.2; ⟨o, ho⟩, fun j h h' z k => ⟨z.1, let ⟨o, ho, r⟩ := z.2; ⟨o, k it (by simp) o ho, r⟩⟩,
    fun j s Q E hj z => by rw [z.1] at hj; exact absurd hj (Nat.lt_irrefl _), fun s Q E z hE => by
      have z := z.2
      have hx : x.cps[i]? = none := Array.getElem?_eq_none hx
      cases ha : x.cps.all (· < 128)
      · simp only [strIterType, ha, Bool.false_eq_true, if_false] at z
        exact wpAny_nextOf_wide_end hA z hx hE
      · simp only [strIterType, ha, if_true] at z
        exact wpAny_nextOf_ascii_end hA z hx hE⟩
theorem tup_end {P : Program} {w : World} {A : Around} {a it : Addr} {i : Nat} {its : Array Value} (hA : A.handled = none) (hx : its.size ≤ i) : Draws P w A it [it, a] i (fun _ _ => True) (fun j h => j = i ∧ h.IsTupleIter it a i ∧ h.IsTuple a its) :=
  ⟨fun j h z => let ⟨o, ho, _⟩ := z.2.1; ⟨o, ho⟩, fun j h h' z k => ⟨z.1, z.2.1.at fun o e => k it (by simp) o e, z.2.2.at fun o e => k a (by simp) o e⟩,
    fun j s Q E hj z => by rw [z.1] at hj; exact absurd hj (Nat.lt_irrefl _), fun s Q E z hE => wpAny_nextOf_tuple_end hA z.2.1 z.2.2 (Array.getElem?_eq_none hx) hE⟩
theorem turn_zipST {P : Program} {w : World} {K : PySem.W.Frag} {elts : List Expr} {kk : Nat} {tpos : Pos} {x : Str} {t : Tok} {a z TI TO i1 i2 : Addr} (D : Apart5 z TI TO i1 i2) :
    Turn P w K (.Tuple elts kk tpos) (IzST K x a) [z, TI, TO, i1, i2] z (fun i h => IsZip h z TI TO .none ∧ IsTupOf2 h TI (.ref i1) (.ref i2) ∧ (∃ a1 a2, IsTupOf2 h TO a1 a2) ∧ h.IsStrIter i1 (strIterType x) x t i ∧ h.IsTupleIter i2 a i) where
  mem := by simp
  obj := fun i h st c hc => by
    obtain ⟨hz, hTI, ⟨x, y, hTO⟩, ⟨o1, e1, _, d1⟩, ⟨o2, e2, _, d2⟩⟩ := st
    have e' : c = z ∨ c = TI ∨ c = TO ∨ c = i1 ∨ c = i2 := by simpa using hc
    rcases e' with q | q | q | q | q
    · rw [q]; exact ⟨_, hz, fun v q => nomatch q⟩
    · rw [q]; exact ⟨_, hTI, fun v q => nomatch q⟩
    · rw [q]; exact ⟨_, hTO, fun v q => nomatch q⟩
    · rw [q]; exact ⟨o1, e1, fun v q => by rw [d1] at q; cases q⟩
    · rw [q]; exact ⟨o2, e2, fun v q => by rw [d2] at q; cases q⟩
  keep := fun i h h' st k => by
    obtain ⟨hz, hTI, ⟨x, y, hTO⟩, h1, h2⟩ := st
    exact ⟨k z (by simp) _ hz, k TI (by simp) _ hTI, ⟨x, y, k TO (by simp) _ hTO⟩, (let ⟨o, ho, r⟩ := h1; ⟨o, k i1 (by simp) o ho, r⟩), h2.at fun o q => k i2 (by simp) o q⟩
  item := by
    intro X hP hw hK hc i pins s σ H E I hf st hg
    subst hP hw hK
    obtain ⟨hz, hTI, ⟨x0, y0, hTO⟩, h1, h2⟩ := st
    obtain ⟨ys, y, hqy, hyl, hy, ob, hH⟩ := hg
    obtain ⟨its2, rv2, p2, _⟩ := I.tuple hqy
    have nf : ∀ c, c ∈ [z, TI, TO, i1, i2] → a ≠ c := fun c hc q => by
      have := (hf c hc).1
      rw [← q, hH] at this; cases this
    have hl2 : i < its2.toArray.size := by
      rw [List.size_toArray, ← rv2.length]
      exact (List.getElem?_eq_some_iff.mp hy).1
    have hl1 : i < x.cps.size := by
      rw [← hyl]
      exact (List.getElem?_eq_some_iff.mp hy).1
    have hzl : z < s.heap.objs.size := Heap.lt_size hz
    refine wpAny_pyNext_zipD2_item (D.sep (nf _ (by simp)) (nf _ (by simp)) (nf _ (by simp))) (Draws.text (A := X.A.in1) (I.ok.hd hc) i1 x t) (Draws.tuple (A := X.A.in1) (I.ok.hd hc) i2 a (nf _ (by simp)) its2.toArray) hz hTI hTO h1 ⟨h2, p2⟩ hl1 hl2 fun u u2 h' tk y1 y2 z' TO' h1' h2' hT hsz hk => ?_
    obtain ⟨c, u', hcx, rfl⟩ := y1
    have ru2 : RelV y u2 := by
      obtain ⟨u3, hu, ru⟩ := rv2.get hy
      have e1 : its2[i]? = some u2 := by simpa using y2
      rw [e1] at hu; cases hu
      exact ru
    refine ⟨_, rfl, wpAny_letOwnedTupleGo_zip (s := { s with heap := h', toks := tk }) z' fun h'' z'' sb => ?_⟩
    have hT2 : h''.get? s.heap.objs.size = some { cls := .type "tuple", data := .seq #[.str ⟨#[c]⟩ u', u2] } := (sb.2 _ (Nat.ne_of_gt hzl)).trans hT
    have new : ObjOk X.prog X.w (upd H s.heap.objs.size (.tup [.str ⟨#[c]⟩, y])) h'' s.heap.objs.size (.tup [.str ⟨#[c]⟩, y]) :=
      ⟨by show 2 ≤ sizeLine; decide, [.str ⟨#[c]⟩ u', u2], .cons ⟨_, rfl⟩ (.cons ru2 .nil), ⟨_, hT2, rfl, _, rfl⟩⟩
    have I1 : Inv X pins σ (upd H s.heap.objs.size (.tup [.str ⟨#[c]⟩, y])) { s with heap := h'', toks := tk } :=
      I.turnedNew (ch := [z, TI, TO, i1, i2]) (fun c o hb q => (sb.2 c (fun q' => hb (by simp [q']))).trans (hk c o (fun q' => hb (by simp [q'])) (fun q' => hb (by simp [q'])) (fun q' => hb (by simp [q'])) (fun q' => hb (by simp [q'])) q)) hf (Nat.le_refl _) new
    refine ⟨.ref s.heap.objs.size, _, I1, rfl, ⟨_, c, y, rfl, I.hok.fresh (Nat.le_refl _), rfl, hcx, fun l hl => by rw [I.tuple_inj hl hqy]; exact hy⟩, ⟨z'', ?_, ⟨.str ⟨#[c]⟩ u', u2, ?_⟩, ?_, ?_⟩, fun c hcm => ?_⟩
    · exact (sb.2 _ D.TIz).trans (hk _ _ D.TIz D.TITO D.TIi1 D.TIi2 hTI)
    · exact (sb.2 _ D.TOz).trans TO'
    · exact (let ⟨o, ho, r⟩ := h1'; ⟨o, (sb.2 _ D.zi1.symm).trans ho, r⟩)
    · exact h2'.1.at fun o q => (sb.2 _ D.zi2.symm).trans q
    · have hlt : c < s.heap.objs.size := by
        have e' : c = z ∨ c = TI ∨ c = TO ∨ c = i1 ∨ c = i2 := by simpa using hcm
        rcases e' with q | q | q | q | q
        · rw [q]; exact hzl
        · rw [q]; exact Heap.lt_size hTI
        · rw [q]; exact Heap.lt_size hTO
        · rw [q]; obtain ⟨_, e1, _⟩ := h1; exact Heap.lt_size e1
        · rw [q]; obtain ⟨_, e2, _⟩ := h2; exact Heap.lt_size e2
      rw [upd_ne (Nat.ne_of_lt hlt)]
      exact (hf c hcm).1
  done := by
    intro X hP hw hK hc i pins s σ H E I hf st hg
    subst hP hw hK
    obtain ⟨hz, hTI, ⟨x0, y0, hTO⟩, h1, h2⟩ := st
    obtain ⟨ys, hqy, hyl, hend, ob, hH⟩ := hg
    obtain ⟨its2, rv2, p2, _⟩ := I.tuple hqy
    have nf : ∀ c, c ∈ [z, TI, TO, i1, i2] → a ≠ c := fun c hc q => by
      have := (hf c hc).1
      rw [← q, hH] at this; cases this
    have hl2 : its2.toArray.size ≤ i := by
      rw [List.size_toArray, ← rv2.length, hyl]
      exact hend
    exact wpAny_pyNext_zipD2_end (D.sep (nf _ (by simp)) (nf _ (by simp)) (nf _ (by simp))) (str_end (A := X.A.in1) (I.ok.hd hc) hend) (tup_end (A := X.A.in1) (I.ok.hd hc) hl2) hz hTI hTO ⟨rfl, h1⟩ ⟨rfl, h2, p2⟩ (Nat.le_refl _) (Nat.le_refl _) (.inl rfl) fun h' tk hk => ⟨rfl, I.turnedL (ch := [z, TI, TO, i1, i2]) (fun c o hb q =>
      hk c o (fun q' => hb (by simp [q'])) (fun q' => hb (by simp [q'])) (fun q' => hb (by simp [q'])) (fun q' => hb (by simp [q'])) q) hf⟩
  self := fun A i s Q E st h => wpAny_pyIter_zip st.1 h
def iZipST (K : PySem.W.Frag) (ta : TA) : TI := fun σ H R => ta σ H fun vs H1 => ∃ x a ys, vs = [.str x, .ref a] ∧ SqT K H1 a ys ∧ R (IzST K x a) H1
theorem apart5 (n : Nat) : Apart5 (n + 4) (n + 2) (n + 3) n (n + 1) := by constructor <;> (show ¬ ((_ : Nat) = _)) <;> omega
theorem pi_zipST {X : Cx} {e e2 : Expr} {ta : TA} {p pos tpos : Pos} {elts : List Expr} {kk : Nat} (hg : Gl X "zip") (hm : X.mg "zip" = none) (ha : PA X [e, e2] ta)
    (hs : starEach [e, e2] X.env = (false, eval e X.env) :: starEach [e2] X.env := by rfl) (hpl : (backTo pos (starEach [e2] X.env)).any (·.1) = false := by rfl) :
    PI X (.Tuple elts kk tpos) (.Call (.Name "zip" p) [e, e2] [] pos) (iZipST X.K ta) := by
  refine ⟨fun pins s σ H R I h => ?_⟩
  refine Call_ (ld_blt I hg hm PyProof.Rows.boot_zip (PyProof.Rows.callWith_type1 (thn (ha.run pos pins s σ H _ I h) fun us s1 ⟨vs, H1, I1, r1, q1⟩ => ?_) hs hpl))
  obtain ⟨x, a, ys, ex, hqy, q⟩ := q1
  subst ex
  cases r1 with
  | cons r rr =>
    cases rr with
    | cons r' rr =>
      cases rr
      obtain ⟨t, rfl⟩ := r
      cases r'
      have fresh5 : ∀ c, c ∈ [s1.heap.objs.size + 4, s1.heap.objs.size + 2, s1.heap.objs.size + 3, s1.heap.objs.size, s1.heap.objs.size + 1] → FpOk X pins H1 c := fun c hcm => by
        have e' : c = s1.heap.objs.size + 4 ∨ c = s1.heap.objs.size + 2 ∨ c = s1.heap.objs.size + 3 ∨ c = s1.heap.objs.size ∨ c = s1.heap.objs.size + 1 := by simpa using hcm
        have hle : s1.heap.objs.size ≤ c := by
          rcases e' with z | z | z | z | z
          · rw [z]; exact Nat.le_add_right _ _
          · rw [z]; exact Nat.le_add_right _ _
          · rw [z]; exact Nat.le_add_right _ _
          · rw [z]; exact Nat.le_refl _
          · rw [z]; exact Nat.le_add_right _ _
        exact I1.fpOk hle (I1.hok.fresh hle)
      obtain ⟨its2, rv2, p2, _⟩ := I1.tuple hqy
      refine zip_begins2 (begins_text x t) (begins_tuple a its2.toArray) trivial p2 fun h' hz hTI hTO h1 h2 hsz hk => wpAny_pyIter_zip hz ?_
      have I2 : Inv X pins σ H1 { s1 with heap := h' } := I1.kept (t' := s1.toks) hk
      exact ⟨s1.heap.objs.size + 4, [s1.heap.objs.size + 4, s1.heap.objs.size + 2, s1.heap.objs.size + 3, s1.heap.objs.size, s1.heap.objs.size + 1], _, _, H1, rfl, I2, turn_zipST (t := t) (apart5 s1.heap.objs.size), ⟨hz, hTI, ⟨_, _, hTO⟩, ⟨_, h1, rfl, rfl⟩, ⟨_, h2, rfl, rfl⟩⟩, fresh5, q⟩
end HX
namespace DL
open PySem PySem.Spec PyProof.Rows L2
def iZipS (t : AM) : IM := fun env => rb (t env) fun as e => match as with
  | [.str x, .tuple b] => if b.length = x.cps.size then rok (zipD (signs x) b) e else none
  | _ => none
section
variable {X : Cx} {m : Md} {E : XK} {pos p tpos : Pos} {e e2 : Expr} {t : AM} {elts : List Expr} {kk : Nat}
theorem di_zipS (hg : Gl X "zip") (hm : X.mg "zip" = none) (ha : PA X [e, e2] (dA m E t))
    (hs : starEach [e, e2] X.env = (false, eval e X.env) :: starEach [e2] X.env := by rfl) (hpl : (backTo pos (starEach [e2] X.env)).any (·.1) = false := by rfl) :
    PI X (.Tuple elts kk tpos) (.Call (.Name "zip" p) [e, e2] [] pos) (dI m E (iZipS t)) := by
  refine PI.imp (HX.pi_zipST hg hm ha hs hpl) fun σ H R ⟨g, F, env, S, P⟩ => ?_
  refine ⟨g, F, env, S, (post_rb P).mono fun ds e1 _ P1 vs F1 H1 l1 S1 r1 => ?_⟩
  split at P1
  · rename_i x bs _
    split at P1
    · rename_i hlen
      rcases r1 with _ | ⟨r1, t1⟩
      rcases t1 with _ | ⟨r2, t1⟩
      cases t1
      cases r1
      have r2' := r2
      obtain ⟨b, ws, rfl, hb, rb⟩ := view_tup S1.view r2
      refine ⟨x, b, ws, rfl, .inl (.inl hb), P1 _ F1 H1 l1 S1 fun F' H' l' v' i => ⟨fun hi => ?_, fun d hd => ?_⟩⟩
      · obtain ⟨b', ws', e2, hb', rb'⟩ := view_tup v' (r2'.mono l')
        cases e2
        refine ⟨ws', .inl (.inl hb'), by rw [Paired.length rb', hlen], ?_, _, hb'⟩
        rw [zipD_len] at hi
        simp [signs] at hi
        omega
      · obtain ⟨b', ws', e2, hb', rb'⟩ := view_tup v' (r2'.mono l')
        cases e2
        obtain ⟨da, db, h1, h2, rfl⟩ := zipD_get hd
        obtain ⟨y, hy, ry⟩ := reps_get rb' h2
        unfold signs at h1
        rw [List.getElem?_map] at h1
        cases hc : x.cps.toList[i]? with
        | none => rw [hc] at h1; cases h1
        | some c =>
          rw [hc] at h1; cases h1
          have h3 : x.cps[i]? = some c := by rw [← Array.getElem?_toList]; exact hc
          refine ⟨⟨ws', y, .inl (.inl hb'), by rw [Paired.length rb', hlen], hy, _, hb'⟩, fun z H'' ⟨T, c', y', e3, hT, e4, f1, f2⟩ => ?_⟩
          rw [h3] at f1; cases f1
          have e6 := f2 ws' (.inl (.inl hb'))
          rw [hy] at e6; cases e6
          exact .inr (.inl ⟨T, .tup [.str ⟨#[c]⟩, y], hT, e4, e3, .cons rfl (.cons ry .nil)⟩)
    · exact P1.elim
  · exact P1.elim
end
end DL

/-! The mirrors of the defs (printed by gen.py). -/
namespace Sm
open PySem PySem.Spec PyProof.Rows L2 DL

/-! ### is_from -/
-- slots: 0 value, 1 low, 2 high
def b_is_from : SM :=
    (sRet (eAnd (eUn (isiD "int") (eVar 0)) (eAnd (eNot (eUn (isiD "bool") (eVar 0))) (eChain leD leD (eVar 1) (eVar 0) (eVar 2)))))
def f_is_from : FnS := mkFn 3 3 b_is_from

/-! ### are_bands_of -/
-- slots: 0 value, 1 band, 2 one, 3 other
def are_bands_of_b1 : SM := (sSeq (sIf (tOrM (tNotM (tOf (eUn (isiD "tuple") (eVar 1)))) (tOf (eBin neD (eB lenD (aCons (eVar 1) aNil)) (eC (.int 2))))) (sRet (eC (.bool false))) sSkip)
    (sIf (tOrM (tNotM (tOf (eCall f_is_from (aCons (eBin ixD (eVar 1) (eC (.int 0))) (aCons (eC (.int 1)) (aCons (eC (.int 24)) aNil)))))) (tNotM (tOf (eCall f_is_from (aCons (eBin ixD (eVar 1) (eC (.int 1))) (aCons (eC (.int 0)) (aCons (eC (.int 40)) aNil))))))) (sRet (eC (.bool false))) sSkip))
def are_bands_of_e2 : EM := (eBin ltD (eBin ixD (eVar 2) (eC (.int 0))) (eBin ixD (eVar 3) (eC (.int 0))))
def b_are_bands_of : SM :=
    (sSeq (sIf (tOrM (tNotM (tOf (eUn (isiD "tuple") (eVar 0)))) (tNotM (tOf (eChain leD leD (eC (.int 1)) (eB lenD (aCons (eVar 0) aNil)) (eC (.int 3)))))) (sRet (eC (.bool false))) sSkip)
    (sSeq (sFor (gNm 1) (iOf (eVar 0)) are_bands_of_b1)
    (sRet (eB allD (aCons (eLc [2, 3] (gTp (gsCons (gNm 2) (gsCons (gNm 3) gsNil))) (iZip (aCons (eVar 0) (aCons (eSl (eVar 0) (oAt (eC (.int 1))) oNo) aNil))) tTrue are_bands_of_e2) aNil)))))
def f_are_bands_of : FnS := mkFn 4 1 b_are_bands_of

/-! ### is_rule_of -/
-- slots: 0 value, 1 bands, 2 ends, 3 night, 4 meal, 5 join, 6 least, 7 cap, 8 one
def is_rule_of_e1 : EM := (eCall f_are_bands_of (aCons (eVar 8) aNil))
def b_is_rule_of : SM :=
    (sSeq (sIf (tOrM (tNotM (tOf (eUn (isiD "tuple") (eVar 0)))) (tOf (eBin neD (eB lenD (aCons (eVar 0) aNil)) (eC (.int 7))))) (sRet (eC (.bool false))) sSkip)
    (sSeq (sUnp (gTp (gsCons (gNm 1) (gsCons (gNm 2) (gsCons (gNm 3) (gsCons (gNm 4) (gsCons (gNm 5) (gsCons (gNm 6) (gsCons (gNm 7) gsNil)))))))) (eVar 0))
    (sSeq (sIf (tOrM (tNotM (tOf (eUn (isiD "tuple") (eVar 1)))) (tOrM (tOf (eBin neD (eB lenD (aCons (eVar 1) aNil)) (eC (.int 2)))) (tNotM (tOf (eB allD (aCons (eLc [8] (gNm 8) (iOf (eVar 1)) tTrue is_rule_of_e1) aNil)))))) (sRet (eC (.bool false))) sSkip)
    (sSeq (sIf (tAndM (tOf (eBin isntD (eVar 2) (eC .none))) (tNotM (tOf (eCall f_is_from (aCons (eVar 2) (aCons (eC (.int 0)) (aCons (eC (.int 40)) aNil))))))) (sRet (eC (.bool false))) sSkip)
    (sSeq (sIf (tOrM (tNotM (tOf (eCall f_is_from (aCons (eVar 3) (aCons (eC (.int 0)) (aCons (eC (.int 40)) aNil)))))) (tOrM (tNotM (tOf (eCall f_is_from (aCons (eVar 4) (aCons (eC (.int 0)) (aCons (eC (.int 40)) aNil)))))) (tNotM (tOf (eUn (isiD "bool") (eVar 5)))))) (sRet (eC (.bool false))) sSkip)
    (sRet (eAnd (eCall f_is_from (aCons (eVar 6) (aCons (eC (.int 0)) (aCons (eC (.int 24)) aNil)))) (eCall f_is_from (aCons (eVar 7) (aCons (eC (.int 1)) (aCons (eC (.int 400)) aNil)))))))))))
def f_is_rule_of : FnS := mkFn 9 1 b_is_rule_of

/-! ### is_rule -/
-- slots: 0 value
def b_is_rule : SM :=
    (sRet (eCall f_is_rule_of (aCons (eVar 0) aNil)))
def f_is_rule : FnS := mkFn 1 1 b_is_rule

/-! ### law_deck -/
-- slots: 0 cell, 1 turn
def b_law_deck : SM :=
    (sSeq (sIf (tOf (eBin geD (eVar 0) (eBin powD (eC (.int 10)) (eC (.int 18))))) (sRet (eLst (aCons (eBin subD (eVar 0) (eBin powD (eC (.int 10)) (eC (.int 18)))) (aCons (eBin modD (eB intD (aCons (eVar 0) aNil)) (eC (.int 2147483579))) (aCons (eVar 1) aNil))))) sSkip)
    (sRet (eLst (aCons (eC (.int 0)) (aCons (eBin modD (eB intD (aCons (eVar 0) aNil)) (eC (.int 2147483579))) (aCons (eVar 1) aNil))))))
def f_law_deck : FnS := mkFn 2 2 b_law_deck

/-! ### law_pick -/
-- slots: 0 deck, 1 limit, 2 found, 3 number
def b_law_pick : SM :=
    (sSeq (sIf (tOf (eBin gtD (ePeek (eBin ixD (eVar 0) (eC (.int 0)))) (eC (.int 1)))) (sSeq (sSet 2 (eBin modD (eB intD (aCons (ePeek (eBin ixD (eVar 0) (eC (.int 0)))) aNil)) (eVar 1)))
    (sSeq (sPutL 0 (eC (.int 0)) (eBin fdivD (ePeek (eBin ixD (eVar 0) (eC (.int 0)))) (eVar 1)))
    (sRet (eVar 2)))) sSkip)
    (sSeq (sPutL 0 (eC (.int 2)) (eBin addD (ePeek (eBin ixD (eVar 0) (eC (.int 2)))) (eC (.int 1))))
    (sSeq (sSet 3 (eBin modD (eB intD (aCons (eBin powD (eB intD (aCons (eBin addD (ePeek (eBin ixD (eVar 0) (eC (.int 1)))) (eBin mulD (eC (.int 15485867)) (ePeek (eBin ixD (eVar 0) (eC (.int 2)))))) aNil)) (eC (.int 5))) aNil)) (eC (.int 2147483647))))
    (sSeq (sSet 2 (eBin fdivD (eBin modD (eB intD (aCons (eBin powD (eB intD (aCons (eBin addD (eVar 3) (eBin mulD (eC (.int 7919)) (ePeek (eBin ixD (eVar 0) (eC (.int 2)))))) aNil)) (eC (.int 3))) aNil)) (eC (.int 2147483629))) (eC (.int 32))))
    (sRet (eBin modD (eB intD (aCons (eVar 2) aNil)) (eVar 1)))))))
def f_law_pick : FnI := mkFnI 4 2 b_law_pick

/-! ### law_one -/
-- slots: 0 deck, 1 some
def b_law_one : SM :=
    (sRet (eBin ixD (eVar 1) (eCallI 0 f_law_pick (aCons (eB lenD (aCons (eVar 1) aNil)) aNil))))
def f_law_one : FnI := mkFnI 2 2 b_law_one

/-! ### law_whole -/
-- slots: 0 thing
def b_law_whole : SM :=
    (sRet (eAnd (eUn (isiD "int") (eVar 0)) (eNot (eUn (isiD "bool") (eVar 0)))))
def f_law_whole : FnS := mkFn 1 1 b_law_whole

/-! ### law_bands -/
-- slots: 0 deck, 1 found, 2 low, 3 turn
def law_bands_b1 : SM := (sSeq (sSet 2 (eBin addD (eBin addD (eVar 2) (eC (.int 1))) (eCallI 0 f_law_pick (aCons (eC (.int 8)) aNil))))
    (sSet 1 (eBin addD (eVar 1) (eTup (aCons (eTup (aCons (eVar 2) (aCons (eBin ixD (eLst (aCons (eC (.int 0)) (aCons (eC (.int 6)) (aCons (eC (.int 10)) (aCons (eC (.int 12)) (aCons (eC (.int 24)) (aCons (eCallI 0 f_law_pick (aCons (eC (.int 41)) aNil)) aNil))))))) (eCallI 0 f_law_pick (aCons (eC (.int 6)) aNil))) aNil))) aNil)))))
def b_law_bands : SM :=
    (sSeq (sUnp (gTp (gsCons (gNm 1) (gsCons (gNm 2) gsNil))) (eTup (aCons (eTup aNil) (aCons (eC (.int 0)) aNil))))
    (sSeq (sFor (gNm 3) (iRange1 (eBin addD (eC (.int 1)) (eCallI 0 f_law_pick (aCons (eC (.int 3)) aNil)))) law_bands_b1)
    (sRet (eVar 1))))
def f_law_bands : FnI := mkFnI 4 1 b_law_bands

/-! ### law_rule -/
-- slots: 0 deck, 1 last, 2 some, 3 least_so, 4 most
def b_law_rule : SM :=
    (sSeq (sSet 1 (eIf (tOf (eBin eqD (eCallI 0 f_law_pick (aCons (eC (.int 2)) aNil)) (eC (.int 0)))) (eC .none) (eCallI 0 f_law_pick (aCons (eC (.int 41)) aNil))))
    (sSeq (sSet 2 (eLst (aCons (eBin ixD (eLst (aCons (eC (.int 0)) (aCons (eC (.int 20)) (aCons (eCallI 0 f_law_pick (aCons (eC (.int 41)) aNil)) aNil)))) (eCallI 0 f_law_pick (aCons (eC (.int 3)) aNil))) (aCons (eBin ixD (eLst (aCons (eC (.int 0)) (aCons (eC (.int 4)) (aCons (eCallI 0 f_law_pick (aCons (eC (.int 41)) aNil)) aNil)))) (eCallI 0 f_law_pick (aCons (eC (.int 3)) aNil))) aNil))))
    (sSeq (sSet 3 (eBin ixD (eLst (aCons (eC (.int 0)) (aCons (eC (.int 8)) (aCons (eCallI 0 f_law_pick (aCons (eC (.int 25)) aNil)) aNil)))) (eCallI 0 f_law_pick (aCons (eC (.int 3)) aNil))))
    (sSeq (sSet 4 (eBin ixD (eLst (aCons (eC (.int 400)) (aCons (eC (.int 400)) (aCons (eBin addD (eC (.int 1)) (eCallI 0 f_law_pick (aCons (eC (.int 400)) aNil))) (aCons (eBin addD (eC (.int 1)) (eCallI 0 f_law_pick (aCons (eC (.int 60)) aNil))) aNil))))) (eCallI 0 f_law_pick (aCons (eC (.int 4)) aNil))))
    (sRet (eTup (aCons (eTup (aCons (eCallI 0 f_law_bands aNil) (aCons (eCallI 0 f_law_bands aNil) aNil))) (aCons (eVar 1) (aCons (eBin ixD (eVar 2) (eC (.int 0))) (aCons (eBin ixD (eVar 2) (eC (.int 1))) (aCons (eBin eqD (eCallI 0 f_law_pick (aCons (eC (.int 2)) aNil)) (eC (.int 1))) (aCons (eVar 3) (aCons (eVar 4) aNil)))))))))))))
def f_law_rule : FnI := mkFnI 5 1 b_law_rule

/-! ### law_word -/
-- slots: 0 deck, 1 many, 2 signs, 3 turn
def law_word_e1 : EM := (eBin ixD (eVar 2) (eCallI 0 f_law_pick (aCons (eB lenD (aCons (eVar 2) aNil)) aNil)))
def b_law_word : SM :=
    (sSeq (sSet 2 (eBin ixD (eLst (aCons (eC (.str "ab")) (aCons (eC (.str "a")) (aCons (eC (.str "aB")) (aCons (eC (.str "ABab")) aNil))))) (eCallI 0 f_law_pick (aCons (eC (.int 4)) aNil))))
    (sRet (eM1 joinD (eC (.str "")) (eLc [3] (gNm 3) (iRange1 (eVar 1)) tTrue law_word_e1))))
def f_law_word : FnI := mkFnI 4 2 b_law_word

/-! ### law_way -/
-- slots: 0 deck, 1 most, 2 many, 3 start, 4 end
def b_law_way : SM :=
    (sSeq (sSet 2 (eBin addD (eC (.int 1)) (eCallI 0 f_law_pick (aCons (eVar 1) aNil))))
    (sSeq (sSet 3 (eCallI 0 f_law_pick (aCons (eC (.int 24)) aNil)))
    (sSeq (sSet 4 (eBin addD (eBin addD (eBin mulD (eC (.int 24)) (eBin subD (eVar 2) (eC (.int 1)))) (eC (.int 1))) (eCallI 0 f_law_pick (aCons (eC (.int 24)) aNil))))
    (sSeq (sIf (tOf (eBin leD (eVar 4) (eVar 3))) (sSet 4 (eBin addD (eVar 3) (eC (.int 1)))) sSkip)
    (sRet (eTup (aCons (eVar 3) (aCons (eVar 4) (aCons (eCallI 0 f_law_word (aCons (eVar 2) aNil)) aNil)))))))))
def f_law_way : FnI := mkFnI 5 2 b_law_way

/-! ### law_is_from -/
-- slots: 0 thing, 1 low, 2 high
def b_law_is_from : SM :=
    (sRet (eAnd (eCall f_law_whole (aCons (eVar 0) aNil)) (eChain leD leD (eVar 1) (eVar 0) (eVar 2))))
def f_law_is_from : FnS := mkFn 3 3 b_law_is_from

/-! ### law_is_bands -/
-- slots: 0 thing, 1 last, 2 part
def law_is_bands_b1 : SM := (sSeq (sIf (tOrM (tNotM (tOf (eUn (isiD "tuple") (eVar 2)))) (tOrM (tOf (eBin neD (eB lenD (aCons (eVar 2) aNil)) (eC (.int 2)))) (tNotM (tOf (eCall f_law_is_from (aCons (eBin ixD (eVar 2) (eC (.int 0))) (aCons (eBin addD (eVar 1) (eC (.int 1))) (aCons (eC (.int 24)) aNil)))))))) (sRet (eC (.bool false))) sSkip)
    (sSeq (sIf (tNotM (tOf (eCall f_law_is_from (aCons (eBin ixD (eVar 2) (eC (.int 1))) (aCons (eC (.int 0)) (aCons (eC (.int 40)) aNil)))))) (sRet (eC (.bool false))) sSkip)
    (sSet 1 (eBin ixD (eVar 2) (eC (.int 0))))))
def b_law_is_bands : SM :=
    (sSeq (sIf (tOrM (tNotM (tOf (eUn (isiD "tuple") (eVar 0)))) (tNotM (tOf (eChain leD leD (eC (.int 1)) (eB lenD (aCons (eVar 0) aNil)) (eC (.int 3)))))) (sRet (eC (.bool false))) sSkip)
    (sSeq (sSet 1 (eC (.int 0)))
    (sSeq (sFor (gNm 2) (iOf (eVar 0)) law_is_bands_b1)
    (sRet (eC (.bool true))))))
def f_law_is_bands : FnS := mkFn 3 1 b_law_is_bands

/-! ### law_is -/
-- slots: 0 thing
def b_law_is : SM :=
    (sSeq (sIf (tOrM (tNotM (tOf (eUn (isiD "tuple") (eVar 0)))) (tOrM (tOf (eBin neD (eB lenD (aCons (eVar 0) aNil)) (eC (.int 7)))) (tOrM (tNotM (tOf (eUn (isiD "tuple") (eBin ixD (eVar 0) (eC (.int 0)))))) (tOf (eBin neD (eB lenD (aCons (eBin ixD (eVar 0) (eC (.int 0))) aNil)) (eC (.int 2))))))) (sRet (eC (.bool false))) sSkip)
    (sSeq (sIf (tOrM (tNotM (tOf (eCall f_law_is_bands (aCons (eBin ixD (eBin ixD (eVar 0) (eC (.int 0))) (eC (.int 0))) aNil)))) (tNotM (tOf (eCall f_law_is_bands (aCons (eBin ixD (eBin ixD (eVar 0) (eC (.int 0))) (eC (.int 1))) aNil))))) (sRet (eC (.bool false))) sSkip)
    (sSeq (sIf (tAndM (tOf (eBin isntD (eBin ixD (eVar 0) (eC (.int 1))) (eC .none))) (tNotM (tOf (eCall f_law_is_from (aCons (eBin ixD (eVar 0) (eC (.int 1))) (aCons (eC (.int 0)) (aCons (eC (.int 40)) aNil))))))) (sRet (eC (.bool false))) sSkip)
    (sSeq (sIf (tOrM (tNotM (tOf (eCall f_law_is_from (aCons (eBin ixD (eVar 0) (eC (.int 2))) (aCons (eC (.int 0)) (aCons (eC (.int 40)) aNil)))))) (tOrM (tNotM (tOf (eCall f_law_is_from (aCons (eBin ixD (eVar 0) (eC (.int 3))) (aCons (eC (.int 0)) (aCons (eC (.int 40)) aNil)))))) (tNotM (tOf (eUn (isiD "bool") (eBin ixD (eVar 0) (eC (.int 4)))))))) (sRet (eC (.bool false))) sSkip)
    (sRet (eAnd (eCall f_law_is_from (aCons (eBin ixD (eVar 0) (eC (.int 5))) (aCons (eC (.int 0)) (aCons (eC (.int 24)) aNil)))) (eCall f_law_is_from (aCons (eBin ixD (eVar 0) (eC (.int 6))) (aCons (eC (.int 1)) (aCons (eC (.int 400)) aNil))))))))))
def f_law_is : FnS := mkFn 1 1 b_law_is

/-! ### law_changed -/
-- slots: 0 deck, 1 thing, 2 at, 3 way, 4 some
def b_law_changed (rec : FnI) : SM :=
    (sSeq (sIf (tAndM (tOf (eUn (isiD "tuple") (eVar 1))) (tAndM (tOf (eBin neD (eVar 1) (eTup aNil))) (tOf (eBin gtD (eCallI 0 f_law_pick (aCons (eC (.int 6)) aNil)) (eC (.int 0)))))) (sSeq (sPar2 2 3 (eCallI 0 f_law_pick (aCons (eB lenD (aCons (eVar 1) aNil)) aNil)) (eCallI 0 f_law_pick (aCons (eC (.int 9)) aNil)))
    (sSeq (sIf (tOf (eBin eqD (eVar 3) (eC (.int 0)))) (sRet (eBin addD (eSl (eVar 1) oNo (oAt (eVar 2))) (eSl (eVar 1) (oAt (eBin addD (eVar 2) (eC (.int 1)))) oNo))) sSkip)
    (sSeq (sIf (tOf (eBin eqD (eVar 3) (eC (.int 1)))) (sRet (eBin addD (eSl (eVar 1) oNo (oAt (eBin addD (eVar 2) (eC (.int 1))))) (eSl (eVar 1) (oAt (eVar 2)) oNo))) sSkip)
    (sRet (eBin addD (eBin addD (eSl (eVar 1) oNo (oAt (eVar 2))) (eTup (aCons (eCallI 0 rec (aCons (eBin ixD (eVar 1) (eVar 2)) aNil)) aNil))) (eSl (eVar 1) (oAt (eBin addD (eVar 2) (eC (.int 1)))) oNo)))))) sSkip)
    (sSeq (sIf (tAndM (tOf (eUn (isiD "int") (eVar 1))) (tOf (eBin eqD (eCallI 0 f_law_pick (aCons (eC (.int 2)) aNil)) (eC (.int 0))))) (sRet (eBin addD (eVar 1) (eCallI 0 f_law_one (aCons (eLst (aCons (eC (.int 1)) (aCons (eUn negD (eC (.int 1))) aNil))) aNil)))) sSkip)
    (sSeq (sSet 4 (eLst (aCons (eC .none) (aCons (eC (.bool true)) (aCons (eC (.bool false)) (aCons (eC (.int 0)) (aCons (eC (.int 1)) (aCons (eC (.int 24)) (aCons (eC (.int 25)) (aCons (eC (.int 40)) (aCons (eC (.int 41)) (aCons (eC (.int 400)) (aCons (eC (.int 401)) (aCons (eC (.str "")) (aCons (eTup aNil) (aCons (eLst aNil) (aCons (eBin powD (eC (.int 10)) (eC (.int 30))) (aCons (eTup (aCons (eC (.int 1)) (aCons (eC (.int 1)) aNil))) (aCons (eTup (aCons (eTup (aCons (eC (.int 1)) (aCons (eC (.int 1)) aNil))) aNil)) (aCons (eUn negD (eC (.int 1))) aNil))))))))))))))))))))
    (sRet (eIf (tAndM (tOf (eUn (isiD "tuple") (eVar 1))) (tOf (eBin eqD (eCallI 0 f_law_pick (aCons (eC (.int 3)) aNil)) (eC (.int 0))))) (eB listD (aCons (eVar 1) aNil)) (eCallI 0 f_law_one (aCons (eVar 4) aNil)))))))
def f_law_changed : Nat → FnI
  | 0 => fun _ _ => none
  | d + 1 => mkFnI 5 2 (b_law_changed (f_law_changed d))

/-! ### law_k01 -/
-- slots: 0 script, 1 k, 2 deck, 3 turn, 4 r, 5 thing, 6 found, 7 most
def law_k01_b1 : SM := (sSeq (sSet 4 (eCallI 2 f_law_rule aNil))
    (sSeq (sIf (tOf (eBin isntD (eCall f_is_rule (aCons (eVar 4) aNil)) (eC (.bool true)))) (sRet (eC (.bool false))) sSkip)
    (sSeq (sSet 5 (eCallI 2 (f_law_changed 12) (aCons (eVar 4) aNil)))
    (sSeq (sIf (tOf (eBin eqD (eCallI 2 f_law_pick (aCons (eC (.int 3)) aNil)) (eC (.int 0)))) (sSet 5 (eCallI 2 (f_law_changed 12) (aCons (eVar 5) aNil))) sSkip)
    (sSeq (sSet 6 (eCall f_is_rule (aCons (eVar 5) aNil)))
    (sIf (tOrM (tNotM (tOf (eUn (isiD "bool") (eVar 6)))) (tOf (eBin neD (eVar 6) (eCall f_law_is (aCons (eVar 5) aNil))))) (sRet (eC (.bool false))) sSkip))))))
def law_k01_b2 : SM := (sSeq (sSet 2 (eCall f_law_deck (aCons (eBin ixD (eScr 0 (eBin mulD (eLst (aCons (eC (.int 0)) aNil)) (eC (.int 8)))) (eVar 1)) (aCons (eVar 1) aNil))))
    (sFor (gNm 3) (iRange1 (eC (.int 12))) law_k01_b1))
def b_law_k01 : SM :=
    (sSeq (sFor (gNm 1) (iRange1 (eC (.int 8))) law_k01_b2)
    (sSeq (sSet 7 (eTup (aCons (eTup (aCons (eTup (aCons (eTup (aCons (eC (.int 1)) (aCons (eC (.int 0)) aNil))) (aCons (eTup (aCons (eC (.int 23)) (aCons (eC (.int 40)) aNil))) (aCons (eTup (aCons (eC (.int 24)) (aCons (eC (.int 0)) aNil))) aNil)))) (aCons (eTup (aCons (eTup (aCons (eC (.int 24)) (aCons (eC (.int 40)) aNil))) aNil)) aNil))) (aCons (eC (.int 40)) (aCons (eC (.int 40)) (aCons (eC (.int 40)) (aCons (eC (.bool true)) (aCons (eC (.int 24)) (aCons (eC (.int 400)) aNil)))))))))
    (sSeq (sIf (tOrM (tOf (eBin isntD (eCall f_is_rule (aCons (eVar 7) aNil)) (eC (.bool true)))) (tOf (eBin isntD (eCall f_is_rule (aCons (eBin addD (eSl (eVar 7) oNo (oAt (eC (.int 1)))) (eTup (aCons (eC .none) (aCons (eC (.int 0)) (aCons (eC (.int 0)) (aCons (eC (.bool false)) (aCons (eC (.int 0)) (aCons (eC (.int 1)) aNil)))))))) aNil)) (eC (.bool true))))) (sRet (eC (.bool false))) sSkip)
    (sRet (eAnd (eBin isD (eCall f_is_rule (aCons (eBin addD (eTup (aCons (eTup (aCons (eTup (aCons (eTup (aCons (eC (.int 8)) (aCons (eC (.int 6)) aNil))) (aCons (eTup (aCons (eC (.int 8)) (aCons (eC (.int 7)) aNil))) aNil))) (aCons (eTup (aCons (eTup (aCons (eC (.int 8)) (aCons (eC (.int 6)) aNil))) aNil)) aNil))) aNil)) (eSl (eVar 7) (oAt (eC (.int 1))) oNo)) aNil)) (eC (.bool false))) (eBin isD (eCall f_is_rule (aCons (eBin addD (eSl (eVar 7) oNo (oAt (eC (.int 6)))) (eTup (aCons (eC (.int 0)) aNil))) aNil)) (eC (.bool false))))))))

/-! ### days_of -/
-- slots: 0 end
def b_days_of : SM :=
    (sRet (eBin addD (eBin fdivD (eBin subD (eVar 0) (eC (.int 1))) (eC (.int 24))) (eC (.int 1))))
def f_days_of : FnS := mkFn 1 1 b_days_of

/-! ### is_trip_of -/
-- slots: 0 value, 1 letter
def is_trip_of_e1 : EM := (eBin inD (eVar 1) (eC (.str "ABab")))
def b_is_trip_of : SM :=
    (sSeq (sIf (tOrM (tNotM (tOf (eUn (isiD "tuple") (eVar 0)))) (tOrM (tOf (eBin neD (eB lenD (aCons (eVar 0) aNil)) (eC (.int 3)))) (tNotM (tOf (eCall f_is_from (aCons (eBin ixD (eVar 0) (eC (.int 0))) (aCons (eC (.int 0)) (aCons (eBin subD (eC (.int 24)) (eC (.int 1))) aNil)))))))) (sRet (eC (.bool false))) sSkip)
    (sSeq (sIf (tOrM (tNotM (tOf (eCall f_is_from (aCons (eBin ixD (eVar 0) (eC (.int 1))) (aCons (eBin addD (eBin ixD (eVar 0) (eC (.int 0))) (eC (.int 1))) (aCons (eBin mulD (eC (.int 24)) (eC (.int 30))) aNil)))))) (tNotM (tOf (eUn (isiD "str") (eBin ixD (eVar 0) (eC (.int 2))))))) (sRet (eC (.bool false))) sSkip)
    (sRet (eAnd (eBin eqD (eB lenD (aCons (eBin ixD (eVar 0) (eC (.int 2))) aNil)) (eCall f_days_of (aCons (eBin ixD (eVar 0) (eC (.int 1))) aNil))) (eB allD (aCons (eLc [1] (gNm 1) (iOf (eBin ixD (eVar 0) (eC (.int 2)))) tTrue is_trip_of_e1) aNil))))))
def f_is_trip_of : FnS := mkFn 2 1 b_is_trip_of

/-! ### is_trip -/
-- slots: 0 value
def b_is_trip : SM :=
    (sRet (eCall f_is_trip_of (aCons (eVar 0) aNil)))
def f_is_trip : FnS := mkFn 1 1 b_is_trip

/-! ### law_is_k02 -/
-- slots: 0 thing, 1 many, 2 sign
def law_is_k02_b1 : SM := (sSet 1 (eBin addD (eVar 1) (eC (.int 1))))
def b_law_is_k02 : SM :=
    (sSeq (sIf (tOrM (tNotM (tOf (eUn (isiD "tuple") (eVar 0)))) (tOrM (tOf (eBin neD (eB lenD (aCons (eVar 0) aNil)) (eC (.int 3)))) (tOrM (tNotM (tOf (eCall f_law_whole (aCons (eBin ixD (eVar 0) (eC (.int 0))) aNil)))) (tNotM (tOf (eCall f_law_whole (aCons (eBin ixD (eVar 0) (eC (.int 1))) aNil))))))) (sRet (eC (.bool false))) sSkip)
    (sSeq (sIf (tOrM (tNotM (tOf (eChain leD ltD (eC (.int 0)) (eBin ixD (eVar 0) (eC (.int 0))) (eC (.int 24))))) (tOrM (tNotM (tOf (eChain ltD leD (eBin ixD (eVar 0) (eC (.int 0))) (eBin ixD (eVar 0) (eC (.int 1))) (eC (.int 720))))) (tNotM (tOf (eUn (isiD "str") (eBin ixD (eVar 0) (eC (.int 2)))))))) (sRet (eC (.bool false))) sSkip)
    (sSeq (sSet 1 (eC (.int 1)))
    (sSeq (sWhile (tOf (eBin ltD (eBin mulD (eC (.int 24)) (eVar 1)) (eBin ixD (eVar 0) (eC (.int 1))))) law_is_k02_b1)
    (sRet (eAnd (eBin eqD (eB lenD (aCons (eBin ixD (eVar 0) (eC (.int 2))) aNil)) (eVar 1)) (eBin eqD (eLc [2] (gNm 2) (iOf (eBin ixD (eVar 0) (eC (.int 2)))) (tOf (eBin notInD (eVar 2) (eC (.str "abAB")))) (eC (.int 1))) (eLst aNil))))))))
def f_law_is_k02 : FnS := mkFn 3 1 b_law_is_k02

/-! ### law_changed_k02 -/
-- slots: 0 deck, 1 way, 2 start, 3 end, 4 word, 5 some
def b_law_changed_k02 : SM :=
    (sSeq (sUnp (gTp (gsCons (gNm 2) (gsCons (gNm 3) (gsCons (gNm 4) gsNil)))) (eVar 1))
    (sSeq (sSet 5 (eLst (aCons (eTup (aCons (eBin addD (eVar 2) (eC (.int 1))) (aCons (eVar 3) (aCons (eVar 4) aNil)))) (aCons (eTup (aCons (eVar 2) (aCons (eBin addD (eVar 3) (eC (.int 1))) (aCons (eVar 4) aNil)))) (aCons (eTup (aCons (eVar 2) (aCons (eBin subD (eVar 3) (eC (.int 1))) (aCons (eVar 4) aNil)))) (aCons (eTup (aCons (eVar 2) (aCons (eVar 3) (aCons (eBin addD (eVar 4) (eC (.str "a"))) aNil)))) aNil))))))
    (sSeq (sSet 5 (eBin addD (eVar 5) (eLst (aCons (eTup (aCons (eVar 2) (aCons (eVar 3) (aCons (eSl (eVar 4) (oAt (eC (.int 1))) oNo) aNil)))) (aCons (eTup (aCons (eVar 2) (aCons (eVar 3) (aCons (eBin addD (eSl (eVar 4) oNo (oAt (eUn negD (eC (.int 1))))) (eC (.str "c"))) aNil)))) (aCons (eLst (aCons (eVar 2) (aCons (eVar 3) (aCons (eVar 4) aNil)))) (aCons (eTup (aCons (eVar 2) (aCons (eVar 3) (aCons (eB listD (aCons (eVar 4) aNil)) aNil)))) aNil)))))))
    (sSeq (sSet 5 (eBin addD (eVar 5) (eLst (aCons (eTup (aCons (eC (.bool true)) (aCons (eVar 3) (aCons (eVar 4) aNil)))) (aCons (eTup (aCons (eVar 2) (aCons (eC .none) (aCons (eVar 4) aNil)))) (aCons (eTup (aCons (eUn negD (eC (.int 1))) (aCons (eVar 3) (aCons (eVar 4) aNil)))) (aCons (eTup (aCons (eC (.int 24)) (aCons (eVar 3) (aCons (eVar 4) aNil)))) (aCons (eTup (aCons (eVar 3) (aCons (eVar 2) (aCons (eVar 4) aNil)))) aNil))))))))
    (sRet (eCallI 0 f_law_one (aCons (eBin addD (eVar 5) (eLst (aCons (eTup (aCons (eVar 2) (aCons (eVar 3) aNil))) (aCons (eC .none) (aCons (eTup (aCons (eVar 2) (aCons (eC (.int 721)) (aCons (eBin mulD (eC (.str "a")) (eC (.int 31))) aNil)))) (aCons (eTup (aCons (eVar 2) (aCons (eVar 3) (aCons (eC .none) aNil)))) (aCons (eBin addD (eVar 1) (eTup (aCons (eC (.int 0)) aNil))) aNil))))))) aNil)))))))
def f_law_changed_k02 : FnI := mkFnI 6 2 b_law_changed_k02

/-! ### law_k02 -/
-- slots: 0 script, 1 k, 2 deck, 3 turn, 4 way, 5 thing, 6 found
def law_k02_b1 : SM := (sSeq (sSet 4 (eCallI 2 f_law_way (aCons (eBin ixD (eLst (aCons (eC (.int 1)) (aCons (eC (.int 3)) (aCons (eC (.int 30)) aNil)))) (eCallI 2 f_law_pick (aCons (eC (.int 3)) aNil))) aNil)))
    (sSeq (sIf (tOf (eBin isntD (eCall f_is_trip (aCons (eVar 4) aNil)) (eC (.bool true)))) (sRet (eC (.bool false))) sSkip)
    (sSeq (sSet 5 (eCallI 2 f_law_changed_k02 (aCons (eVar 4) aNil)))
    (sSeq (sSet 6 (eCall f_is_trip (aCons (eVar 5) aNil)))
    (sIf (tOrM (tNotM (tOf (eUn (isiD "bool") (eVar 6)))) (tOf (eBin neD (eVar 6) (eCall f_law_is_k02 (aCons (eVar 5) aNil))))) (sRet (eC (.bool false))) sSkip)))))
def law_k02_b2 : SM := (sSeq (sSet 2 (eCall f_law_deck (aCons (eBin ixD (eScr 0 (eBin mulD (eLst (aCons (eC (.int 0)) aNil)) (eC (.int 8)))) (eVar 1)) (aCons (eVar 1) aNil))))
    (sFor (gNm 3) (iRange1 (eC (.int 12))) law_k02_b1))
def b_law_k02 : SM :=
    (sSeq (sFor (gNm 1) (iRange1 (eC (.int 8))) law_k02_b2)
    (sSeq (sIf (tOrM (tOf (eBin isntD (eCall f_is_trip (aCons (eTup (aCons (eC (.int 0)) (aCons (eC (.int 24)) (aCons (eC (.str "a")) aNil)))) aNil)) (eC (.bool true)))) (tOrM (tOf (eBin isntD (eCall f_is_trip (aCons (eTup (aCons (eC (.int 0)) (aCons (eC (.int 25)) (aCons (eC (.str "a")) aNil)))) aNil)) (eC (.bool false)))) (tOf (eBin isntD (eCall f_is_trip (aCons (eTup (aCons (eC (.int 0)) (aCons (eC (.int 25)) (aCons (eC (.str "aB")) aNil)))) aNil)) (eC (.bool true)))))) (sRet (eC (.bool false))) sSkip)
    (sRet (eAnd (eBin isD (eCall f_is_trip (aCons (eTup (aCons (eC (.int 23)) (aCons (eC (.int 720)) (aCons (eBin mulD (eC (.str "b")) (eC (.int 30))) aNil)))) aNil)) (eC (.bool true))) (eAnd (eBin isD (eCall f_is_trip (aCons (eTup (aCons (eC (.int 3)) (aCons (eC (.int 3)) (aCons (eC (.str "")) aNil)))) aNil)) (eC (.bool false))) (eBin isD (eCall f_is_trip (aCons (eTup (aCons (eC (.int 0)) (aCons (eC (.int 1)) (aCons (eC (.str "")) aNil)))) aNil)) (eC (.bool false))))))))

/-! ### need_rule -/
-- slots: 0 value
def b_need_rule : SM :=
    (sIf (tNotM (tOf (eCall f_is_rule_of (aCons (eVar 0) aNil)))) (sRaise "InvalidRule") sSkip)
def f_need_rule : FnS := mkFn 1 1 b_need_rule

/-! ### need_trip -/
-- slots: 0 value
def b_need_trip : SM :=
    (sIf (tNotM (tOf (eCall f_is_trip_of (aCons (eVar 0) aNil)))) (sRaise "InvalidTrip") sSkip)
def f_need_trip : FnS := mkFn 1 1 b_need_trip

/-! ### hours_of -/
-- slots: 0 trip, 1 start, 2 end, 3 places, 4 found, 5 day
def hours_of_b1 : SM := (sApp 4 (eBin subD (eB min2D (aCons (eVar 2) (aCons (eBin mulD (eC (.int 24)) (eBin addD (eVar 5) (eC (.int 1)))) aNil))) (eB max2D (aCons (eVar 1) (aCons (eBin mulD (eC (.int 24)) (eVar 5)) aNil)))))
def b_hours_of : SM :=
    (sSeq (sUnp (gTp (gsCons (gNm 1) (gsCons (gNm 2) (gsCons (gNm 3) gsNil)))) (eVar 0))
    (sSeq (sSet 4 (eLst aNil))
    (sSeq (sFor (gNm 5) (iRange1 (eB lenD (aCons (eVar 3) aNil))) hours_of_b1)
    (sRet (eVar 4)))))
def f_hours_of : FnS := mkFn 6 1 b_hours_of

/-! ### by_bands -/
-- slots: 0 rule, 1 hours, 2 letter, 3 amounts, 4 least, 5 amount
def b_by_bands : SM :=
    (sSeq (sSet 3 (eLc [4, 5] (gTp (gsCons (gNm 4) (gsCons (gNm 5) gsNil))) (iOf (eBin ixD (eBin ixD (eVar 0) (eC (.int 0))) (eM1 indexD (eC (.str "ab")) (eM0 lowerD (eVar 2))))) (tOf (eBin leD (eVar 4) (eVar 1))) (eVar 5)))
    (sRet (eIf (tOf (eBin neD (eVar 3) (eLst aNil))) (eBin ixD (eVar 3) (eUn negD (eC (.int 1)))) (eC (.int 0)))))
def f_by_bands : FnS := mkFn 6 3 b_by_bands

/-! ### less_meal -/
-- slots: 0 rule, 1 amount, 2 letter
def b_less_meal : SM :=
    (sRet (eIf (tOf (eBin inD (eVar 2) (eC (.str "AB")))) (eB max2D (aCons (eC (.int 0)) (aCons (eBin subD (eVar 1) (eBin ixD (eVar 0) (eC (.int 3)))) aNil))) (eVar 1)))
def f_less_meal : FnS := mkFn 3 3 b_less_meal

/-! ### whole_day -/
-- slots: 0 rule, 1 hours, 2 letter
def b_whole_day : SM :=
    (sRet (eCall f_less_meal (aCons (eVar 0) (aCons (eCall f_by_bands (aCons (eVar 0) (aCons (eVar 1) (aCons (eVar 2) aNil)))) (aCons (eVar 2) aNil)))))
def f_whole_day : FnS := mkFn 3 3 b_whole_day

/-! ### end_day -/
-- slots: 0 rule, 1 hours, 2 letter, 3 amount
def b_end_day : SM :=
    (sSeq (sSet 3 (eIf (tOf (eBin isD (eBin ixD (eVar 0) (eC (.int 1))) (eC .none))) (eCall f_by_bands (aCons (eVar 0) (aCons (eVar 1) (aCons (eVar 2) aNil)))) (eBin ixD (eVar 0) (eC (.int 1)))))
    (sRet (eCall f_less_meal (aCons (eVar 0) (aCons (eVar 3) (aCons (eVar 2) aNil))))))
def f_end_day : FnS := mkFn 4 3 b_end_day

/-! ### is_one_day -/
-- slots: 0 rule, 1 trip
def b_is_one_day : SM :=
    (sRet (eAnd (eBin ixD (eVar 0) (eC (.int 4))) (eAnd (eBin eqD (eB lenD (aCons (eBin ixD (eVar 1) (eC (.int 2))) aNil)) (eC (.int 2))) (eBin ltD (eBin subD (eBin ixD (eVar 1) (eC (.int 1))) (eBin ixD (eVar 1) (eC (.int 0)))) (eC (.int 24))))))
def f_is_one_day : FnS := mkFn 2 2 b_is_one_day

/-! ### amounts_of -/
-- slots: 0 rule, 1 trip, 2 hours, 3 places, 4 found, 5 letter
def amounts_of_e1 : EM := (eCall f_whole_day (aCons (eVar 0) (aCons (eC (.int 24)) (aCons (eVar 5) aNil))))
def b_amounts_of : SM :=
    (sSeq (sPar2 2 3 (eCall f_hours_of (aCons (eVar 1) aNil)) (eBin ixD (eVar 1) (eC (.int 2))))
    (sSeq (sIf (tOf (eBin eqD (eB lenD (aCons (eVar 3) aNil)) (eC (.int 1)))) (sRet (eLst (aCons (eCall f_whole_day (aCons (eVar 0) (aCons (eBin ixD (eVar 2) (eC (.int 0))) (aCons (eVar 3) aNil)))) aNil))) sSkip)
    (sSeq (sIf (tOf (eCall f_is_one_day (aCons (eVar 0) (aCons (eVar 1) aNil)))) (sRet (eLst (aCons (eCall f_whole_day (aCons (eVar 0) (aCons (eB sumD (aCons (eVar 2) aNil)) (aCons (eIf (tOf (eBin geD (eBin ixD (eVar 2) (eC (.int 0))) (eBin ixD (eVar 2) (eC (.int 1))))) (eBin ixD (eVar 3) (eC (.int 0))) (eBin ixD (eVar 3) (eC (.int 1)))) aNil)))) aNil))) sSkip)
    (sSeq (sSet 4 (eLc [5] (gNm 5) (iOf (eSl (eVar 3) (oAt (eC (.int 1))) (oAt (eUn negD (eC (.int 1)))))) tTrue amounts_of_e1))
    (sRet (eBin addD (eBin addD (eLst (aCons (eCall f_end_day (aCons (eVar 0) (aCons (eBin ixD (eVar 2) (eC (.int 0))) (aCons (eBin ixD (eVar 3) (eC (.int 0))) aNil)))) aNil)) (eVar 4)) (eLst (aCons (eCall f_end_day (aCons (eVar 0) (aCons (eBin ixD (eVar 2) (eUn negD (eC (.int 1)))) (aCons (eBin ixD (eVar 3) (eUn negD (eC (.int 1)))) aNil)))) aNil))))))))
def f_amounts_of : FnS := mkFn 6 2 b_amounts_of

/-! ### paid_of -/
-- slots: 0 rule, 1 trip, 2 amounts
def b_paid_of : SM :=
    (sSeq (sIf (tOf (eBin ltD (eBin subD (eBin ixD (eVar 1) (eC (.int 1))) (eBin ixD (eVar 1) (eC (.int 0)))) (eBin ixD (eVar 0) (eC (.int 5))))) (sRet (eC (.int 0))) sSkip)
    (sSeq (sSet 2 (eCall f_amounts_of (aCons (eVar 0) (aCons (eVar 1) aNil))))
    (sRet (eB min2D (aCons (eBin ixD (eVar 0) (eC (.int 6))) (aCons (eBin addD (eB sumD (aCons (eVar 2) aNil)) (eBin mulD (eBin ixD (eVar 0) (eC (.int 2))) (eBin subD (eB lenD (aCons (eVar 2) aNil)) (eC (.int 1))))) aNil))))))
def f_paid_of : FnS := mkFn 3 2 b_paid_of

/-! ### amounts -/
-- slots: 0 rule, 1 trip
def b_amounts : SM :=
    (sSeq (sExpr (eCall f_need_rule (aCons (eVar 0) aNil)))
    (sSeq (sExpr (eCall f_need_trip (aCons (eVar 1) aNil)))
    (sRet (eCall f_amounts_of (aCons (eVar 0) (aCons (eVar 1) aNil))))))
def f_amounts : FnS := mkFn 2 2 b_amounts

/-! ### paid -/
-- slots: 0 rule, 1 trip
def b_paid : SM :=
    (sSeq (sExpr (eCall f_need_rule (aCons (eVar 0) aNil)))
    (sSeq (sExpr (eCall f_need_trip (aCons (eVar 1) aNil)))
    (sRet (eCall f_paid_of (aCons (eVar 0) (aCons (eVar 1) aNil))))))
def f_paid : FnS := mkFn 2 2 b_paid

/-! ### law_name_of -/
-- slots: 0 e, 1 matching, 2 words, 3 found, 4 word, 5 good
def b_law_name_of (a : Addr) (is : Str → Bool) : SM :=
    (sSeq (sSet 1 (eLst (aCons (eIsX 0 a (is "InvalidRule")) (aCons (eIsX 0 a (is "InvalidTrip")) (aCons (eIsX 0 a (is "InvalidNumber")) aNil)))))
    (sSeq (sSet 1 (eBin addD (eVar 1) (eLst (aCons (eIsX 0 a (is "InvalidPlace")) (aCons (eIsX 0 a (is "InvalidPart")) (aCons (eIsX 0 a (is "InvalidSeen")) aNil))))))
    (sSeq (sSet 1 (eBin addD (eVar 1) (eLst (aCons (eIsX 0 a (is "InvalidIndex")) (aCons (eIsX 0 a (is "NotJoined")) (aCons (eIsX 0 a (is "NothingToUndo")) aNil))))))
    (sSeq (sSet 1 (eBin addD (eVar 1) (eLst (aCons (eIsX 0 a (is "TooMany")) (aCons (eIsX 0 a (is "InvalidText")) aNil)))))
    (sSeq (sSet 2 (eLst (aCons (eC (.str "Rule")) (aCons (eC (.str "Trip")) (aCons (eC (.str "Number")) (aCons (eC (.str "Place")) (aCons (eC (.str "Part")) (aCons (eC (.str "Seen")) (aCons (eC (.str "Index")) (aCons (eC (.str "Joined")) (aCons (eC (.str "Undo")) (aCons (eC (.str "Many")) (aCons (eC (.str "Text")) aNil)))))))))))))
    (sSeq (sSet 3 (eLc [4, 5] (gTp (gsCons (gNm 4) (gsCons (gNm 5) gsNil))) (iZipL (aCons (eVar 2) (aCons (eVar 1) aNil))) (tOf (eVar 5)) (eVar 4)))
    (sRet (eBin addD (eM1 joinD (eC (.str "")) (eVar 3)) (eIf (tOf (eIsX 0 a (is "ValueError"))) (eC (.str "+")) (eC (.str "")))))))))))
def excNames : List Str := ["InvalidRule", "InvalidTrip", "InvalidNumber", "InvalidPlace", "InvalidPart", "InvalidSeen", "InvalidIndex", "NotJoined", "NothingToUndo", "TooMany", "InvalidText"]

/-! ### law_try -/
-- slots: 0 door, 1 found, 2 e
def excTab : List (Str × Str) := [("InvalidRule", "Rule+"), ("InvalidTrip", "Trip+"), ("InvalidNumber", "Number+"), ("InvalidPlace", "Place+"), ("InvalidPart", "Part+"), ("InvalidSeen", "Seen+"), ("InvalidIndex", "Index+"), ("NotJoined", "Joined+"), ("NothingToUndo", "Undo+"), ("TooMany", "Many+"), ("InvalidText", "Text+")]
def nameOf : Ex → Option Str := nameBy excTab

/-! ### law_sort -/
-- slots: 0 thing
def b_law_sort : SM :=
    (sSeq (sIf (tOf (eUn (isiD "bool") (eVar 0))) (sRet (eC (.int 1))) sSkip)
    (sSeq (sIf (tOf (eUn (isiD "int") (eVar 0))) (sRet (eC (.int 2))) sSkip)
    (sSeq (sIf (tOf (eUn (isiD "str") (eVar 0))) (sRet (eC (.int 3))) sSkip)
    (sSeq (sIf (tOf (eUn (isiD "list") (eVar 0))) (sRet (eC (.int 4))) sSkip)
    (sRet (eIf (tOf (eUn (isiD "tuple") (eVar 0))) (eC (.int 5)) (eC (.int 6))))))))
def f_law_sort : FnS := mkFn 1 1 b_law_sort

/-! ### law_same -/
-- slots: 0 told, 1 due, 2 k, 3 part
def b_law_same (rec : FnS) : SM :=
    (sSeq (sIf (tOf (eBin neD (eCall f_law_sort (aCons (eVar 0) aNil)) (eCall f_law_sort (aCons (eVar 1) aNil)))) (sRet (eC (.bool false))) sSkip)
    (sSeq (sIf (tAndM (tOf (eBin gtD (eCall f_law_sort (aCons (eVar 0) aNil)) (eC (.int 3)))) (tOf (eBin ltD (eCall f_law_sort (aCons (eVar 0) aNil)) (eC (.int 6))))) (sSeq (sIf (tOf (eBin neD (eB lenD (aCons (eVar 0) aNil)) (eB lenD (aCons (eVar 1) aNil)))) (sRet (eC (.bool false))) sSkip)
    (sRet (eBin eqD (eLc [2, 3] (gTp (gsCons (gNm 2) (gsCons (gNm 3) gsNil))) (iEnumD (aCons (eVar 0) aNil)) (tNotM (tOf (eCall rec (aCons (eVar 3) (aCons (eBin ixD (eVar 1) (eVar 2)) aNil))))) (eVar 2)) (eLst aNil)))) sSkip)
    (sRet (eBin eqD (eVar 0) (eVar 1)))))
def f_law_same : Nat → FnS
  | 0 => fun _ => none
  | d + 1 => mkFn 4 2 (b_law_same (f_law_same d))

/-! ### law_band -/
-- slots: 0 r, 1 many, 2 letter, 3 found, 4 least_so, 5 amount
def law_band_b1 : SM := (sIf (tOf (eBin leD (eVar 4) (eVar 1))) (sSet 3 (eVar 5)) sSkip)
def b_law_band : SM :=
    (sSeq (sSet 3 (eC (.int 0)))
    (sSeq (sFor (gTp (gsCons (gNm 4) (gsCons (gNm 5) gsNil))) (iOf (eBin ixD (eBin ixD (eVar 0) (eC (.int 0))) (eIf (tOf (eBin inD (eVar 2) (eC (.str "aA")))) (eC (.int 0)) (eC (.int 1))))) law_band_b1)
    (sRet (eVar 3))))
def f_law_band : FnS := mkFn 6 3 b_law_band

/-! ### law_rest -/
-- slots: 0 r, 1 amount, 2 letter
def b_law_rest : SM :=
    (sSeq (sIf (tOf (eBin inD (eVar 2) (eC (.str "ab")))) (sRet (eVar 1)) sSkip)
    (sRet (eIf (tOf (eBin gtD (eVar 1) (eBin ixD (eVar 0) (eC (.int 3))))) (eBin subD (eVar 1) (eBin ixD (eVar 0) (eC (.int 3)))) (eC (.int 0)))))
def f_law_rest : FnS := mkFn 3 3 b_law_rest

/-! ### law_lengths -/
-- slots: 0 way, 1 start, 2 end, 3 word, 4 found, 5 at, 6 low, 7 high
def law_lengths_b1 : SM := (sSeq (sPar2 6 7 (eBin mulD (eC (.int 24)) (eVar 5)) (eBin addD (eBin mulD (eC (.int 24)) (eVar 5)) (eC (.int 24))))
    (sApp 4 (eBin subD (eIf (tOf (eBin ltD (eVar 2) (eVar 7))) (eVar 2) (eVar 7)) (eIf (tOf (eBin gtD (eVar 1) (eVar 6))) (eVar 1) (eVar 6)))))
def b_law_lengths : SM :=
    (sSeq (sUnp (gTp (gsCons (gNm 1) (gsCons (gNm 2) (gsCons (gNm 3) gsNil)))) (eVar 0))
    (sSeq (sSet 4 (eLst aNil))
    (sSeq (sFor (gNm 5) (iRange1 (eB lenD (aCons (eVar 3) aNil))) law_lengths_b1)
    (sRet (eVar 4)))))
def f_law_lengths : FnS := mkFn 8 1 b_law_lengths

/-! ### law_parts -/
-- slots: 0 r, 1 way, 2 word, 3 rows, 4 letter, 5 found, 6 at, 7 many, 8 amount
def law_parts_b1 : SM := (sSeq (sSet 8 (eCall f_law_band (aCons (eVar 0) (aCons (eVar 7) (aCons (eBin ixD (eVar 2) (eVar 6)) aNil)))))
    (sSeq (sIf (tAndM (tOf (eBin isntD (eBin ixD (eVar 0) (eC (.int 1))) (eC .none))) (tAndM (tOf (eBin gtD (eB lenD (aCons (eVar 3) aNil)) (eC (.int 1)))) (tOf (eBin inD (eVar 6) (eTup (aCons (eC (.int 0)) (aCons (eBin subD (eB lenD (aCons (eVar 3) aNil)) (eC (.int 1))) aNil))))))) (sSet 8 (eBin ixD (eVar 0) (eC (.int 1)))) sSkip)
    (sApp 5 (eCall f_law_rest (aCons (eVar 0) (aCons (eVar 8) (aCons (eBin ixD (eVar 2) (eVar 6)) aNil)))))))
def b_law_parts : SM :=
    (sSeq (sPar2 2 3 (eBin ixD (eVar 1) (eC (.int 2))) (eCall f_law_lengths (aCons (eVar 1) aNil)))
    (sSeq (sIf (tAndM (tOf (eBin ixD (eVar 0) (eC (.int 4)))) (tAndM (tOf (eBin eqD (eB lenD (aCons (eVar 3) aNil)) (eC (.int 2)))) (tOf (eBin ltD (eB sumD (aCons (eVar 3) aNil)) (eC (.int 24)))))) (sSeq (sSet 4 (eIf (tOf (eBin gtD (eBin ixD (eVar 3) (eC (.int 1))) (eBin ixD (eVar 3) (eC (.int 0))))) (eBin ixD (eVar 2) (eC (.int 1))) (eBin ixD (eVar 2) (eC (.int 0)))))
    (sRet (eLst (aCons (eCall f_law_rest (aCons (eVar 0) (aCons (eCall f_law_band (aCons (eVar 0) (aCons (eB sumD (aCons (eVar 3) aNil)) (aCons (eVar 4) aNil)))) (aCons (eVar 4) aNil)))) aNil)))) sSkip)
    (sSeq (sSet 5 (eLst aNil))
    (sSeq (sFor (gTp (gsCons (gNm 6) (gsCons (gNm 7) gsNil))) (iEnumD (aCons (eVar 3) aNil)) law_parts_b1)
    (sRet (eVar 5))))))
def f_law_parts : FnS := mkFn 9 2 b_law_parts

/-! ### law_worth -/
-- slots: 0 r, 1 way, 2 rows, 3 total
def b_law_worth : SM :=
    (sSeq (sIf (tOf (eBin ltD (eBin subD (eBin ixD (eVar 1) (eC (.int 1))) (eBin ixD (eVar 1) (eC (.int 0)))) (eBin ixD (eVar 0) (eC (.int 5))))) (sRet (eC (.int 0))) sSkip)
    (sSeq (sSet 2 (eCall f_law_parts (aCons (eVar 0) (aCons (eVar 1) aNil))))
    (sSeq (sSet 3 (eBin addD (eB sumD (aCons (eVar 2) aNil)) (eBin mulD (eBin subD (eB lenD (aCons (eVar 2) aNil)) (eC (.int 1))) (eBin ixD (eVar 0) (eC (.int 2))))))
    (sRet (eIf (tOf (eBin ltD (eVar 3) (eBin ixD (eVar 0) (eC (.int 6))))) (eVar 3) (eBin ixD (eVar 0) (eC (.int 6))))))))
def f_law_worth : FnS := mkFn 4 2 b_law_worth

/-! ### law_k03 -/
-- slots: 0 script, 1 k, 2 deck, 3 turn, 4 r, 5 way, 6 found, 7 odd, 8 plain, 9 short
def law_k03_b1 : SM := (sSeq (sUnp (gTp (gsCons (gNm 4) (gsCons (gNm 5) gsNil))) (eTup (aCons (eCallI 2 f_law_rule aNil) (aCons (eCallI 2 f_law_way (aCons (eBin ixD (eLst (aCons (eC (.int 2)) (aCons (eC (.int 3)) (aCons (eC (.int 30)) aNil)))) (eCallI 2 f_law_pick (aCons (eC (.int 3)) aNil))) aNil)) aNil))))
    (sSeq (sSet 6 (eCall f_amounts (aCons (eVar 4) (aCons (eVar 5) aNil))))
    (sSeq (sIf (tOrM (tNotM (tOf (ePeek (eCall (f_law_same 12) (aCons (eVar 6) (aCons (eCall f_law_parts (aCons (eVar 4) (aCons (eVar 5) aNil))) aNil)))))) (tNotM (tOf (eCall (f_law_same 12) (aCons (eCall f_paid (aCons (eVar 4) (aCons (eVar 5) aNil))) (aCons (eCall f_law_worth (aCons (eVar 4) (aCons (eVar 5) aNil))) aNil)))))) (sRet (eC (.bool false))) sSkip)
    (sSeq (sApp 6 (eC (.int 0)))
    (sIf (tOf (eBin neD (eB lenD (aCons (eCall f_amounts (aCons (eVar 4) (aCons (eVar 5) aNil))) aNil)) (eBin subD (ePeek (eB lenD (aCons (eVar 6) aNil))) (eC (.int 1))))) (sRet (eC (.bool false))) sSkip)))))
def law_k03_l2 : EM := (eCall f_paid (aCons (eVar 4) (aCons (eVar 7) aNil)))
def law_k03_l3 : EM := (eCall f_amounts (aCons (eVar 4) (aCons (eVar 7) aNil)))
def law_k03_b4 : SM := (sSeq (sIf (tOf (eBin neD (eTry nameOf law_k03_l2) (eC (.str "Trip+")))) (sRet (eC (.bool false))) sSkip)
    (sIf (tOf (eBin neD (eTry nameOf law_k03_l3) (eC (.str "Trip+")))) (sRet (eC (.bool false))) sSkip))
def law_k03_b5 : SM := (sSeq (sSet 2 (eCall f_law_deck (aCons (eBin ixD (eScr 0 (eBin mulD (eLst (aCons (eC (.int 0)) aNil)) (eC (.int 8)))) (eVar 1)) (aCons (eVar 1) aNil))))
    (sSeq (sFor (gNm 3) (iRange1 (eC (.int 16))) law_k03_b1)
    (sFor (gNm 7) (iOf (eTup (aCons (eC .none) (aCons (eTup (aCons (eC (.int 3)) (aCons (eC (.int 3)) (aCons (eC (.str "")) aNil)))) (aCons (eTup (aCons (eC (.int 0)) (aCons (eC (.int 25)) (aCons (eC (.str "a")) aNil)))) (aCons (eLst (aCons (eC (.int 0)) (aCons (eC (.int 5)) (aCons (eC (.str "a")) aNil)))) (aCons (eTup (aCons (eC (.int 0)) (aCons (eC (.int 5)) (aCons (eC (.str "c")) aNil)))) (aCons (eTup (aCons (eC (.bool true)) (aCons (eC (.int 5)) (aCons (eC (.str "a")) aNil)))) (aCons (eTup (aCons (eC (.int 0)) (aCons (eC (.int 5)) aNil))) aNil))))))))) law_k03_b4)))
def b_law_k03 : SM :=
    (sSeq (sFor (gNm 1) (iRange1 (eC (.int 8))) law_k03_b5)
    (sSeq (sSet 8 (eTup (aCons (eTup (aCons (eTup (aCons (eTup (aCons (eC (.int 8)) (aCons (eC (.int 6)) aNil))) (aCons (eTup (aCons (eC (.int 12)) (aCons (eC (.int 12)) aNil))) aNil))) (aCons (eTup (aCons (eTup (aCons (eC (.int 8)) (aCons (eC (.int 10)) aNil))) aNil)) aNil))) (aCons (eC .none) (aCons (eC (.int 20)) (aCons (eC (.int 4)) (aCons (eC (.bool false)) (aCons (eC (.int 8)) (aCons (eC (.int 400)) aNil)))))))))
    (sSeq (sSet 9 (eBin addD (eSl (eVar 8) oNo (oAt (eC (.int 1)))) (eTup (aCons (eC (.int 6)) (aCons (eC (.int 20)) (aCons (eC (.int 4)) (aCons (eC (.bool true)) (aCons (eC (.int 8)) (aCons (eC (.int 400)) aNil)))))))))
    (sSeq (sIf (tOrM (tOf (eBin neD (eCall f_amounts (aCons (eVar 8) (aCons (eTup (aCons (eC (.int 20)) (aCons (eC (.int 44)) (aCons (eC (.str "aa")) aNil)))) aNil))) (eLst (aCons (eC (.int 0)) (aCons (eC (.int 12)) aNil))))) (tOf (eBin neD (eCall f_amounts (aCons (eVar 9) (aCons (eTup (aCons (eC (.int 20)) (aCons (eC (.int 44)) (aCons (eC (.str "aa")) aNil)))) aNil))) (eLst (aCons (eC (.int 6)) (aCons (eC (.int 6)) aNil)))))) (sRet (eC (.bool false))) sSkip)
    (sSeq (sIf (tOf (eBin neD (eLst (aCons (eCall f_paid (aCons (eVar 8) (aCons (eTup (aCons (eC (.int 20)) (aCons (eC (.int 44)) (aCons (eC (.str "aa")) aNil)))) aNil))) (aCons (eCall f_paid (aCons (eVar 8) (aCons (eTup (aCons (eC (.int 8)) (aCons (eC (.int 64)) (aCons (eC (.str "aBa")) aNil)))) aNil))) (aCons (eCall f_paid (aCons (eVar 8) (aCons (eTup (aCons (eC (.int 20)) (aCons (eC (.int 30)) (aCons (eC (.str "ab")) aNil)))) aNil))) aNil)))) (eLst (aCons (eC (.int 32)) (aCons (eC (.int 70)) (aCons (eC (.int 20)) aNil)))))) (sRet (eC (.bool false))) sSkip)
    (sSeq (sIf (tOrM (tOf (eBin neD (eCall f_amounts (aCons (eVar 9) (aCons (eTup (aCons (eC (.int 20)) (aCons (eC (.int 30)) (aCons (eC (.str "ab")) aNil)))) aNil))) (eLst (aCons (eC (.int 10)) aNil)))) (tOf (eBin neD (eCall f_amounts (aCons (eVar 9) (aCons (eTup (aCons (eC (.int 18)) (aCons (eC (.int 30)) (aCons (eC (.str "aB")) aNil)))) aNil))) (eLst (aCons (eC (.int 12)) aNil))))) (sRet (eC (.bool false))) sSkip)
    (sSeq (sIf (tOrM (tOf (eBin neD (eCall f_amounts (aCons (eVar 9) (aCons (eTup (aCons (eC (.int 19)) (aCons (eC (.int 31)) (aCons (eC (.str "aB")) aNil)))) aNil))) (eLst (aCons (eC (.int 6)) aNil)))) (tOf (eBin neD (eCall f_paid (aCons (eVar 9) (aCons (eTup (aCons (eC (.int 20)) (aCons (eC (.int 27)) (aCons (eC (.str "bb")) aNil)))) aNil))) (eC (.int 0))))) (sRet (eC (.bool false))) sSkip)
    (sRet (eBin eqD (eLst (aCons (eCall f_paid (aCons (eVar 8) (aCons (eTup (aCons (eC (.int 9)) (aCons (eC (.int 18)) (aCons (eC (.str "a")) aNil)))) aNil))) (aCons (eCall f_paid (aCons (eVar 8) (aCons (eTup (aCons (eC (.int 9)) (aCons (eC (.int 18)) (aCons (eC (.str "A")) aNil)))) aNil))) (aCons (eCall f_paid (aCons (eBin addD (eSl (eVar 8) oNo (oAt (eC (.int 6)))) (eTup (aCons (eC (.int 5)) aNil))) (aCons (eTup (aCons (eC (.int 9)) (aCons (eC (.int 18)) (aCons (eC (.str "a")) aNil)))) aNil))) aNil)))) (eLst (aCons (eC (.int 6)) (aCons (eC (.int 2)) (aCons (eC (.int 5)) aNil)))))))))))))

/-! ### rule_text -/
-- slots: 0 rule, 1 bands, 2 ends, 3 night, 4 meal, 5 join, 6 least, 7 cap, 8 words, 9 word, 10 some, 11 hours, 12 amount
def rule_text_e1 : EM := (eJs [(eUn fmtD (eVar 11)), (eC (.str ":")), (eUn fmtD (eVar 12))])
def rule_text_b2 : SM := (sSet 8 (eBin addD (eBin addD (eVar 8) (eLst (aCons (eVar 9) aNil))) (eLc [11, 12] (gTp (gsCons (gNm 11) (gsCons (gNm 12) gsNil))) (iOf (eVar 10)) tTrue rule_text_e1)))
def b_rule_text : SM :=
    (sSeq (sExpr (eCall f_need_rule (aCons (eVar 0) aNil)))
    (sSeq (sUnp (gTp (gsCons (gNm 1) (gsCons (gNm 2) (gsCons (gNm 3) (gsCons (gNm 4) (gsCons (gNm 5) (gsCons (gNm 6) (gsCons (gNm 7) gsNil)))))))) (eVar 0))
    (sSeq (sSet 8 (eLst aNil))
    (sSeq (sFor (gTp (gsCons (gNm 9) (gsCons (gNm 10) gsNil))) (iZipS (aCons (eC (.str "ab")) (aCons (eVar 1) aNil))) rule_text_b2)
    (sSeq (sSet 8 (eBin addD (eVar 8) (eIf (tOf (eBin isntD (eVar 2) (eC .none))) (eLst (aCons (eC (.str "ends")) (aCons (eB strID (aCons (eVar 2) aNil)) aNil))) (eLst aNil))))
    (sSeq (sSet 8 (eBin addD (eBin addD (eVar 8) (eLst (aCons (eC (.str "night")) (aCons (eB strID (aCons (eVar 3) aNil)) (aCons (eC (.str "meal")) (aCons (eB strID (aCons (eVar 4) aNil)) aNil)))))) (eIf (tOf (eVar 5)) (eLst (aCons (eC (.str "join")) aNil)) (eLst aNil))))
    (sRet (eM1 joinD (eC (.str " ")) (eBin addD (eVar 8) (eLst (aCons (eC (.str "least")) (aCons (eB strID (aCons (eVar 6) aNil)) (aCons (eC (.str "cap")) (aCons (eB strID (aCons (eVar 7) aNil)) aNil))))))))))))))
def f_rule_text : FnS := mkFn 13 1 b_rule_text

/-! ### number_in -/
-- slots: 0 word, 1 sign
def number_in_e1 : EM := (eBin inD (eVar 1) (eC (.str "0123456789")))
def b_number_in : SM :=
    (sSeq (sIf (tOrM (tNotM (tOf (eChain leD leD (eC (.int 1)) (eB lenD (aCons (eVar 0) aNil)) (eC (.int 3))))) (tNotM (tOf (eB allD (aCons (eLc [1] (gNm 1) (iOf (eVar 0)) tTrue number_in_e1) aNil))))) (sRet (eC .none)) sSkip)
    (sRet (eIf (tOf (eBin eqD (eB strID (aCons (eB intTD (aCons (eVar 0) aNil)) aNil)) (eVar 0))) (eB intTD (aCons (eVar 0) aNil)) (eC .none))))
def f_number_in : FnS := mkFn 2 1 b_number_in

/-! ### bands_in -/
-- slots: 0 words, 1 found, 2 word, 3 parts, 4 part
def bands_in_e1 : EM := (eCall f_number_in (aCons (eVar 4) aNil))
def bands_in_b2 : SM := (sSeq (sSet 3 (eM1 splitD (eVar 2) (eC (.str ":"))))
    (sSet 1 (eBin addD (eVar 1) (eTup (aCons (eB tupleD (aCons (eLc [4] (gNm 4) (iOf (eVar 3)) tTrue bands_in_e1) aNil)) aNil)))))
def b_bands_in : SM :=
    (sSeq (sSet 1 (eTup aNil))
    (sSeq (sFor (gNm 2) (iOf (eVar 0)) bands_in_b2)
    (sRet (eVar 1))))
def f_bands_in : FnS := mkFn 5 1 b_bands_in

/-! ### rule_in -/
-- slots: 0 line, 1 words, 2 second, 3 night, 4 join, 5 ends, 6 last, 7 bands, 8 numbers, 9 rule, 10 at
def rule_in_e1 : EM := (eCall f_number_in (aCons (eBin ixD (eVar 1) (eVar 10)) aNil))
def b_rule_in : SM :=
    (sSeq (sSet 1 (eM1 splitD (eVar 0) (eC (.str " "))))
    (sSeq (sIf (tOrM (tOf (eBin ltD (eB lenD (aCons (eVar 1) aNil)) (eC (.int 12)))) (tOrM (tOf (eBin neD (eBin ixD (eVar 1) (eC (.int 0))) (eC (.str "a")))) (tOrM (tOf (eBin notInD (eC (.str "b")) (eVar 1))) (tOf (eBin notInD (eC (.str "night")) (eVar 1)))))) (sRet (eC .none)) sSkip)
    (sSeq (sPar2 2 3 (eSIdx (eVar 1) (eC (.str "b"))) (eSIdx (eVar 1) (eC (.str "night"))))
    (sSeq (sSet 4 (eIf (tOf (eBin eqD (eBin ixD (eVar 1) (eUn negD (eC (.int 5)))) (eC (.str "join")))) (eC (.int 1)) (eC (.int 0))))
    (sSeq (sSet 5 (eIf (tOf (eBin eqD (eBin ixD (eVar 1) (eBin subD (eVar 3) (eC (.int 2)))) (eC (.str "ends")))) (eCall f_number_in (aCons (eBin ixD (eVar 1) (eBin subD (eVar 3) (eC (.int 1)))) aNil)) (eC .none)))
    (sSeq (sSet 6 (eIf (tOf (eBin eqD (eBin ixD (eVar 1) (eBin subD (eVar 3) (eC (.int 2)))) (eC (.str "ends")))) (eBin subD (eVar 3) (eC (.int 2))) (eVar 3)))
    (sSeq (sSet 7 (eTup (aCons (eCall f_bands_in (aCons (eSl (eVar 1) (oAt (eC (.int 1))) (oAt (eVar 2))) aNil)) (aCons (eCall f_bands_in (aCons (eSl (eVar 1) (oAt (eBin addD (eVar 2) (eC (.int 1)))) (oAt (eVar 6))) aNil)) aNil))))
    (sSeq (sIf (tOf (eBin neD (eB lenD (aCons (eVar 1) aNil)) (eBin addD (eBin addD (eVar 3) (eC (.int 8))) (eVar 4)))) (sRet (eC .none)) sSkip)
    (sSeq (sSet 8 (eLc [10] (gNm 10) (iOf (eTup (aCons (eBin addD (eVar 3) (eC (.int 1))) (aCons (eBin addD (eVar 3) (eC (.int 3))) (aCons (eUn negD (eC (.int 3))) (aCons (eUn negD (eC (.int 1))) aNil)))))) tTrue rule_in_e1))
    (sSeq (sSet 9 (eTup (aCons (eVar 7) (aCons (eVar 5) (aCons (eBin ixD (eVar 8) (eC (.int 0))) (aCons (eBin ixD (eVar 8) (eC (.int 1))) (aCons (eBin eqD (eVar 4) (eC (.int 1))) (aCons (eBin ixD (eVar 8) (eC (.int 2))) (aCons (eBin ixD (eVar 8) (eC (.int 3))) aNil)))))))))
    (sRet (eIf (tAndM (tOf (eCall f_is_rule_of (aCons (eVar 9) aNil))) (tOf (eBin eqD (eCall f_rule_text (aCons (eVar 9) aNil)) (eVar 0)))) (eVar 9) (eC .none)))))))))))))
def f_rule_in : FnS := mkFn 11 1 b_rule_in

/-! ### read_rules -/
-- slots: 0 text, 1 found, 2 place, 3 line, 4 one
def read_rules_b1 : SM := (sSeq (sSet 4 (eCall f_rule_in (aCons (eVar 3) aNil)))
    (sSeq (sIf (tOf (eBin isD (eVar 4) (eC .none))) (sRaiseF "InvalidText" "line" (aCons (eBin addD (eVar 2) (eC (.int 1))) aNil)) sSkip)
    (sSet 1 (eBin addD (eVar 1) (eTup (aCons (eVar 4) aNil))))))
def b_read_rules : SM :=
    (sSeq (sIf (tNotM (tOf (eUn (isiD "str") (eVar 0)))) (sRaiseF "InvalidText" "line" (aCons (eC (.int 0)) aNil)) sSkip)
    (sSeq (sSet 1 (eTup aNil))
    (sSeq (sFor (gTp (gsCons (gNm 2) (gsCons (gNm 3) gsNil))) (iEnumD (aCons (eIf (tOf (eBin neD (eVar 0) (eC (.str "")))) (eM1 splitD (eVar 0) (eC (.str "\n"))) (eLst aNil)) aNil)) read_rules_b1)
    (sRet (eVar 1)))))
def f_read_rules : FnS := mkFn 5 1 b_read_rules

/-! ### law_text -/
-- slots: 0 r, 1 words, 2 word, 3 bands, 4 many, 5 amount
def law_text_e1 : EM := (eBin addD (eBin addD (eB strID (aCons (eVar 4) aNil)) (eC (.str ":"))) (eB strID (aCons (eVar 5) aNil)))
def law_text_b2 : SM := (sSet 1 (eBin addD (eBin addD (eVar 1) (eLst (aCons (eVar 2) aNil))) (eLc [4, 5] (gTp (gsCons (gNm 4) (gsCons (gNm 5) gsNil))) (iOf (eVar 3)) tTrue law_text_e1)))
def b_law_text : SM :=
    (sSeq (sSet 1 (eLst aNil))
    (sSeq (sFor (gTp (gsCons (gNm 2) (gsCons (gNm 3) gsNil))) (iOf (eTup (aCons (eTup (aCons (eC (.str "a")) (aCons (eBin ixD (eBin ixD (eVar 0) (eC (.int 0))) (eC (.int 0))) aNil))) (aCons (eTup (aCons (eC (.str "b")) (aCons (eBin ixD (eBin ixD (eVar 0) (eC (.int 0))) (eC (.int 1))) aNil))) aNil)))) law_text_b2)
    (sSeq (sSet 1 (eBin addD (eVar 1) (eIf (tOf (eBin isD (eBin ixD (eVar 0) (eC (.int 1))) (eC .none))) (eLst aNil) (eLst (aCons (eC (.str "ends")) (aCons (eB strID (aCons (eBin ixD (eVar 0) (eC (.int 1))) aNil)) aNil))))))
    (sSeq (sSet 1 (eBin addD (eVar 1) (eLst (aCons (eC (.str "night")) (aCons (eB strID (aCons (eBin ixD (eVar 0) (eC (.int 2))) aNil)) (aCons (eC (.str "meal")) (aCons (eB strID (aCons (eBin ixD (eVar 0) (eC (.int 3))) aNil)) aNil)))))))
    (sSeq (sSet 1 (eBin addD (eVar 1) (eIf (tOf (eBin ixD (eVar 0) (eC (.int 4)))) (eLst (aCons (eC (.str "join")) aNil)) (eLst aNil))))
    (sRet (eM1 joinD (eC (.str " ")) (eBin addD (eVar 1) (eLst (aCons (eC (.str "least")) (aCons (eB strID (aCons (eBin ixD (eVar 0) (eC (.int 5))) aNil)) (aCons (eC (.str "cap")) (aCons (eB strID (aCons (eBin ixD (eVar 0) (eC (.int 6))) aNil)) aNil)))))))))))))
def f_law_text : FnS := mkFn 6 1 b_law_text

/-! ### law_number -/
-- slots: 0 word, 1 low, 2 high, 3 known, 4 number
def b_law_number : SM :=
    (sSeq (sSet 3 (eLc [4] (gNm 4) (iRange2 (eVar 1) (eBin addD (eVar 2) (eC (.int 1)))) (tOf (eBin eqD (eB strID (aCons (eVar 4) aNil)) (eVar 0))) (eVar 4)))
    (sRet (eIf (tOf (eBin neD (eVar 3) (eLst aNil))) (eBin ixD (eVar 3) (eC (.int 0))) (eC .none))))
def f_law_number : FnS := mkFn 5 3 b_law_number

/-! ### law_pairs -/
-- slots: 0 words, 1 found, 2 low, 3 cut_so, 4 many, 5 amount
def law_pairs_b1 : SM := (sSeq (sSet 3 (eM1 findD (eBin ixD (eVar 0) (eC (.int 0))) (eC (.str ":"))))
    (sSeq (sSet 4 (eCall f_law_number (aCons (eSl (eBin ixD (eVar 0) (eC (.int 0))) oNo (oAt (eVar 3))) (aCons (eVar 2) (aCons (eC (.int 24)) aNil)))))
    (sSeq (sSet 5 (eCall f_law_number (aCons (eSl (eBin ixD (eVar 0) (eC (.int 0))) (oAt (eBin addD (eVar 3) (eC (.int 1)))) oNo) (aCons (eC (.int 0)) (aCons (eC (.int 40)) aNil)))))
    (sSeq (sIf (tOrM (tOf (eBin isD (eVar 4) (eC .none))) (tOrM (tOf (eBin isD (eVar 5) (eC .none))) (tOf (eBin eqD (eB lenD (aCons (eVar 1) aNil)) (eC (.int 3)))))) (sRet (eC .none)) sSkip)
    (sPar3 1 2 0 (eBin addD (eVar 1) (eTup (aCons (eTup (aCons (eVar 4) (aCons (eVar 5) aNil))) aNil))) (eBin addD (eVar 4) (eC (.int 1))) (eSl (eVar 0) (oAt (eC (.int 1))) oNo))))))
def b_law_pairs : SM :=
    (sSeq (sUnp (gTp (gsCons (gNm 1) (gsCons (gNm 2) gsNil))) (eTup (aCons (eTup aNil) (aCons (eC (.int 1)) aNil))))
    (sSeq (sWhile (tAndM (tOf (eBin neD (eVar 0) (eLst aNil))) (tOf (eBin inD (eC (.str ":")) (eBin ixD (eVar 0) (eC (.int 0)))))) law_pairs_b1)
    (sRet (eIf (tOf (eBin eqD (eVar 1) (eTup aNil))) (eC .none) (eTup (aCons (eVar 1) (aCons (eVar 0) aNil)))))))
def f_law_pairs : FnS := mkFn 6 1 b_law_pairs

/-! ### law_after -/
-- slots: 0 words, 1 word, 2 low, 3 high, 4 number
def b_law_after : SM :=
    (sSeq (sIf (tOrM (tOf (eBin ltD (eB lenD (aCons (eVar 0) aNil)) (eC (.int 2)))) (tOf (eBin neD (eBin ixD (eVar 0) (eC (.int 0))) (eVar 1)))) (sRet (eC .none)) sSkip)
    (sSeq (sSet 4 (eCall f_law_number (aCons (eBin ixD (eVar 0) (eC (.int 1))) (aCons (eVar 2) (aCons (eVar 3) aNil)))))
    (sRet (eIf (tOf (eBin isD (eVar 4) (eC .none))) (eC .none) (eTup (aCons (eVar 4) (aCons (eSl (eVar 0) (oAt (eC (.int 2))) oNo) aNil)))))))
def f_law_after : FnS := mkFn 5 4 b_law_after

/-! ### law_read -/
-- slots: 0 line, 1 words, 2 first, 3 second, 4 found, 5 told, 6 numbers, 7 word, 8 low, 9 high
def law_read_b1 : SM := (sSeq (sIf (tAndM (tOf (eBin eqD (eVar 7) (eC (.str "least")))) (tAndM (tOf (eBin neD (eVar 1) (eLst aNil))) (tOf (eBin eqD (eBin ixD (eVar 1) (eC (.int 0))) (eC (.str "join")))))) (sSubNm 4 1 1 (eTup (aCons (eC (.bool true)) (aCons (eSl (eVar 1) (oAt (eC (.int 1))) oNo) aNil)))) sSkip)
    (sSeq (sSet 5 (eCall f_law_after (aCons (eVar 1) (aCons (eVar 7) (aCons (eVar 8) (aCons (eVar 9) aNil))))))
    (sSeq (sIf (tOf (eBin isD (eVar 5) (eC .none))) (sRet (eC .none)) sSkip)
    (sSeq (sApp 6 (eBin ixD (eVar 5) (eC (.int 0))))
    (sSet 1 (eBin ixD (eVar 5) (eC (.int 1))))))))
def b_law_read : SM :=
    (sSeq (sSet 1 (eM1 splitD (eVar 0) (eC (.str " "))))
    (sSeq (sSet 2 (eIf (tOf (eBin eqD (eBin ixD (eVar 1) (eC (.int 0))) (eC (.str "a")))) (eCall f_law_pairs (aCons (eSl (eVar 1) (oAt (eC (.int 1))) oNo) aNil)) (eC .none)))
    (sSeq (sIf (tOrM (tOf (eBin isD (eVar 2) (eC .none))) (tOrM (tOf (eBin eqD (eBin ixD (eVar 2) (eC (.int 1))) (eLst aNil))) (tOf (eBin neD (eBin ixD (eBin ixD (eVar 2) (eC (.int 1))) (eC (.int 0))) (eC (.str "b")))))) (sRet (eC .none)) sSkip)
    (sSeq (sSet 3 (eCall f_law_pairs (aCons (eSl (eBin ixD (eVar 2) (eC (.int 1))) (oAt (eC (.int 1))) oNo) aNil)))
    (sSeq (sIf (tOf (eBin isD (eVar 3) (eC .none))) (sRet (eC .none)) sSkip)
    (sSeq (sPar2 1 4 (eBin ixD (eVar 3) (eC (.int 1))) (eLst (aCons (eC .none) (aCons (eC (.bool false)) aNil))))
    (sSeq (sIf (tAndM (tOf (eBin neD (eVar 1) (eLst aNil))) (tOf (eBin eqD (eBin ixD (eVar 1) (eC (.int 0))) (eC (.str "ends"))))) (sSeq (sSet 5 (eCall f_law_after (aCons (eVar 1) (aCons (eC (.str "ends")) (aCons (eC (.int 0)) (aCons (eC (.int 40)) aNil))))))
    (sSeq (sIf (tOf (eBin isD (eVar 5) (eC .none))) (sRet (eC .none)) sSkip)
    (sSubNm 4 0 1 (eVar 5)))) sSkip)
    (sSeq (sSet 6 (eLst aNil))
    (sSeq (sFor (gTp (gsCons (gNm 7) (gsCons (gNm 8) (gsCons (gNm 9) gsNil)))) (iOf (eTup (aCons (eTup (aCons (eC (.str "night")) (aCons (eC (.int 0)) (aCons (eC (.int 40)) aNil)))) (aCons (eTup (aCons (eC (.str "meal")) (aCons (eC (.int 0)) (aCons (eC (.int 40)) aNil)))) (aCons (eTup (aCons (eC (.str "least")) (aCons (eC (.int 0)) (aCons (eC (.int 24)) aNil)))) (aCons (eTup (aCons (eC (.str "cap")) (aCons (eC (.int 1)) (aCons (eC (.int 400)) aNil)))) aNil)))))) law_read_b1)
    (sSeq (sIf (tOf (eBin neD (eVar 1) (eLst aNil))) (sRet (eC .none)) sSkip)
    (sRet (eTup (aCons (eTup (aCons (eBin ixD (eVar 2) (eC (.int 0))) (aCons (eBin ixD (eVar 3) (eC (.int 0))) aNil))) (aCons (ePeek (eBin ixD (eVar 4) (eC (.int 0)))) (aCons (ePeek (eBin ixD (eVar 6) (eC (.int 0)))) (aCons (ePeek (eBin ixD (eVar 6) (eC (.int 1)))) (aCons (ePeek (eBin ixD (eVar 4) (eC (.int 1)))) (aCons (ePeek (eBin ixD (eVar 6) (eC (.int 2)))) (aCons (ePeek (eBin ixD (eVar 6) (eC (.int 3)))) aNil)))))))))))))))))))
def f_law_read : FnS := mkFn 10 1 b_law_read

/-! ### law_due -/
-- slots: 0 text, 1 found, 2 place, 3 line, 4 one
def law_due_b1 : SM := (sSeq (sSet 4 (eCall f_law_read (aCons (eVar 3) aNil)))
    (sSeq (sIf (tOf (eBin isD (eVar 4) (eC .none))) (sRet (eBin addD (eVar 2) (eC (.int 1)))) sSkip)
    (sSet 1 (eBin addD (eVar 1) (eTup (aCons (eVar 4) aNil))))))
def b_law_due : SM :=
    (sSeq (sSet 1 (eTup aNil))
    (sSeq (sFor (gTp (gsCons (gNm 2) (gsCons (gNm 3) gsNil))) (iEnumD (aCons (eIf (tOf (eBin neD (eVar 0) (eC (.str "")))) (eM1 splitD (eVar 0) (eC (.str "\n"))) (eLst aNil)) aNil)) law_due_b1)
    (sRet (eVar 1))))
def f_law_due : FnS := mkFn 5 1 b_law_due

/-! ### law_told -/
-- slots: 0 text, 1 e
def f_law_told : FnS := toldF f_read_rules "InvalidText" "line"

/-! ### law_k17 -/
-- slots: 0 script, 1 k, 2 deck, 3 some, 4 lines, 5 text, 6 turn, 7 at, 8 sign, 9 new, 10 odd, 11 good, 12 wrong, 13 tail, 14 r, 15 head
def law_k17_e1 : EM := (eCall f_law_text (aCons (eVar 14) aNil))
def law_k17_e2 : EM := (eCall f_rule_text (aCons (eVar 14) aNil))
def law_k17_b3 : SM := (sSeq (sSet 7 (eCallI 2 f_law_pick (aCons (eBin addD (eB lenD (aCons (eVar 5) aNil)) (eC (.int 1))) aNil)))
    (sSeq (sSet 8 (eCallI 2 f_law_one (aCons (eLst (aCons (eC (.str " ")) (aCons (eC (.str "1")) (aCons (eC (.str "0")) (aCons (eC (.str "9")) (aCons (eC (.str ":")) (aCons (eC (.str "\n")) (aCons (eC (.str "")) (aCons (eC (.str "join ")) (aCons (eC (.str " ends 3")) (aCons (eC (.str " b")) (aCons (eC (.str " 9:1")) (aCons (eC (.str "a ")) aNil))))))))))))) aNil)))
    (sSeq (sSet 9 (eBin addD (eBin addD (eSl (eVar 5) oNo (oAt (eVar 7))) (eVar 8)) (eSl (eVar 5) (oAt (eBin addD (eVar 7) (eCallI 2 f_law_pick (aCons (eC (.int 2)) aNil)))) oNo)))
    (sIf (tNotM (tOf (eCall (f_law_same 12) (aCons (eCall f_law_told (aCons (eVar 9) aNil)) (aCons (eCall f_law_due (aCons (eVar 9) aNil)) aNil))))) (sRet (eC (.bool false))) sSkip))))
def law_k17_b4 : SM := (sSeq (sSet 2 (eCall f_law_deck (aCons (eBin ixD (eScr 0 (eBin mulD (eLst (aCons (eC (.int 0)) aNil)) (eC (.int 8)))) (eVar 1)) (aCons (eVar 1) aNil))))
    (sSeq (sSet 3 (eB tupleD (aCons (eLc [6] (gNm 6) (iRange1 (eCallI 2 f_law_pick (aCons (eC (.int 5)) aNil))) tTrue (eCallI 2 f_law_rule aNil)) aNil)))
    (sSeq (sSet 4 (eLc [14] (gNm 14) (iOf (eVar 3)) tTrue law_k17_e1))
    (sSeq (sIf (tOrM (tOf (eBin neD (eLc [14] (gNm 14) (iOf (eVar 3)) tTrue law_k17_e2) (eVar 4))) (tNotM (tOf (eCall (f_law_same 12) (aCons (eCall f_law_told (aCons (eM1 joinD (eC (.str "\n")) (eVar 4)) aNil)) (aCons (eVar 3) aNil)))))) (sRet (eC (.bool false))) sSkip)
    (sSeq (sSet 5 (eM1 joinD (eC (.str "\n")) (eVar 4)))
    (sFor (gNm 6) (iRange1 (eC (.int 6))) law_k17_b3))))))
def law_k17_l5 : EM := (eCall f_read_rules (aCons (eVar 10) aNil))
def law_k17_b6 : SM := (sIf (tOrM (tOf (eBin neD (eCall f_law_told (aCons (eVar 10) aNil)) (eC (.int 0)))) (tOf (eBin neD (eTry nameOf law_k17_l5) (eC (.str "Text+"))))) (sRet (eC (.bool false))) sSkip)
def law_k17_e7 : EM := (eBin addD (eVar 15) (eVar 13))
def law_k17_e8 : EM := (eBin addD (eVar 15) (eVar 13))
def law_k17_b9 : SM := (sIf (tOf (eBin neD (eCall f_law_told (aCons (eBin addD (eBin addD (eVar 11) (eC (.str "\n"))) (eVar 10)) aNil)) (eC (.int 2)))) (sRet (eC (.bool false))) sSkip)
def b_law_k17 : SM :=
    (sSeq (sFor (gNm 1) (iRange1 (eC (.int 8))) law_k17_b4)
    (sSeq (sFor (gNm 10) (iOf (eTup (aCons (eC .none) (aCons (eC (.int 3)) (aCons (eLst aNil) (aCons (eTup aNil) aNil)))))) law_k17_b6)
    (sSeq (sSet 11 (eC (.str "a 8:6 b 8:10 night 20 meal 4 least 8 cap 400")))
    (sSeq (sSet 12 (eLst (aCons (eC (.str "a b 8:10 night 20 meal 4 least 8 cap 400")) (aCons (eC (.str "a 8:6 b 8:10 meal 4 night 20 least 8 cap 400")) (aCons (eBin addD (eVar 11) (eC (.str " "))) aNil)))))
    (sSeq (sSet 13 (eC (.str " night 20 meal 4 least 8 cap 400")))
    (sSeq (sSet 12 (eBin addD (eVar 12) (eLc [15] (gNm 15) (iOf (eLst (aCons (eC (.str "a 8:6 8:7 b 8:10")) (aCons (eC (.str "a 08:6 b 8:10")) (aCons (eC (.str "a 8:6 b 8:10 ends")) (aCons (eC (.str "a 8:6 b")) aNil)))))) tTrue law_k17_e7)))
    (sSeq (sSet 12 (eBin addD (eVar 12) (eLc [15] (gNm 15) (iOf (eLst (aCons (eC (.str "b 8:6 a 8:10")) (aCons (eC (.str "a 8:6:1 b 8:10")) (aCons (eC (.str "a 8: b 8:10")) (aCons (eC (.str "a 8:41 b 8:10")) aNil)))))) tTrue law_k17_e8)))
    (sSeq (sFor (gNm 10) (iOf (eBin addD (eVar 12) (eLst (aCons (eC (.str "a 8:6 b 8:10 night 20 meal 4 least 8 cap 0")) aNil)))) law_k17_b9)
    (sRet (eAnd (eBin eqD (eCall f_law_told (aCons (eBin addD (eVar 11) (eC (.str "\n"))) aNil)) (eC (.int 2))) (eAnd (eBin eqD (eCall f_law_told (aCons (eC (.str "")) aNil)) (eTup aNil)) (eBin eqD (eCall f_law_told (aCons (eC (.str "\n")) aNil)) (eC (.int 1))))))))))))))

end Sm

namespace Lk17
open PySem PySem.Spec PyProof.Rows L2 DL Sm
def topS (i : Nat) : Stmt := PySem.Challenge.pw_tripallowances_k17_rules_written_and_rea.main.body.getD i (.Pass ⟨0, 0, 0, 0⟩)
section
variable {P : Program} {w : World} {K : PySem.W.Frag} {mg : Str → Option Value} {base : Heap} {T : List (Addr × Str)}

/-! ### is_from -/
abbrev s_is_from : Stmt := topS 17
theorem sc_is_from : FnScope ["value", "low", "high"] ["value", "low", "high"] (defScope s_is_from) := ⟨rfl, rfl, rfl, by decide +kernel, rfl, by decide +kernel, by decide +kernel⟩
theorem ok_is_from (B : Bi mg)  {f : Addr} {fd : FuncData} (F : Fun K "is_from" "is_from" s_is_from f fd) (hm : mg "is_from" = some (.ref f)) (hb : Binds K fd ["value", "low", "high"] []) : Okf P w K mg base "is_from" ["value", "low", "high"] 1 (spD ⟨K, mg, T⟩ f_is_from) :=
  ⟨f, fd, hm, F.kp, hb, fn_def F sc_is_from rfl rfl (by decide) fun cdv A outer s H E hr =>
    (show PSs _ _ (dS _ _ b_is_from) from (ds_one (ds_ret (d_and (d_isi rfl B.isinstance rfl B.int (by decide +kernel) (d_var 0)) (d_and (d_not (d_isi rfl B.isinstance rfl B.bool (by decide +kernel) (d_var 0))) (d_one (d_chain op_le op_le ok_le ok_le imm_le (d_var 1) (d_var 0) (d_var 2))))))))⟩

/-! ### are_bands_of -/
abbrev s_are_bands_of : Stmt := topS 18
theorem sc_are_bands_of : FnScope ["value", "band", "one", "other"] ["value"] (defScope s_are_bands_of) := ⟨rfl, rfl, rfl, by decide +kernel, rfl, by decide +kernel, by decide +kernel⟩
theorem ok_are_bands_of (B : Bi mg) (o_is_from : Okf P w K mg base "is_from" ["value", "low", "high"] 1 (spD ⟨K, mg, T⟩ f_is_from)) {t_HOURS : Tok} (c_HOURS : mg "HOURS" = some (.int 24 t_HOURS)) {t_MOST_AMOUNT : Tok} (c_MOST_AMOUNT : mg "MOST_AMOUNT" = some (.int 40 t_MOST_AMOUNT)) {f : Addr} {fd : FuncData} (F : Fun K "are_bands_of" "are_bands_of" s_are_bands_of f fd) (hm : mg "are_bands_of" = some (.ref f)) (hb : Binds K fd ["value"] []) : Okf P w K mg base "are_bands_of" ["value"] 2 (spD ⟨K, mg, T⟩ f_are_bands_of) :=
  ⟨f, fd, hm, F.kp, hb, fn_def F sc_are_bands_of rfl rfl (by decide) fun cdv A outer s H E hr =>
    (show PSs _ _ (dS _ _ b_are_bands_of) from (ds_cons (ds_if (PW.pt (dw_or (dt_not (dt_val (d_isi rfl B.isinstance rfl B.tuple (by decide +kernel) (d_var 0)))) (dw_or1 (dt_not (dt_chain op_le op_le ok_le ok_le imm_le d_int (g_len rfl B.len (da_cons (d_var 0) da_nil)) d_int))))) (ds_one (ds_ret d_bl)) ds_nil)
    (ds_cons (ds_for (passes_of rfl) rfl (di_of rfl (d_var 0)) (dg_name sc_are_bands_of.nd rfl (by first | exact Or.inl rfl | exact Or.inr rfl)) (show PSs _ _ (dS _ _ are_bands_of_b1) from (ds_cons (ds_if (PW.pt (dw_or (dt_not (dt_val (d_isi rfl B.isinstance rfl B.tuple (by decide +kernel) (d_var 1)))) (dw_or1 (dt_cmp (op_neD hr.units) ok_ne (g_len rfl B.len (da_cons (d_var 1) da_nil)) d_int (nomark _))))) (ds_one (ds_ret d_bl)) ds_nil)
    (ds_one (ds_if (PW.pt (dw_or (dt_not (dt_val (d_callO o_is_from (hr.mono (by decide)) (L2N.passes_call (L2N.takes_of rfl rfl rfl rfl) (fun _ _ _ _ h => h)) (da_cons (g_ix (d_var 1) d_int) (da_cons d_int (da_cons (d_gInt rfl c_HOURS) da_nil)))))) (dw_or1 (dt_not (dt_val (d_callO o_is_from (hr.mono (by decide)) (L2N.passes_call (L2N.takes_of rfl rfl rfl rfl) (fun _ _ _ _ h => h)) (da_cons (g_ix (d_var 1) d_int) (da_cons d_int (da_cons (d_gInt rfl c_MOST_AMOUNT) da_nil))))))))) (ds_one (ds_ret d_bl)) ds_nil)))))
    (ds_one (ds_ret (g_all rfl rfl B.all (da_cons (d_lc (own := [("one", 2), ("other", 3)]) rfl sc_are_bands_of.nd (di_zip rfl B.zip (da_cons (d_var 0) (da_cons (d_sl (d_var 0) (do_at d_int) do_no) da_nil))) (blkOk_by (N := ["value", "band", "one", "other"]) (sc := defScope s_are_bands_of) (by decide +kernel)) (by decide) (fun _ _ _ _ _ => (dg_tup rfl (dgs_cons (dg_name sc_are_bands_of.nd rfl (by first | exact Or.inl rfl | exact Or.inr rfl)) (dgs_cons (dg_name sc_are_bands_of.nd rfl (by first | exact Or.inl rfl | exact Or.inr rfl)) dgs_nil)))) (fun _ _ _ _ _ => dts_nil) (fun _ _ _ _ _ => (d_cmp op_lt ok_lt (g_ix (d_var 2) d_int) (g_ix (d_var 3) d_int) (nomark _)))) da_nil)))))))⟩

/-! ### is_rule_of -/
abbrev s_is_rule_of : Stmt := topS 19
theorem sc_is_rule_of : FnScope ["value", "bands", "ends", "night", "meal", "join", "least", "cap", "one"] ["value"] (defScope s_is_rule_of) := ⟨rfl, rfl, rfl, by decide +kernel, rfl, by decide +kernel, by decide +kernel⟩
theorem ok_is_rule_of (B : Bi mg) (o_are_bands_of : Okf P w K mg base "are_bands_of" ["value"] 2 (spD ⟨K, mg, T⟩ f_are_bands_of)) (o_is_from : Okf P w K mg base "is_from" ["value", "low", "high"] 1 (spD ⟨K, mg, T⟩ f_is_from)) {t_MOST_AMOUNT : Tok} (c_MOST_AMOUNT : mg "MOST_AMOUNT" = some (.int 40 t_MOST_AMOUNT)) {t_HOURS : Tok} (c_HOURS : mg "HOURS" = some (.int 24 t_HOURS)) {t_MOST_CAP : Tok} (c_MOST_CAP : mg "MOST_CAP" = some (.int 400 t_MOST_CAP)) {f : Addr} {fd : FuncData} (F : Fun K "is_rule_of" "is_rule_of" s_is_rule_of f fd) (hm : mg "is_rule_of" = some (.ref f)) (hb : Binds K fd ["value"] []) : Okf P w K mg base "is_rule_of" ["value"] 3 (spD ⟨K, mg, T⟩ f_is_rule_of) :=
  ⟨f, fd, hm, F.kp, hb, fn_def F sc_is_rule_of rfl rfl (by decide) fun cdv A outer s H E hr =>
    (show PSs _ _ (dS _ _ b_is_rule_of) from (ds_cons (ds_if (PW.pt (dw_or (dt_not (dt_val (d_isi rfl B.isinstance rfl B.tuple (by decide +kernel) (d_var 0)))) (dw_or1 (dt_cmp (op_neD hr.units) ok_ne (g_len rfl B.len (da_cons (d_var 0) da_nil)) d_int (nomark _))))) (ds_one (ds_ret d_bl)) ds_nil)
    (ds_cons (ds_unp (d_var 0) (dg_tup rfl (dgs_cons (dg_name sc_is_rule_of.nd rfl (by first | exact Or.inl rfl | exact Or.inr rfl)) (dgs_cons (dg_name sc_is_rule_of.nd rfl (by first | exact Or.inl rfl | exact Or.inr rfl)) (dgs_cons (dg_name sc_is_rule_of.nd rfl (by first | exact Or.inl rfl | exact Or.inr rfl)) (dgs_cons (dg_name sc_is_rule_of.nd rfl (by first | exact Or.inl rfl | exact Or.inr rfl)) (dgs_cons (dg_name sc_is_rule_of.nd rfl (by first | exact Or.inl rfl | exact Or.inr rfl)) (dgs_cons (dg_name sc_is_rule_of.nd rfl (by first | exact Or.inl rfl | exact Or.inr rfl)) (dgs_cons (dg_name sc_is_rule_of.nd rfl (by first | exact Or.inl rfl | exact Or.inr rfl)) dgs_nil)))))))))
    (ds_cons (ds_if (PW.pt (dw_or (dt_not (dt_val (d_isi rfl B.isinstance rfl B.tuple (by decide +kernel) (d_var 1)))) (dw_or (dt_cmp (op_neD hr.units) ok_ne (g_len rfl B.len (da_cons (d_var 1) da_nil)) d_int (nomark _)) (dw_or1 (dt_not (dt_val (g_all rfl rfl B.all (da_cons (d_lc (own := [("one", 8)]) rfl sc_is_rule_of.nd (di_of rfl (d_var 1)) (blkOk_by (N := ["value", "bands", "ends", "night", "meal", "join", "least", "cap", "one"]) (sc := defScope s_is_rule_of) (by decide +kernel)) (by decide) (fun _ _ _ _ _ => (dg_name sc_is_rule_of.nd rfl (by first | exact Or.inl rfl | exact Or.inr rfl))) (fun _ _ _ _ _ => dts_nil) (fun _ _ _ _ _ => (d_callO o_are_bands_of (hr.mono (by decide)) passes0N (da_cons (d_var 8) da_nil)))) da_nil)))))))) (ds_one (ds_ret d_bl)) ds_nil)
    (ds_cons (ds_if (PW.pt (dw_and (dt_cmp (OpR.or op_notN op_isnot_bl) ok_isnt (d_var 2) d_non (nomark _)) (dw_and1 (dt_not (dt_val (d_callO o_is_from (hr.mono (by decide)) (L2N.passes_call (L2N.takes_of rfl rfl rfl rfl) (fun _ _ _ _ h => h)) (da_cons (d_var 2) (da_cons d_int (da_cons (d_gInt rfl c_MOST_AMOUNT) da_nil))))))))) (ds_one (ds_ret d_bl)) ds_nil)
    (ds_cons (ds_if (PW.pt (dw_or (dt_not (dt_val (d_callO o_is_from (hr.mono (by decide)) (L2N.passes_call (L2N.takes_of rfl rfl rfl rfl) (fun _ _ _ _ h => h)) (da_cons (d_var 3) (da_cons d_int (da_cons (d_gInt rfl c_MOST_AMOUNT) da_nil)))))) (dw_or (dt_not (dt_val (d_callO o_is_from (hr.mono (by decide)) (L2N.passes_call (L2N.takes_of rfl rfl rfl rfl) (fun _ _ _ _ h => h)) (da_cons (d_var 4) (da_cons d_int (da_cons (d_gInt rfl c_MOST_AMOUNT) da_nil)))))) (dw_or1 (dt_not (dt_val (d_isi rfl B.isinstance rfl B.bool (by decide +kernel) (d_var 5)))))))) (ds_one (ds_ret d_bl)) ds_nil)
    (ds_one (ds_ret (d_and (d_callO o_is_from (hr.mono (by decide)) (L2N.passes_call (L2N.takes_of rfl rfl rfl rfl) (fun _ _ _ _ h => h)) (da_cons (d_var 6) (da_cons d_int (da_cons (d_gInt rfl c_HOURS) da_nil)))) (d_one (d_callO o_is_from (hr.mono (by decide)) (L2N.passes_call (L2N.takes_of rfl rfl rfl rfl) (fun _ _ _ _ h => h)) (da_cons (d_var 7) (da_cons d_int (da_cons (d_gInt rfl c_MOST_CAP) da_nil))))))))))))))⟩

/-! ### need_rule -/
abbrev s_need_rule : Stmt := topS 20
theorem sc_need_rule : FnScope ["value"] ["value"] (defScope s_need_rule) := ⟨rfl, rfl, rfl, by decide +kernel, rfl, by decide +kernel, by decide +kernel⟩
theorem ok_need_rule (B : Bi mg) (o_is_rule_of : Okf P w K mg base "is_rule_of" ["value"] 3 (spD ⟨K, mg, T⟩ f_is_rule_of)) (x_InvalidRule : Xok K mg "InvalidRule") {f : Addr} {fd : FuncData} (F : Fun K "need_rule" "need_rule" s_need_rule f fd) (hm : mg "need_rule" = some (.ref f)) (hb : Binds K fd ["value"] []) : Okf P w K mg base "need_rule" ["value"] 4 (spD ⟨K, mg, T⟩ f_need_rule) :=
  ⟨f, fd, hm, F.kp, hb, fn_def F sc_need_rule rfl rfl (by decide) fun cdv A outer s H E hr =>
    (show PSs _ _ (dS _ _ b_need_rule) from (ds_one (ds_if (dt_not (dt_val (d_callO o_is_rule_of (hr.mono (by decide)) (L2N.passes_call (L2N.takes_of rfl rfl rfl rfl) (fun _ _ _ _ h => h)) (da_cons (d_var 0) da_nil)))) (ds_one (ds_raise rfl rfl (L2N.takes_of rfl rfl rfl rfl) x_InvalidRule rfl)) ds_nil)))⟩

/-! ### rule_text -/
abbrev s_rule_text : Stmt := topS 23
theorem sc_rule_text : FnScope ["rule", "bands", "ends", "night", "meal", "join", "least", "cap", "words", "word", "some", "hours", "amount"] ["rule"] (defScope s_rule_text) := ⟨rfl, rfl, rfl, by decide +kernel, rfl, by decide +kernel, by decide +kernel⟩
theorem ok_rule_text (B : Bi mg) (o_need_rule : Okf P w K mg base "need_rule" ["value"] 4 (spD ⟨K, mg, T⟩ f_need_rule)) {f : Addr} {fd : FuncData} (F : Fun K "rule_text" "rule_text" s_rule_text f fd) (hm : mg "rule_text" = some (.ref f)) (hb : Binds K fd ["rule"] []) : Okf P w K mg base "rule_text" ["rule"] 5 (spD ⟨K, mg, T⟩ f_rule_text) :=
  ⟨f, fd, hm, F.kp, hb, fn_def F sc_rule_text rfl rfl (by decide) fun cdv A outer s H E hr =>
    (show PSs _ _ (dS _ _ b_rule_text) from (ds_cons (ds_expr (d_callO o_need_rule (hr.mono (by decide)) (L2N.passes_call (L2N.takes_of rfl rfl rfl rfl) (fun _ _ _ _ h => h)) (da_cons (d_var 0) da_nil)))
    (ds_cons (ds_unp (d_var 0) (dg_tup rfl (dgs_cons (dg_name sc_rule_text.nd rfl (by first | exact Or.inl rfl | exact Or.inr rfl)) (dgs_cons (dg_name sc_rule_text.nd rfl (by first | exact Or.inl rfl | exact Or.inr rfl)) (dgs_cons (dg_name sc_rule_text.nd rfl (by first | exact Or.inl rfl | exact Or.inr rfl)) (dgs_cons (dg_name sc_rule_text.nd rfl (by first | exact Or.inl rfl | exact Or.inr rfl)) (dgs_cons (dg_name sc_rule_text.nd rfl (by first | exact Or.inl rfl | exact Or.inr rfl)) (dgs_cons (dg_name sc_rule_text.nd rfl (by first | exact Or.inl rfl | exact Or.inr rfl)) (dgs_cons (dg_name sc_rule_text.nd rfl (by first | exact Or.inl rfl | exact Or.inr rfl)) dgs_nil)))))))))
    (ds_cons (ds_set (i := 8) sc_rule_text.nd rfl (by first | exact Or.inl rfl | exact Or.inr rfl) (d_lst da_nil))
    (ds_cons (ds_for (passes_of rfl) rfl (di_zipS rfl B.zip (da_cons d_str (da_cons (d_var 1) da_nil))) (dg_tup rfl (dgs_cons (dg_name sc_rule_text.nd rfl (by first | exact Or.inl rfl | exact Or.inr rfl)) (dgs_cons (dg_name sc_rule_text.nd rfl (by first | exact Or.inl rfl | exact Or.inr rfl)) dgs_nil))) (show PSs _ _ (dS _ _ rule_text_b2) from (ds_one (ds_set (i := 8) sc_rule_text.nd rfl (by first | exact Or.inl rfl | exact Or.inr rfl) (g_add (g_add (d_var 8) (d_lst (da_cons (d_var 9) da_nil))) (d_lc (own := [("hours", 11), ("amount", 12)]) rfl sc_rule_text.nd (di_of rfl (d_var 10)) (blkOk_by (N := ["rule", "bands", "ends", "night", "meal", "join", "least", "cap", "words", "word", "some", "hours", "amount"]) (sc := defScope s_rule_text) (by decide +kernel)) (by decide) (fun _ _ _ _ _ => (dg_tup rfl (dgs_cons (dg_name sc_rule_text.nd rfl (by first | exact Or.inl rfl | exact Or.inr rfl)) (dgs_cons (dg_name sc_rule_text.nd rfl (by first | exact Or.inl rfl | exact Or.inr rfl)) dgs_nil)))) (fun _ _ _ _ _ => dts_nil) (fun _ _ _ _ _ => (d_js (fs := [(eUn fmtD (eVar 11)), (eC (.str ":")), (eUn fmtD (eVar 12))]) (PJ.cons (d_fmt (d_var 11)) (PJ.cons d_str (PJ.cons (d_fmt (d_var 12)) PJ.nil)))))))))))
    (ds_cons (ds_set (i := 8) sc_rule_text.nd rfl (by first | exact Or.inl rfl | exact Or.inr rfl) (g_add (d_var 8) (d_if (dt_cmp (OpR.or op_notN op_isnot_bl) ok_isnt (d_var 2) d_non (nomark _)) (d_lst (da_cons d_str (da_cons (g_strI rfl B.str (da_cons (d_var 2) da_nil)) da_nil))) (d_lst da_nil))))
    (ds_cons (ds_set (i := 8) sc_rule_text.nd rfl (by first | exact Or.inl rfl | exact Or.inr rfl) (g_add (g_add (d_var 8) (d_lst (da_cons d_str (da_cons (g_strI rfl B.str (da_cons (d_var 3) da_nil)) (da_cons d_str (da_cons (g_strI rfl B.str (da_cons (d_var 4) da_nil)) da_nil)))))) (d_if (dt_val (d_var 5)) (d_lst (da_cons d_str da_nil)) (d_lst da_nil))))
    (ds_one (ds_ret (d_join d_str (g_add (d_var 8) (d_lst (da_cons d_str (da_cons (g_strI rfl B.str (da_cons (d_var 6) da_nil)) (da_cons d_str (da_cons (g_strI rfl B.str (da_cons (d_var 7) da_nil)) da_nil))))))))))))))))⟩

/-! ### number_in -/
abbrev s_number_in : Stmt := topS 24
theorem sc_number_in : FnScope ["word", "sign"] ["word"] (defScope s_number_in) := ⟨rfl, rfl, rfl, by decide +kernel, rfl, by decide +kernel, by decide +kernel⟩
theorem ok_number_in (B : Bi mg) {t_FIGURES : Tok} (c_FIGURES : mg "FIGURES" = some (.str "0123456789" t_FIGURES)) {f : Addr} {fd : FuncData} (F : Fun K "number_in" "number_in" s_number_in f fd) (hm : mg "number_in" = some (.ref f)) (hb : Binds K fd ["word"] []) : Okf P w K mg base "number_in" ["word"] 1 (spD ⟨K, mg, T⟩ f_number_in) :=
  ⟨f, fd, hm, F.kp, hb, fn_def F sc_number_in rfl rfl (by decide) fun cdv A outer s H E hr =>
    (show PSs _ _ (dS _ _ b_number_in) from (ds_cons (ds_if (PW.pt (dw_or (dt_not (dt_chain op_le op_le ok_le ok_le imm_le d_int (g_len rfl B.len (da_cons (d_var 0) da_nil)) d_int)) (dw_or1 (dt_not (dt_val (g_all rfl rfl B.all (da_cons (d_lc (own := [("sign", 1)]) rfl sc_number_in.nd (di_of rfl (d_var 0)) (blkOk_by (N := ["word", "sign"]) (sc := defScope s_number_in) (by decide +kernel)) (by decide) (fun _ _ _ _ _ => (dg_name sc_number_in.nd rfl (by first | exact Or.inl rfl | exact Or.inr rfl))) (fun _ _ _ _ _ => dts_nil) (fun _ _ _ _ _ => (d_cmp (OpR.or op_in_str op_in_seq) ok_in (d_var 1) (d_gStr rfl c_FIGURES) rfl))) da_nil))))))) (ds_one (ds_ret d_non)) ds_nil)
    (ds_one (ds_ret (d_if (dt_cmp (op_eqD hr.units) ok_eq (g_strI rfl B.str (da_cons (g_intT rfl B.int (da_cons (d_var 0) da_nil)) da_nil)) (d_var 0) (nomark _)) (g_intT rfl B.int (da_cons (d_var 0) da_nil)) d_non)))))⟩

/-! ### bands_in -/
abbrev s_bands_in : Stmt := topS 25
theorem sc_bands_in : FnScope ["words", "found", "word", "parts", "part"] ["words"] (defScope s_bands_in) := ⟨rfl, rfl, rfl, by decide +kernel, rfl, by decide +kernel, by decide +kernel⟩
theorem ok_bands_in (B : Bi mg) (o_number_in : Okf P w K mg base "number_in" ["word"] 1 (spD ⟨K, mg, T⟩ f_number_in)) {f : Addr} {fd : FuncData} (F : Fun K "bands_in" "bands_in" s_bands_in f fd) (hm : mg "bands_in" = some (.ref f)) (hb : Binds K fd ["words"] []) : Okf P w K mg base "bands_in" ["words"] 2 (spD ⟨K, mg, T⟩ f_bands_in) :=
  ⟨f, fd, hm, F.kp, hb, fn_def F sc_bands_in rfl rfl (by decide) fun cdv A outer s H E hr =>
    (show PSs _ _ (dS _ _ b_bands_in) from (ds_cons (ds_set (i := 1) sc_bands_in.nd rfl (by first | exact Or.inl rfl | exact Or.inr rfl) (d_tup da_nil))
    (ds_cons (ds_for (passes_of rfl) rfl (di_of rfl (d_var 0)) (dg_name sc_bands_in.nd rfl (by first | exact Or.inl rfl | exact Or.inr rfl)) (show PSs _ _ (dS _ _ bands_in_b2) from (ds_cons (ds_set (i := 3) sc_bands_in.nd rfl (by first | exact Or.inl rfl | exact Or.inr rfl) (d_split (d_var 2) d_str))
    (ds_one (ds_set (i := 1) sc_bands_in.nd rfl (by first | exact Or.inl rfl | exact Or.inr rfl) (g_add (d_var 1) (d_tup (da_cons (g_tuple rfl B.tuple (da_cons (d_lc (own := [("part", 4)]) rfl sc_bands_in.nd (di_of rfl (d_var 3)) (blkOk_by (N := ["words", "found", "word", "parts", "part"]) (sc := defScope s_bands_in) (by decide +kernel)) (by decide) (fun _ _ _ _ _ => (dg_name sc_bands_in.nd rfl (by first | exact Or.inl rfl | exact Or.inr rfl))) (fun _ _ _ _ _ => dts_nil) (fun _ _ _ _ _ => (d_callO o_number_in (hr.mono (by decide)) passes0N (da_cons (d_var 4) da_nil)))) da_nil)) da_nil))))))))
    (ds_one (ds_ret (d_var 1))))))⟩

/-! ### rule_in -/
abbrev s_rule_in : Stmt := topS 26
theorem sc_rule_in : FnScope ["line", "words", "second", "night", "join", "ends", "last", "bands", "numbers", "rule", "at"] ["line"] (defScope s_rule_in) := ⟨rfl, rfl, rfl, by decide +kernel, rfl, by decide +kernel, by decide +kernel⟩
theorem ok_rule_in (B : Bi mg) (o_number_in : Okf P w K mg base "number_in" ["word"] 1 (spD ⟨K, mg, T⟩ f_number_in)) (o_bands_in : Okf P w K mg base "bands_in" ["words"] 2 (spD ⟨K, mg, T⟩ f_bands_in)) (o_is_rule_of : Okf P w K mg base "is_rule_of" ["value"] 3 (spD ⟨K, mg, T⟩ f_is_rule_of)) (o_rule_text : Okf P w K mg base "rule_text" ["rule"] 5 (spD ⟨K, mg, T⟩ f_rule_text)) {f : Addr} {fd : FuncData} (F : Fun K "rule_in" "rule_in" s_rule_in f fd) (hm : mg "rule_in" = some (.ref f)) (hb : Binds K fd ["line"] []) : Okf P w K mg base "rule_in" ["line"] 6 (spD ⟨K, mg, T⟩ f_rule_in) :=
  ⟨f, fd, hm, F.kp, hb, fn_def F sc_rule_in rfl rfl (by decide) fun cdv A outer s H E hr =>
    (show PSs _ _ (dS _ _ b_rule_in) from (ds_cons (ds_set (i := 1) sc_rule_in.nd rfl (by first | exact Or.inl rfl | exact Or.inr rfl) (d_split (d_var 0) d_str))
    (ds_cons (ds_if (PW.pt (dw_or (dt_cmp op_lt ok_lt (g_len rfl B.len (da_cons (d_var 1) da_nil)) d_int (nomark _)) (dw_or (dt_cmp (op_neD hr.units) ok_ne (g_ix (d_var 1) d_int) d_str (nomark _)) (dw_or (dt_cmp (OpR.or op_notIn_str op_notIn_seq) ok_notIn d_str (d_var 1) rfl) (dw_or1 (dt_cmp (OpR.or op_notIn_str op_notIn_seq) ok_notIn d_str (d_var 1) rfl)))))) (ds_one (ds_ret d_non)) ds_nil)
    (ds_cons (ds_par2 (i := 2) (j := 3) rfl sc_rule_in.nd rfl rfl (by decide) rfl rfl (d_lindex rfl (d_var 1) d_str) (d_lindex rfl (d_var 1) d_str) (by first | rfl | decide +kernel))
    (ds_cons (ds_set (i := 4) sc_rule_in.nd rfl (by first | exact Or.inl rfl | exact Or.inr rfl) (d_if (dt_cmp (op_eqD hr.units) ok_eq (g_ix (d_var 1) (g_neg d_int)) d_str (nomark _)) d_int d_int))
    (ds_cons (ds_set (i := 5) sc_rule_in.nd rfl (by first | exact Or.inl rfl | exact Or.inr rfl) (d_if (dt_cmp (op_eqD hr.units) ok_eq (g_ix (d_var 1) (g_sub (d_var 3) d_int)) d_str (nomark _)) (d_callO o_number_in (hr.mono (by decide)) (L2N.passes_call (L2N.takes_of rfl rfl rfl rfl) (fun _ _ _ _ h => h)) (da_cons (g_ix (d_var 1) (g_sub (d_var 3) d_int)) da_nil)) d_non))
    (ds_cons (ds_set (i := 6) sc_rule_in.nd rfl (by first | exact Or.inl rfl | exact Or.inr rfl) (d_if (dt_cmp (op_eqD hr.units) ok_eq (g_ix (d_var 1) (g_sub (d_var 3) d_int)) d_str (nomark _)) (g_sub (d_var 3) d_int) (d_var 3)))
    (ds_cons (ds_set (i := 7) sc_rule_in.nd rfl (by first | exact Or.inl rfl | exact Or.inr rfl) (d_tup (da_cons (d_callO o_bands_in (hr.mono (by decide)) (L2N.passes_call (L2N.takes_of rfl rfl rfl rfl) (fun _ _ _ _ h => h)) (da_cons (d_sl (d_var 1) (do_at d_int) (do_at (d_var 2))) da_nil)) (da_cons (d_callO o_bands_in (hr.mono (by decide)) (L2N.passes_call (L2N.takes_of rfl rfl rfl rfl) (fun _ _ _ _ h => h)) (da_cons (d_sl (d_var 1) (do_at (g_add (d_var 2) d_int)) (do_at (d_var 6))) da_nil)) da_nil))))
    (ds_cons (ds_if (dt_cmp (op_neD hr.units) ok_ne (g_len rfl B.len (da_cons (d_var 1) da_nil)) (g_add (g_add (d_var 3) d_int) (d_var 4)) (nomark _)) (ds_one (ds_ret d_non)) ds_nil)
    (ds_cons (ds_setLc (j := 8) (own := [("at", 10)]) rfl sc_rule_in.nd rfl rfl (sw_true rfl rfl rfl (by decide +kernel)) (di_of rfl (d_tup (da_cons (g_add (d_var 3) d_int) (da_cons (g_add (d_var 3) d_int) (da_cons (g_neg d_int) (da_cons (g_neg d_int) da_nil)))))) (blkOk_by (N := ["line", "words", "second", "night", "join", "ends", "last", "bands", "numbers", "rule", "at"]) (sc := defScope s_rule_in) (by decide +kernel)) (by decide) (fun _ _ _ _ _ => (dg_name sc_rule_in.nd rfl (by first | exact Or.inl rfl | exact Or.inr rfl))) (fun _ _ _ _ _ => dts_nil) (fun _ _ _ _ _ => (d_callO o_number_in (hr.mono (by decide)) passes0N (da_cons (g_ix (d_var 1) (d_var 10)) da_nil))))
    (ds_cons (ds_set (i := 9) sc_rule_in.nd rfl (by first | exact Or.inl rfl | exact Or.inr rfl) (d_tup (da_cons (d_var 7) (da_cons (d_var 5) (da_cons (g_ix (d_var 8) d_int) (da_cons (g_ix (d_var 8) d_int) (da_cons (d_cmp (op_eqD hr.units) ok_eq (d_var 4) d_int (nomark _)) (da_cons (g_ix (d_var 8) d_int) (da_cons (g_ix (d_var 8) d_int) da_nil)))))))))
    (ds_one (ds_ret (d_if (PW.pt (dw_and (dt_val (d_callO o_is_rule_of (hr.mono (by decide)) (L2N.passes_call (L2N.takes_of rfl rfl rfl rfl) (fun _ _ _ _ h => h)) (da_cons (d_var 9) da_nil))) (dw_and1 (dt_cmp (op_eqD hr.units) ok_eq (d_callO o_rule_text (hr.mono (by decide)) (L2N.passes_call (L2N.takes_of rfl rfl rfl rfl) (fun _ _ _ _ h => h)) (da_cons (d_var 9) da_nil)) (d_var 0) (nomark _))))) (d_var 9) d_non))))))))))))))⟩

/-! ### read_rules -/
abbrev s_read_rules : Stmt := topS 27
theorem sc_read_rules : FnScope ["text", "found", "place", "line", "one"] ["text"] (defScope s_read_rules) := ⟨rfl, rfl, rfl, by decide +kernel, rfl, by decide +kernel, by decide +kernel⟩
theorem ok_read_rules (B : Bi mg) (o_rule_in : Okf P w K mg base "rule_in" ["line"] 6 (spD ⟨K, mg, T⟩ f_rule_in)) (xf_InvalidText : XokF P K mg "InvalidText" "line") {f : Addr} {fd : FuncData} (F : Fun K "read_rules" "read_rules" s_read_rules f fd) (hm : mg "read_rules" = some (.ref f)) (hb : Binds K fd ["text"] []) : Okf P w K mg base "read_rules" ["text"] 7 (spD ⟨K, mg, T⟩ f_read_rules) :=
  ⟨f, fd, hm, F.kp, hb, fn_def F sc_read_rules rfl rfl (by decide) fun cdv A outer s H E hr =>
    (show PSs _ _ (dS _ _ b_read_rules) from (ds_cons (ds_if (dt_not (dt_val (d_isi rfl B.isinstance rfl B.str (by decide +kernel) (d_var 0)))) (ds_one (ds_raiseF rfl rfl (L2N.takes_of rfl rfl rfl rfl) xf_InvalidText hr rfl (da_cons d_int da_nil))) ds_nil)
    (ds_cons (ds_set (i := 1) sc_read_rules.nd rfl (by first | exact Or.inl rfl | exact Or.inr rfl) (d_tup da_nil))
    (ds_cons (ds_for (passes_of rfl) rfl (di_enum rfl rfl B.enumerate (da_cons (d_if (dt_cmp (op_neD hr.units) ok_ne (d_var 0) d_str (nomark _)) (d_split (d_var 0) d_str) (d_lst da_nil)) da_nil)) (dg_tup rfl (dgs_cons (dg_name sc_read_rules.nd rfl (by first | exact Or.inl rfl | exact Or.inr rfl)) (dgs_cons (dg_name sc_read_rules.nd rfl (by first | exact Or.inl rfl | exact Or.inr rfl)) dgs_nil))) (show PSs _ _ (dS _ _ read_rules_b1) from (ds_cons (ds_set (i := 4) sc_read_rules.nd rfl (by first | exact Or.inl rfl | exact Or.inr rfl) (d_callO o_rule_in (hr.mono (by decide)) (L2N.passes_call (L2N.takes_of rfl rfl rfl rfl) (fun _ _ _ _ h => h)) (da_cons (d_var 3) da_nil)))
    (ds_cons (ds_if (dt_cmp (OpR.or op_isN op_is_bl) ok_is (d_var 4) d_non (nomark _)) (ds_one (ds_raiseF rfl rfl (L2N.takes_of rfl rfl rfl rfl) xf_InvalidText hr rfl (da_cons (g_add (d_var 2) d_int) da_nil))) ds_nil)
    (ds_one (ds_set (i := 1) sc_read_rules.nd rfl (by first | exact Or.inl rfl | exact Or.inr rfl) (g_add (d_var 1) (d_tup (da_cons (d_var 4) da_nil)))))))))
    (ds_one (ds_ret (d_var 1)))))))⟩

/-! ### _law_deck -/
abbrev s_law_deck : Stmt := topS 29
theorem sc_law_deck : FnScope ["cell", "turn"] ["cell", "turn"] (defScope s_law_deck) := ⟨rfl, rfl, rfl, by decide +kernel, rfl, by decide +kernel, by decide +kernel⟩
theorem ok_law_deck (B : Bi mg)  {f : Addr} {fd : FuncData} (F : Fun K "_law_deck" "_law_deck" s_law_deck f fd) (hm : mg "_law_deck" = some (.ref f)) (hb : Binds K fd ["cell", "turn"] []) : Okf P w K mg base "_law_deck" ["cell", "turn"] 1 (spD ⟨K, mg, T⟩ f_law_deck) :=
  ⟨f, fd, hm, F.kp, hb, fn_def F sc_law_deck rfl rfl (by decide) fun cdv A outer s H E hr =>
    (show PSs _ _ (dS _ _ b_law_deck) from (ds_cons (ds_if (dt_cmp op_ge ok_ge (d_var 0) (g_pow d_int d_int) (nomark _)) (ds_one (ds_ret (d_lst (da_cons (g_sub (d_var 0) (g_pow d_int d_int)) (da_cons (g_mod (g_int rfl B.int (da_cons (d_var 0) da_nil)) d_int) (da_cons (d_var 1) da_nil)))))) ds_nil)
    (ds_one (ds_ret (d_lst (da_cons d_int (da_cons (g_mod (g_int rfl B.int (da_cons (d_var 0) da_nil)) d_int) (da_cons (d_var 1) da_nil))))))))⟩

/-! ### _law_pick -/
abbrev s_law_pick : Stmt := topS 30
theorem sc_law_pick : FnScope ["deck", "limit", "found", "number"] ["deck", "limit"] (defScope s_law_pick) := ⟨rfl, rfl, rfl, by decide +kernel, rfl, by decide +kernel, by decide +kernel⟩
theorem ok_law_pick (B : Bi mg)  {f : Addr} {fd : FuncData} (F : Fun K "_law_pick" "_law_pick" s_law_pick f fd) (hm : mg "_law_pick" = some (.ref f)) (hb : Binds K fd ["deck", "limit"] []) : Okf P w K mg base "_law_pick" ["deck", "limit"] 1 (spI ⟨K, mg, T⟩ f_law_pick) :=
  ⟨f, fd, hm, F.kp, hb, fn_defI F sc_law_pick rfl rfl (by decide) fun cdv A outer s H E hr =>
    (show PSs _ _ (dS _ _ b_law_pick) from (ds_cons (ds_if (dt_cmp op_gt ok_gt (d_peek (g_ix (d_var 0) d_int)) d_int (nomark _)) (ds_cons (ds_set (i := 2) sc_law_pick.nd rfl (by first | exact Or.inl rfl | exact Or.inr rfl) (g_mod (g_int rfl B.int (da_cons (d_peek (g_ix (d_var 0) d_int)) da_nil)) (d_var 1)))
    (ds_cons (ds_putL (i := 0) rfl (by first | exact Or.inl rfl | exact Or.inr (Or.inl rfl)) d_int (g_fdiv (d_peek (g_ix (d_var 0) d_int)) (d_var 1)))
    (ds_one (ds_ret (d_var 2))))) ds_nil)
    (ds_cons (ds_putL (i := 0) rfl (by first | exact Or.inl rfl | exact Or.inr (Or.inl rfl)) d_int (g_add (d_peek (g_ix (d_var 0) d_int)) d_int))
    (ds_cons (ds_set (i := 3) sc_law_pick.nd rfl (by first | exact Or.inl rfl | exact Or.inr rfl) (g_mod (g_int rfl B.int (da_cons (g_pow (g_int rfl B.int (da_cons (g_add (d_peek (g_ix (d_var 0) d_int)) (g_mul d_int (d_peek (g_ix (d_var 0) d_int)))) da_nil)) d_int) da_nil)) d_int))
    (ds_cons (ds_set (i := 2) sc_law_pick.nd rfl (by first | exact Or.inl rfl | exact Or.inr rfl) (g_fdiv (g_mod (g_int rfl B.int (da_cons (g_pow (g_int rfl B.int (da_cons (g_add (d_var 3) (g_mul d_int (d_peek (g_ix (d_var 0) d_int)))) da_nil)) d_int) da_nil)) d_int) d_int))
    (ds_one (ds_ret (g_mod (g_int rfl B.int (da_cons (d_var 2) da_nil)) (d_var 1)))))))))⟩

/-! ### _law_one -/
abbrev s_law_one : Stmt := topS 31
theorem sc_law_one : FnScope ["deck", "some"] ["deck", "some"] (defScope s_law_one) := ⟨rfl, rfl, rfl, by decide +kernel, rfl, by decide +kernel, by decide +kernel⟩
theorem ok_law_one (B : Bi mg) (o_law_pick : Okf P w K mg base "_law_pick" ["deck", "limit"] 1 (spI ⟨K, mg, T⟩ f_law_pick)) {f : Addr} {fd : FuncData} (F : Fun K "_law_one" "_law_one" s_law_one f fd) (hm : mg "_law_one" = some (.ref f)) (hb : Binds K fd ["deck", "some"] []) : Okf P w K mg base "_law_one" ["deck", "some"] 2 (spI ⟨K, mg, T⟩ f_law_one) :=
  ⟨f, fd, hm, F.kp, hb, fn_defI F sc_law_one rfl rfl (by decide) fun cdv A outer s H E hr =>
    (show PSs _ _ (dS _ _ b_law_one) from (ds_one (ds_ret (g_ix (d_var 1) (d_callIO 0 o_law_pick (hr.mono (by decide)) (L2N.passes_call (L2N.takes_of rfl rfl rfl rfl) (fun _ _ _ _ h => h)) (da_cons (g_len rfl B.len (da_cons (d_var 1) da_nil)) da_nil))))))⟩

/-! ### _law_name_of -/
abbrev s_law_name_of : Stmt := topS 32
theorem sc_law_name_of : FnScope ["e", "matching", "words", "found", "word", "good"] ["e"] (defScope s_law_name_of) := ⟨rfl, rfl, rfl, by decide +kernel, rfl, by decide +kernel, by decide +kernel⟩
theorem ok_law_name_of (B : Bi mg) (nVE : mg "ValueError" = none) {f : Addr} {fd : FuncData} (F : Fun K "_law_name_of" "_law_name_of" s_law_name_of f fd) : FnHp P w K mg base (L2N.CX P w) 1 f fd ["e"] (spN ⟨K, mg, T⟩ excNames 6 b_law_name_of) :=
  fn_defN F sc_law_name_of rfl rfl (by decide) fun cdv A outer s H E p nm is hot hr ea hdp => by
    obtain ⟨D, hD, hz, hf, ec, hk, hv⟩ := ea
    have hp : p ∈ (L2H.cxH (L2N.CX P w) P w K mg base ["e", "matching", "words", "found", "word", "good"] "_law_name_of" (defScope s_law_name_of) f cdv A outer s H E p).pn := List.mem_cons_self ..
    have hcC : L2H.HotC (L2H.cxH (L2N.CX P w) P w K mg base ["e", "matching", "words", "found", "word", "good"] "_law_name_of" (defScope s_law_name_of) f cdv A outer s H E p) := ⟨p, hot, hp⟩
    exact (show PSs _ _ (dS _ _ (b_law_name_of p.1 is)) from (ds_cons (ds_set (i := 1) sc_law_name_of.nd rfl (by first | exact Or.inl rfl | exact Or.inr rfl) (d_lst (da_cons (d_isPx 0 (hk "InvalidRule" (by decide)) ec hp hz hf hdp rfl B.isinstance rfl) (da_cons (d_isPx 0 (hk "InvalidTrip" (by decide)) ec hp hz hf hdp rfl B.isinstance rfl) (da_cons (d_isPx 0 (hk "InvalidNumber" (by decide)) ec hp hz hf hdp rfl B.isinstance rfl) da_nil)))))
    (ds_cons (ds_set (i := 1) sc_law_name_of.nd rfl (by first | exact Or.inl rfl | exact Or.inr rfl) (g_add (d_var 1) (d_lst (da_cons (d_isPx 0 (hk "InvalidPlace" (by decide)) ec hp hz hf hdp rfl B.isinstance rfl) (da_cons (d_isPx 0 (hk "InvalidPart" (by decide)) ec hp hz hf hdp rfl B.isinstance rfl) (da_cons (d_isPx 0 (hk "InvalidSeen" (by decide)) ec hp hz hf hdp rfl B.isinstance rfl) da_nil))))))
    (ds_cons (ds_set (i := 1) sc_law_name_of.nd rfl (by first | exact Or.inl rfl | exact Or.inr rfl) (g_add (d_var 1) (d_lst (da_cons (d_isPx 0 (hk "InvalidIndex" (by decide)) ec hp hz hf hdp rfl B.isinstance rfl) (da_cons (d_isPx 0 (hk "NotJoined" (by decide)) ec hp hz hf hdp rfl B.isinstance rfl) (da_cons (d_isPx 0 (hk "NothingToUndo" (by decide)) ec hp hz hf hdp rfl B.isinstance rfl) da_nil))))))
    (ds_cons (ds_set (i := 1) sc_law_name_of.nd rfl (by first | exact Or.inl rfl | exact Or.inr rfl) (g_add (d_var 1) (d_lst (da_cons (d_isPx 0 (hk "TooMany" (by decide)) ec hp hz hf hdp rfl B.isinstance rfl) (da_cons (d_isPx 0 (hk "InvalidText" (by decide)) ec hp hz hf hdp rfl B.isinstance rfl) da_nil)))))
    (ds_cons (ds_set (i := 2) sc_law_name_of.nd rfl (by first | exact Or.inl rfl | exact Or.inr rfl) (d_lst (da_cons d_str (da_cons d_str (da_cons d_str (da_cons d_str (da_cons d_str (da_cons d_str (da_cons d_str (da_cons d_str (da_cons d_str (da_cons d_str (da_cons d_str da_nil)))))))))))))
    (ds_cons (ds_setLcX (j := 3) (own := [("word", 4), ("good", 5)]) hcC sc_law_name_of.nd rfl rfl (sw_true rfl rfl rfl (by decide +kernel)) (di_zipX rfl rfl B.zip (da_cons (d_var 2) (da_cons (d_var 1) da_nil))) (blkOk_by (N := ["e", "matching", "words", "found", "word", "good"]) (sc := defScope s_law_name_of) (by decide +kernel)) (by decide) (fun _ _ _ _ _ bh => (dg_tupX bh (dgs_cons (dg_name sc_law_name_of.nd rfl (by first | exact Or.inl rfl | exact Or.inr rfl)) (dgs_cons (dg_name sc_law_name_of.nd rfl (by first | exact Or.inl rfl | exact Or.inr rfl)) dgs_nil)))) (fun _ _ _ _ _ => (dts_one (dt_val (d_var 5)))) (fun _ _ _ _ _ => (d_var 4)))
    (ds_one (ds_ret (g_add (d_join d_str (d_var 3)) (d_if (dt_val (d_isPT 0 (T := "ValueError") ec hp hz hf hdp hv rfl B.isinstance rfl nVE (by decide +kernel))) d_str d_str)))))))))))

/-! ### _law_try -/
abbrev s_law_try : Stmt := topS 33
theorem sc_law_try : FnScope ["door", "found", "e"] ["door"] (defScope s_law_try) := ⟨rfl, rfl, rfl, by decide +kernel, rfl, by decide +kernel, by decide +kernel⟩
theorem trys : TryS s_law_try := ⟨⟨_, _, _, _, _, _, _, _, _, _, _, _, _, _, _, _, _, _, _, _, _, _, rfl⟩, by first | exact Or.inl rfl | exact Or.inr (Or.inl rfl) | exact Or.inr (Or.inr rfl), rfl, rfl, rfl, rfl, rfl⟩

/-! ### _law_sort -/
abbrev s_law_sort : Stmt := topS 34
theorem sc_law_sort : FnScope ["thing"] ["thing"] (defScope s_law_sort) := ⟨rfl, rfl, rfl, by decide +kernel, rfl, by decide +kernel, by decide +kernel⟩
theorem ok_law_sort (B : Bi mg)  {f : Addr} {fd : FuncData} (F : Fun K "_law_sort" "_law_sort" s_law_sort f fd) (hm : mg "_law_sort" = some (.ref f)) (hb : Binds K fd ["thing"] []) : Okf P w K mg base "_law_sort" ["thing"] 1 (spD ⟨K, mg, T⟩ f_law_sort) :=
  ⟨f, fd, hm, F.kp, hb, fn_def F sc_law_sort rfl rfl (by decide) fun cdv A outer s H E hr =>
    (show PSs _ _ (dS _ _ b_law_sort) from (ds_cons (ds_if (dt_val (d_isi rfl B.isinstance rfl B.bool (by decide +kernel) (d_var 0))) (ds_one (ds_ret d_int)) ds_nil)
    (ds_cons (ds_if (dt_val (d_isi rfl B.isinstance rfl B.int (by decide +kernel) (d_var 0))) (ds_one (ds_ret d_int)) ds_nil)
    (ds_cons (ds_if (dt_val (d_isi rfl B.isinstance rfl B.str (by decide +kernel) (d_var 0))) (ds_one (ds_ret d_int)) ds_nil)
    (ds_cons (ds_if (dt_val (d_isi rfl B.isinstance rfl B.list (by decide +kernel) (d_var 0))) (ds_one (ds_ret d_int)) ds_nil)
    (ds_one (ds_ret (d_if (dt_val (d_isi rfl B.isinstance rfl B.tuple (by decide +kernel) (d_var 0))) d_int d_int))))))))⟩

/-! ### _law_same -/
abbrev s_law_same : Stmt := topS 35
theorem sc_law_same : FnScope ["told", "due", "k", "part"] ["told", "due"] (defScope s_law_same) := ⟨rfl, rfl, rfl, by decide +kernel, rfl, by decide +kernel, by decide +kernel⟩
theorem okn_law_same (B : Bi mg) (o_law_sort : Okf P w K mg base "_law_sort" ["thing"] 1 (spD ⟨K, mg, T⟩ f_law_sort)) {f : Addr} {fd : FuncData} (F : Fun K "_law_same" "_law_same" s_law_same f fd) (hm : mg "_law_same" = some (.ref f)) (hb : Binds K fd ["told", "due"] []) : ∀ d, Okf P w K mg base "_law_same" ["told", "due"] (2 + d) (spD ⟨K, mg, T⟩ (f_law_same d))
  | 0 => ⟨f, fd, hm, F.kp, hb, fnok_no⟩
  | d + 1 => by
    have o_law_same := okn_law_same B o_law_sort F hm hb d
    exact ⟨f, fd, hm, F.kp, hb, fn_def F sc_law_same rfl rfl (by decide) fun cdv A outer s H E hr =>
      (show PSs _ _ (dS _ _ (b_law_same (f_law_same d))) from (ds_cons (ds_if (dt_cmp (op_neD hr.units) ok_ne (d_callO o_law_sort (hr.mono (Nat.le_trans (by decide) (Nat.le_add_right 2 _))) (L2N.passes_call (L2N.takes_of rfl rfl rfl rfl) (fun _ _ _ _ h => h)) (da_cons (d_var 0) da_nil)) (d_callO o_law_sort (hr.mono (Nat.le_trans (by decide) (Nat.le_add_right 2 _))) (L2N.passes_call (L2N.takes_of rfl rfl rfl rfl) (fun _ _ _ _ h => h)) (da_cons (d_var 1) da_nil)) (nomark _)) (ds_one (ds_ret d_bl)) ds_nil)
    (ds_cons (ds_if (PW.pt (dw_and (dt_cmp op_gt ok_gt (d_callO o_law_sort (hr.mono (Nat.le_trans (by decide) (Nat.le_add_right 2 _))) (L2N.passes_call (L2N.takes_of rfl rfl rfl rfl) (fun _ _ _ _ h => h)) (da_cons (d_var 0) da_nil)) d_int (nomark _)) (dw_and1 (dt_cmp op_lt ok_lt (d_callO o_law_sort (hr.mono (Nat.le_trans (by decide) (Nat.le_add_right 2 _))) (L2N.passes_call (L2N.takes_of rfl rfl rfl rfl) (fun _ _ _ _ h => h)) (da_cons (d_var 0) da_nil)) d_int (nomark _))))) (ds_cons (ds_if (dt_cmp (op_neD hr.units) ok_ne (g_len rfl B.len (da_cons (d_var 0) da_nil)) (g_len rfl B.len (da_cons (d_var 1) da_nil)) (nomark _)) (ds_one (ds_ret d_bl)) ds_nil)
    (ds_one (ds_ret (d_cmp (op_eqD hr.units) ok_eq (d_lc (own := [("k", 2), ("part", 3)]) rfl sc_law_same.nd (di_enum rfl rfl B.enumerate (da_cons (d_var 0) da_nil)) (blkOk_by (N := ["told", "due", "k", "part"]) (sc := defScope s_law_same) (by decide +kernel)) (by decide) (fun _ _ _ _ _ => (dg_tup rfl (dgs_cons (dg_name sc_law_same.nd rfl (by first | exact Or.inl rfl | exact Or.inr rfl)) (dgs_cons (dg_name sc_law_same.nd rfl (by first | exact Or.inl rfl | exact Or.inr rfl)) dgs_nil)))) (fun _ _ _ _ _ => (dts_one (dt_not (dt_val (d_callO o_law_same (hr.mono (Nat.le_refl _)) passes0N (da_cons (d_var 3) (da_cons (g_ix (d_var 1) (d_var 2)) da_nil))))))) (fun _ _ _ _ _ => (d_var 2))) (d_lst da_nil) (nomark _))))) ds_nil)
    (ds_one (ds_ret (d_cmp (op_eqD hr.units) ok_eq (d_var 0) (d_var 1) (nomark _)))))))⟩

/-! ### _law_bands -/
abbrev s_law_bands : Stmt := topS 36
theorem sc_law_bands : FnScope ["deck", "found", "low", "turn"] ["deck"] (defScope s_law_bands) := ⟨rfl, rfl, rfl, by decide +kernel, rfl, by decide +kernel, by decide +kernel⟩
theorem ok_law_bands (B : Bi mg) (o_law_pick : Okf P w K mg base "_law_pick" ["deck", "limit"] 1 (spI ⟨K, mg, T⟩ f_law_pick)) {f : Addr} {fd : FuncData} (F : Fun K "_law_bands" "_law_bands" s_law_bands f fd) (hm : mg "_law_bands" = some (.ref f)) (hb : Binds K fd ["deck"] []) : Okf P w K mg base "_law_bands" ["deck"] 2 (spI ⟨K, mg, T⟩ f_law_bands) :=
  ⟨f, fd, hm, F.kp, hb, fn_defI F sc_law_bands rfl rfl (by decide) fun cdv A outer s H E hr =>
    (show PSs _ _ (dS _ _ b_law_bands) from (ds_cons (ds_unp (d_tup (da_cons (d_tup da_nil) (da_cons d_int da_nil))) (dg_tup rfl (dgs_cons (dg_name sc_law_bands.nd rfl (by first | exact Or.inl rfl | exact Or.inr rfl)) (dgs_cons (dg_name sc_law_bands.nd rfl (by first | exact Or.inl rfl | exact Or.inr rfl)) dgs_nil))))
    (ds_cons (ds_for (passes_of rfl) rfl (di_range1 rfl B.range (g_add d_int (d_callIO 0 o_law_pick (hr.mono (by decide)) (L2N.passes_call (L2N.takes_of rfl rfl rfl rfl) (fun _ _ _ _ h => h)) (da_cons d_int da_nil)))) (dg_name sc_law_bands.nd rfl (by first | exact Or.inl rfl | exact Or.inr rfl)) (show PSs _ _ (dS _ _ law_bands_b1) from (ds_cons (ds_set (i := 2) sc_law_bands.nd rfl (by first | exact Or.inl rfl | exact Or.inr rfl) (g_add (g_add (d_var 2) d_int) (d_callIO 0 o_law_pick (hr.mono (by decide)) (L2N.passes_call (L2N.takes_of rfl rfl rfl rfl) (fun _ _ _ _ h => h)) (da_cons d_int da_nil))))
    (ds_one (ds_set (i := 1) sc_law_bands.nd rfl (by first | exact Or.inl rfl | exact Or.inr rfl) (g_add (d_var 1) (d_tup (da_cons (d_tup (da_cons (d_var 2) (da_cons (g_ix (d_lst (da_cons d_int (da_cons d_int (da_cons d_int (da_cons d_int (da_cons d_int (da_cons (d_callIO 0 o_law_pick (hr.mono (by decide)) (L2N.passes_call (L2N.takes_of rfl rfl rfl rfl) (fun _ _ _ _ h => h)) (da_cons d_int da_nil)) da_nil))))))) (d_callIO 0 o_law_pick (hr.mono (by decide)) (L2N.passes_call (L2N.takes_of rfl rfl rfl rfl) (fun _ _ _ _ h => h)) (da_cons d_int da_nil))) da_nil))) da_nil))))))))
    (ds_one (ds_ret (d_var 1))))))⟩

/-! ### _law_rule -/
abbrev s_law_rule : Stmt := topS 37
theorem sc_law_rule : FnScope ["deck", "last", "some", "least_so", "most"] ["deck"] (defScope s_law_rule) := ⟨rfl, rfl, rfl, by decide +kernel, rfl, by decide +kernel, by decide +kernel⟩
theorem ok_law_rule (B : Bi mg) (o_law_pick : Okf P w K mg base "_law_pick" ["deck", "limit"] 1 (spI ⟨K, mg, T⟩ f_law_pick)) (o_law_bands : Okf P w K mg base "_law_bands" ["deck"] 2 (spI ⟨K, mg, T⟩ f_law_bands)) {f : Addr} {fd : FuncData} (F : Fun K "_law_rule" "_law_rule" s_law_rule f fd) (hm : mg "_law_rule" = some (.ref f)) (hb : Binds K fd ["deck"] []) : Okf P w K mg base "_law_rule" ["deck"] 3 (spI ⟨K, mg, T⟩ f_law_rule) :=
  ⟨f, fd, hm, F.kp, hb, fn_defI F sc_law_rule rfl rfl (by decide) fun cdv A outer s H E hr =>
    (show PSs _ _ (dS _ _ b_law_rule) from (ds_cons (ds_set (i := 1) sc_law_rule.nd rfl (by first | exact Or.inl rfl | exact Or.inr rfl) (d_if (dt_cmp (op_eqD hr.units) ok_eq (d_callIO 0 o_law_pick (hr.mono (by decide)) (L2N.passes_call (L2N.takes_of rfl rfl rfl rfl) (fun _ _ _ _ h => h)) (da_cons d_int da_nil)) d_int (nomark _)) d_non (d_callIO 0 o_law_pick (hr.mono (by decide)) (L2N.passes_call (L2N.takes_of rfl rfl rfl rfl) (fun _ _ _ _ h => h)) (da_cons d_int da_nil))))
    (ds_cons (ds_set (i := 2) sc_law_rule.nd rfl (by first | exact Or.inl rfl | exact Or.inr rfl) (d_lst (da_cons (g_ix (d_lst (da_cons d_int (da_cons d_int (da_cons (d_callIO 0 o_law_pick (hr.mono (by decide)) (L2N.passes_call (L2N.takes_of rfl rfl rfl rfl) (fun _ _ _ _ h => h)) (da_cons d_int da_nil)) da_nil)))) (d_callIO 0 o_law_pick (hr.mono (by decide)) (L2N.passes_call (L2N.takes_of rfl rfl rfl rfl) (fun _ _ _ _ h => h)) (da_cons d_int da_nil))) (da_cons (g_ix (d_lst (da_cons d_int (da_cons d_int (da_cons (d_callIO 0 o_law_pick (hr.mono (by decide)) (L2N.passes_call (L2N.takes_of rfl rfl rfl rfl) (fun _ _ _ _ h => h)) (da_cons d_int da_nil)) da_nil)))) (d_callIO 0 o_law_pick (hr.mono (by decide)) (L2N.passes_call (L2N.takes_of rfl rfl rfl rfl) (fun _ _ _ _ h => h)) (da_cons d_int da_nil))) da_nil))))
    (ds_cons (ds_set (i := 3) sc_law_rule.nd rfl (by first | exact Or.inl rfl | exact Or.inr rfl) (g_ix (d_lst (da_cons d_int (da_cons d_int (da_cons (d_callIO 0 o_law_pick (hr.mono (by decide)) (L2N.passes_call (L2N.takes_of rfl rfl rfl rfl) (fun _ _ _ _ h => h)) (da_cons d_int da_nil)) da_nil)))) (d_callIO 0 o_law_pick (hr.mono (by decide)) (L2N.passes_call (L2N.takes_of rfl rfl rfl rfl) (fun _ _ _ _ h => h)) (da_cons d_int da_nil))))
    (ds_cons (ds_set (i := 4) sc_law_rule.nd rfl (by first | exact Or.inl rfl | exact Or.inr rfl) (g_ix (d_lst (da_cons d_int (da_cons d_int (da_cons (g_add d_int (d_callIO 0 o_law_pick (hr.mono (by decide)) (L2N.passes_call (L2N.takes_of rfl rfl rfl rfl) (fun _ _ _ _ h => h)) (da_cons d_int da_nil))) (da_cons (g_add d_int (d_callIO 0 o_law_pick (hr.mono (by decide)) (L2N.passes_call (L2N.takes_of rfl rfl rfl rfl) (fun _ _ _ _ h => h)) (da_cons d_int da_nil))) da_nil))))) (d_callIO 0 o_law_pick (hr.mono (by decide)) (L2N.passes_call (L2N.takes_of rfl rfl rfl rfl) (fun _ _ _ _ h => h)) (da_cons d_int da_nil))))
    (ds_one (ds_ret (d_tup (da_cons (d_tup (da_cons (d_callIO 0 o_law_bands (hr.mono (by decide)) (L2N.passes_call (L2N.takes_of rfl rfl rfl rfl) (fun _ _ _ _ h => h)) da_nil) (da_cons (d_callIO 0 o_law_bands (hr.mono (by decide)) (L2N.passes_call (L2N.takes_of rfl rfl rfl rfl) (fun _ _ _ _ h => h)) da_nil) da_nil))) (da_cons (d_var 1) (da_cons (g_ix (d_var 2) d_int) (da_cons (g_ix (d_var 2) d_int) (da_cons (d_cmp (op_eqD hr.units) ok_eq (d_callIO 0 o_law_pick (hr.mono (by decide)) (L2N.passes_call (L2N.takes_of rfl rfl rfl rfl) (fun _ _ _ _ h => h)) (da_cons d_int da_nil)) d_int (nomark _)) (da_cons (d_var 3) (da_cons (d_var 4) da_nil)))))))))))))))⟩

/-! ### _law_text -/
abbrev s_law_text : Stmt := topS 40
theorem sc_law_text : FnScope ["r", "words", "word", "bands", "many", "amount"] ["r"] (defScope s_law_text) := ⟨rfl, rfl, rfl, by decide +kernel, rfl, by decide +kernel, by decide +kernel⟩
theorem ok_law_text (B : Bi mg)  {f : Addr} {fd : FuncData} (F : Fun K "_law_text" "_law_text" s_law_text f fd) (hm : mg "_law_text" = some (.ref f)) (hb : Binds K fd ["r"] []) : Okf P w K mg base "_law_text" ["r"] 1 (spD ⟨K, mg, T⟩ f_law_text) :=
  ⟨f, fd, hm, F.kp, hb, fn_def F sc_law_text rfl rfl (by decide) fun cdv A outer s H E hr =>
    (show PSs _ _ (dS _ _ b_law_text) from (ds_cons (ds_set (i := 1) sc_law_text.nd rfl (by first | exact Or.inl rfl | exact Or.inr rfl) (d_lst da_nil))
    (ds_cons (ds_for (passes_of rfl) rfl (di_of rfl (d_tup (da_cons (d_tup (da_cons d_str (da_cons (g_ix (g_ix (d_var 0) d_int) d_int) da_nil))) (da_cons (d_tup (da_cons d_str (da_cons (g_ix (g_ix (d_var 0) d_int) d_int) da_nil))) da_nil)))) (dg_tup rfl (dgs_cons (dg_name sc_law_text.nd rfl (by first | exact Or.inl rfl | exact Or.inr rfl)) (dgs_cons (dg_name sc_law_text.nd rfl (by first | exact Or.inl rfl | exact Or.inr rfl)) dgs_nil))) (show PSs _ _ (dS _ _ law_text_b2) from (ds_one (ds_set (i := 1) sc_law_text.nd rfl (by first | exact Or.inl rfl | exact Or.inr rfl) (g_add (g_add (d_var 1) (d_lst (da_cons (d_var 2) da_nil))) (d_lc (own := [("many", 4), ("amount", 5)]) rfl sc_law_text.nd (di_of rfl (d_var 3)) (blkOk_by (N := ["r", "words", "word", "bands", "many", "amount"]) (sc := defScope s_law_text) (by decide +kernel)) (by decide) (fun _ _ _ _ _ => (dg_tup rfl (dgs_cons (dg_name sc_law_text.nd rfl (by first | exact Or.inl rfl | exact Or.inr rfl)) (dgs_cons (dg_name sc_law_text.nd rfl (by first | exact Or.inl rfl | exact Or.inr rfl)) dgs_nil)))) (fun _ _ _ _ _ => dts_nil) (fun _ _ _ _ _ => (g_add (g_add (g_strI rfl B.str (da_cons (d_var 4) da_nil)) d_str) (g_strI rfl B.str (da_cons (d_var 5) da_nil))))))))))
    (ds_cons (ds_set (i := 1) sc_law_text.nd rfl (by first | exact Or.inl rfl | exact Or.inr rfl) (g_add (d_var 1) (d_if (dt_cmp (OpR.or op_isN op_is_bl) ok_is (g_ix (d_var 0) d_int) d_non (nomark _)) (d_lst da_nil) (d_lst (da_cons d_str (da_cons (g_strI rfl B.str (da_cons (g_ix (d_var 0) d_int) da_nil)) da_nil))))))
    (ds_cons (ds_set (i := 1) sc_law_text.nd rfl (by first | exact Or.inl rfl | exact Or.inr rfl) (g_add (d_var 1) (d_lst (da_cons d_str (da_cons (g_strI rfl B.str (da_cons (g_ix (d_var 0) d_int) da_nil)) (da_cons d_str (da_cons (g_strI rfl B.str (da_cons (g_ix (d_var 0) d_int) da_nil)) da_nil)))))))
    (ds_cons (ds_set (i := 1) sc_law_text.nd rfl (by first | exact Or.inl rfl | exact Or.inr rfl) (g_add (d_var 1) (d_if (dt_val (g_ix (d_var 0) d_int)) (d_lst (da_cons d_str da_nil)) (d_lst da_nil))))
    (ds_one (ds_ret (d_join d_str (g_add (d_var 1) (d_lst (da_cons d_str (da_cons (g_strI rfl B.str (da_cons (g_ix (d_var 0) d_int) da_nil)) (da_cons d_str (da_cons (g_strI rfl B.str (da_cons (g_ix (d_var 0) d_int) da_nil)) da_nil)))))))))))))))⟩

/-! ### _law_number -/
abbrev s_law_number : Stmt := topS 41
theorem sc_law_number : FnScope ["word", "low", "high", "known", "number"] ["word", "low", "high"] (defScope s_law_number) := ⟨rfl, rfl, rfl, by decide +kernel, rfl, by decide +kernel, by decide +kernel⟩
theorem ok_law_number (B : Bi mg)  {f : Addr} {fd : FuncData} (F : Fun K "_law_number" "_law_number" s_law_number f fd) (hm : mg "_law_number" = some (.ref f)) (hb : Binds K fd ["word", "low", "high"] []) : Okf P w K mg base "_law_number" ["word", "low", "high"] 1 (spD ⟨K, mg, T⟩ f_law_number) :=
  ⟨f, fd, hm, F.kp, hb, fn_def F sc_law_number rfl rfl (by decide) fun cdv A outer s H E hr =>
    (show PSs _ _ (dS _ _ b_law_number) from (ds_cons (ds_setLc (j := 3) (own := [("number", 4)]) rfl sc_law_number.nd rfl rfl (sw_true rfl rfl rfl (by decide +kernel)) (di_range2 rfl B.range (d_var 1) (g_add (d_var 2) d_int)) (blkOk_by (N := ["word", "low", "high", "known", "number"]) (sc := defScope s_law_number) (by decide +kernel)) (by decide) (fun _ _ _ _ _ => (dg_name sc_law_number.nd rfl (by first | exact Or.inl rfl | exact Or.inr rfl))) (fun _ _ _ _ _ => (dts_one (dt_cmp (op_eqD hr.units) ok_eq (g_strI rfl B.str (da_cons (d_var 4) da_nil)) (d_var 0) (nomark _)))) (fun _ _ _ _ _ => (d_var 4)))
    (ds_one (ds_ret (d_if (dt_cmp (op_neD hr.units) ok_ne (d_var 3) (d_lst da_nil) (nomark _)) (g_ix (d_var 3) d_int) d_non)))))⟩

/-! ### _law_pairs -/
abbrev s_law_pairs : Stmt := topS 42
theorem sc_law_pairs : FnScope ["words", "found", "low", "cut_so", "many", "amount"] ["words"] (defScope s_law_pairs) := ⟨rfl, rfl, rfl, by decide +kernel, rfl, by decide +kernel, by decide +kernel⟩
theorem ok_law_pairs (B : Bi mg) (o_law_number : Okf P w K mg base "_law_number" ["word", "low", "high"] 1 (spD ⟨K, mg, T⟩ f_law_number)) {f : Addr} {fd : FuncData} (F : Fun K "_law_pairs" "_law_pairs" s_law_pairs f fd) (hm : mg "_law_pairs" = some (.ref f)) (hb : Binds K fd ["words"] []) : Okf P w K mg base "_law_pairs" ["words"] 2 (spD ⟨K, mg, T⟩ f_law_pairs) :=
  ⟨f, fd, hm, F.kp, hb, fn_def F sc_law_pairs rfl rfl (by decide) fun cdv A outer s H E hr =>
    (show PSs _ _ (dS _ _ b_law_pairs) from (ds_cons (ds_unp (d_tup (da_cons (d_tup da_nil) (da_cons d_int da_nil))) (dg_tup rfl (dgs_cons (dg_name sc_law_pairs.nd rfl (by first | exact Or.inl rfl | exact Or.inr rfl)) (dgs_cons (dg_name sc_law_pairs.nd rfl (by first | exact Or.inl rfl | exact Or.inr rfl)) dgs_nil))))
    (ds_cons (ds_while (passes_of rfl) (PW.pt (dw_and (dt_cmp (op_neD hr.units) ok_ne (d_var 0) (d_lst da_nil) (nomark _)) (dw_and1 (dt_cmp (OpR.or op_in_str op_in_seq) ok_in d_str (g_ix (d_var 0) d_int) rfl)))) (show PSs _ _ (dS _ _ law_pairs_b1) from (ds_cons (ds_set (i := 3) sc_law_pairs.nd rfl (by first | exact Or.inl rfl | exact Or.inr rfl) (d_find (g_ix (d_var 0) d_int) d_str))
    (ds_cons (ds_set (i := 4) sc_law_pairs.nd rfl (by first | exact Or.inl rfl | exact Or.inr rfl) (d_callO o_law_number (hr.mono (by decide)) (L2N.passes_call (L2N.takes_of rfl rfl rfl rfl) (fun _ _ _ _ h => h)) (da_cons (d_sl (g_ix (d_var 0) d_int) do_no (do_at (d_var 3))) (da_cons (d_var 2) (da_cons d_int da_nil)))))
    (ds_cons (ds_set (i := 5) sc_law_pairs.nd rfl (by first | exact Or.inl rfl | exact Or.inr rfl) (d_callO o_law_number (hr.mono (by decide)) (L2N.passes_call (L2N.takes_of rfl rfl rfl rfl) (fun _ _ _ _ h => h)) (da_cons (d_sl (g_ix (d_var 0) d_int) (do_at (g_add (d_var 3) d_int)) do_no) (da_cons d_int (da_cons d_int da_nil)))))
    (ds_cons (ds_if (PW.pt (dw_or (dt_cmp (OpR.or op_isN op_is_bl) ok_is (d_var 4) d_non (nomark _)) (dw_or (dt_cmp (OpR.or op_isN op_is_bl) ok_is (d_var 5) d_non (nomark _)) (dw_or1 (dt_cmp (op_eqD hr.units) ok_eq (g_len rfl B.len (da_cons (d_var 1) da_nil)) d_int (nomark _)))))) (ds_one (ds_ret d_non)) ds_nil)
    (ds_one (ds_par3 (i := 1) (j := 2) (l := 0) rfl sc_law_pairs.nd rfl rfl rfl (by decide) (by decide) (by decide) rfl rfl rfl (g_add (d_var 1) (d_tup (da_cons (d_tup (da_cons (d_var 4) (da_cons (d_var 5) da_nil))) da_nil))) (g_add (d_var 4) d_int) (d_sl (d_var 0) (do_at d_int) do_no) (by first | rfl | decide +kernel)))))))))
    (ds_one (ds_ret (d_if (dt_cmp (op_eqD hr.units) ok_eq (d_var 1) (d_tup da_nil) (nomark _)) d_non (d_tup (da_cons (d_var 1) (da_cons (d_var 0) da_nil)))))))))⟩

/-! ### _law_after -/
abbrev s_law_after : Stmt := topS 43
theorem sc_law_after : FnScope ["words", "word", "low", "high", "number"] ["words", "word", "low", "high"] (defScope s_law_after) := ⟨rfl, rfl, rfl, by decide +kernel, rfl, by decide +kernel, by decide +kernel⟩
theorem ok_law_after (B : Bi mg) (o_law_number : Okf P w K mg base "_law_number" ["word", "low", "high"] 1 (spD ⟨K, mg, T⟩ f_law_number)) {f : Addr} {fd : FuncData} (F : Fun K "_law_after" "_law_after" s_law_after f fd) (hm : mg "_law_after" = some (.ref f)) (hb : Binds K fd ["words", "word", "low", "high"] []) : Okf P w K mg base "_law_after" ["words", "word", "low", "high"] 2 (spD ⟨K, mg, T⟩ f_law_after) :=
  ⟨f, fd, hm, F.kp, hb, fn_def F sc_law_after rfl rfl (by decide) fun cdv A outer s H E hr =>
    (show PSs _ _ (dS _ _ b_law_after) from (ds_cons (ds_if (PW.pt (dw_or (dt_cmp op_lt ok_lt (g_len rfl B.len (da_cons (d_var 0) da_nil)) d_int (nomark _)) (dw_or1 (dt_cmp (op_neD hr.units) ok_ne (g_ix (d_var 0) d_int) (d_var 1) (nomark _))))) (ds_one (ds_ret d_non)) ds_nil)
    (ds_cons (ds_set (i := 4) sc_law_after.nd rfl (by first | exact Or.inl rfl | exact Or.inr rfl) (d_callO o_law_number (hr.mono (by decide)) (L2N.passes_call (L2N.takes_of rfl rfl rfl rfl) (fun _ _ _ _ h => h)) (da_cons (g_ix (d_var 0) d_int) (da_cons (d_var 2) (da_cons (d_var 3) da_nil)))))
    (ds_one (ds_ret (d_if (dt_cmp (OpR.or op_isN op_is_bl) ok_is (d_var 4) d_non (nomark _)) d_non (d_tup (da_cons (d_var 4) (da_cons (d_sl (d_var 0) (do_at d_int) do_no) da_nil)))))))))⟩

/-! ### _law_read -/
abbrev s_law_read : Stmt := topS 44
theorem sc_law_read : FnScope ["line", "words", "first", "second", "found", "told", "numbers", "word", "low", "high"] ["line"] (defScope s_law_read) := ⟨rfl, rfl, rfl, by decide +kernel, rfl, by decide +kernel, by decide +kernel⟩
theorem ok_law_read (B : Bi mg) (o_law_pairs : Okf P w K mg base "_law_pairs" ["words"] 2 (spD ⟨K, mg, T⟩ f_law_pairs)) (o_law_after : Okf P w K mg base "_law_after" ["words", "word", "low", "high"] 2 (spD ⟨K, mg, T⟩ f_law_after)) {f : Addr} {fd : FuncData} (F : Fun K "_law_read" "_law_read" s_law_read f fd) (hm : mg "_law_read" = some (.ref f)) (hb : Binds K fd ["line"] []) : Okf P w K mg base "_law_read" ["line"] 3 (spD ⟨K, mg, T⟩ f_law_read) :=
  ⟨f, fd, hm, F.kp, hb, fn_def F sc_law_read rfl rfl (by decide) fun cdv A outer s H E hr =>
    (show PSs _ _ (dS _ _ b_law_read) from (ds_cons (ds_set (i := 1) sc_law_read.nd rfl (by first | exact Or.inl rfl | exact Or.inr rfl) (d_split (d_var 0) d_str))
    (ds_cons (ds_set (i := 2) sc_law_read.nd rfl (by first | exact Or.inl rfl | exact Or.inr rfl) (d_if (dt_cmp (op_eqD hr.units) ok_eq (g_ix (d_var 1) d_int) d_str (nomark _)) (d_callO o_law_pairs (hr.mono (by decide)) (L2N.passes_call (L2N.takes_of rfl rfl rfl rfl) (fun _ _ _ _ h => h)) (da_cons (d_sl (d_var 1) (do_at d_int) do_no) da_nil)) d_non))
    (ds_cons (ds_if (PW.pt (dw_or (dt_cmp (OpR.or op_isN op_is_bl) ok_is (d_var 2) d_non (nomark _)) (dw_or (dt_cmp (op_eqD hr.units) ok_eq (g_ix (d_var 2) d_int) (d_lst da_nil) (nomark _)) (dw_or1 (dt_cmp (op_neD hr.units) ok_ne (g_ix (g_ix (d_var 2) d_int) d_int) d_str (nomark _)))))) (ds_one (ds_ret d_non)) ds_nil)
    (ds_cons (ds_set (i := 3) sc_law_read.nd rfl (by first | exact Or.inl rfl | exact Or.inr rfl) (d_callO o_law_pairs (hr.mono (by decide)) (L2N.passes_call (L2N.takes_of rfl rfl rfl rfl) (fun _ _ _ _ h => h)) (da_cons (d_sl (g_ix (d_var 2) d_int) (do_at d_int) do_no) da_nil)))
    (ds_cons (ds_if (dt_cmp (OpR.or op_isN op_is_bl) ok_is (d_var 3) d_non (nomark _)) (ds_one (ds_ret d_non)) ds_nil)
    (ds_cons (ds_par2 (i := 1) (j := 4) rfl sc_law_read.nd rfl rfl (by decide) rfl rfl (g_ix (d_var 3) d_int) (d_lst (da_cons d_non (da_cons d_bl da_nil))) (by first | rfl | decide +kernel))
    (ds_cons (ds_if (PW.pt (dw_and (dt_cmp (op_neD hr.units) ok_ne (d_var 1) (d_lst da_nil) (nomark _)) (dw_and1 (dt_cmp (op_eqD hr.units) ok_eq (g_ix (d_var 1) d_int) d_str (nomark _))))) (ds_cons (ds_set (i := 5) sc_law_read.nd rfl (by first | exact Or.inl rfl | exact Or.inr rfl) (d_callO o_law_after (hr.mono (by decide)) (L2N.passes_call (L2N.takes_of rfl rfl rfl rfl) (fun _ _ _ _ h => h)) (da_cons (d_var 1) (da_cons d_str (da_cons d_int (da_cons d_int da_nil))))))
    (ds_cons (ds_if (dt_cmp (OpR.or op_isN op_is_bl) ok_is (d_var 5) d_non (nomark _)) (ds_one (ds_ret d_non)) ds_nil)
    (ds_one (ds_subNm (i := 4) (j := 1) rfl sc_law_read.nd rfl (by first | exact Or.inl rfl | exact Or.inr (Or.inl rfl)) rfl (by first | exact Or.inl rfl | exact Or.inr rfl) (d_var 5))))) ds_nil)
    (ds_cons (ds_set (i := 6) sc_law_read.nd rfl (by first | exact Or.inl rfl | exact Or.inr rfl) (d_lst da_nil))
    (ds_cons (ds_for (passes_of rfl) rfl (di_of rfl (d_tup (da_cons (d_tup (da_cons d_str (da_cons d_int (da_cons d_int da_nil)))) (da_cons (d_tup (da_cons d_str (da_cons d_int (da_cons d_int da_nil)))) (da_cons (d_tup (da_cons d_str (da_cons d_int (da_cons d_int da_nil)))) (da_cons (d_tup (da_cons d_str (da_cons d_int (da_cons d_int da_nil)))) da_nil)))))) (dg_tup rfl (dgs_cons (dg_name sc_law_read.nd rfl (by first | exact Or.inl rfl | exact Or.inr rfl)) (dgs_cons (dg_name sc_law_read.nd rfl (by first | exact Or.inl rfl | exact Or.inr rfl)) (dgs_cons (dg_name sc_law_read.nd rfl (by first | exact Or.inl rfl | exact Or.inr rfl)) dgs_nil)))) (show PSs _ _ (dS _ _ law_read_b1) from (ds_cons (ds_if (PW.pt (dw_and (dt_cmp (op_eqD hr.units) ok_eq (d_var 7) d_str (nomark _)) (dw_and (dt_cmp (op_neD hr.units) ok_ne (d_var 1) (d_lst da_nil) (nomark _)) (dw_and1 (dt_cmp (op_eqD hr.units) ok_eq (g_ix (d_var 1) d_int) d_str (nomark _)))))) (ds_one (ds_subNm (i := 4) (j := 1) rfl sc_law_read.nd rfl (by first | exact Or.inl rfl | exact Or.inr (Or.inl rfl)) rfl (by first | exact Or.inl rfl | exact Or.inr rfl) (d_tup (da_cons d_bl (da_cons (d_sl (d_var 1) (do_at d_int) do_no) da_nil))))) ds_nil)
    (ds_cons (ds_set (i := 5) sc_law_read.nd rfl (by first | exact Or.inl rfl | exact Or.inr rfl) (d_callO o_law_after (hr.mono (by decide)) (L2N.passes_call (L2N.takes_of rfl rfl rfl rfl) (fun _ _ _ _ h => h)) (da_cons (d_var 1) (da_cons (d_var 7) (da_cons (d_var 8) (da_cons (d_var 9) da_nil))))))
    (ds_cons (ds_if (dt_cmp (OpR.or op_isN op_is_bl) ok_is (d_var 5) d_non (nomark _)) (ds_one (ds_ret d_non)) ds_nil)
    (ds_cons (ds_app (i := 6) rfl rfl (by first | exact Or.inl rfl | exact Or.inr (Or.inl rfl)) (g_ix (d_var 5) d_int))
    (ds_one (ds_set (i := 1) sc_law_read.nd rfl (by first | exact Or.inl rfl | exact Or.inr rfl) (g_ix (d_var 5) d_int)))))))))
    (ds_cons (ds_if (dt_cmp (op_neD hr.units) ok_ne (d_var 1) (d_lst da_nil) (nomark _)) (ds_one (ds_ret d_non)) ds_nil)
    (ds_one (ds_ret (d_tup (da_cons (d_tup (da_cons (g_ix (d_var 2) d_int) (da_cons (g_ix (d_var 3) d_int) da_nil))) (da_cons (d_peek (g_ix (d_var 4) d_int)) (da_cons (d_peek (g_ix (d_var 6) d_int)) (da_cons (d_peek (g_ix (d_var 6) d_int)) (da_cons (d_peek (g_ix (d_var 4) d_int)) (da_cons (d_peek (g_ix (d_var 6) d_int)) (da_cons (d_peek (g_ix (d_var 6) d_int)) da_nil)))))))))))))))))))))⟩

/-! ### _law_due -/
abbrev s_law_due : Stmt := topS 45
theorem sc_law_due : FnScope ["text", "found", "place", "line", "one"] ["text"] (defScope s_law_due) := ⟨rfl, rfl, rfl, by decide +kernel, rfl, by decide +kernel, by decide +kernel⟩
theorem ok_law_due (B : Bi mg) (o_law_read : Okf P w K mg base "_law_read" ["line"] 3 (spD ⟨K, mg, T⟩ f_law_read)) {f : Addr} {fd : FuncData} (F : Fun K "_law_due" "_law_due" s_law_due f fd) (hm : mg "_law_due" = some (.ref f)) (hb : Binds K fd ["text"] []) : Okf P w K mg base "_law_due" ["text"] 4 (spD ⟨K, mg, T⟩ f_law_due) :=
  ⟨f, fd, hm, F.kp, hb, fn_def F sc_law_due rfl rfl (by decide) fun cdv A outer s H E hr =>
    (show PSs _ _ (dS _ _ b_law_due) from (ds_cons (ds_set (i := 1) sc_law_due.nd rfl (by first | exact Or.inl rfl | exact Or.inr rfl) (d_tup da_nil))
    (ds_cons (ds_for (passes_of rfl) rfl (di_enum rfl rfl B.enumerate (da_cons (d_if (dt_cmp (op_neD hr.units) ok_ne (d_var 0) d_str (nomark _)) (d_split (d_var 0) d_str) (d_lst da_nil)) da_nil)) (dg_tup rfl (dgs_cons (dg_name sc_law_due.nd rfl (by first | exact Or.inl rfl | exact Or.inr rfl)) (dgs_cons (dg_name sc_law_due.nd rfl (by first | exact Or.inl rfl | exact Or.inr rfl)) dgs_nil))) (show PSs _ _ (dS _ _ law_due_b1) from (ds_cons (ds_set (i := 4) sc_law_due.nd rfl (by first | exact Or.inl rfl | exact Or.inr rfl) (d_callO o_law_read (hr.mono (by decide)) (L2N.passes_call (L2N.takes_of rfl rfl rfl rfl) (fun _ _ _ _ h => h)) (da_cons (d_var 3) da_nil)))
    (ds_cons (ds_if (dt_cmp (OpR.or op_isN op_is_bl) ok_is (d_var 4) d_non (nomark _)) (ds_one (ds_ret (g_add (d_var 2) d_int))) ds_nil)
    (ds_one (ds_set (i := 1) sc_law_due.nd rfl (by first | exact Or.inl rfl | exact Or.inr rfl) (g_add (d_var 1) (d_tup (da_cons (d_var 4) da_nil)))))))))
    (ds_one (ds_ret (d_var 1))))))⟩

/-! ### _law_told -/
abbrev s_law_told : Stmt := topS 46
theorem sc_law_told : FnScope ["text", "e"] ["text"] (defScope s_law_told) := ⟨rfl, rfl, rfl, by decide +kernel, rfl, by decide +kernel, by decide +kernel⟩
theorem ok_law_told (B : Bi mg) (o_read_rules : Okf P w K mg base "read_rules" ["text"] 7 (spD ⟨K, mg, T⟩ f_read_rules)) (tl : Tld K mg "InvalidText" "line") {f : Addr} {fd : FuncData} (F : Fun K "_law_told" "_law_told" s_law_told f fd) (hm : mg "_law_told" = some (.ref f)) (hb : Binds K fd ["text"] []) : Okf P w K mg base "_law_told" ["text"] 8 (spD ⟨K, mg, T⟩ f_law_told) :=
  ⟨f, fd, hm, F.kp, hb, fn_told o_read_rules tl F sc_law_told rfl rfl rfl rfl rfl⟩

/-! ### law -/
abbrev s_law : Stmt := topS 47
theorem sc_law : FnScope ["script", "k", "deck", "some", "lines", "text", "turn", "at", "sign", "new", "odd", "good", "wrong", "tail", "r", "head"] ["script"] (defScope s_law) := ⟨rfl, rfl, rfl, by decide +kernel, rfl, by decide +kernel, by decide +kernel⟩
theorem ok_law (B : Bi mg) (o_law_deck : Okf P w K mg base "_law_deck" ["cell", "turn"] 1 (spD ⟨K, mg, T⟩ f_law_deck)) (o_law_pick : Okf P w K mg base "_law_pick" ["deck", "limit"] 1 (spI ⟨K, mg, T⟩ f_law_pick)) (o_law_rule : Okf P w K mg base "_law_rule" ["deck"] 3 (spI ⟨K, mg, T⟩ f_law_rule)) (o_law_text : Okf P w K mg base "_law_text" ["r"] 1 (spD ⟨K, mg, T⟩ f_law_text)) (o_rule_text : Okf P w K mg base "rule_text" ["rule"] 5 (spD ⟨K, mg, T⟩ f_rule_text)) (o_law_same : Okf P w K mg base "_law_same" ["told", "due"] 14 (spD ⟨K, mg, T⟩ (f_law_same 12))) (o_law_told : Okf P w K mg base "_law_told" ["text"] 8 (spD ⟨K, mg, T⟩ f_law_told)) (o_law_one : Okf P w K mg base "_law_one" ["deck", "some"] 2 (spI ⟨K, mg, T⟩ f_law_one)) (o_law_due : Okf P w K mg base "_law_due" ["text"] 4 (spD ⟨K, mg, T⟩ f_law_due)) (o_read_rules : Okf P w K mg base "read_rules" ["text"] 7 (spD ⟨K, mg, T⟩ f_read_rules)) {CT c P0 : Addr} (hTry : TryF P w K mg base ⟨K, mg, T⟩ excNames 6 1 b_law_name_of CT s_law_try) (hNm : NamesOk ⟨K, mg, T⟩ excNames 6 b_law_name_of CT nameOf) (TB : LamX.TabB base mg c P0) (hmT : (P0, lamQ "law") ∈ T) (hu : ∀ p ∈ T, p.1 = P0 → p.2 = lamQ "law") {f : Addr} {fd : FuncData} (F : Fun K "law" "law" s_law f fd) (hcd : fd.code = .ref c) (hT : LawTrue 16 b_law_k17) : FnOk P w K mg base (L2N.CX P w) 15 f fd ["script"] (spLaw K T) :=
  fn_lawC F hcd sc_law rfl rfl (by decide) hT fun A outer s H E hr =>
    (show PSs _ _ (dS _ _ b_law_k17) from (ds_cons (ds_for (passes_of rfl) rfl (di_range1 rfl B.range d_int) (dg_name sc_law.nd rfl (by first | exact Or.inl rfl | exact Or.inr rfl)) (show PSs _ _ (dS _ _ law_k17_b4) from (ds_cons (ds_set (i := 2) sc_law.nd rfl (by first | exact Or.inl rfl | exact Or.inr rfl) (d_callO o_law_deck (hr.mono (by decide)) (L2N.passes_call (L2N.takes_of rfl rfl rfl rfl) (fun _ _ _ _ h => h)) (da_cons (g_ix (d_scr 0 rfl (g_mul (d_lst (da_cons d_int da_nil)) d_int)) (d_var 1)) (da_cons (d_var 1) da_nil))))
    (ds_cons (ds_set (i := 3) sc_law.nd rfl (by first | exact Or.inl rfl | exact Or.inr rfl) (g_tuple rfl B.tuple (da_cons (d_lc (own := [("turn", 6)]) rfl sc_law.nd (di_range1 rfl B.range (d_callIO 2 o_law_pick (hr.mono (by decide)) (L2N.passes_call (L2N.takes_of rfl rfl rfl rfl) (fun _ _ _ _ h => h)) (da_cons d_int da_nil))) (blkOk_by (N := ["script", "k", "deck", "some", "lines", "text", "turn", "at", "sign", "new", "odd", "good", "wrong", "tail", "r", "head"]) (sc := defScope s_law) (by decide +kernel)) (by decide) (fun _ _ _ _ _ => (dg_name sc_law.nd rfl (by first | exact Or.inl rfl | exact Or.inr rfl))) (fun _ _ _ _ _ => dts_nil) (fun _ _ _ _ _ => (d_callIO 2 o_law_rule (hr.mono (by decide)) passes0N da_nil))) da_nil)))
    (ds_cons (ds_setLc (j := 4) (own := [("r", 14)]) rfl sc_law.nd rfl rfl (sw_true rfl rfl rfl (by decide +kernel)) (di_of rfl (d_var 3)) (blkOk_by (N := ["script", "k", "deck", "some", "lines", "text", "turn", "at", "sign", "new", "odd", "good", "wrong", "tail", "r", "head"]) (sc := defScope s_law) (by decide +kernel)) (by decide) (fun _ _ _ _ _ => (dg_name sc_law.nd rfl (by first | exact Or.inl rfl | exact Or.inr rfl))) (fun _ _ _ _ _ => dts_nil) (fun _ _ _ _ _ => (d_callO o_law_text (hr.mono (by decide)) passes0N (da_cons (d_var 14) da_nil))))
    (ds_cons (ds_if (PW.pt (dw_or (dt_cmp (op_neD hr.units) ok_ne (d_lc (own := [("r", 14)]) rfl sc_law.nd (di_of rfl (d_var 3)) (blkOk_by (N := ["script", "k", "deck", "some", "lines", "text", "turn", "at", "sign", "new", "odd", "good", "wrong", "tail", "r", "head"]) (sc := defScope s_law) (by decide +kernel)) (by decide) (fun _ _ _ _ _ => (dg_name sc_law.nd rfl (by first | exact Or.inl rfl | exact Or.inr rfl))) (fun _ _ _ _ _ => dts_nil) (fun _ _ _ _ _ => (d_callO o_rule_text (hr.mono (by decide)) passes0N (da_cons (d_var 14) da_nil)))) (d_var 4) (nomark _)) (dw_or1 (dt_not (dt_val (d_callO o_law_same (hr.mono (by decide)) (L2N.passes_call (L2N.takes_of rfl rfl rfl rfl) (fun _ _ _ _ h => h)) (da_cons (d_callO o_law_told (hr.mono (by decide)) (L2N.passes_call (L2N.takes_of rfl rfl rfl rfl) (fun _ _ _ _ h => h)) (da_cons (d_join d_str (d_var 4)) da_nil)) (da_cons (d_var 3) da_nil)))))))) (ds_one (ds_ret d_bl)) ds_nil)
    (ds_cons (ds_set (i := 5) sc_law.nd rfl (by first | exact Or.inl rfl | exact Or.inr rfl) (d_join d_str (d_var 4)))
    (ds_one (ds_for (passes_of rfl) rfl (di_range1 rfl B.range d_int) (dg_name sc_law.nd rfl (by first | exact Or.inl rfl | exact Or.inr rfl)) (show PSs _ _ (dS _ _ law_k17_b3) from (ds_cons (ds_set (i := 7) sc_law.nd rfl (by first | exact Or.inl rfl | exact Or.inr rfl) (d_callIO 2 o_law_pick (hr.mono (by decide)) (L2N.passes_call (L2N.takes_of rfl rfl rfl rfl) (fun _ _ _ _ h => h)) (da_cons (g_add (g_len rfl B.len (da_cons (d_var 5) da_nil)) d_int) da_nil)))
    (ds_cons (ds_set (i := 8) sc_law.nd rfl (by first | exact Or.inl rfl | exact Or.inr rfl) (d_callIO 2 o_law_one (hr.mono (by decide)) (L2N.passes_call (L2N.takes_of rfl rfl rfl rfl) (fun _ _ _ _ h => h)) (da_cons (d_lst (da_cons d_str (da_cons d_str (da_cons d_str (da_cons d_str (da_cons d_str (da_cons d_str (da_cons d_str (da_cons d_str (da_cons d_str (da_cons d_str (da_cons d_str (da_cons d_str da_nil))))))))))))) da_nil)))
    (ds_cons (ds_set (i := 9) sc_law.nd rfl (by first | exact Or.inl rfl | exact Or.inr rfl) (g_add (g_add (d_sl (d_var 5) do_no (do_at (d_var 7))) (d_var 8)) (d_sl (d_var 5) (do_at (g_add (d_var 7) (d_callIO 2 o_law_pick (hr.mono (by decide)) (L2N.passes_call (L2N.takes_of rfl rfl rfl rfl) (fun _ _ _ _ h => h)) (da_cons d_int da_nil)))) do_no)))
    (ds_one (ds_if (dt_not (dt_val (d_callO o_law_same (hr.mono (by decide)) (L2N.passes_call (L2N.takes_of rfl rfl rfl rfl) (fun _ _ _ _ h => h)) (da_cons (d_callO o_law_told (hr.mono (by decide)) (L2N.passes_call (L2N.takes_of rfl rfl rfl rfl) (fun _ _ _ _ h => h)) (da_cons (d_var 9) da_nil)) (da_cons (d_callO o_law_due (hr.mono (by decide)) (L2N.passes_call (L2N.takes_of rfl rfl rfl rfl) (fun _ _ _ _ h => h)) (da_cons (d_var 9) da_nil)) da_nil))))) (ds_one (ds_ret d_bl)) ds_nil)))))))))))))))
    (ds_cons (ds_for (passes_of rfl) rfl (di_of rfl (d_tup (da_cons d_non (da_cons d_int (da_cons (d_lst da_nil) (da_cons (d_tup da_nil) da_nil)))))) (dg_name sc_law.nd rfl (by first | exact Or.inl rfl | exact Or.inr rfl)) (show PSs _ _ (dS _ _ law_k17_b6) from (ds_one (ds_if (PW.pt (dw_or (dt_cmp (op_neD hr.units) ok_ne (d_callO o_law_told (hr.mono (by decide)) (L2N.passes_call (L2N.takes_of rfl rfl rfl rfl) (fun _ _ _ _ h => h)) (da_cons (d_var 10) da_nil)) d_int (nomark _)) (dw_or1 (dt_cmp (op_neD hr.units) ok_ne (d_tryS 7 hTry trys rfl hNm (by decide) rfl TB rfl hmT hu (hr.mono (by decide)) (LamX.lamS_by (by rfl)) rfl (fun _ _ _ _ _ => rfl) (fun A outer s H E f0 c' hr => (show PE _ _ (dE _ _ law_k17_l5) from (d_callO o_read_rules (hr.mono (by decide)) (L2N.passes_call (L2N.takes_of rfl rfl rfl rfl) (fun _ _ _ _ h => h)) (da_cons (d_var 10) da_nil))))) d_str (nomark _))))) (ds_one (ds_ret d_bl)) ds_nil))))
    (ds_cons (ds_set (i := 11) sc_law.nd rfl (by first | exact Or.inl rfl | exact Or.inr rfl) d_str)
    (ds_cons (ds_set (i := 12) sc_law.nd rfl (by first | exact Or.inl rfl | exact Or.inr rfl) (d_lst (da_cons d_str (da_cons d_str (da_cons (g_add (d_var 11) d_str) da_nil)))))
    (ds_cons (ds_set (i := 13) sc_law.nd rfl (by first | exact Or.inl rfl | exact Or.inr rfl) d_str)
    (ds_cons (ds_set (i := 12) sc_law.nd rfl (by first | exact Or.inl rfl | exact Or.inr rfl) (g_add (d_var 12) (d_lc (own := [("head", 15)]) rfl sc_law.nd (di_of rfl (d_lst (da_cons d_str (da_cons d_str (da_cons d_str (da_cons d_str da_nil)))))) (blkOk_by (N := ["script", "k", "deck", "some", "lines", "text", "turn", "at", "sign", "new", "odd", "good", "wrong", "tail", "r", "head"]) (sc := defScope s_law) (by decide +kernel)) (by decide) (fun _ _ _ _ _ => (dg_name sc_law.nd rfl (by first | exact Or.inl rfl | exact Or.inr rfl))) (fun _ _ _ _ _ => dts_nil) (fun _ _ _ _ _ => (g_add (d_var 15) (d_var 13))))))
    (ds_cons (ds_set (i := 12) sc_law.nd rfl (by first | exact Or.inl rfl | exact Or.inr rfl) (g_add (d_var 12) (d_lc (own := [("head", 15)]) rfl sc_law.nd (di_of rfl (d_lst (da_cons d_str (da_cons d_str (da_cons d_str (da_cons d_str da_nil)))))) (blkOk_by (N := ["script", "k", "deck", "some", "lines", "text", "turn", "at", "sign", "new", "odd", "good", "wrong", "tail", "r", "head"]) (sc := defScope s_law) (by decide +kernel)) (by decide) (fun _ _ _ _ _ => (dg_name sc_law.nd rfl (by first | exact Or.inl rfl | exact Or.inr rfl))) (fun _ _ _ _ _ => dts_nil) (fun _ _ _ _ _ => (g_add (d_var 15) (d_var 13))))))
    (ds_cons (ds_for (passes_of rfl) rfl (di_of rfl (g_add (d_var 12) (d_lst (da_cons d_str da_nil)))) (dg_name sc_law.nd rfl (by first | exact Or.inl rfl | exact Or.inr rfl)) (show PSs _ _ (dS _ _ law_k17_b9) from (ds_one (ds_if (dt_cmp (op_neD hr.units) ok_ne (d_callO o_law_told (hr.mono (by decide)) (L2N.passes_call (L2N.takes_of rfl rfl rfl rfl) (fun _ _ _ _ h => h)) (da_cons (g_add (g_add (d_var 11) d_str) (d_var 10)) da_nil)) d_int (nomark _)) (ds_one (ds_ret d_bl)) ds_nil))))
    (ds_one (ds_ret (d_and (d_cmp (op_eqD hr.units) ok_eq (d_callO o_law_told (hr.mono (by decide)) (L2N.passes_call (L2N.takes_of rfl rfl rfl rfl) (fun _ _ _ _ h => h)) (da_cons (g_add (d_var 11) d_str) da_nil)) d_int (nomark _)) (d_and (d_cmp (op_eqD hr.units) ok_eq (d_callO o_law_told (hr.mono (by decide)) (L2N.passes_call (L2N.takes_of rfl rfl rfl rfl) (fun _ _ _ _ h => h)) (da_cons d_str da_nil)) (d_tup da_nil) (nomark _)) (d_one (d_cmp (op_eqD hr.units) ok_eq (d_callO o_law_told (hr.mono (by decide)) (L2N.passes_call (L2N.takes_of rfl rfl rfl rfl) (fun _ _ _ _ h => h)) (da_cons d_str da_nil)) d_int (nomark _))))))))))))))))

end
def fa0 : List He.Fa := [.free "all", .free "any", .free "bool", .free "enumerate", .free "int", .free "isinstance", .free "len", .free "list", .free "max", .free "min", .free "range", .free "set", .free "sorted", .free "str", .free "sum", .free "tuple", .free "zip", .int "HOURS" 24, .int "MOST_AMOUNT" 40, .int "MOST_CAP" 400, .str "FIGURES" "0123456789", .glo "InvalidRule", .exc "InvalidRule", .free "ValueError", .glo "InvalidTrip", .glo "InvalidNumber", .glo "InvalidPlace", .glo "InvalidPart", .glo "InvalidSeen", .glo "InvalidIndex"]
def fa1 : List He.Fa := [.glo "NotJoined", .glo "NothingToUndo", .glo "TooMany", .glo "InvalidText", .glo "TripError", .glo "is_from", .glo "are_bands_of", .glo "is_rule_of", .glo "need_rule", .glo "rule_text", .glo "number_in", .glo "bands_in", .glo "rule_in", .glo "read_rules", .glo "_law_deck", .glo "_law_pick", .glo "_law_one", .glo "_law_name_of", .glo "_law_try", .glo "_law_sort", .glo "_law_same", .glo "_law_bands", .glo "_law_rule", .glo "_law_text", .glo "_law_number", .glo "_law_pairs", .glo "_law_after", .glo "_law_read", .glo "_law_due", .glo "_law_told"]
def fa2 : List He.Fa := [.glo "law", .keep "is_from", .keep "are_bands_of", .keep "is_rule_of", .keep "need_rule", .keep "rule_text", .keep "number_in", .keep "bands_in", .keep "rule_in", .keep "read_rules", .keep "_law_deck", .keep "_law_pick", .keep "_law_one", .keep "_law_name_of", .keep "_law_try", .keep "_law_sort", .keep "_law_same", .keep "_law_bands", .keep "_law_rule", .keep "_law_text", .keep "_law_number", .keep "_law_pairs", .keep "_law_after", .keep "_law_read", .keep "_law_due", .keep "_law_told", .keep "law"]
def fa : List He.Fa := fa0 ++ fa1 ++ fa2
def fn0 : List He.FnD := [⟨("is_from", none), "is_from", "is_from", defArgs s_is_from, defBody s_is_from, defScope s_is_from⟩, ⟨("are_bands_of", none), "are_bands_of", "are_bands_of", defArgs s_are_bands_of, defBody s_are_bands_of, defScope s_are_bands_of⟩, ⟨("is_rule_of", none), "is_rule_of", "is_rule_of", defArgs s_is_rule_of, defBody s_is_rule_of, defScope s_is_rule_of⟩, ⟨("need_rule", none), "need_rule", "need_rule", defArgs s_need_rule, defBody s_need_rule, defScope s_need_rule⟩, ⟨("rule_text", none), "rule_text", "rule_text", defArgs s_rule_text, defBody s_rule_text, defScope s_rule_text⟩, ⟨("number_in", none), "number_in", "number_in", defArgs s_number_in, defBody s_number_in, defScope s_number_in⟩, ⟨("bands_in", none), "bands_in", "bands_in", defArgs s_bands_in, defBody s_bands_in, defScope s_bands_in⟩, ⟨("rule_in", none), "rule_in", "rule_in", defArgs s_rule_in, defBody s_rule_in, defScope s_rule_in⟩, ⟨("read_rules", none), "read_rules", "read_rules", defArgs s_read_rules, defBody s_read_rules, defScope s_read_rules⟩, ⟨("_law_deck", none), "_law_deck", "_law_deck", defArgs s_law_deck, defBody s_law_deck, defScope s_law_deck⟩, ⟨("_law_pick", none), "_law_pick", "_law_pick", defArgs s_law_pick, defBody s_law_pick, defScope s_law_pick⟩, ⟨("_law_one", none), "_law_one", "_law_one", defArgs s_law_one, defBody s_law_one, defScope s_law_one⟩, ⟨("_law_name_of", none), "_law_name_of", "_law_name_of", defArgs s_law_name_of, defBody s_law_name_of, defScope s_law_name_of⟩, ⟨("_law_try", none), "_law_try", "_law_try", defArgs s_law_try, defBody s_law_try, defScope s_law_try⟩, ⟨("_law_sort", none), "_law_sort", "_law_sort", defArgs s_law_sort, defBody s_law_sort, defScope s_law_sort⟩, ⟨("_law_same", none), "_law_same", "_law_same", defArgs s_law_same, defBody s_law_same, defScope s_law_same⟩, ⟨("_law_bands", none), "_law_bands", "_law_bands", defArgs s_law_bands, defBody s_law_bands, defScope s_law_bands⟩, ⟨("_law_rule", none), "_law_rule", "_law_rule", defArgs s_law_rule, defBody s_law_rule, defScope s_law_rule⟩, ⟨("_law_text", none), "_law_text", "_law_text", defArgs s_law_text, defBody s_law_text, defScope s_law_text⟩, ⟨("_law_number", none), "_law_number", "_law_number", defArgs s_law_number, defBody s_law_number, defScope s_law_number⟩]
def fn1 : List He.FnD := [⟨("_law_pairs", none), "_law_pairs", "_law_pairs", defArgs s_law_pairs, defBody s_law_pairs, defScope s_law_pairs⟩, ⟨("_law_after", none), "_law_after", "_law_after", defArgs s_law_after, defBody s_law_after, defScope s_law_after⟩, ⟨("_law_read", none), "_law_read", "_law_read", defArgs s_law_read, defBody s_law_read, defScope s_law_read⟩, ⟨("_law_due", none), "_law_due", "_law_due", defArgs s_law_due, defBody s_law_due, defScope s_law_due⟩, ⟨("_law_told", none), "_law_told", "_law_told", defArgs s_law_told, defBody s_law_told, defScope s_law_told⟩, ⟨("law", none), "law", "law", defArgs s_law, defBody s_law, defScope s_law⟩]
def fn : List He.FnD := fn0 ++ fn1
def tf : List He.Defn := [("law", none)]
def exf (K : PySem.W.Frag) : Bool := HM.excB Sm.excNames ["InvalidRule", "ValueError"] "InvalidRule" K && (HM.excB Sm.excNames ["InvalidTrip", "ValueError"] "InvalidTrip" K && (HM.excB Sm.excNames ["InvalidNumber", "ValueError"] "InvalidNumber" K && (HM.excB Sm.excNames ["InvalidPlace", "ValueError"] "InvalidPlace" K && (HM.excB Sm.excNames ["InvalidPart", "ValueError"] "InvalidPart" K && (HM.excB Sm.excNames ["InvalidSeen", "ValueError"] "InvalidSeen" K && (HM.excB Sm.excNames ["InvalidIndex", "ValueError"] "InvalidIndex" K && (HM.excB Sm.excNames ["NotJoined", "ValueError"] "NotJoined" K && (HM.excB Sm.excNames ["NothingToUndo", "ValueError"] "NothingToUndo" K && (HM.excB Sm.excNames ["TooMany", "ValueError"] "TooMany" K && (HM.excB Sm.excNames ["InvalidText", "ValueError"] "InvalidText" K && (HM.iniB PySem.Challenge.pw_tripallowances_k17_rules_written_and_rea K "InvalidText" "line" && (HM.tldB K "InvalidText" "line" && (true)))))))))))))
abbrev TT (K : PySem.W.Frag) : List (Addr × Str) := [((He.cT K ("law", none)).2, lamQ "law")]
/-- the classes that may be raised, with what is told of them -/
def Names : Prop := ∀ nm z, tabGet Sm.excTab nm = some z → ∀ a, outOf (Sm.b_law_name_of a (fun y => [nm, "ValueError"].contains y) (.ptr a :: List.replicate 5 .no)) = some (.ok (false, .str z))
abbrev c_InvalidText : Stmt := inClass (topS 12) 0
def fi : List He.FnD := [⟨("InvalidText", some "__init__"), "__init__", "InvalidText.__init__", defArgs c_InvalidText, defBody c_InvalidText, defScope c_InvalidText⟩]
set_option maxHeartbeats 0 in
theorem facts {P : Program} {w : World} {K : PySem.W.Frag} {h : Heap} {mg : Str → Option Value} {f : Addr} (X : K.In h) (G : h.Ns mainGlobals mg) (hfa : mg ("law" : Str) = some (.ref f)) (c0i : HM.SaysI fa fn tf exf fi h K) (hT : LawTrue 16 b_law_k17) (hN : Names) (hP : P = PySem.Challenge.pw_tripallowances_k17_rules_written_and_rea) :
    ∃ fd : FuncData, (∀ (s : Shared) (v : Value), BindsTo s fd ⟨[v], []⟩ [("script", v)]) ∧ ∀ base : Heap, K.In base → base.Ns mainGlobals mg → (∀ p ∈ tf, LamX.TabB base mg (He.cT K p).1 (He.cT K p).2) → FnOk P w K mg base (L2N.CX P w) 15 f fd ["script"] (spLaw K (TT K)) := by
  have c0 := c0i.m
  have c := c0.e
  have B : Bi mg := ⟨He.free_ok X G (c.fact 6 (f := .free "len") rfl), He.free_ok X G (c.fact 10 (f := .free "range") rfl), He.free_ok X G (c.fact 5 (f := .free "isinstance") rfl), He.free_ok X G (c.fact 4 (f := .free "int") rfl), He.free_ok X G (c.fact 2 (f := .free "bool") rfl), He.free_ok X G (c.fact 13 (f := .free "str") rfl), He.free_ok X G (c.fact 7 (f := .free "list") rfl), He.free_ok X G (c.fact 15 (f := .free "tuple") rfl), He.free_ok X G (c.fact 16 (f := .free "zip") rfl), He.free_ok X G (c.fact 3 (f := .free "enumerate") rfl), He.free_ok X G (c.fact 9 (f := .free "min") rfl), He.free_ok X G (c.fact 8 (f := .free "max") rfl), He.free_ok X G (c.fact 14 (f := .free "sum") rfl), He.free_ok X G (c.fact 0 (f := .free "all") rfl), He.free_ok X G (c.fact 1 (f := .free "any") rfl), He.free_ok X G (c.fact 12 (f := .free "sorted") rfl), He.free_ok X G (c.fact 11 (f := .free "set") rfl)⟩
  obtain ⟨t_HOURS, c_HOURS⟩ := He.int_ok X G (c.fact 17 (f := .int "HOURS" 24) rfl)
  obtain ⟨t_MOST_AMOUNT, c_MOST_AMOUNT⟩ := He.int_ok X G (c.fact 18 (f := .int "MOST_AMOUNT" 40) rfl)
  obtain ⟨t_MOST_CAP, c_MOST_CAP⟩ := He.int_ok X G (c.fact 19 (f := .int "MOST_CAP" 400) rfl)
  obtain ⟨t_FIGURES, c_FIGURES⟩ := He.str_ok X G (c.fact 20 (f := .str "FIGURES" "0123456789") rfl)
  have x_InvalidRule : Xok K mg "InvalidRule" := ⟨_, He.glo_ok X G (c.fact 21 (f := .glo "InvalidRule") rfl), (He.exc_ok (c.fact 22 (f := .exc "InvalidRule") rfl)).1, (He.exc_ok (c.fact 22 (f := .exc "InvalidRule") rfl)).2.1, (He.exc_ok (c.fact 22 (f := .exc "InvalidRule") rfl)).2.2.1, (He.exc_ok (c.fact 22 (f := .exc "InvalidRule") rfl)).2.2.2⟩
  obtain ⟨f_is_from, fd_is_from, F_is_from, m_is_from, cd_is_from⟩ := okf_funC X G c 0 35 61 (x := "is_from") (st := s_is_from) rfl rfl rfl
  have bi_is_from := F_is_from.binds (ps := ["value", "low", "high"]) fun _ _ _ _ _ _ us hl => match us, hl with | [_, _, _], _ => rfl
  obtain ⟨f_are_bands_of, fd_are_bands_of, F_are_bands_of, m_are_bands_of, cd_are_bands_of⟩ := okf_funC X G c 1 36 62 (x := "are_bands_of") (st := s_are_bands_of) rfl rfl rfl
  have bi_are_bands_of := F_are_bands_of.binds (ps := ["value"]) fun _ _ _ _ _ _ us hl => match us, hl with | [_], _ => rfl
  obtain ⟨f_is_rule_of, fd_is_rule_of, F_is_rule_of, m_is_rule_of, cd_is_rule_of⟩ := okf_funC X G c 2 37 63 (x := "is_rule_of") (st := s_is_rule_of) rfl rfl rfl
  have bi_is_rule_of := F_is_rule_of.binds (ps := ["value"]) fun _ _ _ _ _ _ us hl => match us, hl with | [_], _ => rfl
  obtain ⟨f_need_rule, fd_need_rule, F_need_rule, m_need_rule, cd_need_rule⟩ := okf_funC X G c 3 38 64 (x := "need_rule") (st := s_need_rule) rfl rfl rfl
  have bi_need_rule := F_need_rule.binds (ps := ["value"]) fun _ _ _ _ _ _ us hl => match us, hl with | [_], _ => rfl
  obtain ⟨f_rule_text, fd_rule_text, F_rule_text, m_rule_text, cd_rule_text⟩ := okf_funC X G c 4 39 65 (x := "rule_text") (st := s_rule_text) rfl rfl rfl
  have bi_rule_text := F_rule_text.binds (ps := ["rule"]) fun _ _ _ _ _ _ us hl => match us, hl with | [_], _ => rfl
  obtain ⟨f_number_in, fd_number_in, F_number_in, m_number_in, cd_number_in⟩ := okf_funC X G c 5 40 66 (x := "number_in") (st := s_number_in) rfl rfl rfl
  have bi_number_in := F_number_in.binds (ps := ["word"]) fun _ _ _ _ _ _ us hl => match us, hl with | [_], _ => rfl
  obtain ⟨f_bands_in, fd_bands_in, F_bands_in, m_bands_in, cd_bands_in⟩ := okf_funC X G c 6 41 67 (x := "bands_in") (st := s_bands_in) rfl rfl rfl
  have bi_bands_in := F_bands_in.binds (ps := ["words"]) fun _ _ _ _ _ _ us hl => match us, hl with | [_], _ => rfl
  obtain ⟨f_rule_in, fd_rule_in, F_rule_in, m_rule_in, cd_rule_in⟩ := okf_funC X G c 7 42 68 (x := "rule_in") (st := s_rule_in) rfl rfl rfl
  have bi_rule_in := F_rule_in.binds (ps := ["line"]) fun _ _ _ _ _ _ us hl => match us, hl with | [_], _ => rfl
  obtain ⟨f_read_rules, fd_read_rules, F_read_rules, m_read_rules, cd_read_rules⟩ := okf_funC X G c 8 43 69 (x := "read_rules") (st := s_read_rules) rfl rfl rfl
  have bi_read_rules := F_read_rules.binds (ps := ["text"]) fun _ _ _ _ _ _ us hl => match us, hl with | [_], _ => rfl
  obtain ⟨f_law_deck, fd_law_deck, F_law_deck, m_law_deck, cd_law_deck⟩ := okf_funC X G c 9 44 70 (x := "_law_deck") (st := s_law_deck) rfl rfl rfl
  have bi_law_deck := F_law_deck.binds (ps := ["cell", "turn"]) fun _ _ _ _ _ _ us hl => match us, hl with | [_, _], _ => rfl
  obtain ⟨f_law_pick, fd_law_pick, F_law_pick, m_law_pick, cd_law_pick⟩ := okf_funC X G c 10 45 71 (x := "_law_pick") (st := s_law_pick) rfl rfl rfl
  have bi_law_pick := F_law_pick.binds (ps := ["deck", "limit"]) fun _ _ _ _ _ _ us hl => match us, hl with | [_, _], _ => rfl
  obtain ⟨f_law_one, fd_law_one, F_law_one, m_law_one, cd_law_one⟩ := okf_funC X G c 11 46 72 (x := "_law_one") (st := s_law_one) rfl rfl rfl
  have bi_law_one := F_law_one.binds (ps := ["deck", "some"]) fun _ _ _ _ _ _ us hl => match us, hl with | [_, _], _ => rfl
  obtain ⟨f_law_name_of, fd_law_name_of, F_law_name_of, m_law_name_of, cd_law_name_of⟩ := okf_funC X G c 12 47 73 (x := "_law_name_of") (st := s_law_name_of) rfl rfl rfl
  have bi_law_name_of := F_law_name_of.binds (ps := ["e"]) fun _ _ _ _ _ _ us hl => match us, hl with | [_], _ => rfl
  obtain ⟨f_law_try, fd_law_try, F_law_try, m_law_try, cd_law_try⟩ := okf_funC X G c 13 48 74 (x := "_law_try") (st := s_law_try) rfl rfl rfl
  have bi_law_try := F_law_try.binds (ps := ["door"]) fun _ _ _ _ _ _ us hl => match us, hl with | [_], _ => rfl
  obtain ⟨f_law_sort, fd_law_sort, F_law_sort, m_law_sort, cd_law_sort⟩ := okf_funC X G c 14 49 75 (x := "_law_sort") (st := s_law_sort) rfl rfl rfl
  have bi_law_sort := F_law_sort.binds (ps := ["thing"]) fun _ _ _ _ _ _ us hl => match us, hl with | [_], _ => rfl
  obtain ⟨f_law_same, fd_law_same, F_law_same, m_law_same, cd_law_same⟩ := okf_funC X G c 15 50 76 (x := "_law_same") (st := s_law_same) rfl rfl rfl
  have bi_law_same := F_law_same.binds (ps := ["told", "due"]) fun _ _ _ _ _ _ us hl => match us, hl with | [_, _], _ => rfl
  obtain ⟨f_law_bands, fd_law_bands, F_law_bands, m_law_bands, cd_law_bands⟩ := okf_funC X G c 16 51 77 (x := "_law_bands") (st := s_law_bands) rfl rfl rfl
  have bi_law_bands := F_law_bands.binds (ps := ["deck"]) fun _ _ _ _ _ _ us hl => match us, hl with | [_], _ => rfl
  obtain ⟨f_law_rule, fd_law_rule, F_law_rule, m_law_rule, cd_law_rule⟩ := okf_funC X G c 17 52 78 (x := "_law_rule") (st := s_law_rule) rfl rfl rfl
  have bi_law_rule := F_law_rule.binds (ps := ["deck"]) fun _ _ _ _ _ _ us hl => match us, hl with | [_], _ => rfl
  obtain ⟨f_law_text, fd_law_text, F_law_text, m_law_text, cd_law_text⟩ := okf_funC X G c 18 53 79 (x := "_law_text") (st := s_law_text) rfl rfl rfl
  have bi_law_text := F_law_text.binds (ps := ["r"]) fun _ _ _ _ _ _ us hl => match us, hl with | [_], _ => rfl
  obtain ⟨f_law_number, fd_law_number, F_law_number, m_law_number, cd_law_number⟩ := okf_funC X G c 19 54 80 (x := "_law_number") (st := s_law_number) rfl rfl rfl
  have bi_law_number := F_law_number.binds (ps := ["word", "low", "high"]) fun _ _ _ _ _ _ us hl => match us, hl with | [_, _, _], _ => rfl
  obtain ⟨f_law_pairs, fd_law_pairs, F_law_pairs, m_law_pairs, cd_law_pairs⟩ := okf_funC X G c 20 55 81 (x := "_law_pairs") (st := s_law_pairs) rfl rfl rfl
  have bi_law_pairs := F_law_pairs.binds (ps := ["words"]) fun _ _ _ _ _ _ us hl => match us, hl with | [_], _ => rfl
  obtain ⟨f_law_after, fd_law_after, F_law_after, m_law_after, cd_law_after⟩ := okf_funC X G c 21 56 82 (x := "_law_after") (st := s_law_after) rfl rfl rfl
  have bi_law_after := F_law_after.binds (ps := ["words", "word", "low", "high"]) fun _ _ _ _ _ _ us hl => match us, hl with | [_, _, _, _], _ => rfl
  obtain ⟨f_law_read, fd_law_read, F_law_read, m_law_read, cd_law_read⟩ := okf_funC X G c 22 57 83 (x := "_law_read") (st := s_law_read) rfl rfl rfl
  have bi_law_read := F_law_read.binds (ps := ["line"]) fun _ _ _ _ _ _ us hl => match us, hl with | [_], _ => rfl
  obtain ⟨f_law_due, fd_law_due, F_law_due, m_law_due, cd_law_due⟩ := okf_funC X G c 23 58 84 (x := "_law_due") (st := s_law_due) rfl rfl rfl
  have bi_law_due := F_law_due.binds (ps := ["text"]) fun _ _ _ _ _ _ us hl => match us, hl with | [_], _ => rfl
  obtain ⟨f_law_told, fd_law_told, F_law_told, m_law_told, cd_law_told⟩ := okf_funC X G c 24 59 85 (x := "_law_told") (st := s_law_told) rfl rfl rfl
  have bi_law_told := F_law_told.binds (ps := ["text"]) fun _ _ _ _ _ _ us hl => match us, hl with | [_], _ => rfl
  obtain ⟨f_law, fd_law, F_law, m_law, cd_law⟩ := okf_funC X G c 25 60 86 (x := "law") (st := s_law) rfl rfl rfl
  have bi_law := F_law.binds (ps := ["script"]) fun _ _ _ _ _ _ us hl => match us, hl with | [_], _ => rfl
  have e := hfa.symm.trans m_law
  cases e
  have g0 : ∀ x ∈ Sm.excNames, mg x = some (.ref (He.ga K x)) := by
    intro x hx
    simp only [Sm.excNames, List.mem_cons, List.not_mem_nil, or_false] at hx
    rcases hx with rfl | rfl | rfl | rfl | rfl | rfl | rfl | rfl | rfl | rfl | rfl
    · exact He.glo_ok X G (c.fact 21 (f := .glo "InvalidRule") rfl)
    · exact He.glo_ok X G (c.fact 24 (f := .glo "InvalidTrip") rfl)
    · exact He.glo_ok X G (c.fact 25 (f := .glo "InvalidNumber") rfl)
    · exact He.glo_ok X G (c.fact 26 (f := .glo "InvalidPlace") rfl)
    · exact He.glo_ok X G (c.fact 27 (f := .glo "InvalidPart") rfl)
    · exact He.glo_ok X G (c.fact 28 (f := .glo "InvalidSeen") rfl)
    · exact He.glo_ok X G (c.fact 29 (f := .glo "InvalidIndex") rfl)
    · exact He.glo_ok X G (c.fact 30 (f := .glo "NotJoined") rfl)
    · exact He.glo_ok X G (c.fact 31 (f := .glo "NothingToUndo") rfl)
    · exact He.glo_ok X G (c.fact 32 (f := .glo "TooMany") rfl)
    · exact He.glo_ok X G (c.fact 33 (f := .glo "InvalidText") rfl)
  have gT : mg "TripError" = some (.ref (He.ga K "TripError")) := He.glo_ok X G (c.fact 34 (f := .glo "TripError") rfl)
  have nVE : mg "ValueError" = none := He.free_ok X G (c.fact 23 (f := .free "ValueError") rfl)
  have more := c0.more
  unfold exf at more
  obtain ⟨xb_InvalidRule, more⟩ := He.ba more
  obtain ⟨xb_InvalidTrip, more⟩ := He.ba more
  obtain ⟨xb_InvalidNumber, more⟩ := He.ba more
  obtain ⟨xb_InvalidPlace, more⟩ := He.ba more
  obtain ⟨xb_InvalidPart, more⟩ := He.ba more
  obtain ⟨xb_InvalidSeen, more⟩ := He.ba more
  obtain ⟨xb_InvalidIndex, more⟩ := He.ba more
  obtain ⟨xb_NotJoined, more⟩ := He.ba more
  obtain ⟨xb_NothingToUndo, more⟩ := He.ba more
  obtain ⟨xb_TooMany, more⟩ := He.ba more
  obtain ⟨xb_InvalidText, more⟩ := He.ba more
  obtain ⟨xi_InvalidText, more⟩ := He.ba more
  obtain ⟨tlb, more⟩ := He.ba more
  have tl : Tld K mg "InvalidText" "line" := HM.tldB_ok (He.glo_ok X G (c.fact 33 (f := .glo "InvalidText") rfl)) tlb
  have xf_InvalidText : XokF P K mg "InvalidText" "line" := by
    subst hP
    exact HM.iniB_ok (q := "InvalidText.__init__") (params := defArgs c_InvalidText) (scope := defScope c_InvalidText) X G xi_InvalidText (c0i.ini _ (List.mem_of_getElem? (i := 0) rfl)) ⟨rfl, rfl, rfl, by decide +kernel, rfl, rfl, rfl, rfl, by decide, by decide⟩ rfl ⟨_, rfl, rfl⟩ (fun _ _ _ _ _ _ _ _ _ => rfl)
  have hNm : NamesOk ⟨K, mg, TT K⟩ Sm.excNames 6 Sm.b_law_name_of (He.ga K "TripError") Sm.nameOf := names_ok (fun nm hn => by
    simp only [Sm.excTab, List.map_cons, List.map_nil, List.mem_cons, List.not_mem_nil, or_false] at hn
    rcases hn with rfl | rfl | rfl | rfl | rfl | rfl | rfl | rfl | rfl | rfl | rfl
    · exact xb_InvalidRule
    · exact xb_InvalidTrip
    · exact xb_InvalidNumber
    · exact xb_InvalidPlace
    · exact xb_InvalidPart
    · exact xb_InvalidSeen
    · exact xb_InvalidIndex
    · exact xb_NotJoined
    · exact xb_NothingToUndo
    · exact xb_TooMany
    · exact xb_InvalidText
    ) (by decide +kernel) g0 hN
  refine ⟨fd_law, bind1 F_law (fun _ _ _ _ _ _ us hl => match us, hl with | [_], _ => rfl), fun base _ _ hTB => ?_⟩
  have o_is_from := ok_is_from (P := P) (w := w) (base := base) (T := (TT K)) B  F_is_from m_is_from bi_is_from
  have o_are_bands_of := ok_are_bands_of (P := P) (w := w) (base := base) (T := (TT K)) B o_is_from c_HOURS c_MOST_AMOUNT F_are_bands_of m_are_bands_of bi_are_bands_of
  have o_is_rule_of := ok_is_rule_of (P := P) (w := w) (base := base) (T := (TT K)) B o_are_bands_of o_is_from c_MOST_AMOUNT c_HOURS c_MOST_CAP F_is_rule_of m_is_rule_of bi_is_rule_of
  have o_need_rule := ok_need_rule (P := P) (w := w) (base := base) (T := (TT K)) B o_is_rule_of x_InvalidRule F_need_rule m_need_rule bi_need_rule
  have o_rule_text := ok_rule_text (P := P) (w := w) (base := base) (T := (TT K)) B o_need_rule F_rule_text m_rule_text bi_rule_text
  have o_number_in := ok_number_in (P := P) (w := w) (base := base) (T := (TT K)) B c_FIGURES F_number_in m_number_in bi_number_in
  have o_bands_in := ok_bands_in (P := P) (w := w) (base := base) (T := (TT K)) B o_number_in F_bands_in m_bands_in bi_bands_in
  have o_rule_in := ok_rule_in (P := P) (w := w) (base := base) (T := (TT K)) B o_number_in o_bands_in o_is_rule_of o_rule_text F_rule_in m_rule_in bi_rule_in
  have o_read_rules := ok_read_rules (P := P) (w := w) (base := base) (T := (TT K)) B o_rule_in xf_InvalidText F_read_rules m_read_rules bi_read_rules
  have o_law_deck := ok_law_deck (P := P) (w := w) (base := base) (T := (TT K)) B  F_law_deck m_law_deck bi_law_deck
  have o_law_pick := ok_law_pick (P := P) (w := w) (base := base) (T := (TT K)) B  F_law_pick m_law_pick bi_law_pick
  have o_law_one := ok_law_one (P := P) (w := w) (base := base) (T := (TT K)) B o_law_pick F_law_one m_law_one bi_law_one
  have o_law_name_of := ok_law_name_of (P := P) (w := w) (base := base) (T := (TT K)) B nVE F_law_name_of
  have hTry : TryF P w K mg base ⟨K, mg, TT K⟩ Sm.excNames 6 1 Sm.b_law_name_of (He.ga K "TripError") s_law_try := ⟨⟨_, _, _, _, m_law_try, F_law_try, F_law_try.kp, bi_law_try, o_law_name_of, m_law_name_of, F_law_name_of.kp, bi_law_name_of⟩, gT, sc_law_try⟩
  have o_law_sort := ok_law_sort (P := P) (w := w) (base := base) (T := (TT K)) B  F_law_sort m_law_sort bi_law_sort
  have o_law_same := okn_law_same (P := P) (w := w) (base := base) (T := (TT K)) B o_law_sort F_law_same m_law_same bi_law_same 12
  have o_law_bands := ok_law_bands (P := P) (w := w) (base := base) (T := (TT K)) B o_law_pick F_law_bands m_law_bands bi_law_bands
  have o_law_rule := ok_law_rule (P := P) (w := w) (base := base) (T := (TT K)) B o_law_pick o_law_bands F_law_rule m_law_rule bi_law_rule
  have o_law_text := ok_law_text (P := P) (w := w) (base := base) (T := (TT K)) B  F_law_text m_law_text bi_law_text
  have o_law_number := ok_law_number (P := P) (w := w) (base := base) (T := (TT K)) B  F_law_number m_law_number bi_law_number
  have o_law_pairs := ok_law_pairs (P := P) (w := w) (base := base) (T := (TT K)) B o_law_number F_law_pairs m_law_pairs bi_law_pairs
  have o_law_after := ok_law_after (P := P) (w := w) (base := base) (T := (TT K)) B o_law_number F_law_after m_law_after bi_law_after
  have o_law_read := ok_law_read (P := P) (w := w) (base := base) (T := (TT K)) B o_law_pairs o_law_after F_law_read m_law_read bi_law_read
  have o_law_due := ok_law_due (P := P) (w := w) (base := base) (T := (TT K)) B o_law_read F_law_due m_law_due bi_law_due
  have o_law_told := ok_law_told (P := P) (w := w) (base := base) (T := (TT K)) B o_read_rules tl F_law_told m_law_told bi_law_told
  exact ok_law B o_law_deck o_law_pick o_law_rule o_law_text o_rule_text o_law_same o_law_told o_law_one o_law_due o_read_rules hTry hNm (hTB ("law", none) (List.Mem.head _)) (List.Mem.head _) (by
    simp [TT]) F_law cd_law hT
def loose0 : List Str := ["HOURS", "MOST_AMOUNT", "MOST_CAP", "FIGURES", "TripError", "InvalidRule", "InvalidTrip", "InvalidNumber", "InvalidPlace", "InvalidPart", "InvalidSeen", "InvalidIndex", "NotJoined", "NothingToUndo", "TooMany", "InvalidText", "is_from", "are_bands_of", "is_rule_of", "need_rule", "rule_text", "number_in", "bands_in", "rule_in", "read_rules", "_law_deck", "_law_pick", "_law_one", "_law_name_of", "_law_try"]
def loose1 : List Str := ["_law_sort", "_law_same", "_law_bands", "_law_rule", "_law_word", "_law_way", "_law_text", "_law_number", "_law_pairs", "_law_after", "_law_read", "_law_due", "_law_told"]
def loose : List Str := loose0 ++ loose1
abbrev R : PySem.W.OpenRow := PySem.W.OpenLaw.row PySem.Challenge.rw_tripallowances_k17_rules_written_and_rea
abbrev hk : PySem.W.Hook := HM.hookI 4 fa fn tf exf fi
def ob (s : PySem.W.SharedT) : HM.AlI := HM.obsI 4 fa fn tf exf fi (HandSHeadRun.getT s)
theorem ob_eq (s : PySem.W.SharedT) : ob s = hk.obs s.abs := HM.obsI_eq (HandSHeadRun.getT_eq s)
set_option maxHeartbeats 0 in
theorem run (w : World) : HandSHeadRun.RunEq R (PySem.W.view R.prog [47]) hk ob 20000 loose w := by
  intro os
  kernel_rfl
end Lk17
section
open PySem PySem.W PySem.Calls PyProof.Rows
set_option maxHeartbeats 0 in
theorem Lk17.closes (hT : DL.LawTrue 16 Sm.b_law_k17) (hN : Lk17.Names) : PySem.Challenge.rw_tripallowances_k17_rules_written_and_rea.Holds := by
  w_on; o_law
  refine HandSHeadRun.head_any (r := OpenLaw.row PySem.Challenge.rw_tripallowances_k17_rules_written_and_rea) (q := view (OpenLaw.row PySem.Challenge.rw_tripallowances_k17_rules_written_and_rea).prog [47]) (H := Lk17.hk) (ob := Lk17.ob) (M := 20000) (loose := Lk17.loose) (d := HandSHeadRun.topDef (OpenLaw.row PySem.Challenge.rw_tripallowances_k17_rules_written_and_rea).prog 47) (kwd := []) Lk17.ob_eq
    (by kernel_rfl) (fun s => by kernel_rfl) Lk17.run (by kernel_rfl) (by kernel_rfl) (by kernel_rfl) (by rfl) (by first | assumption | decide +kernel) (by decide +kernel) ⟨rfl, rfl, rfl, rfl, rfl, by decide +kernel⟩ ?hw ?hc
  case hw => w_witness2
  case hc =>
    refine LamX.walk_ofTsE (l := PySem.Challenge.rw_tripallowances_k17_rules_written_and_rea) (n := 63) (k := 15) (x := "script") (CX := fun w => L2N.CX (PySem.Challenge.rw_tripallowances_k17_rules_written_and_rea).prog w) rfl (by decide) (by kernel_rfl) ⟨rfl, by decide, by decide⟩ ?F (fun w H s e s' z => DL.no_cx w H s e s' z)
    intro w mg fa h Y G hmg0
    obtain ⟨K, KX, c⟩ := Y
    have hmg : mg ("law" : PySem.Str) = some (.ref fa) := by
      have e : (HandSHeadRun.topDef (OpenLaw.row PySem.Challenge.rw_tripallowances_k17_rules_written_and_rea).prog 47).name = ("law" : PySem.Str) := by kernel_rfl
      rw [← e]
      exact hmg0
    obtain ⟨fd, hb, hF⟩ := Lk17.facts (P := (PySem.Challenge.rw_tripallowances_k17_rules_written_and_rea).prog) (w := w) KX G hmg c hT hN rfl
    exact ⟨K, KX, fd, Lk17.tf.map (He.cT K), DL.spLaw K (Lk17.TT K), (fun p hp => by obtain ⟨q, hq, rfl⟩ := List.mem_map.mp hp; exact c.m.empty q hq), (fun p hp => by obtain ⟨q, hq, rfl⟩ := List.mem_map.mp hp; exact c.m.out q hq), (fun p hp => by obtain ⟨q, hq, rfl⟩ := List.mem_map.mp hp; exact PySem.W.codeHd_of_K KX (c.m.hd q hq)), hb, fun H a ns hl _ hH hS => ⟨a, ns, rfl, hS, hl, (fun p hp => by
      simp only [Lk17.TT, List.mem_cons, List.not_mem_nil, or_false] at hp
      rcases hp with rfl
      all_goals exact LamX.TabS.nil (hH _ (List.mem_map_of_mem (by simp [Lk17.tf])))), fun _ => rfl⟩, fun base h1 h2 hTB => hF base h1 h2 (fun p hp => hTB _ (List.mem_map_of_mem hp))⟩
end

/-! The data layer, part p: how the mirrors are computed. -/
namespace DL
open PySem PySem.Spec PyProof.Rows L2
/-- a thing that hangs on Q: so that the simplifier does not walk into Q -/
inductive Pq {α : Type} (Q : α → Ev → Prop) : Type
  | mk
/-- it comes to an end without an error, and so -/
def Wp {α : Type} (r : Res α) (Q : α → Ev → Prop) (_ : Pq Q := .mk) : Prop := ∃ a e, r = some (.ok (a, e)) ∧ Q a e
section
variable {α β : Type} {r r' : Res α} {Q Q' : α → Ev → Prop} {a : α} {e : Ev}
@[simp] theorem wp_some : Wp (some (.ok (a, e))) Q = Q a e := by
  apply propext
  exact ⟨fun ⟨a', e', h, q⟩ => by cases h; exact q, fun q => ⟨a, e, rfl, q⟩⟩
@[simp] theorem wp_rok : Wp (rok a e) Q = Q a e := wp_some
@[simp] theorem wp_none : Wp (none : Res α) Q = False := by
  apply propext
  exact ⟨(fun ⟨a', e', h, q⟩ => nomatch h), False.elim⟩
@[simp] theorem wp_rb {r : Res β} {f : β → Ev → Res α} : Wp (rb r f) Q = Wp r fun b e => Wp (f b e) Q := by
  apply propext
  constructor
  · intro ⟨a, e, h, q⟩
    cases r with
    | none => cases h
    | some x => cases x with
      | error x => cases h
      | ok p => exact ⟨p.1, p.2, rfl, a, e, h, q⟩
  · intro ⟨b, e, h, a, e', h', q⟩
    exact ⟨a, e', by rw [h]; exact h', q⟩
@[simp] theorem wp_ite {c : Prop} [Decidable c] {x y : Res α} : Wp (if c then x else y) Q = if c then Wp x Q else Wp y Q := by split <;> rfl
theorem wp_ext (h : ∀ a e, Q a e = Q' a e) : Wp r Q = Wp r Q' := by
  have : Q = Q' := funext fun a => funext fun e => h a e
  subst this; rfl
theorem Wp.mono (h : Wp r Q) (k : ∀ a e, Q a e → Q' a e) : Wp r Q' := let ⟨a, e, h, q⟩ := h; ⟨a, e, h, k a e q⟩
@[simp] theorem wp_lift_ite {c : Prop} [Decidable c] {x : α} : Wp (lift (if c then some x else none) e) Q = (c ∧ Q x e) := by
  by_cases h : c <;> simp [h]
@[simp] theorem wp_ite_none {c : Prop} [Decidable c] {x : Res α} : Wp (if c then x else none) Q = (c ∧ Wp x Q) := by
  by_cases h : c <;> simp [h]
end
/-- a bound of a range -/
def okR (j : Int) : Prop := -(2 ^ 62) ≤ j ∧ j < 2 ^ 62
/-- not to be computed by the kernel: its ints are large -/
noncomputable instance okRDec {j : Int} : Decidable (okR j) := Classical.propDecidable _
theorem okR_of {j : Int} (h0 : -1000000 ≤ j) (h1 : j ≤ 1000000) : okR j := ⟨by omega, by omega⟩
@[simp] theorem okR_lit (n : Nat) : okR (no_index (OfNat.ofNat n : Int)) = (n < 4611686018427387904) := by
  apply propext
  show (-(2 ^ 62) ≤ ((n : Nat) : Int) ∧ ((n : Nat) : Int) < 2 ^ 62) ↔ _
  omega
/-! ### the combinators, applied -/
section
variable {i j l : Nat} {d : PyData} {env : Ev} {f k h : EM} {o2 o2' : Op2} {o1 : Op1} {on : OpN} {as : AM} {t u : TM} {b : GM} {bs : GsM} {sm sk : SM} {im : IM} {vs : List Nat} {s : FnS} {si : FnI}
@[simp] theorem a_eC : eC d env = rok (false, d) env := rfl
@[simp] theorem a_var (h : env[i]? = some (.fz d)) : eVar i env = rok (false, d) env := by unfold eVar; rw [h]; rfl
@[simp] theorem a_varO (h : env[i]? = some (.ow d)) : eVar i env = rok (false, d) (env.set i (.fz d)) := by unfold eVar; rw [h]; rfl
@[simp] theorem a_bin : eBin o2 f k env = rb (f env) fun a e1 => rb (k e1) fun b e2 => lift (o2 a.2 b.2) e2 := rfl
@[simp] theorem a_un : eUn o1 f env = rb (f env) fun a e1 => lift (o1 a.2) e1 := rfl
@[simp] theorem a_b : eB on as env = rb (as env) fun a e1 => lift (on a) e1 := rfl
@[simp] theorem a_aNil : aNil env = rok [] env := rfl
@[simp] theorem a_aCons : aCons f as env = rb (f env) fun a e1 => rb (as e1) fun as e2 => rok (a.2 :: as) e2 := rfl
@[simp] theorem a_asB {w x : Bool} : asB (w, .bool x) env = rok x env := rfl
@[simp] theorem a_tOf : tOf f env = rb (f env) asB := rfl
@[simp] theorem a_tAnd : tAndM t u env = rb (t env) fun b e => if b = true then u e else rok false e := rfl
@[simp] theorem a_tOr : tOrM t u env = rb (t env) fun b e => if b = true then rok true e else u e := rfl
@[simp] theorem a_tNot : tNotM t env = rb (t env) fun b e => rok (!b) e := rfl
@[simp] theorem a_eAnd : eAnd f k env = rb (f env) fun a e => rb (asB a e) fun b e => if b = true then k e else rok (false, .bool false) e := rfl
@[simp] theorem a_eOr : eOr f k env = rb (f env) fun a e => rb (asB a e) fun b e => if b = true then rok (false, .bool true) e else k e := rfl
@[simp] theorem a_eNot : eNot f env = rb (f env) fun a e => rb (asB a e) fun b e => rok (false, .bool (!b)) e := rfl
@[simp] theorem a_eIf : eIf t f k env = rb (t env) fun b e => if b = true then f e else k e := rfl
@[simp] theorem a_eChain : eChain o2 o2' f k h env = rb (f env) fun a e1 => rb (k e1) fun b e2 => rb (lift (o2 a.2 b.2) e2) fun c e3 => rb (asB c e3) fun q e4 => if q = true then rb (h e4) fun d e5 => lift (o2' b.2 d.2) e5 else rok (false, .bool false) e4 := rfl
@[simp] theorem a_eTup : eTup as env = rb (as env) fun ds e => if ds.length ≤ sizeLine then rok (false, .tuple ds) e else none := rfl
@[simp] theorem a_eLst : eLst as env = rb (as env) fun ds e => if ds.length ≤ sizeLine then rok (true, .list ds) e else none := rfl
@[simp] theorem a_gNm : gNm i d env = some (env.set i (.fz d)) := rfl
@[simp] theorem a_gsNil : gsNil [] env = some env := rfl
@[simp] theorem a_gsCons {ds : List PyData} : gsCons b bs (d :: ds) env = match b d env with | some e => bs ds e | none => none := rfl
@[simp] theorem a_gTp {ds : List PyData} : gTp bs (.tuple ds) env = bs ds env := rfl
@[simp] theorem a_sSeq : sSeq sm sk env = rb (sm env) fun o e => match o with | .nx => sk e | o => rok o e := rfl
@[simp] theorem a_sSkip : sSkip env = rok .nx env := rfl
@[simp] theorem a_sSet : sSet i f env = rb (f env) fun od e => rok .nx (e.set i (slOf od.1 od.2)) := rfl
@[simp] theorem a_sUnp : sUnp b f env = rb (f env) fun od e => rb (lift (b od.2 e) e) fun e' _ => rok .nx e' := rfl
@[simp] theorem a_sRet : sRet f env = rb (f env) fun od e => rok (.rt od.1 od.2) e := rfl
@[simp] theorem a_sIf : sIf t sm sk env = rb (t env) fun b e => if b = true then sm e else sk e := rfl
@[simp] theorem a_sExpr : sExpr f env = rb (f env) fun _ e => rok .nx e := rfl
@[simp] theorem a_sBreak : sBreak env = rok .bk env := rfl
@[simp] theorem a_sCont : sCont env = rok .ct env := rfl
@[simp] theorem slOf_t : slOf true d = .ow d := rfl
@[simp] theorem slOf_f : slOf false d = .fz d := rfl
@[simp] theorem a_iOf : iOf f env = rb (f env) fun od e => lift (itOf od.2) e := rfl
@[simp] theorem a_sFor : sFor b im sm env = rb (im env) fun ds e => forL b sm ds e := rfl
@[simp] theorem a_tTrue : tTrue env = rok true env := rfl
@[simp] theorem a_eLc : eLc vs b im t f env = rb (im env) fun ds e => if noOwn e vs = true then rb (lcL vs b t f ds (hide e vs) []) fun acc e2 => rok (true, .list acc) (unhide e e2 vs) else none := rfl
@[simp] theorem a_peek : ePeek f env = rb (noErr (f (env.map thaw))) fun od _ => if od.1 = false ∧ pureD od.2 = true then rok od env else none := rfl
@[simp] theorem noErr_rb {α β : Type} {r : Res α} {g : α → Ev → Res β} : noErr (rb r g) = rb (noErr r) fun a e => noErr (g a e) := by
  cases r with
  | none => rfl
  | some x => cases x <;> rfl
@[simp] theorem noErr_lift {α : Type} {o : Option α} {e : Ev} : noErr (lift o e) = lift o e := by cases o <;> rfl
@[simp] theorem wp_noErr {α : Type} {r : Res α} {Q : α → Ev → Prop} : Wp (noErr r) Q = Wp r Q := by
  apply propext
  constructor
  · intro ⟨a, e, h, q⟩
    cases r with
    | none => cases h
    | some x => cases x with
      | error x => cases h
      | ok p => exact ⟨a, e, h, q⟩
  · intro ⟨a, e, h, q⟩
    exact ⟨a, e, by rw [h]; rfl, q⟩
def liftF (r : Option (Except Ex (Bool × PyData))) (e : Ev) : Res (Bool × PyData) := match r with
  | some (.ok od) => some (.ok (od, e))
  | some (.error x) => some (.error x)
  | none => none
@[simp] theorem liftF_ok {od : Bool × PyData} {e : Ev} : liftF (some (.ok od)) e = rok od e := rfl
@[simp] theorem a_call : eCall s as env = rb (as env) fun ds e => liftF (s ds) e := rfl
def liftI (r : Option (Bool × PyData × List PyData)) (e : Ev) (i : Nat) : Res (Bool × PyData) := match r with
  | some (own, d, ds1) => rok (own, d) (e.set i (reSl e[i]? ds1))
  | none => none
@[simp] theorem liftI_ok {own : Bool} {d : PyData} {ds1 : List PyData} {e : Ev} {i : Nat} : liftI (some (own, d, ds1)) e i = rok (own, d) (e.set i (reSl e[i]? ds1)) := rfl
def callI (i : Nat) (s : FnI) (ds : List PyData) (e : Ev) : Res (Bool × PyData) := match slList e[i]? with
  | none => none
  | some ds0 => liftI (s ds0 ds) e i
@[simp] theorem a_callI0 {ds0 ds : List PyData} (h : env[i]? = some (.io ds0)) : callI i si ds env = liftI (si ds0 ds) env i := by unfold callI; rw [h]; rfl
@[simp] theorem a_callI1 {ds0 ds : List PyData} (h : env[i]? = some (.ow (.list ds0))) : callI i si ds env = liftI (si ds0 ds) env i := by unfold callI; rw [h]; rfl
theorem eCallI_eq : eCallI i si as env = match slList env[i]? with | none => none | some _ => rb (as env) fun ds e => callI i si ds e := by
  unfold eCallI callI liftI
  cases slList env[i]? with
  | none => rfl
  | some x =>
    refine congrArg (rb (as env)) (funext fun ds => funext fun e => ?_)
    cases slList e[i]? with
    | none => rfl
    | some ds0 => rfl
@[simp] theorem a_eCallI0 {ds0 : List PyData} (h : env[i]? = some (.io ds0)) : eCallI i si as env = rb (as env) fun ds e => callI i si ds e := by rw [eCallI_eq, h]; rfl
@[simp] theorem a_eCallI1 {ds0 : List PyData} (h : env[i]? = some (.ow (.list ds0))) : eCallI i si as env = rb (as env) fun ds e => callI i si ds e := by rw [eCallI_eq, h]; rfl
@[simp] theorem reSl_io {ds ds' : List PyData} : reSl (some (.io ds)) ds' = .io ds' := rfl
@[simp] theorem reSl_ow {d : PyData} {ds' : List PyData} : reSl (some (.ow d)) ds' = .ow (.list ds') := rfl
@[simp] theorem slList_io {ds : List PyData} : slList (some (.io ds)) = some ds := rfl
@[simp] theorem slList_ow {ds : List PyData} : slList (some (.ow (.list ds))) = some ds := rfl
@[simp] theorem a_putL {fk fv : EM} : sPutL i fk fv env = rb (fv env) fun v e1 => match slList e1[i]? with
  | none => none
  | some _ => rb (fk e1) fun k e2 => match slList e2[i]?, k.2 with
    | some ds, .int n => match ixN ds.length n with
      | some j => rok .nx (e2.set i (reSl e2[i]? (ds.set j v.2)))
      | none => none
    | _, _ => none := rfl
@[simp] theorem a_app {fv : EM} : sApp i fv env = match slList env[i]? with
  | none => none
  | some _ => rb (fv env) fun v e2 => match slList e2[i]? with
    | some ds => if ds.length < sizeLine then rok .nx (e2.set i (reSl e2[i]? (ds ++ [v.2]))) else none
    | none => none := rfl
@[simp] theorem a_range1 : iRange1 f env = rb (f env) fun od e => match od.2 with
  | .int j => if okR j then rok (rangeD 0 j.toNat) e else none
  | _ => none := by
  unfold iRange1
  refine congrArg (rb (f env)) (funext fun od => funext fun e => ?_)
  obtain ⟨_, d1⟩ := od
  cases d1 <;> try rfl
  rename_i j
  show (if _ then _ else _) = (if _ then _ else _)
  by_cases h1 : okR j
  · rw [if_pos ⟨h1.1, h1.2⟩, if_pos h1]
  · rw [if_neg (fun z => h1 ⟨z.1, z.2⟩), if_neg h1]
@[simp] theorem a_range2 : iRange2 f k env = rb (f env) fun od e => rb (k e) fun od2 e2 => match od.2, od2.2 with
  | .int i, .int j => if okR i ∧ okR j then rok (rangeD i (j - i).toNat) e2 else none
  | _, _ => none := by
  unfold iRange2
  refine congrArg (rb (f env)) (funext fun od => funext fun e => ?_)
  refine congrArg (rb (k e)) (funext fun od2 => funext fun e2 => ?_)
  obtain ⟨_, d1⟩ := od
  obtain ⟨_, d2⟩ := od2
  cases d1 <;> cases d2 <;> try rfl
  rename_i i j
  show (if _ then _ else _) = (if _ then _ else _)
  by_cases h1 : okR i
  · by_cases h2 : okR j
    · rw [if_pos ⟨h1.1, h1.2, h2.1, h2.2⟩, if_pos ⟨h1, h2⟩]
    · rw [if_neg (fun z => h2 ⟨z.2.2.1, z.2.2.2⟩), if_neg (fun z => h2 z.2)]
  · rw [if_neg (fun z => h1 ⟨z.1, z.2.1⟩), if_neg (fun z => h1 z.1)]
@[simp] theorem a_zip : iZip as env = rb (as env) fun as e => match as with
  | [.list a, .list b] => rok (zipD a b) e
  | [.tuple a, .tuple b] => rok (zipD a b) e
  | _ => none := rfl
@[simp] theorem a_enum : iEnumD as env = rb (as env) fun as e => match as with
  | [d] => lift ((itOf d).map enumD) e
  | _ => none := rfl
@[simp] theorem a_eSl {lo hi : Ev → Res (Option Int)} : eSl f lo hi env = rb (f env) fun od e1 => rb (lo e1) fun l e2 => rb (hi e2) fun h e3 => lift (slD od.2 l h) e3 := rfl
@[simp] theorem a_oNo : oNo env = rok none env := rfl
@[simp] theorem a_oAt : oAt f env = rb (f env) fun od e => match od.2 with
  | .int i => rok (some i) e
  | _ => none := rfl
@[simp] theorem a_eM1 : eM1 o2 f k env = rb (f env) fun a e1 => match a.2 with
  | .str _ => rb (k e1) fun b e2 => lift (o2 a.2 b.2) e2
  | _ => none := rfl
@[simp] theorem a_eM0 : eM0 o1 f env = rb (f env) fun a e1 => match a.2 with
  | .str _ => lift (o1 a.2) e1
  | _ => none := rfl
@[simp] theorem a_par2 : sPar2 i j f k env = rb (f env) fun a e1 => rb (k e1) fun b e2 => rok .nx ((e2.set i (.fz a.2)).set j (slOf b.1 b.2)) := rfl
@[simp] theorem a_par3 : sPar3 i j l f k h env = rb (f env) fun a e1 => rb (k e1) fun b e2 => rb (h e2) fun c e3 => rok .nx (((e3.set i (.fz a.2)).set j (.fz b.2)).set l (slOf c.1 c.2)) := rfl
end
/-! ### the operators -/
section
variable {i j : Int} {x y : Str} {d d' : PyData} {ds as bs : List PyData} {b c : Bool}
@[simp] theorem o_bD : bD b = some (false, .bool b) := rfl
@[simp] theorem o_iD : iD i = some (false, .int i) := rfl
@[simp] theorem o_yes : yes d = some (false, d) := rfl
@[simp] theorem o_add : addD (.int i) (.int j) = some (false, .int (i + j)) := rfl
@[simp] theorem o_addBI : addD (.bool b) (.int j) = some (false, .int (b2i b + j)) := rfl
@[simp] theorem o_addIB : addD (.int i) (.bool b) = some (false, .int (i + b2i b)) := rfl
@[simp] theorem o_addT : addD (.tuple as) (.tuple bs) = if as.length + bs.length ≤ sizeLine then some (false, .tuple (as ++ bs)) else none := rfl
@[simp] theorem o_addL : addD (.list as) (.list bs) = if as.length + bs.length ≤ sizeLine then some (true, .list (as ++ bs)) else none := rfl
@[simp] theorem o_addS : addD (.str x) (.str y) = if x.length + y.length ≤ sizeLine then some (false, .str (x ++ y)) else none := rfl
@[simp] theorem o_sub : subD (.int i) (.int j) = some (false, .int (i - j)) := rfl
@[simp] theorem smallI_iff : (smallI i = true) = (-18446744073709551616 < i ∧ i < 18446744073709551616) := by simp [smallI]
def okM (i j : Int) : Prop := (smallI i || smallI j) = true
noncomputable instance okMDec {i j : Int} : Decidable (okM i j) := Classical.propDecidable _
@[simp] theorem okM_iff : okM i j = (smallI i = true ∨ smallI j = true) := by simp [okM]
theorem okM_of (h0 : -1000000 ≤ i) (h1 : i ≤ 1000000) : okM i j := by
  rw [okM_iff]; left; rw [smallI_iff]; exact ⟨by omega, by omega⟩
@[simp] theorem o_mul : mulD (.int i) (.int j) = if okM i j then some (false, .int (i * j)) else none := by
  show (if _ then _ else _) = (if _ then _ else _)
  by_cases h : okM i j
  · rw [if_pos h]; exact if_pos (show (smallI i || smallI j) = true from h)
  · rw [if_neg h]; exact if_neg (show ¬ (smallI i || smallI j) = true from h)
@[simp] theorem o_mulL {k : Int} : mulD (.list as) (.int k) = if -(2 ^ 63) ≤ k ∧ k < 2 ^ 63 ∧ as.length * k.toNat ≤ sizeLine then some (true, .list (List.replicate k.toNat as).flatten) else none := rfl
@[simp] theorem o_mulS {k : Int} : mulD (.str x) (.int k) = if x.length ≤ 1000 ∧ 0 ≤ k ∧ k ≤ 1000 then some (false, .str (Txt.mul x k)) else none := rfl
@[simp] theorem o_fdiv : fdivD (.int i) (.int j) = if 0 < j ∧ j < 1073741824 then some (false, .int (i / j)) else none := rfl
@[simp] theorem o_mod : modD (.int i) (.int j) = if 0 < j then some (false, .int (i % j)) else none := rfl
@[simp] theorem o_pow : powD (.int i) (.int j) = if 0 ≤ j ∧ j ≤ 1000000 ∧ i.natAbs < 2 ^ 64 then some (false, .int (i ^ j.toNat)) else none := rfl
@[simp] theorem o_neg : negD (.int i) = some (false, .int (-i)) := rfl
@[simp] theorem o_lt : ltD (.int i) (.int j) = some (false, .bool (decide (i < j))) := rfl
@[simp] theorem o_le : leD (.int i) (.int j) = some (false, .bool (decide (i ≤ j))) := rfl
@[simp] theorem o_gt : gtD (.int i) (.int j) = some (false, .bool (decide (j < i))) := rfl
@[simp] theorem o_ge : geD (.int i) (.int j) = some (false, .bool (decide (j ≤ i))) := rfl
@[simp] theorem o_isN : isD d .none = some (false, .bool (isNone d)) := by cases d <;> rfl
@[simp] theorem o_isB : isD (.bool b) (.bool c) = some (false, .bool (decide (b = c))) := rfl
@[simp] theorem o_isntN : isntD d .none = some (false, .bool (!isNone d)) := by cases d <;> rfl
@[simp] theorem o_isntB : isntD (.bool b) (.bool c) = some (false, .bool (!decide (b = c))) := rfl
@[simp] theorem o_lenL : lenD [.list as] = some (false, .int as.length) := rfl
@[simp] theorem o_lenT : lenD [.tuple as] = some (false, .int as.length) := rfl
@[simp] theorem o_lenS : lenD [.str x] = if x.length ≤ sizeLine then some (false, .int x.length) else none := rfl
@[simp] theorem o_int : intD [.int i] = some (false, .int i) := rfl
@[simp] theorem o_intB : intD [.bool b] = some (false, .int (if b then 1 else 0)) := rfl
@[simp] theorem o_max2 : max2D [.int i, .int j] = some (false, .int (if j > i then j else i)) := rfl
@[simp] theorem o_min2 : min2D [.int i, .int j] = some (false, .int (if j < i then j else i)) := rfl
@[simp] theorem o_ixL : ixD (.list ds) (.int i) = oY (atI ds i) := rfl
@[simp] theorem o_ixT : ixD (.tuple ds) (.int i) = oY (atI ds i) := rfl
@[simp] theorem oY_some : oY (some d) = some (false, d) := rfl
@[simp] theorem o_slT {lo hi : Option Int} : slD (.tuple ds) lo hi = some (false, .tuple (cutL ds lo hi)) := rfl
@[simp] theorem o_slL {lo hi : Option Int} : slD (.list ds) lo hi = some (true, .list (cutL ds lo hi)) := rfl
@[simp] theorem o_listT : listD [.tuple ds] = some (true, .list ds) := rfl
@[simp] theorem o_listS : listD [.str x] = if x.length ≤ sizeLine then some (true, .list (signs x)) else none := rfl
@[simp] theorem o_listL : listD [.list ds] = some (true, .list ds) := rfl
@[simp] theorem o_tupT : tupleD [.tuple ds] = some (false, .tuple ds) := rfl
@[simp] theorem o_tupL : tupleD [.list ds] = some (false, .tuple ds) := rfl
@[simp] theorem o_itL : itOf (.list ds) = some ds := rfl
@[simp] theorem o_itT : itOf (.tuple ds) = some ds := rfl
theorem kb1 : kitB "int" "int" = some true ∧ kitB "int" "bool" = some false ∧ kitB "bool" "int" = some true ∧ kitB "bool" "bool" = some true ∧ kitB "NoneType" "int" = some false ∧ kitB "NoneType" "bool" = some false ∧ kitB "str" "int" = some false ∧ kitB "str" "bool" = some false ∧ kitB "list" "int" = some false ∧ kitB "list" "bool" = some false ∧ kitB "tuple" "int" = some false ∧ kitB "tuple" "bool" = some false := by decide +kernel
theorem kb2 : kitB "int" "tuple" = some false ∧ kitB "bool" "tuple" = some false ∧ kitB "NoneType" "tuple" = some false ∧ kitB "str" "tuple" = some false ∧ kitB "list" "tuple" = some false ∧ kitB "tuple" "tuple" = some true ∧ kitB "int" "list" = some false ∧ kitB "bool" "list" = some false ∧ kitB "NoneType" "list" = some false ∧ kitB "str" "list" = some false ∧ kitB "list" "list" = some true ∧ kitB "tuple" "list" = some false := by decide +kernel
theorem kb3 : kitB "int" "str" = some false ∧ kitB "bool" "str" = some false ∧ kitB "NoneType" "str" = some false ∧ kitB "str" "str" = some true ∧ kitB "list" "str" = some false ∧ kitB "tuple" "str" = some false := by decide +kernel
/-- no dictionary at all -/
def plainD (d : PyData) : Bool := noDict d
@[simp, reducible] def isIntB : PyData → Bool
  | .none => false
  | .bool _ => true
  | .int _ => true
  | .str _ => false
  | .list _ => false
  | .tuple _ => false
  | .dict _ => false
@[simp, reducible] def isBoolB : PyData → Bool
  | .none => false
  | .bool _ => true
  | .int _ => false
  | .str _ => false
  | .list _ => false
  | .tuple _ => false
  | .dict _ => false
@[simp, reducible] def isTupB : PyData → Bool
  | .none => false
  | .bool _ => false
  | .int _ => false
  | .str _ => false
  | .list _ => false
  | .tuple _ => true
  | .dict _ => false
@[simp, reducible] def isListB : PyData → Bool
  | .none => false
  | .bool _ => false
  | .int _ => false
  | .str _ => false
  | .list _ => true
  | .tuple _ => false
  | .dict _ => false
@[simp, reducible] def isStrB : PyData → Bool
  | .none => false
  | .bool _ => false
  | .int _ => false
  | .str _ => true
  | .list _ => false
  | .tuple _ => false
  | .dict _ => false
@[simp, reducible] def isDictB : PyData → Bool
  | .none => false
  | .bool _ => false
  | .int _ => false
  | .str _ => false
  | .list _ => false
  | .tuple _ => false
  | .dict _ => true
theorem isi_int (h : isDictB d = false) : isiD "int" d = some (false, .bool (isIntB d)) := by
  obtain ⟨h1, h2, h3, h4, h5, h6, h7, h8, h9, h10, h11, h12⟩ := kb1
  cases d <;> simp_all [isiD, tyName, isIntB, isDictB]
theorem isi_bool (h : isDictB d = false) : isiD "bool" d = some (false, .bool (isBoolB d)) := by
  obtain ⟨h1, h2, h3, h4, h5, h6, h7, h8, h9, h10, h11, h12⟩ := kb1
  cases d <;> simp_all [isiD, tyName, isBoolB, isDictB]
theorem isi_tuple (h : isDictB d = false) : isiD "tuple" d = some (false, .bool (isTupB d)) := by
  obtain ⟨h1, h2, h3, h4, h5, h6, h7, h8, h9, h10, h11, h12⟩ := kb2
  cases d <;> simp_all [isiD, tyName, isTupB, isDictB]
theorem isi_list (h : isDictB d = false) : isiD "list" d = some (false, .bool (isListB d)) := by
  obtain ⟨h1, h2, h3, h4, h5, h6, h7, h8, h9, h10, h11, h12⟩ := kb2
  cases d <;> simp_all [isiD, tyName, isListB, isDictB]
theorem isi_str (h : isDictB d = false) : isiD "str" d = some (false, .bool (isStrB d)) := by
  obtain ⟨h1, h2, h3, h4, h5, h6⟩ := kb3
  cases d <;> simp_all [isiD, tyName, isStrB, isDictB]
@[simp] theorem oi_int_int : isiD "int" (.int i) = some (false, .bool true) := isi_int rfl
@[simp] theorem oi_int_bool : isiD "int" (.bool b) = some (false, .bool true) := isi_int rfl
@[simp] theorem oi_int_none : isiD "int" .none = some (false, .bool false) := isi_int rfl
@[simp] theorem oi_int_str : isiD "int" (.str x) = some (false, .bool false) := isi_int rfl
@[simp] theorem oi_int_list : isiD "int" (.list ds) = some (false, .bool false) := isi_int rfl
@[simp] theorem oi_int_tuple : isiD "int" (.tuple ds) = some (false, .bool false) := isi_int rfl
@[simp] theorem oi_bool_int : isiD "bool" (.int i) = some (false, .bool false) := isi_bool rfl
@[simp] theorem oi_bool_bool : isiD "bool" (.bool b) = some (false, .bool true) := isi_bool rfl
@[simp] theorem oi_bool_none : isiD "bool" .none = some (false, .bool false) := isi_bool rfl
@[simp] theorem oi_bool_str : isiD "bool" (.str x) = some (false, .bool false) := isi_bool rfl
@[simp] theorem oi_bool_list : isiD "bool" (.list ds) = some (false, .bool false) := isi_bool rfl
@[simp] theorem oi_bool_tuple : isiD "bool" (.tuple ds) = some (false, .bool false) := isi_bool rfl
@[simp] theorem oi_tuple_int : isiD "tuple" (.int i) = some (false, .bool false) := isi_tuple rfl
@[simp] theorem oi_tuple_bool : isiD "tuple" (.bool b) = some (false, .bool false) := isi_tuple rfl
@[simp] theorem oi_tuple_none : isiD "tuple" .none = some (false, .bool false) := isi_tuple rfl
@[simp] theorem oi_tuple_str : isiD "tuple" (.str x) = some (false, .bool false) := isi_tuple rfl
@[simp] theorem oi_tuple_list : isiD "tuple" (.list ds) = some (false, .bool false) := isi_tuple rfl
@[simp] theorem oi_tuple_tuple : isiD "tuple" (.tuple ds) = some (false, .bool true) := isi_tuple rfl
@[simp] theorem oi_list_int : isiD "list" (.int i) = some (false, .bool false) := isi_list rfl
@[simp] theorem oi_list_bool : isiD "list" (.bool b) = some (false, .bool false) := isi_list rfl
@[simp] theorem oi_list_none : isiD "list" .none = some (false, .bool false) := isi_list rfl
@[simp] theorem oi_list_str : isiD "list" (.str x) = some (false, .bool false) := isi_list rfl
@[simp] theorem oi_list_list : isiD "list" (.list ds) = some (false, .bool true) := isi_list rfl
@[simp] theorem oi_list_tuple : isiD "list" (.tuple ds) = some (false, .bool false) := isi_list rfl
@[simp] theorem oi_str_int : isiD "str" (.int i) = some (false, .bool false) := isi_str rfl
@[simp] theorem oi_str_bool : isiD "str" (.bool b) = some (false, .bool false) := isi_str rfl
@[simp] theorem oi_str_none : isiD "str" .none = some (false, .bool false) := isi_str rfl
@[simp] theorem oi_str_str : isiD "str" (.str x) = some (false, .bool true) := isi_str rfl
@[simp] theorem oi_str_list : isiD "str" (.list ds) = some (false, .bool false) := isi_str rfl
@[simp] theorem oi_str_tuple : isiD "str" (.tuple ds) = some (false, .bool false) := isi_str rfl
@[simp] theorem o_isi_int (h : isDictB d = false) : isiD "int" d = some (false, .bool (isIntB d)) := isi_int h
@[simp] theorem o_isi_bool (h : isDictB d = false) : isiD "bool" d = some (false, .bool (isBoolB d)) := isi_bool h
@[simp] theorem o_isi_tuple (h : isDictB d = false) : isiD "tuple" d = some (false, .bool (isTupB d)) := isi_tuple h
@[simp] theorem o_isi_list (h : isDictB d = false) : isiD "list" d = some (false, .bool (isListB d)) := isi_list h
@[simp] theorem o_isi_str (h : isDictB d = false) : isiD "str" d = some (false, .bool (isStrB d)) := isi_str h
end
/-! ### loops -/
theorem wp_forL {b : GM} {body : SM} {Q : Out → Ev → Prop} (I : List PyData → Ev → Prop)
    (step : ∀ d rest env, I (d :: rest) env → ∃ e1, b d env = some e1 ∧ Wp (body e1) fun o e2 => match o with | .nx => I rest e2 | .ct => I rest e2 | .bk => Q .nx e2 | .rt own v => Q (.rt own v) e2)
    (done : ∀ env, I [] env → Q .nx env) : ∀ ds env, I ds env → Wp (forL b body ds env) Q
  | [], env, h => by
    unfold forL
    rw [wp_rok]
    exact done env h
  | d :: ds, env, h => by
    obtain ⟨e1, hb, w⟩ := step d ds env h
    unfold forL
    rw [hb]
    simp only [wp_rb]
    refine w.mono fun o e2 q => ?_
    cases o with
    | nx => exact wp_forL I step done ds e2 q
    | ct => exact wp_forL I step done ds e2 q
    | bk => rw [wp_rok]; exact q
    | rt own v => rw [wp_rok]; exact q
theorem wp_lcL {vs : List Nat} {b : GM} {t : TM} {f : EM} {Q : List PyData → Ev → Prop} (I : List PyData → List PyData → Ev → Prop)
    (step : ∀ acc d rest env, I acc (d :: rest) env → acc.length < sizeLine ∧ ∃ e1, b d env = some e1 ∧ Wp (t e1) fun c e2 => if c = true then Wp (f e2) fun od e3 => I (acc ++ [od.2]) rest (hide e3 vs) else I acc rest (hide e2 vs))
    (done : ∀ acc env, I acc [] env → Q acc env) : ∀ ds env acc, I acc ds env → Wp (lcL vs b t f ds env acc) Q
  | [], env, acc, h => by
    unfold lcL
    rw [wp_rok]
    exact done acc env h
  | d :: ds, env, acc, h => by
    obtain ⟨hl, e1, hb, w⟩ := step acc d ds env h
    unfold lcL
    rw [hb]
    simp only [wp_rb, wp_noErr]
    refine w.mono fun c e2 q => ?_
    split at q
    · rename_i hc
      rw [if_pos hc]
      simp only [wp_rb, wp_noErr]
      refine q.mono fun od e3 q => ?_
      rw [if_pos hl]
      exact wp_lcL I step done ds _ _ q
    · rename_i hc
      rw [if_neg hc]
      exact wp_lcL I step done ds _ _ q
theorem wp_whL {t : TM} {body : SM} {Q : Out → Ev → Prop} (I : Nat → Ev → Prop)
    (step : ∀ n env, I n env → Wp (t env) fun b e => if b = true then Wp (body e) fun o e2 => match o with | .nx => ∃ k, k < n ∧ I k e2 | .ct => ∃ k, k < n ∧ I k e2 | .bk => Q .nx e2 | .rt own v => Q (.rt own v) e2 else Q .nx e) : ∀ (N n : Nat) (env : Ev), n < N → I n env → Wp (whL t body N env) Q
  | 0, n, env, hn, _ => absurd hn (Nat.not_lt_zero _)
  | N + 1, n, env, hn, h => by
    unfold whL
    rw [wp_rb]
    refine (step n env h).mono fun b e q => ?_
    cases b with
    | false => simpa using q
    | true =>
      simp only [if_true, wp_rb] at q ⊢
      refine q.mono fun o e2 q => ?_
      cases o with
      | nx => obtain ⟨k, hk, q⟩ := q; exact wp_whL I step N k e2 (by omega) q
      | ct => obtain ⟨k, hk, q⟩ := q; exact wp_whL I step N k e2 (by omega) q
      | bk => rw [wp_rok]; exact q
      | rt own v => rw [wp_rok]; exact q
theorem wp_while {t : TM} {body : SM} {Q : Out → Ev → Prop} (I : Nat → Ev → Prop) {n : Nat} {env : Ev} (hn : n < 2 ^ 40) (h : I n env)
    (step : ∀ n env, I n env → Wp (t env) fun b e => if b = true then Wp (body e) fun o e2 => match o with | .nx => ∃ k, k < n ∧ I k e2 | .ct => ∃ k, k < n ∧ I k e2 | .bk => Q .nx e2 | .rt own v => Q (.rt own v) e2 else Q .nx e) : Wp (sWhile t body env) Q := wp_whL I step _ n env hn h
/-! ### defs -/
theorem wp_mkFn {n p : Nat} {f : SM} {ds : List PyData} {own : Bool} {d : PyData} (hp : ds.length = p) (h : Wp (f (ds.map Sl.fz ++ List.replicate (n - p) .no)) fun o _ => o = .rt own d) : mkFn n p f ds = some (.ok (own, d)) := by
  obtain ⟨o, e, h, rfl⟩ := h
  unfold mkFn
  rw [if_pos hp, h]
  rfl
theorem wp_mkFnQ {n p : Nat} {f : SM} {ds : List PyData} {Q : Bool → PyData → Prop} (hp : ds.length = p) (h : Wp (f (ds.map Sl.fz ++ List.replicate (n - p) .no)) fun o _ => ∃ own d, o = .rt own d ∧ Q own d) : ∃ own d, mkFn n p f ds = some (.ok (own, d)) ∧ Q own d := by
  obtain ⟨o, e, h, own, d, rfl, q⟩ := h
  refine ⟨own, d, ?_, q⟩
  unfold mkFn
  rw [if_pos hp, h]
  rfl
/-- an in-out def gives so -/
def WpI (r : Option (Bool × PyData × List PyData)) (Q : Bool → PyData → List PyData → Prop) : Prop := ∃ own d ds1, r = some (own, d, ds1) ∧ Q own d ds1
theorem wpi_mk {n p : Nat} {f : SM} {ds0 ds : List PyData} {Q : Bool → PyData → List PyData → Prop} (hp : ds.length + 1 = p) (h : Wp (f (.io ds0 :: (ds.map Sl.fz ++ List.replicate (n - p) .no))) fun o e => ∃ own d ds1, o = .rt own d ∧ e[0]? = some (.io ds1) ∧ Q own d ds1) : WpI (mkFnI n p f ds0 ds) Q := by
  obtain ⟨o, e, h, own, d, ds1, rfl, he, q⟩ := h
  refine ⟨own, d, ds1, ?_, q⟩
  unfold mkFnI
  rw [if_pos hp, h]
  unfold outI
  simp only [he]
theorem wp_I {r : Option (Bool × PyData × List PyData)} {P : Bool → PyData → List PyData → Prop} {e : Ev} {i : Nat} {Q : Bool × PyData → Ev → Prop} (h : WpI r P) (k : ∀ own d ds1, P own d ds1 → Q (own, d) (e.set i (reSl e[i]? ds1))) : Wp (liftI r e i) Q := by
  obtain ⟨own, d, ds1, rfl, p⟩ := h
  rw [liftI_ok, wp_rok]
  exact k own d ds1 p
theorem WpI.mono {r : Option (Bool × PyData × List PyData)} {P Q : Bool → PyData → List PyData → Prop} (h : WpI r P) (k : ∀ own d ds1, P own d ds1 → Q own d ds1) : WpI r Q := let ⟨a, b, c, h, p⟩ := h; ⟨a, b, c, h, k a b c p⟩
@[simp] theorem wp_lcL_cons {vs : List Nat} {b : GM} {t : TM} {f : EM} {d : PyData} {ds : List PyData} {env : Ev} {acc : List PyData} {Q : List PyData → Ev → Prop} : Wp (lcL vs b t f (d :: ds) env acc) Q = match b d env with
    | none => False
    | some e1 => Wp (t e1) fun c e2 => if c = true then Wp (f e2) fun od e3 => acc.length < sizeLine ∧ Wp (lcL vs b t f ds (hide e3 vs) (acc ++ [od.2])) Q else Wp (lcL vs b t f ds (hide e2 vs) acc) Q := by
  conv => lhs; unfold lcL
  cases b d env with
  | none => simp
  | some e1 =>
    simp only [wp_rb, wp_noErr]
    refine wp_ext fun c e2 => ?_
    cases c with
    | false => simp
    | true =>
      simp only [if_true, wp_rb, wp_noErr]
      exact wp_ext fun od e3 => by simp
@[simp] theorem wp_lcL_nil {vs : List Nat} {b : GM} {t : TM} {f : EM} {env : Ev} {acc : List PyData} {Q : List PyData → Ev → Prop} : Wp (lcL vs b t f [] env acc) Q = Q acc env := by
  unfold lcL; simp
@[simp] theorem wp_forL_nil {b : GM} {body : SM} {env : Ev} {Q : Out → Ev → Prop} : Wp (forL b body [] env) Q = Q .nx env := by
  unfold forL; simp
theorem wp_forL_cons {b : GM} {body : SM} {d : PyData} {ds : List PyData} {env : Ev} {Q : Out → Ev → Prop} : Wp (forL b body (d :: ds) env) Q = match b d env with
    | none => False
    | some e1 => Wp (body e1) fun o e2 => match o with
      | .nx => Wp (forL b body ds e2) Q
      | .ct => Wp (forL b body ds e2) Q
      | .bk => Q .nx e2
      | .rt own v => Q (.rt own v) e2 := by
  conv => lhs; unfold forL
  cases b d env with
  | none => simp
  | some e1 =>
    simp only [wp_rb]
    refine wp_ext fun o e2 => ?_
    cases o <;> simp
@[simp] theorem hide_nil {env : Ev} : hide env [] = env := rfl
@[simp] theorem hide_cons {env : Ev} {v : Nat} {vs : List Nat} : hide env (v :: vs) = (hide env vs).set v .no := rfl
@[simp] theorem unhide_nil {env e : Ev} : unhide env e [] = e := rfl
@[simp] theorem unhide_cons {env e : Ev} {v : Nat} {vs : List Nat} : unhide env e (v :: vs) = match env[v]? with
  | some sl => (unhide env e vs).set v sl
  | none => unhide env e vs := rfl
@[simp] theorem boolsD_nil : boolsD [] = some [] := rfl
@[simp] theorem boolsD_cons {b : Bool} {ds : List PyData} : boolsD (.bool b :: ds) = (boolsD ds).map (b :: ·) := rfl
@[simp] theorem intsD_nil : intsD [] = some [] := rfl
@[simp] theorem intsD_cons {b : Int} {ds : List PyData} : intsD (.int b :: ds) = (intsD ds).map (b :: ·) := rfl
@[simp] theorem strsD_nil : strsD [] = some [] := rfl
@[simp] theorem strsD_cons {b : Str} {ds : List PyData} : strsD (.str b :: ds) = (strsD ds).map (b :: ·) := rfl
@[simp] theorem allD_eq {a : List PyData} : allD [.list a] = match boolsD a with
    | some bs => some (false, .bool (bs.all id))
    | none => none := rfl
@[simp] theorem anyD_eq {a : List PyData} : anyD [.list a] = match boolsD a with
    | some bs => some (false, .bool (bs.any id))
    | none => none := rfl
@[simp] theorem sumD_eq {a : List PyData} : sumD [.list a] = match intsD a with
    | some bs => some (false, .int bs.sum)
    | none => none := rfl
@[simp] theorem shp_int {i : Int} : shp (.int i) = true := rfl
@[simp] theorem shp_bool {i : Bool} : shp (.bool i) = true := rfl
@[simp] theorem shp_none : shp .none = true := rfl
@[simp] theorem eqD_int {i j : Int} : eqD (.int i) (.int j) = some (false, .bool (decide (i = j))) := by
  by_cases h : i = j <;> simp [eqD, PyData.eqv, h]
@[simp] theorem neD_int {i j : Int} : neD (.int i) (.int j) = some (false, .bool (!decide (i = j))) := by
  by_cases h : i = j <;> simp [neD, PyData.eqv, h]
@[simp] theorem neD_bool {i j : Bool} : neD (.bool i) (.bool j) = some (false, .bool (!decide (i = j))) := by
  cases i <;> cases j <;> rfl
@[simp] theorem eqD_bool {i j : Bool} : eqD (.bool i) (.bool j) = some (false, .bool (decide (i = j))) := by
  cases i <;> cases j <;> rfl
end DL

/-! The laws' decks: what they draw. -/
namespace Pu
open PySem PySem.Spec PyProof.Rows L2 DL Sm
def Dk (n : Nat) (ds : List PyData) : Prop := ∃ a b c : Int, ds = [.int a, .int b, .int c] ∧ 0 ≤ b ∧ b < 2147483579 ∧ 0 ≤ c ∧ c + n ≤ 2 ^ 38
theorem Dk.le {n m : Nat} {ds : List PyData} (h : Dk n ds) (hm : m ≤ n) : Dk m ds := by
  obtain ⟨a, b, c, e, h1, h2, h3, h4⟩ := h
  exact ⟨a, b, c, e, h1, h2, h3, by omega⟩
theorem pick_ok {n : Nat} {ds : List PyData} {L : Int} (h : Dk (n + 1) ds) (h0 : 0 < L) (h1 : L < 2 ^ 30) : WpI (f_law_pick ds [.int L]) fun own d ds1 => own = false ∧ Dk n ds1 ∧ ∃ r, d = .int r ∧ 0 ≤ r ∧ r < L := by
  obtain ⟨a, b, c, rfl, hb0, hb1, hc0, hc1⟩ := h
  refine wpi_mk rfl ?_
  have hm := Int.emod_nonneg a (show L ≠ 0 by omega)
  have hM := Int.emod_lt_of_pos a h0
  by_cases ha : 1 < a
  · unfold b_law_pick
    simp [atI, ixN, thaw, pureD, ha, h0]
    exact ⟨by omega, ⟨a / L, b, c, rfl, hb0, hb1, hc0, by omega⟩, hm, hM⟩
  · unfold b_law_pick
    simp [atI, ixN, thaw, pureD, ha, h0, smallI]
    have e1 := Int.emod_nonneg ((b + 15485867 * (c + 1)) ^ 5) (show (2147483647 : Int) ≠ 0 by decide)
    have e2 := Int.emod_lt_of_pos ((b + 15485867 * (c + 1)) ^ 5) (show (0 : Int) < 2147483647 by decide)
    exact ⟨by omega, by omega, ⟨a, b, c + 1, rfl, hb0, hb1, by omega, by omega⟩, Int.emod_nonneg _ (by omega), Int.emod_lt_of_pos _ h0⟩
theorem deck_ok (cell turn : Int) (h0 : 0 ≤ turn) (h1 : turn < 2 ^ 37) : ∃ ds, f_law_deck [.int cell, .int turn] = some (.ok (true, .list ds)) ∧ Dk (2 ^ 37) ds := by
  have e1 := Int.emod_nonneg cell (show (2147483579 : Int) ≠ 0 by decide)
  have e2 := Int.emod_lt_of_pos cell (show (0 : Int) < 2147483579 by decide)
  by_cases h : (1000000000000000000 : Int) ≤ cell
  · refine ⟨_, wp_mkFn (own := true) (d := .list [.int (cell - 1000000000000000000), .int (cell % 2147483579), .int turn]) rfl ?_, _, _, _, rfl, e1, e2, h0, by omega⟩
    unfold b_law_deck
    simp [h, sizeLine]
  · refine ⟨_, wp_mkFn (own := true) (d := .list [.int 0, .int (cell % 2147483579), .int turn]) rfl ?_, _, _, _, rfl, e1, e2, h0, by omega⟩
    unfold b_law_deck
    simp [h, sizeLine]
/-! ### rules -/
def isFromD (d : PyData) (lo hi : Int) : Bool := match d with
  | .int v => decide (lo ≤ v) && decide (v ≤ hi)
  | _ => false
section
variable {lo hi v : Int} {b : Bool} {x : Str} {ds : List PyData} {kv : List (PyData × PyData)}
@[simp] theorem isFrom_dict : isFromD (.dict kv) lo hi = false := rfl
@[simp] theorem isFrom_int : isFromD (.int v) lo hi = (decide (lo ≤ v) && decide (v ≤ hi)) := rfl
@[simp] theorem isFrom_bool : isFromD (.bool b) lo hi = false := rfl
@[simp] theorem isFrom_none : isFromD .none lo hi = false := rfl
@[simp] theorem isFrom_str : isFromD (.str x) lo hi = false := rfl
@[simp] theorem isFrom_list : isFromD (.list ds) lo hi = false := rfl
@[simp] theorem isFrom_tuple : isFromD (.tuple ds) lo hi = false := rfl
theorem isFrom_shape {d : PyData} (h : isFromD d lo hi = true) : ∃ v : Int, d = .int v ∧ lo ≤ v ∧ v ≤ hi := by
  cases d <;> simp [isFromD] at h
  exact ⟨_, rfl, h.1, h.2⟩
end
theorem is_from_eq {d : PyData} (hd : isDictB d = false) (lo hi : Int) : f_is_from [d, .int lo, .int hi] = some (.ok (false, .bool (isFromD d lo hi))) := by
  refine wp_mkFn rfl ?_
  unfold b_is_from
  cases d
  case dict k => cases hd
  case int v => by_cases h1 : lo ≤ v <;> simp [isDictB, isIntB, isBoolB, isFromD, h1]
  all_goals simp [isDictB, isIntB, isBoolB, isFromD]
theorem law_whole_eq {d : PyData} (hd : isDictB d = false) : f_law_whole [d] = some (.ok (false, .bool (isIntB d && !isBoolB d))) := by
  refine wp_mkFn rfl ?_
  unfold b_law_whole
  cases d
  case dict k => cases hd
  all_goals simp [isDictB, isIntB, isBoolB]
theorem law_is_from_eq {d : PyData} (hd : isDictB d = false) (lo hi : Int) : f_law_is_from [d, .int lo, .int hi] = some (.ok (false, .bool (isFromD d lo hi))) := by
  refine wp_mkFn rfl ?_
  unfold b_law_is_from
  cases d
  case dict k => cases hd
  case int v => by_cases h1 : lo ≤ v <;> simp [law_whole_eq, isDictB, isIntB, isBoolB, isFromD, h1]
  all_goals simp [law_whole_eq, isDictB, isIntB, isBoolB, isFromD]
/-- one band behind the hour `last` -/
def bandD (last : Int) (d : PyData) : Bool := match d with
  | .tuple [x, y] => isFromD x (last + 1) 24 && isFromD y 0 40
  | _ => false
@[reducible] def headD (d : PyData) : Int := match d with
  | .tuple (.int h :: _) => h
  | _ => 0
def goB : Int → List PyData → Bool
  | _, [] => true
  | last, d :: r => bandD last d && goB (headD d) r
def isBandsD (d : PyData) : Bool := match d with
  | .tuple ds => decide (1 ≤ ds.length) && decide (ds.length ≤ 3) && goB 0 ds
  | _ => false
theorem nd_tup {ds : List PyData} (h : noDict (.tuple ds) = true) : ∀ d ∈ ds, noDict d = true := by
  unfold noDict at h
  induction ds with
  | nil => intro d hd; cases hd
  | cons x xs ih =>
    unfold noDicts at h
    rw [Bool.and_eq_true] at h
    intro d hd
    rcases List.mem_cons.mp hd with rfl | hd
    · exact h.1
    · exact ih h.2 d hd
theorem nd_dict {d : PyData} (h : noDict d = true) : isDictB d = false := by
  cases d <;> first | rfl | (unfold noDict at h; cases h)
end Pu

namespace Pu
open PySem PySem.Spec PyProof.Rows L2 DL Sm
/-- the body of the program's walk over bands -/
theorem bands_body {v d : PyData} (hd : noDict d = true) {x y : Sl} : Wp (are_bands_of_b1 [.fz v, .fz d, x, y]) fun o e => e = [.fz v, .fz d, x, y] ∧ o = if bandD 0 d = true then .nx else .rt false (.bool false) := by
  have h1 := nd_dict hd
  unfold are_bands_of_b1
  cases d
  case tuple ds =>
    match ds, hd with
    | [], _ => simp [bandD]
    | [x], _ => simp [bandD]
    | x :: y :: z :: r, _ => 
      have : ¬ ((r.length : Int) + 1 + 1 + 1 = 2) := by omega
      simp [bandD, this]
    | [x, y], hd =>
      have n1 := nd_dict (nd_tup hd x (by simp))
      have n2 := nd_dict (nd_tup hd y (by simp))
      by_cases q1 : isFromD x 1 24 = true <;> by_cases q2 : isFromD y 0 40 = true <;> simp_all [bandD, atI, ixN, is_from_eq]
  all_goals simp [bandD] at *
theorem band_shape {k : Int} {d : PyData} (h : bandD k d = true) : ∃ a b : Int, d = .tuple [.int a, .int b] ∧ k + 1 ≤ a ∧ a ≤ 24 ∧ 0 ≤ b ∧ b ≤ 40 := by
  unfold bandD at h
  split at h
  · rename_i x y
    cases x <;> cases y <;> simp at h
    rename_i a b
    exact ⟨a, b, rfl, by omega, by omega, by omega, by omega⟩
  · cases h
theorem band_up {d : PyData} {k : Int} (hk : 0 ≤ k) (h : bandD 0 d = false) : bandD k d = false := by
  cases h2 : bandD k d with
  | false => rfl
  | true =>
    obtain ⟨a, b, rfl, z⟩ := band_shape h2
    simp [bandD] at h
    omega
theorem head_nn {k : Int} {d : PyData} (hk : 0 ≤ k) (h : bandD k d = true) : 0 ≤ headD d := by
  obtain ⟨a, b, rfl, z⟩ := band_shape h
  show 0 ≤ a
  omega
theorem band_dn {d : PyData} {k : Int} (hk : 0 ≤ k) (h : bandD k d = true) : bandD 0 d = true := by
  cases h2 : bandD 0 d with
  | false => rw [band_up hk h2] at h; exact h
  | true => rfl
theorem bands_loop {v : PyData} {ds : List PyData} (hd : ∀ d ∈ ds, noDict d = true) {Q : Out → Ev → Prop} {s : Sl} (h1 : ds.all (bandD 0) = true → ∀ s, Q .nx [.fz v, s, .no, .no]) (h2 : ds.all (bandD 0) = false → ∀ e, Q (.rt false (.bool false)) e) :
    Wp (forL (gNm 1) are_bands_of_b1 ds [.fz v, s, .no, .no]) Q := by
  refine wp_forL (fun rest env => (∃ s, env = [.fz v, s, .no, .no]) ∧ ds.all (bandD 0) = rest.all (bandD 0) ∧ ∀ d ∈ rest, d ∈ ds) ?_ ?_ _ _ ⟨⟨s, rfl⟩, rfl, fun _ h => h⟩
  · rintro d rest env ⟨⟨s, rfl⟩, e1, e2⟩
    refine ⟨_, rfl, (bands_body (hd d (e2 d (by simp)))).mono ?_⟩
    rintro o e ⟨rfl, ho⟩
    by_cases q : bandD 0 d = true
    · rw [if_pos q] at ho; subst ho
      exact ⟨⟨_, rfl⟩, by simp [e1, q], fun x hx => e2 x (by simp [hx])⟩
    · rw [if_neg q] at ho; subst ho
      exact h2 (by simp [e1, q]) _
  · rintro env ⟨⟨s, rfl⟩, e1, _⟩
    exact h1 (by simpa using e1) s
theorem are_bands_eq {v : PyData} (hd : noDict v = true) : f_are_bands_of [v] = some (.ok (false, .bool (isBandsD v))) := by
  have h1 := nd_dict hd
  refine wp_mkFn rfl ?_
  unfold b_are_bands_of
  cases v
  case tuple ds =>
    have hds := nd_tup hd
    match ds, hds with
    | [], _ => simp [isBandsD]
    | [a], hds =>
      simp [isBandsD]
      refine bands_loop hds (fun q s => ?_) (fun q e => ?_)
      · simp at q
        obtain ⟨h, x, rfl, q1, q2, q3, q4⟩ := band_shape q
        simp [cutL, HT.sIx, zipD, noOwn, goB, q]
      · simp at q
        simp [goB, q]
    | [a, b], hds => 
      simp [isBandsD]
      refine bands_loop hds (fun q s => ?_) (fun q e => ?_)
      · simp at q
        obtain ⟨h, x, rfl, q1, q2, q3, q4⟩ := band_shape q.1
        obtain ⟨h', x', rfl, q1', q2', q3', q4'⟩ := band_shape q.2
        simp [cutL, HT.sIx, zipD, noOwn, goB, q, are_bands_of_e2, atI, ixN, sizeLine, headD, bandD, q1, q2, q3, q4, q1', q2', q3', q4']
        rw [Bool.eq_iff_iff]; simp only [Bool.and_eq_true, decide_eq_true_eq]; omega
      · simp at q
        simp [goB]
        exact fun q1 => band_up (head_nn (Int.le_refl 0) q1) (q q1)
    | [a, b, c], hds =>
      simp [isBandsD]
      refine bands_loop hds (fun q s => ?_) (fun q e => ?_)
      · simp at q
        obtain ⟨h, x, rfl, q1, q2, q3, q4⟩ := band_shape q.1
        obtain ⟨h', x', rfl, q1', q2', q3', q4'⟩ := band_shape q.2.1
        obtain ⟨h'', x'', rfl, q1'', q2'', q3'', q4''⟩ := band_shape q.2.2
        simp [cutL, HT.sIx, zipD, noOwn, goB, q, are_bands_of_e2, atI, ixN, sizeLine, headD, bandD, q1, q2, q3, q4, q1', q2', q3', q4', q1'', q2'', q3'', q4'']
        rw [Bool.eq_iff_iff]; simp only [Bool.and_eq_true, decide_eq_true_eq]; omega
      · simp at q
        simp [goB]
        exact fun q1 q2 => band_up (head_nn (head_nn (Int.le_refl 0) q1) q2) (q q1 (band_dn (head_nn (Int.le_refl 0) q1) q2))
    | a :: b :: c :: d :: r, _ => 
      simp [isBandsD]
      have : ¬ ((r.length : Int) + 1 + 1 + 1 + 1 ≤ 3) := by omega
      have : ¬ (r.length + 1 + 1 + 1 + 1 ≤ 3) := by omega
      simp [*]
  all_goals simp [isBandsD] at *
end Pu

namespace Pu
open PySem PySem.Spec PyProof.Rows L2 DL Sm
theorem lbands_body {v d : PyData} {k : Int} (hd : noDict d = true) : Wp (law_is_bands_b1 [.fz v, .fz (.int k), .fz d]) fun o e => (bandD k d = true ∧ o = .nx ∧ e = [.fz v, .fz (.int (headD d)), .fz d]) ∨ (bandD k d = false ∧ o = .rt false (.bool false)) := by
  have h1 := nd_dict hd
  unfold law_is_bands_b1
  cases d
  case tuple ds =>
    match ds, hd with
    | [], _ => simp [bandD]
    | [x], _ => simp [bandD]
    | x :: y :: z :: r, _ => 
      have : ¬ ((r.length : Int) + 1 + 1 + 1 = 2) := by omega
      simp [bandD, this]
    | [x, y], hd =>
      have n1 := nd_dict (nd_tup hd x (by simp))
      have n2 := nd_dict (nd_tup hd y (by simp))
      by_cases q1 : isFromD x (k + 1) 24 = true <;> by_cases q2 : isFromD y 0 40 = true 
      · obtain ⟨h, rfl, _⟩ := isFrom_shape q1
        simp at q1
        simp [bandD, atI, ixN, law_is_from_eq, q1, q2, n2, headD]
      · simp at q2
        simp [bandD, atI, ixN, law_is_from_eq, q1, q2, n1, n2, headD]
      · simp at q1
        simp [bandD, atI, ixN, law_is_from_eq, q1, q2, n1, n2, headD]
      · simp at q1
        simp [bandD, atI, ixN, law_is_from_eq, q1, q2, n1, n2, headD]
  all_goals simp [bandD] at *
theorem lbands_loop {v : PyData} : ∀ {ds : List PyData} {k : Int} {s : Sl} (hd : ∀ d ∈ ds, noDict d = true) {Q : Out → Ev → Prop} (h1 : goB k ds = true → ∀ e, Q .nx e) (h2 : goB k ds = false → ∀ e, Q (.rt false (.bool false)) e),
    Wp (forL (gNm 2) law_is_bands_b1 ds [.fz v, .fz (.int k), s]) Q
  | [], k, s, hd, Q, h1, h2 => by simpa using h1 rfl _
  | d :: ds, k, s, hd, Q, h1, h2 => by
    simp [wp_forL_cons]
    refine (lbands_body (hd d (by simp))).mono ?_
    rintro o e (⟨q, rfl, rfl⟩ | ⟨q, rfl⟩)
    · exact lbands_loop (fun x hx => hd x (by simp [hx])) (fun z e => h1 (by simp [goB, q, z]) e) (fun z e => h2 (by simp [goB, q, z]) e)
    · exact h2 (by simp [goB, q]) _
theorem law_is_bands_eq {v : PyData} (hd : noDict v = true) : f_law_is_bands [v] = some (.ok (false, .bool (isBandsD v))) := by
  have h1 := nd_dict hd
  refine wp_mkFn rfl ?_
  unfold b_law_is_bands
  cases v
  case tuple ds =>
    have hds := nd_tup hd
    by_cases l1 : 1 ≤ ds.length
    · by_cases l2 : ds.length ≤ 3
      · have l1' : (1 : Int) ≤ ds.length := by omega
        have l2' : (ds.length : Int) ≤ 3 := by omega
        simp [isBandsD, l1, l2, l1', l2']
        exact lbands_loop hds (fun z e => by simp [z, l1, l2]) (fun z e => by simp [z, l1, l2])
      · have l1' : (1 : Int) ≤ ds.length := by omega
        have l2' : ¬ (ds.length : Int) ≤ 3 := by omega
        simp [isBandsD, l1, l2, l1', l2']
    · have l1' : ¬ (1 : Int) ≤ ds.length := by omega
      simp [isBandsD, l1, l1']
  all_goals simp [isBandsD] at *
@[reducible] def pairD (b : PyData) : Bool := match b with
  | .tuple [x, y] => isBandsD x && isBandsD y
  | _ => false
@[reducible] def isRuleD (d : PyData) : Bool := match d with
  | .tuple [b, e, n, m, j, l, c] => pairD b && (isNone e || isFromD e 0 40) && (isFromD n 0 40 && isFromD m 0 40 && isBoolB j) && (isFromD l 0 24 && isFromD c 1 400)
  | _ => false
theorem tup7 {α : Type} (ds : List α) (h : ds.length = 7) : ∃ a b c d e f g, ds = [a, b, c, d, e, f, g] := by
  match ds, h with
  | [a, b, c, d, e, f, g], _ => exact ⟨a, b, c, d, e, f, g, rfl⟩
theorem tup2 {α : Type} (ds : List α) (h : ds.length = 2) : ∃ a b, ds = [a, b] := by
  match ds, h with
  | [a, b], _ => exact ⟨a, b, rfl⟩
theorem rule7 {ds : List PyData} (h : ds.length ≠ 7) : isRuleD (.tuple ds) = false := by
  unfold isRuleD
  split
  · rename_i e
    cases e
    exact absurd rfl h
  · rfl
theorem pair2 {ds : List PyData} (h : ds.length ≠ 2) : pairD (.tuple ds) = false := by
  unfold pairD
  split
  · rename_i e
    cases e
    exact absurd rfl h
  · rfl
theorem tail_eq {b en n m j l c : PyData} (he : noDict en = true) (hn : noDict n = true) (hm : noDict m = true) (hj : noDict j = true) (hl : noDict l = true) (hc : noDict c = true) (hb : noDict b = true) : f_is_rule_of [.tuple [b, en, n, m, j, l, c]] = some (.ok (false, .bool (isRuleD (.tuple [b, en, n, m, j, l, c])))) := by
  have e1 := nd_dict he
  have e2 := nd_dict hn
  have e3 := nd_dict hm
  have e4 := nd_dict hj
  have e5 := nd_dict hl
  have e6 := nd_dict hc
  refine wp_mkFn rfl ?_
  unfold b_is_rule_of
  cases hp : pairD b with
  | false =>
    cases b
    case dict => cases nd_dict hb
    case tuple ds =>
      by_cases l2 : ds.length = 2
      · obtain ⟨x, y, rfl⟩ := tup2 ds l2
        have hx := nd_tup hb x (by simp)
        have hy := nd_tup hb y (by simp)
        simp [noOwn, is_rule_of_e1, are_bands_eq hx, are_bands_eq hy, sizeLine]
        simp [pairD] at hp
        by_cases q : isBandsD x = true
        · simp [q, hp q]
        · simp [q]
      · have l2' : ¬ (ds.length : Int) = 2 := by omega
        simp [l2', hp]
    all_goals simp [hp]
  | true =>
    have : ∃ x y, b = .tuple [x, y] ∧ isBandsD x = true ∧ isBandsD y = true := by
      unfold pairD at hp
      split at hp
      · rename_i x y
        simp at hp
        exact ⟨x, y, rfl, hp.1, hp.2⟩
      · cases hp
    obtain ⟨x, y, rfl, q1, q2⟩ := this
    have hx := nd_tup hb x (by simp)
    have hy := nd_tup hb y (by simp)
    simp [noOwn, is_rule_of_e1, are_bands_eq hx, are_bands_eq hy, sizeLine, q1, q2]
    have hR : isRuleD (.tuple [.tuple [x, y], en, n, m, j, l, c]) = ((isNone en || isFromD en 0 40) && (isFromD n 0 40 && isFromD m 0 40 && isBoolB j) && (isFromD l 0 24 && isFromD c 1 400)) := by
      show (pairD (.tuple [x, y]) && _ && _ && _) = _
      rw [hp]; rfl
    rw [hR]
    cases i2 : isFromD n 0 40 with
    | false => cases hN : isNone en <;> cases i1 : isFromD en 0 40 <;> simp [is_from_eq, i1, i2, hN, e1, e2]
    | true => cases i3 : isFromD m 0 40 with
      | false => cases hN : isNone en <;> cases i1 : isFromD en 0 40 <;> simp [is_from_eq, i1, i2, i3, hN, e1, e2, e3]
      | true => cases i4 : isBoolB j with
        | false => cases hN : isNone en <;> cases i1 : isFromD en 0 40 <;> simp [is_from_eq, i1, i2, i3, i4, hN, e1, e2, e3, e4]
        | true => cases hN : isNone en <;> cases i1 : isFromD en 0 40 <;> cases i5 : isFromD l 0 24 <;> simp [is_from_eq, i1, i2, i3, i4, i5, hN, e1, e2, e3, e4, e5, e6]
end Pu
namespace Pu
open PySem PySem.Spec PyProof.Rows L2 DL Sm
theorem is_rule_of_eq {v : PyData} (hd : noDict v = true) : f_is_rule_of [v] = some (.ok (false, .bool (isRuleD v))) := by
  have h1 := nd_dict hd
  cases v
  case dict => cases h1
  case tuple ds =>
    have hds := nd_tup hd
    by_cases l7 : ds.length = 7
    · obtain ⟨b, en, n, m, j, l, c, rfl⟩ := tup7 ds l7
      exact tail_eq (hds _ (by simp)) (hds _ (by simp)) (hds _ (by simp)) (hds _ (by simp)) (hds _ (by simp)) (hds _ (by simp)) (hds _ (by simp))
    · have l7' : ¬ (ds.length : Int) = 7 := by omega
      refine wp_mkFn rfl ?_
      unfold b_is_rule_of
      simp [l7', rule7 l7]
  all_goals
    refine wp_mkFn rfl ?_
    unfold b_is_rule_of
    simp [isRuleD]
theorem is_rule_eq {v : PyData} (hd : noDict v = true) : f_is_rule [v] = some (.ok (false, .bool (isRuleD v))) := by
  refine wp_mkFn rfl ?_
  unfold b_is_rule
  simp [is_rule_of_eq hd]
theorem ltail_eq {b en n m j l c : PyData} (he : noDict en = true) (hn : noDict n = true) (hm : noDict m = true) (hj : noDict j = true) (hl : noDict l = true) (hc : noDict c = true) (hb : noDict b = true) : f_law_is [.tuple [b, en, n, m, j, l, c]] = some (.ok (false, .bool (isRuleD (.tuple [b, en, n, m, j, l, c])))) := by
  have e1 := nd_dict he
  have e2 := nd_dict hn
  have e3 := nd_dict hm
  have e4 := nd_dict hj
  have e5 := nd_dict hl
  have e6 := nd_dict hc
  refine wp_mkFn rfl ?_
  unfold b_law_is
  cases hp : pairD b with
  | false =>
    cases b
    case dict => cases nd_dict hb
    case tuple ds =>
      by_cases l2 : ds.length = 2
      · obtain ⟨x, y, rfl⟩ := tup2 ds l2
        have hx := nd_tup hb x (by simp)
        have hy := nd_tup hb y (by simp)
        simp [atI, ixN, law_is_bands_eq hx, law_is_bands_eq hy, sizeLine, isRuleD, hp]
        simp [pairD] at hp
        by_cases q : isBandsD x = true
        · simp [q, hp q]
        · simp [q]
      · have l2' : ¬ (ds.length : Int) = 2 := by omega
        simp [atI, ixN, l2', hp, isRuleD]
    all_goals simp [atI, ixN, hp, isRuleD]
  | true =>
    have : ∃ x y, b = .tuple [x, y] ∧ isBandsD x = true ∧ isBandsD y = true := by
      unfold pairD at hp
      split at hp
      · rename_i x y
        simp at hp
        exact ⟨x, y, rfl, hp.1, hp.2⟩
      · cases hp
    obtain ⟨x, y, rfl, q1, q2⟩ := this
    have hx := nd_tup hb x (by simp)
    have hy := nd_tup hb y (by simp)
    simp [atI, ixN, law_is_bands_eq hx, law_is_bands_eq hy, sizeLine, q1, q2]
    have hR : isRuleD (.tuple [.tuple [x, y], en, n, m, j, l, c]) = ((isNone en || isFromD en 0 40) && (isFromD n 0 40 && isFromD m 0 40 && isBoolB j) && (isFromD l 0 24 && isFromD c 1 400)) := by
      show (pairD (.tuple [x, y]) && _ && _ && _) = _
      rw [hp]; rfl
    rw [hR]
    cases i2 : isFromD n 0 40 with
    | false => cases hN : isNone en <;> cases i1 : isFromD en 0 40 <;> simp [atI, ixN, law_is_from_eq, i1, i2, hN, e1, e2]
    | true => cases i3 : isFromD m 0 40 with
      | false => cases hN : isNone en <;> cases i1 : isFromD en 0 40 <;> simp [atI, ixN, law_is_from_eq, i1, i2, i3, hN, e1, e2, e3]
      | true => cases i4 : isBoolB j with
        | false => cases hN : isNone en <;> cases i1 : isFromD en 0 40 <;> simp [atI, ixN, law_is_from_eq, i1, i2, i3, i4, hN, e1, e2, e3, e4]
        | true => cases hN : isNone en <;> cases i1 : isFromD en 0 40 <;> cases i5 : isFromD l 0 24 <;> simp [atI, ixN, law_is_from_eq, i1, i2, i3, i4, i5, hN, e1, e2, e3, e4, e5, e6]
theorem law_is_eq {v : PyData} (hd : noDict v = true) : f_law_is [v] = some (.ok (false, .bool (isRuleD v))) := by
  have h1 := nd_dict hd
  cases v
  case dict => cases h1
  case tuple ds =>
    have hds := nd_tup hd
    by_cases l7 : ds.length = 7
    · obtain ⟨b, en, n, m, j, l, c, rfl⟩ := tup7 ds l7
      exact ltail_eq (hds _ (by simp)) (hds _ (by simp)) (hds _ (by simp)) (hds _ (by simp)) (hds _ (by simp)) (hds _ (by simp)) (hds _ (by simp))
    · have l7' : ¬ (ds.length : Int) = 7 := by omega
      refine wp_mkFn rfl ?_
      unfold b_law_is
      simp [l7', rule7 l7]
  all_goals
    refine wp_mkFn rfl ?_
    unfold b_law_is
    simp [isRuleD]
end Pu

namespace Pu
open PySem PySem.Spec PyProof.Rows L2 DL Sm
def encP (p : Int × Int) : PyData := .tuple [.int p.1, .int p.2]
def encB (l : List (Int × Int)) : PyData := .tuple (l.map encP)
def Asc : Int → List (Int × Int) → Prop
  | _, [] => True
  | k, p :: r => k + 1 ≤ p.1 ∧ p.1 ≤ 24 ∧ 0 ≤ p.2 ∧ p.2 ≤ 40 ∧ Asc p.1 r
def BOk (l : List (Int × Int)) : Prop := 1 ≤ l.length ∧ l.length ≤ 3 ∧ Asc 0 l
def lastH : Int → List (Int × Int) → Int
  | k, [] => k
  | _, p :: r => lastH p.1 r
theorem asc_snoc {p : Int × Int} : ∀ {l : List (Int × Int)} {k : Int}, Asc k l → lastH k l + 1 ≤ p.1 → p.1 ≤ 24 → 0 ≤ p.2 → p.2 ≤ 40 → Asc k (l ++ [p])
  | [], k, _, h1, h2, h3, h4 => ⟨h1, h2, h3, h4, trivial⟩
  | q :: r, k, ⟨a1, a2, a3, a4, a5⟩, h1, h2, h3, h4 => ⟨a1, a2, a3, a4, asc_snoc a5 h1 h2 h3 h4⟩
theorem lastH_snoc {p : Int × Int} : ∀ {l : List (Int × Int)} {k : Int}, lastH k (l ++ [p]) = p.1
  | [], k => rfl
  | q :: r, k => lastH_snoc (l := r)
theorem goB_enc : ∀ {l : List (Int × Int)} {k : Int}, Asc k l → goB k (l.map encP) = true
  | [], k, _ => rfl
  | p :: r, k, ⟨a1, a2, a3, a4, a5⟩ => by
    have := goB_enc a5
    simp [goB, bandD, encP, a1, a2, a3, a4]
    simpa [headD] using this
theorem bands_enc {l : List (Int × Int)} (h : BOk l) : isBandsD (encB l) = true := by
  obtain ⟨h1, h2, h3⟩ := h
  simp [isBandsD, encB, goB_enc h3, h1, h2]
theorem goB_dec : ∀ {ds : List PyData} {k : Int}, goB k ds = true → ∃ l, ds = l.map encP ∧ Asc k l
  | [], k, _ => ⟨[], rfl, trivial⟩
  | d :: ds, k, h => by
    simp [goB] at h
    obtain ⟨a, b, rfl, h1, h2, h3, h4⟩ := band_shape h.1
    obtain ⟨l, rfl, h5⟩ := goB_dec h.2
    exact ⟨(a, b) :: l, rfl, h1, h2, h3, h4, h5⟩
theorem bands_dec {d : PyData} (h : isBandsD d = true) : ∃ l, d = encB l ∧ BOk l := by
  unfold isBandsD at h
  split at h
  · rename_i ds
    simp at h
    obtain ⟨l, rfl, a⟩ := goB_dec h.2
    exact ⟨l, rfl, by simpa using h.1.1, by simpa using h.1.2, a⟩
  · cases h
/-- a rule -/
structure Rule where
  b1 : List (Int × Int)
  b2 : List (Int × Int)
  ends : Option Int
  night : Int
  meal : Int
  join : Bool
  least : Int
  cap : Int
def encO (o : Option Int) : PyData := match o with
  | none => .none
  | some i => .int i
def Rule.enc (r : Rule) : PyData := .tuple [.tuple [encB r.b1, encB r.b2], encO r.ends, .int r.night, .int r.meal, .bool r.join, .int r.least, .int r.cap]
structure Rule.Ok (r : Rule) : Prop where
  b1 : BOk r.b1
  b2 : BOk r.b2
  ends : ∀ i, r.ends = some i → 0 ≤ i ∧ i ≤ 40
  night : 0 ≤ r.night ∧ r.night ≤ 40
  meal : 0 ≤ r.meal ∧ r.meal ≤ 40
  least : 0 ≤ r.least ∧ r.least ≤ 24
  cap : 1 ≤ r.cap ∧ r.cap ≤ 400
theorem rule_enc {r : Rule} (h : r.Ok) : isRuleD r.enc = true := by
  unfold Rule.enc isRuleD pairD
  simp [bands_enc h.b1, bands_enc h.b2, h.night, h.meal, h.least, h.cap]
  cases e : r.ends with
  | none => simp [encO, isNone]
  | some i => have := h.ends i e; simp [encO, isNone, this]
theorem rule_dec {d : PyData} (h : isRuleD d = true) : ∃ r : Rule, d = r.enc ∧ r.Ok := by
  unfold isRuleD at h
  split at h
  · rename_i b e n m j l c
    simp at h
    obtain ⟨⟨⟨hp, he⟩, ⟨hn, hm⟩, hj⟩, hl, hc⟩ := h
    have : ∃ x y, b = .tuple [x, y] ∧ isBandsD x = true ∧ isBandsD y = true := by
      unfold pairD at hp
      split at hp
      · rename_i x y
        simp at hp
        exact ⟨x, y, rfl, hp.1, hp.2⟩
      · cases hp
    obtain ⟨x, y, rfl, q1, q2⟩ := this
    obtain ⟨l1, rfl, k1⟩ := bands_dec q1
    obtain ⟨l2, rfl, k2⟩ := bands_dec q2
    obtain ⟨n', rfl, kn⟩ := isFrom_shape hn
    obtain ⟨m', rfl, km⟩ := isFrom_shape hm
    obtain ⟨l', rfl, kl⟩ := isFrom_shape hl
    obtain ⟨c', rfl, kc⟩ := isFrom_shape hc
    cases j <;> simp at hj
    rename_i j'
    have : ∃ o : Option Int, e = encO o ∧ ∀ i, o = some i → 0 ≤ i ∧ i ≤ 40 := by
      rcases he with he | he
      · refine ⟨none, ?_, fun _ z => nomatch z⟩
        cases e <;> simp [isNone] at he
        rfl
      · obtain ⟨v, rfl, kv⟩ := isFrom_shape he
        exact ⟨some v, rfl, fun i z => by cases z; exact kv⟩
    obtain ⟨o, rfl, ko⟩ := this
    exact ⟨⟨l1, l2, o, n', m', j', l', c'⟩, rfl, k1, k2, ko, kn, km, kl, kc⟩
  · cases h
theorem nd_encB (l : List (Int × Int)) : noDict (encB l) = true := by
  unfold encB noDict
  induction l with
  | nil => rfl
  | cons p l ih =>
    show noDicts (encP p :: l.map encP) = true
    unfold noDicts
    rw [ih]; rfl
theorem nd_rule (r : Rule) : noDict r.enc = true := by
  have h1 := nd_encB r.b1
  have h2 := nd_encB r.b2
  unfold Rule.enc
  cases r.ends <;> simp [noDict, noDicts, h1, h2, encO]
theorem at_mem {xs : List PyData} {r : Int} (h0 : 0 ≤ r) (h1 : r < xs.length) : ∃ d, atI xs r = some d ∧ d ∈ xs := by
  have h2 : r.toNat < xs.length := by omega
  refine ⟨xs[r.toNat], ?_, List.getElem_mem h2⟩
  unfold atI ixN
  rw [if_pos h0, if_pos h1]
  exact List.getElem?_eq_getElem h2
def BandI (n : Nat) (rest : List PyData) (env : Ev) : Prop := ∃ l low ds s, env = [.io ds, .fz (encB l), .fz (.int low), s] ∧ Dk (n + 3 * rest.length) ds ∧ l.length + rest.length ≤ 3 ∧ 1 ≤ l.length + rest.length ∧ Asc 0 l ∧ lastH 0 l = low ∧ 0 ≤ low ∧ low ≤ 8 * l.length
theorem bands_ok {n : Nat} {ds : List PyData} (h : Dk (n + 10) ds) : WpI (f_law_bands ds []) fun own d ds1 => own = false ∧ Dk n ds1 ∧ ∃ l, d = encB l ∧ BOk l := by
  refine wpi_mk rfl ?_
  unfold b_law_bands
  simp [sizeLine]
  refine wp_I (pick_ok h (by decide) (by decide)) ?_
  rintro own _ ds1 ⟨rfl, hk, r, rfl, hr0, hr1⟩
  simp
  refine ⟨okR_of (by omega) (by omega), ?_⟩
  refine wp_forL (BandI n) ?_ ?_ _ _ ?_
  · rintro d rest env ⟨l, low, ds, s, rfl, hk, h1, h2, h3, h4, h5, h6⟩
    refine ⟨_, rfl, ?_⟩
    unfold law_bands_b1
    simp
    have hk : Dk (n + 3 * rest.length + 2 + 1) ds := hk.le (by simp; omega)
    refine wp_I (pick_ok hk (by decide) (by decide)) ?_
    rintro own _ ds2 ⟨rfl, hk, r, rfl, hr0, hr1⟩
    simp
    refine wp_I (pick_ok hk (by decide) (by decide)) ?_
    rintro own _ ds3 ⟨rfl, hk, r2, rfl, hr20, hr21⟩
    simp
    refine ⟨by decide, ?_⟩
    refine wp_I (pick_ok hk (by decide) (by decide)) ?_
    rintro own _ ds4 ⟨rfl, hk, r3, rfl, hr30, hr31⟩
    obtain ⟨d, hd, hm⟩ := at_mem (xs := [.int 0, .int 6, .int 10, .int 12, .int 24, .int r2]) hr30 (by simpa using hr31)
    simp [hd]
    have : ∃ v : Int, d = .int v ∧ 0 ≤ v ∧ v ≤ 40 := by
      simp at hm
      rcases hm with rfl | rfl | rfl | rfl | rfl | rfl
      all_goals exact ⟨_, rfl, by omega, by omega⟩
    obtain ⟨v, rfl, hv0, hv1⟩ := this
    simp at h1
    simp [encB, sizeLine]
    refine ⟨by omega, l ++ [(low + 1 + r, v)], low + 1 + r, ds4, .fz d, by simp [encP, encB], hk, by simp; omega, by simp; omega, ?_, lastH_snoc, by omega, by simp; omega⟩
    refine asc_snoc h3 ?_ ?_ hv0 hv1 <;> simp <;> omega
  · rintro env ⟨l, low, ds, s, rfl, hk, h1, h2, h3, h4, h5, h6⟩
    simp
    exact ⟨hk, l, rfl, by simpa using h2, by simpa using h1, h3⟩
  · refine ⟨[], 0, ds1, _, rfl, hk.le ?_, ?_, ?_, trivial, rfl, by decide, by decide⟩ <;> simp [rangeD] <;> omega
end Pu

namespace Pu
open PySem PySem.Spec PyProof.Rows L2 DL Sm
theorem pickI {n : Nat} {ds : List PyData} {L : Int} {e : Ev} {i : Nat} {Q : Bool × PyData → Ev → Prop} (h : Dk (n + 1) ds) (h0 : 0 < L) (h1 : L < 2 ^ 30) (k : ∀ ds1 r, Dk n ds1 → 0 ≤ r → r < L → Q (false, .int r) (e.set i (reSl e[i]? ds1))) : Wp (liftI (f_law_pick ds [.int L]) e i) Q := by
  refine wp_I (pick_ok h h0 h1) ?_
  rintro own _ ds1 ⟨rfl, hk, r, rfl, a, b⟩
  exact k ds1 r hk a b
theorem bandsI {n : Nat} {ds : List PyData} {e : Ev} {i : Nat} {Q : Bool × PyData → Ev → Prop} (h : Dk (n + 10) ds) (k : ∀ ds1 l, Dk n ds1 → BOk l → Q (false, encB l) (e.set i (reSl e[i]? ds1))) : Wp (liftI (f_law_bands ds []) e i) Q := by
  refine wp_I (bands_ok h) ?_
  rintro own _ ds1 ⟨rfl, hk, l, rfl, a⟩
  exact k ds1 l hk a
/-- one of some ints -/
theorem at_int {xs : List PyData} {r : Int} {lo hi : Int} (h0 : 0 ≤ r) (h1 : r < xs.length) (hx : ∀ d ∈ xs, ∃ v : Int, d = .int v ∧ lo ≤ v ∧ v ≤ hi) : ∃ v : Int, atI xs r = some (.int v) ∧ lo ≤ v ∧ v ≤ hi := by
  obtain ⟨d, hd, hm⟩ := at_mem h0 h1
  obtain ⟨v, rfl, h⟩ := hx d hm
  exact ⟨v, hd, h⟩
def RuleR (n : Nat) (own : Bool) (d : PyData) (ds1 : List PyData) : Prop := own = false ∧ Dk n ds1 ∧ ∃ r : Rule, d = r.enc ∧ r.Ok
theorem rule_ok {n : Nat} {ds : List PyData} (h : Dk (n + 40) ds) : WpI (f_law_rule ds []) (RuleR n) := by
  refine wpi_mk rfl ?_
  unfold b_law_rule
  simp
  refine pickI h (by decide) (by decide) fun ds r h q1 q2 => ?_
  simp
  have key : ∀ (o : Option Int) (ds : List PyData), Dk (n + 38) ds → (∀ i, o = some i → 0 ≤ i ∧ i ≤ 40) → Wp ((sSeq (sSet 2 (eLst (aCons (eBin ixD (eLst (aCons (eC (.int 0)) (aCons (eC (.int 20)) (aCons (eCallI 0 f_law_pick (aCons (eC (.int 41)) aNil)) aNil)))) (eCallI 0 f_law_pick (aCons (eC (.int 3)) aNil))) (aCons (eBin ixD (eLst (aCons (eC (.int 0)) (aCons (eC (.int 4)) (aCons (eCallI 0 f_law_pick (aCons (eC (.int 41)) aNil)) aNil)))) (eCallI 0 f_law_pick (aCons (eC (.int 3)) aNil))) aNil))))
    (sSeq (sSet 3 (eBin ixD (eLst (aCons (eC (.int 0)) (aCons (eC (.int 8)) (aCons (eCallI 0 f_law_pick (aCons (eC (.int 25)) aNil)) aNil)))) (eCallI 0 f_law_pick (aCons (eC (.int 3)) aNil))))
    (sSeq (sSet 4 (eBin ixD (eLst (aCons (eC (.int 400)) (aCons (eC (.int 400)) (aCons (eBin addD (eC (.int 1)) (eCallI 0 f_law_pick (aCons (eC (.int 400)) aNil))) (aCons (eBin addD (eC (.int 1)) (eCallI 0 f_law_pick (aCons (eC (.int 60)) aNil))) aNil))))) (eCallI 0 f_law_pick (aCons (eC (.int 4)) aNil))))
    (sRet (eTup (aCons (eTup (aCons (eCallI 0 f_law_bands aNil) (aCons (eCallI 0 f_law_bands aNil) aNil))) (aCons (eVar 1) (aCons (eBin ixD (eVar 2) (eC (.int 0))) (aCons (eBin ixD (eVar 2) (eC (.int 1))) (aCons (eBin eqD (eCallI 0 f_law_pick (aCons (eC (.int 2)) aNil)) (eC (.int 1))) (aCons (eVar 3) (aCons (eVar 4) aNil)))))))))))) [.io ds, .fz (encO o), .no, .no, .no]) fun o e => ∃ own d ds1, o = .rt own d ∧ e[0]? = some (.io ds1) ∧ RuleR n own d ds1 := by
    intro o ds h ho
    simp [sizeLine]
    refine pickI h (by decide) (by decide) fun ds r h q1 q2 => ?_
    simp
    refine pickI h (by decide) (by decide) fun ds s h s1 s2 => ?_
    obtain ⟨v, hv, v0, v1⟩ := at_int (xs := [.int 0, .int 20, .int r]) (lo := 0) (hi := 40) s1 (by simpa using s2) (by simp; omega)
    simp [hv]
    refine pickI h (by decide) (by decide) fun ds r h q1 q2 => ?_
    simp
    refine pickI h (by decide) (by decide) fun ds s h s1 s2 => ?_
    obtain ⟨v', hv', v0', v1'⟩ := at_int (xs := [.int 0, .int 4, .int r]) (lo := 0) (hi := 40) s1 (by simpa using s2) (by simp; omega)
    simp [hv']
    refine pickI h (by decide) (by decide) fun ds r h q1 q2 => ?_
    simp
    refine pickI h (by decide) (by decide) fun ds s h s1 s2 => ?_
    obtain ⟨l, hl, l0, l1⟩ := at_int (xs := [.int 0, .int 8, .int r]) (lo := 0) (hi := 24) s1 (by simpa using s2) (by simp; omega)
    simp [hl]
    refine pickI h (by decide) (by decide) fun ds r h q1 q2 => ?_
    simp
    refine pickI h (by decide) (by decide) fun ds r' h q1' q2' => ?_
    simp
    refine pickI h (by decide) (by decide) fun ds s h s1 s2 => ?_
    obtain ⟨c, hc, c0, c1⟩ := at_int (xs := [.int 400, .int 400, .int (1 + r), .int (1 + r')]) (lo := 1) (hi := 400) s1 (by simpa using s2) (by simp; omega)
    simp [hc]
    refine bandsI h fun ds b1 h hb1 => ?_
    simp
    refine bandsI h fun ds b2 h hb2 => ?_
    simp [atI, ixN]
    refine pickI h (by decide) (by decide) fun ds s h s1 s2 => ?_
    simp
    exact ⟨rfl, h.le (by omega), ⟨b1, b2, o, v, v', decide (s = 1), l, c⟩, rfl, hb1, hb2, ho, ⟨v0, v1⟩, ⟨v0', v1'⟩, ⟨l0, l1⟩, ⟨c0, c1⟩⟩
  by_cases hr : r = 0
  · simp [hr]
    have := key none ds (h.le (by omega)) (fun _ z => nomatch z)
    simpa [sizeLine, encO] using this
  · simp [hr]
    refine pickI h (by decide) (by decide) fun ds r h q1 q2 => ?_
    have := key (some r) ds (h.le (by omega)) (fun _ z => by cases z; exact ⟨q1, by omega⟩)
    simpa [sizeLine, encO] using this
theorem ruleI {n : Nat} {ds : List PyData} {e : Ev} {i : Nat} {Q : Bool × PyData → Ev → Prop} (h : Dk (n + 40) ds) (k : ∀ ds1 (r : Rule), Dk n ds1 → r.Ok → Q (false, r.enc) (e.set i (reSl e[i]? ds1))) : Wp (liftI (f_law_rule ds []) e i) Q := by
  refine wp_I (rule_ok h) ?_
  rintro own _ ds1 ⟨rfl, hk, l, rfl, a⟩
  exact k ds1 l hk a
end Pu

namespace Pu
open PySem PySem.Spec PyProof.Rows L2 DL Sm
theorem wp_seq {a b : SM} {env : Ev} {Q : Out → Ev → Prop} (R : Out → Ev → Prop) (h : Wp (a env) R) (h1 : ∀ e, R .nx e → Wp (b e) Q) (h2 : ∀ o e, o ≠ .nx → R o e → Q o e) : Wp (sSeq a b env) Q := by
  rw [a_sSeq, wp_rb]
  refine h.mono fun o e r => ?_
  cases o with
  | nx => exact h1 e r
  | bk => rw [wp_rok]; exact h2 _ e (fun z => nomatch z) r
  | ct => rw [wp_rok]; exact h2 _ e (fun z => nomatch z) r
  | rt own d => rw [wp_rok]; exact h2 _ e (fun z => nomatch z) r
theorem a_varS {i : Nat} {env : Ev} {own : Bool} {d : PyData} (h : env[i]? = some (slOf own d)) : eVar i env = rok (false, d) (env.set i (.fz d)) := by
  cases own with
  | true => exact a_varO h
  | false =>
    rw [slOf_f] at h
    rw [a_var h]
    have : env.set i (.fz d) = env := by
      obtain ⟨hl, e⟩ := List.getElem?_eq_some_iff.mp h
      rw [← e, List.set_getElem_self]
    rw [this]
/-- small trees -/
def ZD (w : Nat) : Nat → PyData → Prop
  | _, .none => True
  | _, .bool _ => True
  | _, .int _ => True
  | _, .str x => PyData.strOk x = true
  | _, .dict _ => False
  | 0, .list _ => False
  | 0, .tuple _ => False
  | k + 1, .list ds => ds.length ≤ w ∧ ∀ d ∈ ds, ZD w k d
  | k + 1, .tuple ds => ds.length ≤ w ∧ ∀ d ∈ ds, ZD w k d
theorem ZD.up {w w' : Nat} (hw : w ≤ w') : ∀ {k k' : Nat} {d : PyData}, k ≤ k' → ZD w k d → ZD w' k' d
  | _, _, .none, _, h => by unfold ZD; trivial
  | _, _, .bool _, _, h => by unfold ZD; trivial
  | _, _, .int _, _, h => by unfold ZD; trivial
  | _, _, .str x, _, h => by unfold ZD at h ⊢; exact h
  | _, _, .dict _, _, h => by unfold ZD at h; exact h.elim
  | 0, _, .list _, _, h => by unfold ZD at h; exact h.elim
  | 0, _, .tuple _, _, h => by unfold ZD at h; exact h.elim
  | k + 1, 0, _, hk, _ => by omega
  | k + 1, k' + 1, .list ds, hk, h => by
    unfold ZD at h ⊢
    exact ⟨Nat.le_trans h.1 hw, fun d hd => ZD.up hw (by omega) (h.2 d hd)⟩
  | k + 1, k' + 1, .tuple ds, hk, h => by
    unfold ZD at h ⊢
    exact ⟨Nat.le_trans h.1 hw, fun d hd => ZD.up hw (by omega) (h.2 d hd)⟩
theorem canLays {ds : List PyData} (h : ∀ d ∈ ds, d.canLay0 = true) : PyData.canLayAll0 ds = true := by
  induction ds with
  | nil => rfl
  | cons x xs ih =>
    unfold PyData.canLayAll0
    rw [h x (by simp), ih fun d hd => h d (by simp [hd])]; rfl
theorem depths {ds : List PyData} {k : Nat} (h : ∀ d ∈ ds, d.depth ≤ k) : PyData.depthAll ds ≤ k := by
  induction ds with
  | nil => simp [PyData.depthAll]
  | cons x xs ih =>
    unfold PyData.depthAll
    have := h x (by simp)
    have := ih fun d hd => h d (by simp [hd])
    omega
theorem ZD.lay {w : Nat} : ∀ {k : Nat} {d : PyData}, ZD w k d → d.canLay0 = true ∧ d.depth ≤ k
  | _, .none, h => ⟨rfl, by simp [PyData.depth]⟩
  | _, .bool _, h => ⟨rfl, by simp [PyData.depth]⟩
  | _, .int _, h => ⟨rfl, by simp [PyData.depth]⟩
  | _, .str x, h => by unfold ZD at h; exact ⟨h, by simp [PyData.depth]⟩
  | _, .dict _, h => by unfold ZD at h; exact h.elim
  | 0, .list _, h => by unfold ZD at h; exact h.elim
  | 0, .tuple _, h => by unfold ZD at h; exact h.elim
  | k + 1, .list ds, h => by
    unfold ZD at h
    refine ⟨canLays fun d hd => (h.2 d hd).lay.1, ?_⟩
    unfold PyData.depth
    have := depths fun d hd => (h.2 d hd).lay.2
    omega
  | k + 1, .tuple ds, h => by
    unfold ZD at h
    refine ⟨canLays fun d hd => (h.2 d hd).lay.1, ?_⟩
    unfold PyData.depth
    have := depths fun d hd => (h.2 d hd).lay.2
    omega
theorem ZD.nd {w : Nat} : ∀ {k : Nat} {d : PyData}, ZD w k d → noDict d = true
  | _, .none, h => rfl
  | _, .bool _, h => rfl
  | _, .int _, h => rfl
  | _, .str x, h => rfl
  | _, .dict _, h => by unfold ZD at h; exact h.elim
  | 0, .list _, h => by unfold ZD at h; exact h.elim
  | 0, .tuple _, h => by unfold ZD at h; exact h.elim
  | k + 1, .list ds, h => by
    unfold ZD at h
    unfold noDict
    have := fun d hd => (h.2 d hd).nd
    clear h
    induction ds with
    | nil => rfl
    | cons x xs ih => unfold noDicts; rw [this x (by simp), ih fun d hd => this d (by simp [hd])]; rfl
  | k + 1, .tuple ds, h => by
    unfold ZD at h
    unfold noDict
    have := fun d hd => (h.2 d hd).nd
    clear h
    induction ds with
    | nil => rfl
    | cons x xs ih => unfold noDicts; rw [this x (by simp), ih fun d hd => this d (by simp [hd])]; rfl
theorem ZD.shp {w k : Nat} {d : PyData} (h : ZD w k d) (hk : k ≤ 64) : shp d = true := by
  have := h.lay
  unfold DL.shp SeqAt.shaped
  rw [this.1, h.nd]
  simp; omega
theorem cut_lo {α : Type} {xs : List α} {i : Int} (h0 : 0 ≤ i) (h1 : i ≤ xs.length) : cutL xs none (some i) = xs.take i.toNat := by
  unfold cutL
  have : ¬ i < 0 := by omega
  simp [HT.sIx, this]
theorem cut_hi {α : Type} {xs : List α} {i : Int} (h0 : 0 ≤ i) (h1 : i ≤ xs.length) : cutL xs (some i) none = xs.drop i.toNat := by
  unfold cutL
  have : ¬ i < 0 := by omega
  have h2 : min i.toNat xs.length = i.toNat := by omega
  simp [HT.sIx, this, h2]
  rw [List.take_of_length_le (by simp)]
theorem ne_nil {ds : List PyData} (h : shp (.tuple ds) = true) : neD (.tuple ds) (.tuple []) = some (false, .bool (!ds.isEmpty)) := by
  have : shp (.tuple []) = true := by decide
  cases ds with
  | nil => simp [neD, this, PyData.eqv, PyData.eqvAll]
  | cons x xs => simp [neD, this, h, PyData.eqv, PyData.eqvAll]
theorem one_ok {n : Nat} {ds xs : List PyData} (h : Dk (n + 1) ds) (h0 : 1 ≤ xs.length) (h1 : xs.length < 2 ^ 30) : WpI (f_law_one ds [.list xs]) fun own d ds1 => own = false ∧ Dk n ds1 ∧ d ∈ xs := by
  refine wpi_mk rfl ?_
  unfold b_law_one
  simp
  refine pickI h (by omega) (by omega) fun ds r h q1 q2 => ?_
  obtain ⟨d, hd, hm⟩ := at_mem q1 q2
  simp [hd]
  exact ⟨h, hm⟩
end Pu

namespace Pu
open PySem PySem.Spec PyProof.Rows L2 DL Sm
def ChR (n w k : Nat) (own : Bool) (d : PyData) (ds1 : List PyData) : Prop := Dk n ds1 ∧ ZD (w + 1) (k + 2) d
def ChO (n w k : Nat) (o : Out) (e : Ev) : Prop := ∃ own d ds1, o = .rt own d ∧ e[0]? = some (.io ds1) ∧ ChR n w k own d ds1
def ChN (n : Nat) (d : PyData) (o : Out) (e : Ev) : Prop := o = .nx ∧ ∃ ds, e = [.io ds, .fz d, .no, .no, .no] ∧ Dk n ds
theorem zd_tup {w k : Nat} {ds : List PyData} : ZD w (k + 1) (.tuple ds) = (ds.length ≤ w ∧ ∀ d ∈ ds, ZD w k d) := by rw [ZD]
theorem zd_lst {w k : Nat} {ds : List PyData} : ZD w (k + 1) (.list ds) = (ds.length ≤ w ∧ ∀ d ∈ ds, ZD w k d) := by rw [ZD]
theorem zd_atom {w k : Nat} : ZD w k .none ∧ (∀ b, ZD w k (.bool b)) ∧ (∀ i, ZD w k (.int i)) ∧ ZD w k (.str "") := by
  refine ⟨?_, fun _ => ?_, fun _ => ?_, ?_⟩ <;> unfold ZD <;> first | trivial | decide +kernel
theorem some_ok {w k : Nat} (hw : 1 ≤ w) : ∀ d ∈ ([.none, .bool true, .bool false, .int 0, .int 1, .int 24, .int 25, .int 40, .int 41, .int 400, .int 401, .str "", .tuple [], .list [], .int (10 ^ 30), .tuple [.int 1, .int 1], .tuple [.tuple [.int 1, .int 1]], .int (-1)] : List PyData), ZD (w + 1) (k + 2) d := by
  obtain ⟨h1, h2, h3, h4⟩ := zd_atom (w := w + 1) (k := k + 2)
  obtain ⟨_, _, g3, _⟩ := zd_atom (w := w + 1) (k := k)
  obtain ⟨_, _, f3, _⟩ := zd_atom (w := w + 1) (k := k + 1)
  intro d hd
  simp only [List.mem_cons, List.not_mem_nil, or_false] at hd
  rcases hd with rfl | rfl | rfl | rfl | rfl | rfl | rfl | rfl | rfl | rfl | rfl | rfl | rfl | rfl | rfl | rfl | rfl | rfl
  all_goals first | exact h1 | exact h2 _ | exact h3 _ | exact h4 | skip
  · rw [zd_tup]; simp
  · rw [zd_lst]; simp
  · rw [zd_tup]; simp; exact ⟨hw, f3 1⟩
  · rw [zd_tup]; simp; rw [zd_tup]; simp; exact ⟨hw, g3 1⟩
/-- the change of what is no tuple, and the last resort -/
theorem changed_tail {n w k : Nat} (hw : 1 ≤ w) {d : PyData} {ds : List PyData} (hz : ZD w k d) (h : Dk (n + 3) ds) : Wp ((sSeq (sIf (tAndM (tOf (eUn (isiD "int") (eVar 1))) (tOf (eBin eqD (eCallI 0 f_law_pick (aCons (eC (.int 2)) aNil)) (eC (.int 0))))) (sRet (eBin addD (eVar 1) (eCallI 0 f_law_one (aCons (eLst (aCons (eC (.int 1)) (aCons (eUn negD (eC (.int 1))) aNil))) aNil)))) sSkip)
    (sSeq (sSet 4 (eLst (aCons (eC .none) (aCons (eC (.bool true)) (aCons (eC (.bool false)) (aCons (eC (.int 0)) (aCons (eC (.int 1)) (aCons (eC (.int 24)) (aCons (eC (.int 25)) (aCons (eC (.int 40)) (aCons (eC (.int 41)) (aCons (eC (.int 400)) (aCons (eC (.int 401)) (aCons (eC (.str "")) (aCons (eTup aNil) (aCons (eLst aNil) (aCons (eBin powD (eC (.int 10)) (eC (.int 30))) (aCons (eTup (aCons (eC (.int 1)) (aCons (eC (.int 1)) aNil))) (aCons (eTup (aCons (eTup (aCons (eC (.int 1)) (aCons (eC (.int 1)) aNil))) aNil)) (aCons (eUn negD (eC (.int 1))) aNil))))))))))))))))))))
    (sRet (eIf (tAndM (tOf (eUn (isiD "tuple") (eVar 1))) (tOf (eBin eqD (eCallI 0 f_law_pick (aCons (eC (.int 3)) aNil)) (eC (.int 0))))) (eB listD (aCons (eVar 1) aNil)) (eCallI 0 f_law_one (aCons (eVar 4) aNil)))))) [.io ds, .fz d, .no, .no, .no]) (ChO n w k) := by
  have nd := nd_dict hz.nd
  refine wp_seq (fun o e => ChO n w k o e ∨ ChN (n + 2) d o e) ?_ ?_ ?_
  · by_cases hi : isIntB d = true
    · simp [nd, hi]
      refine pickI h (by decide) (by decide) fun ds r h q1 q2 => ?_
      by_cases hr : r = 0
      · simp [hr, sizeLine]
        refine wp_I (one_ok (xs := [.int 1, .int (-1)]) h (by decide) (by decide)) ?_
        rintro own v ds1 ⟨rfl, hk, hm⟩
        simp at hm
        obtain ⟨j, rfl⟩ : ∃ j : Int, v = .int j := by rcases hm with rfl | rfl <;> exact ⟨_, rfl⟩
        cases d <;> simp at hi
        · simp
          exact .inl ⟨_, _, _, rfl, rfl, hk.le (by omega), zd_atom.2.2.1 _⟩
        · simp
          exact .inl ⟨_, _, _, rfl, rfl, hk.le (by omega), zd_atom.2.2.1 _⟩
      · simp [hr]
        exact .inr ⟨rfl, _, rfl, h⟩
    · simp at hi
      simp [nd, hi]
      exact .inr ⟨rfl, _, rfl, h.le (by omega)⟩
  · rintro e (⟨own, d', ds1, z, _⟩ | ⟨_, ds, rfl, h⟩)
    · cases z
    · simp [sizeLine, nd]
      have fin : ∀ (ds : List PyData), Dk (n + 1) ds → Wp (liftI (f_law_one ds [.list [.none, .bool true, .bool false, .int 0, .int 1, .int 24, .int 25, .int 40, .int 41, .int 400, .int 401, .str "", .tuple [], .list [], .int 1000000000000000000000000000000, .tuple [.int 1, .int 1], .tuple [.tuple [.int 1, .int 1]], .int (-1)]]) [.io ds, .fz d, .no, .no, .fz (.list [.none, .bool true, .bool false, .int 0, .int 1, .int 24, .int 25, .int 40, .int 41, .int 400, .int 401, .str "", .tuple [], .list [], .int 1000000000000000000000000000000, .tuple [.int 1, .int 1], .tuple [.tuple [.int 1, .int 1]], .int (-1)])] 0) fun b e => ChO n w k (.rt b.1 b.2) e := by
        intro ds h
        refine wp_I (one_ok h (by decide) (by decide)) ?_
        rintro own v ds1 ⟨rfl, hk, hm⟩
        exact ⟨_, _, _, rfl, rfl, hk, some_ok hw v hm⟩
      by_cases ht : isTupB d = true
      · simp [ht]
        refine pickI h (by decide) (by decide) fun ds r h q1 q2 => ?_
        by_cases hr : r = 0
        · simp [hr]
          cases d <;> simp at ht
          rename_i xs
          simp
          refine ⟨_, _, _, rfl, rfl, h.le (by omega), ?_⟩
          cases k with
          | zero => unfold ZD at hz; exact hz.elim
          | succ k =>
            rw [zd_tup] at hz
            rw [zd_lst]
            exact ⟨Nat.le_succ_of_le hz.1, fun x hx => (hz.2 x hx).up (by omega) (by omega)⟩
        · simp [hr]
          exact (fin ds h).mono fun b e q => by rw [wp_rok]; exact q
      · simp at ht
        simp [ht]
        exact (fin ds (h.le (by omega))).mono fun b e q => by rw [wp_rok]; exact q
  · rintro o e hne (h | ⟨z, _⟩)
    · exact h
    · exact (hne z).elim
theorem changed_ok : ∀ (fuel : Nat) {n w k : Nat} {d : PyData} {ds : List PyData}, 1 ≤ w → w ≤ 1000 → k ≤ 60 → k < fuel → ZD w k d → Dk (n + 6 * fuel) ds → WpI (f_law_changed fuel ds [d]) (ChR n w k)
  | 0, n, w, k, d, ds, _, _, _, hf, _, _ => absurd hf (Nat.not_lt_zero _)
  | fuel + 1, n, w, k, d, ds, hw, hW, hk, hf, hz, h => by
    have nd := nd_dict hz.nd
    refine wpi_mk rfl ?_
    unfold b_law_changed
    refine wp_seq (fun o e => ChO n w k o e ∨ ChN (n + 3) d o e) ?_ ?_ ?_
    · by_cases ht : isTupB d = true
      · cases d <;> simp at ht
        rename_i xs
        have hsh := hz.shp (by omega)
        cases k with
        | zero => unfold ZD at hz; exact hz.elim
        | succ k =>
        have hz0 := hz
        rw [zd_tup] at hz
        have hl : xs.length ≤ 1000 := Nat.le_trans hz.1 hW
        by_cases he : xs = []
        · subst he
          simp [sizeLine, ne_nil hsh]
          exact .inr ⟨rfl, _, rfl, h.le (by omega)⟩
        · have hpos : 0 < xs.length := List.length_pos_iff.mpr he
          have hee : xs.isEmpty = false := by cases xs <;> simp at he ⊢
          simp [sizeLine, ne_nil hsh, hee]
          have h : Dk (n + 6 * fuel + 5 + 1) ds := h.le (by omega)
          refine pickI h (by decide) (by decide) fun ds r h q1 q2 => ?_
          by_cases hr : 0 < r
          · simp [hr]
            refine pickI h (by omega) (by omega) fun ds i h i1 i2 => ?_
            simp
            refine pickI h (by decide) (by decide) fun ds way h w1 w2 => ?_
            have c1 := cut_lo (xs := xs) (i := i) i1 (by omega)
            have c2 := cut_hi (xs := xs) (i := i) i1 (by omega)
            have c3 := cut_lo (xs := xs) (i := i + 1) (by omega) (by omega)
            have c4 := cut_hi (xs := xs) (i := i + 1) (by omega) (by omega)
            have m1 : ∀ x ∈ xs, ZD (w + 1) (k + 2) x := fun x hx => (hz.2 x hx).up (by omega) (by omega)
            by_cases ha : way = 0
            · simp [ha, sizeLine, c1, c4]
              refine ⟨by omega, .inl ⟨_, _, _, rfl, rfl, h.le (by omega), ?_⟩⟩
              rw [zd_tup]
              refine ⟨by simp; omega, fun x hx => ?_⟩
              rcases List.mem_append.mp hx with hx | hx
              · exact m1 x (List.mem_of_mem_take hx)
              · exact m1 x (List.mem_of_mem_drop hx)
            · by_cases hb : way = 1
              · simp [hb, sizeLine, c2, c3]
                refine ⟨by omega, .inl ⟨_, _, _, rfl, rfl, h.le (by omega), ?_⟩⟩
                rw [zd_tup]
                refine ⟨by simp; omega, fun x hx => ?_⟩
                rcases List.mem_append.mp hx with hx | hx
                · exact m1 x (List.mem_of_mem_take hx)
                · exact m1 x (List.mem_of_mem_drop hx)
              · obtain ⟨x, hx, hm⟩ := at_mem i1 i2
                simp [ha, hb, sizeLine, c1, c4, hx]
                have h : Dk (n + 6 * fuel) ds := h.le (by omega)
                refine wp_I (changed_ok fuel (w := w) (k := k) hw hW (by omega) (by omega) (hz.2 x hm) h) ?_
                rintro own v ds1 ⟨hk', hv⟩
                simp [c4, sizeLine]
                refine ⟨by omega, by omega, .inl ⟨_, _, _, rfl, rfl, hk', ?_⟩⟩
                rw [zd_tup]
                refine ⟨by simp; omega, fun y hy => ?_⟩
                rcases List.mem_append.mp hy with hy | hy
                · exact m1 y (List.mem_of_mem_take hy)
                · rcases List.mem_cons.mp hy with rfl | hy
                  · exact hv.up (by omega) (by omega)
                  · exact m1 y (List.mem_of_mem_drop hy)
          · simp [hr]
            exact .inr ⟨rfl, _, rfl, h.le (by omega)⟩
      · simp at ht
        simp [nd, ht]
        exact .inr ⟨rfl, _, rfl, h.le (by omega)⟩
    · rintro e (⟨own, d', ds1, z, _⟩ | ⟨_, ds, rfl, h⟩)
      · cases z
      · exact changed_tail hw hz h
    · rintro o e hne (h | ⟨z, _⟩)
      · exact h
      · exact (hne z).elim
end Pu

namespace Pu
open PySem PySem.Spec PyProof.Rows L2 DL Sm
theorem range_mem {lo : Int} {n : Nat} {d : PyData} (h : d ∈ rangeD lo n) : ∃ i : Int, d = .int i ∧ lo ≤ i ∧ i < lo + n := by
  unfold rangeD at h
  obtain ⟨i, hi, rfl⟩ := List.mem_map.mp h
  rw [List.mem_range] at hi
  exact ⟨_, rfl, by omega, by omega⟩
theorem range_len {lo : Int} {n : Nat} : (rangeD lo n).length = n := by simp [rangeD]
theorem cell_ok {env : Ev} {s : Sl} {ns : List Int} {m k : Int} (h0 : env[0]? = some s) (hs : scOf (some s) = some ns) (hl : ns.length ≤ 63) (h1 : env[1]? = some (.fz (.int k))) (k0 : 0 ≤ k) (k1 : k < m) (hm : m ≤ 8) : ∃ c : Int, eBin ixD (eScr 0 (eBin mulD (eLst (aCons (eC (.int 0)) aNil)) (eC (.int m)))) (eVar 1) env = rok (false, .int c) env := by
  have hmul : mulD (.list [.int 0]) (.int m) = some (true, .list (List.replicate m.toNat [PyData.int 0]).flatten) := by
    rw [o_mulL, if_pos (by simp [sizeLine]; omega)]
  have hlen : (List.replicate m.toNat [PyData.int 0]).flatten.length = m.toNat := by simp
  have hscr : eScr 0 (eBin mulD (eLst (aCons (eC (.int 0)) aNil)) (eC (.int m))) env = rok (true, .list (ns.map .int ++ (List.replicate m.toNat [PyData.int 0]).flatten)) env := by
    unfold eScr
    rw [h0, hs]
    simp [sizeLine, hmul, h0, hs]
    intro hh
    omega
  obtain ⟨d, hd, hmem⟩ := at_mem (xs := ns.map .int ++ (List.replicate m.toNat [PyData.int 0]).flatten) k0 (by rw [List.length_append, hlen]; omega)
  have : ∃ c : Int, d = .int c := by
    rcases List.mem_append.mp hmem with h | h
    · obtain ⟨c, _, rfl⟩ := List.mem_map.mp h
      exact ⟨c, rfl⟩
    · simp at h
      exact ⟨0, h.2⟩
  obtain ⟨c, rfl⟩ := this
  refine ⟨c, ?_⟩
  rw [a_bin, hscr]
  simp only [rb_rok, a_var h1, o_ixL, hd, oY_some, lift_some]
theorem zd_enc {r : Rule} (h : r.Ok) : ZD 7 4 r.enc := by
  obtain ⟨h1, h2, h3, h4⟩ := zd_atom (w := 7) (k := 3)
  have hb : ∀ l, BOk l → ZD 7 2 (encB l) := by
    intro l hl
    unfold encB
    rw [zd_tup]
    refine ⟨by have := hl.2.1; simp; omega, fun d hd => ?_⟩
    obtain ⟨p, _, rfl⟩ := List.mem_map.mp hd
    unfold encP
    rw [zd_tup]
    simp [zd_atom]
  have ho : ∀ o, ZD 7 3 (encO o) := by
    intro o
    cases o with
    | none => exact h1
    | some i => exact h3 i
  unfold Rule.enc
  rw [zd_tup]
  simp [h2, h3, ho]
  rw [zd_tup]
  simp [hb _ h.b1, hb _ h.b2]
def InK01 (s : Sl) (k : Int) (rest : List PyData) (env : Ev) : Prop := ∃ a3 a4 a5 a6 ds, env = [s, .fz (.int k), .ow (.list ds), a3, a4, a5, a6, .no] ∧ Dk (200 * rest.length) ds
def OutK01 (s : Sl) (rest : List PyData) (env : Ev) : Prop := (∃ a1 a2 a3 a4 a5 a6, env = [s, a1, a2, a3, a4, a5, a6, .no]) ∧ ∀ d ∈ rest, ∃ i : Int, d = .int i ∧ 0 ≤ i ∧ i < 8
theorem k01_b1 {s : Sl} {k : Int} {d : PyData} {rest : List PyData} {a3 a4 a5 a6 : Sl} {ds : List PyData} (h : Dk (200 * rest.length + 200) ds) : Wp (law_k01_b1 [s, .fz (.int k), .ow (.list ds), .fz d, a4, a5, a6, .no]) fun o e => o = .nx ∧ InK01 s k rest e := by
  unfold law_k01_b1
  simp
  refine ruleI (n := 200 * rest.length + 160) h fun ds r h hr => ?_
  simp [is_rule_eq (nd_rule r), rule_enc hr]
  have z := zd_enc hr
  have h : Dk (200 * rest.length + 88 + 6 * 12) ds := h.le (by omega)
  refine wp_I (changed_ok 12 (by decide) (by decide) (by decide) (by decide) z h) ?_
  rintro own v ds ⟨h, zv⟩
  have fin : ∀ (own : Bool) (v : PyData) (ds : List PyData), ZD 9 8 v → Dk (200 * rest.length) ds → Wp ((sSeq (sSet 6 (eCall f_is_rule (aCons (eVar 5) aNil)))
    (sIf (tOrM (tNotM (tOf (eUn (isiD "bool") (eVar 6)))) (tOf (eBin neD (eVar 6) (eCall f_law_is (aCons (eVar 5) aNil))))) (sRet (eC (.bool false))) sSkip)) [s, .fz (.int k), .ow (.list ds), .fz d, .fz r.enc, slOf own v, a6, .no]) fun o e => o = .nx ∧ InK01 s k rest e := by
    intro own v ds zv h
    have e5 : eVar 5 [s, .fz (.int k), .ow (.list ds), .fz d, .fz r.enc, slOf own v, a6, .no] = rok (false, v) [s, .fz (.int k), .ow (.list ds), .fz d, .fz r.enc, .fz v, a6, .no] := a_varS rfl
    simp [e5, is_rule_eq zv.nd, law_is_eq zv.nd]
    exact ⟨_, _, _, _, ds, rfl, h⟩
  simp
  have h : Dk (200 * rest.length + 87 + 1) ds := h
  refine pickI h (by decide) (by decide) fun ds q h q1 q2 => ?_
  by_cases hq : q = 0
  · have e5 : eVar 5 [s, .fz (.int k), .ow (.list ds), .fz d, .fz r.enc, slOf own v, a6, .no] = rok (false, v) [s, .fz (.int k), .ow (.list ds), .fz d, .fz r.enc, .fz v, a6, .no] := a_varS rfl
    simp [hq, e5]
    have h : Dk (200 * rest.length + 6 * 12) ds := h.le (by omega)
    refine wp_I (changed_ok 12 (by decide) (by decide) (by decide) (by decide) zv h) ?_
    rintro own v ds ⟨h, zv⟩
    have := fin own v ds zv h
    simpa using this
  · simp [hq]
    have := fin own v ds (zv.up (by omega) (by omega)) (h.le (by omega))
    simpa using this
theorem law_k01_true : LawTrue 8 b_law_k01 := by
  intro s ns hs hl
  have : Wp (b_law_k01 (s :: List.replicate (8 - 1) .no)) fun o _ => o = .rt false (.bool true) := by
    unfold b_law_k01
    refine wp_seq (fun o e => o = .nx ∧ ∃ a1 a2 a3 a4 a5 a6, e = [s, a1, a2, a3, a4, a5, a6, .no]) ?_ ?_ ?_
    · simp
      refine wp_forL (OutK01 s) ?_ ?_ _ _ ⟨⟨_, _, _, _, _, _, rfl⟩, fun d hd => by simpa using range_mem hd⟩
      · rintro d rest env ⟨⟨a1, a2, a3, a4, a5, a6, rfl⟩, hd⟩
        obtain ⟨k, rfl, k0, k1⟩ := hd d (by simp)
        refine ⟨_, rfl, ?_⟩
        obtain ⟨c, hc⟩ := cell_ok (env := [s, .fz (.int k), a2, a3, a4, a5, a6, .no]) rfl hs hl rfl k0 k1 (by decide)
        obtain ⟨ds, he, hk⟩ := deck_ok c k k0 (by omega)
        unfold law_k01_b2
        rw [a_sSeq, a_sSet, a_call, a_aCons]
        simp only [a_gNm, List.set_cons_succ, List.set_cons_zero]
        rw [hc]
        simp [he]
        refine wp_forL (InK01 s k) ?_ ?_ _ _ ⟨_, _, _, _, ds, rfl, hk.le (by simp [range_len])⟩
        · rintro d r2 env ⟨a3, a4, a5, a6, ds, rfl, h⟩
          refine ⟨_, rfl, ?_⟩
          refine (k01_b1 (a3 := a3) (rest := r2) (h.le (by simp; omega))).mono ?_
          rintro o e ⟨rfl, hi⟩
          exact hi
        · rintro env ⟨a3, a4, a5, a6, ds, rfl, h⟩
          exact ⟨⟨_, _, _, _, _, _, rfl⟩, fun d' h' => hd d' (by simp [h'])⟩
      · rintro env ⟨h, _⟩
        exact ⟨rfl, h⟩
    · rintro e ⟨_, a1, a2, a3, a4, a5, a6, rfl⟩
      have n1 : noDict (.tuple [.tuple [.tuple [.tuple [.int 1, .int 0], .tuple [.int 23, .int 40], .tuple [.int 24, .int 0]], .tuple [.tuple [.int 24, .int 40]]], .int 40, .int 40, .int 40, .bool true, .int 24, .int 400]) = true := by decide
      simp [sizeLine, is_rule_eq, noDict, noDicts, cutL, HT.sIx, isBandsD, goB, bandD, headD, pairD, isNone]
    · rintro o e hne ⟨h, _⟩
      exact (hne h).elim
  obtain ⟨o, e, h, rfl⟩ := this
  exact ⟨e, h⟩
end Pu

/-! Trips: what they are; texts by their code points. -/
namespace Pu
open PySem PySem.Spec PyProof.Rows L2 DL Sm SX
theorem ls_ab : ("ab" : Str) = S [97, 98] := by decide +kernel
theorem ls_a : ("a" : Str) = S [97] := by decide +kernel
theorem ls_b : ("b" : Str) = S [98] := by decide +kernel
theorem ls_c : ("c" : Str) = S [99] := by decide +kernel
theorem ls_aB : ("aB" : Str) = S [97, 66] := by decide +kernel
theorem ls_AB : ("AB" : Str) = S [65, 66] := by decide +kernel
theorem ls_ABab : ("ABab" : Str) = S [65, 66, 97, 98] := by decide +kernel
theorem ls_abAB : ("abAB" : Str) = S [97, 98, 65, 66] := by decide +kernel
theorem ls_0 : ("" : Str) = S [] := by decide +kernel
@[simp] theorem o_inS {a b : Str} : inD (.str a) (.str b) = some (false, .bool (inStr a b)) := rfl
@[simp] theorem o_ninS {a b : Str} : notInD (.str a) (.str b) = some (false, .bool (!inStr a b)) := rfl
theorem inS {c : Nat} {l : List Nat} : inStr (S [c]) (S l) = decide (c ∈ l) := in_one l c
theorem signs_S (l : List Nat) : DL.signs (S l) = l.map fun c => PyData.str (S [c]) := rfl
@[simp] theorem o_itS {a : Str} : itOf (.str a) = some (DL.signs a) := rfl
@[simp] theorem o_slS {a : Str} {lo hi : Option Int} : slD (.str a) lo hi = if a.length ≤ sizeLine then some (false, .str (cutS a lo hi)) else none := rfl
theorem cutS_S {l : List Nat} {lo hi : Option Int} : cutS (S l) lo hi = S (cutL l lo hi) := by
  unfold cutS cutL
  rw [S_len]
/-- a comprehension that only reads -/
theorem wp_lcMap {vs : List Nat} {b : GM} {t : TM} {f : EM} {Q : List PyData → Ev → Prop} {H : Ev} (p : PyData → Bool) (g : PyData → PyData) : ∀ {ds acc : List PyData}, acc.length + ds.length ≤ sizeLine →
    (∀ d ∈ ds, ∃ e1, b d H = some e1 ∧ Wp (t e1) fun c e2 => c = p d ∧ hide e2 vs = H ∧ (c = true → Wp (f e2) fun od e3 => od.2 = g d ∧ hide e3 vs = H)) → Q (acc ++ (ds.filter p).map g) H → Wp (lcL vs b t f ds H acc) Q
  | [], acc, _, _, q => by simpa using q
  | d :: ds, acc, hl, h, q => by
    simp at hl
    obtain ⟨e1, hb, w⟩ := h d (by simp)
    rw [wp_lcL_cons, hb]
    refine w.mono fun c e2 ⟨hc, hh, k⟩ => ?_
    subst hc
    by_cases hp : p d = true
    · rw [if_pos hp]
      refine (k hp).mono fun od e3 ⟨h1, h2⟩ => ⟨by omega, ?_⟩
      rw [h1, h2]
      refine wp_lcMap p g (by simp; omega) (fun x hx => h x (by simp [hx])) ?_
      simpa [hp] using q
    · rw [if_neg hp, hh]
      refine wp_lcMap p g (by omega) (fun x hx => h x (by simp [hx])) ?_
      simpa [hp] using q
theorem bools_map {α : Type} (l : List α) (h : α → Bool) : boolsD (l.map fun c => .bool (h c)) = some (l.map h) := by
  induction l with
  | nil => rfl
  | cons c l ih => simp [ih]
def okL (c : Nat) : Bool := decide (c ∈ [65, 66, 97, 98])
def daysI (e : Int) : Int := (e - 1) / 24 + 1
def isTripD (d : PyData) : Bool := match d with
  | .tuple [a, b, .str w] => match a with
    | .int s => isFromD a 0 23 && isFromD b (s + 1) 720 && (match b with | .int e => decide ((w.length : Int) = daysI e) | _ => false) && w.cps.toList.all okL
    | _ => false
  | _ => false
/-- the texts are short -/
def shortW (d : PyData) : Prop := ∀ a b w, d = .tuple [a, b, .str w] → w.length ≤ 1000
theorem tup3 {α : Type} (ds : List α) (h : ds.length = 3) : ∃ a b c, ds = [a, b, c] := by
  match ds, h with
  | [a, b, c], _ => exact ⟨a, b, c, rfl⟩
theorem trip3 {ds : List PyData} (h : ds.length ≠ 3) : isTripD (.tuple ds) = false := by
  unfold isTripD
  split
  · rename_i e
    cases e
    exact absurd rfl h
  · rfl
theorem days_of_eq {e : Int} : f_days_of [.int e] = some (.ok (false, .int (daysI e))) := by
  refine wp_mkFn rfl ?_
  unfold b_days_of
  simp [daysI]
def letG (d : PyData) : PyData := match d with
  | .str x => .bool (inStr x "ABab")
  | _ => .none
theorem letG_signs (w : Str) : boolsD (((DL.signs w).filter fun _ => true).map letG) = some (w.cps.toList.map okL) := by
  have e : ((DL.signs w).filter fun _ => true) = w.cps.toList.map fun c => PyData.str (S [c]) := by simp [DL.signs]
  rw [e, List.map_map]
  have e3 : (w.cps.toList.map (letG ∘ fun c => PyData.str (S [c]))) = w.cps.toList.map fun c => .bool (okL c) := by
    apply List.map_congr_left
    intro c _
    simp [letG, ls_ABab, inS, okL]
  rw [e3, bools_map]
theorem is_trip_of_eq {v : PyData} (hd : noDict v = true) (hs : shortW v) : f_is_trip_of [v] = some (.ok (false, .bool (isTripD v))) := by
  have h1 := nd_dict hd
  refine wp_mkFn rfl ?_
  unfold b_is_trip_of
  cases v
  case dict => cases h1
  case tuple ds =>
    have hds := nd_tup hd
    by_cases l3 : ds.length = 3
    · obtain ⟨a, b, c, rfl⟩ := tup3 ds l3
      have n1 := nd_dict (hds a (by simp))
      have n2 := nd_dict (hds b (by simp))
      have n3 := nd_dict (hds c (by simp))
      cases i1 : isFromD a 0 23 with
      | false =>
        simp [atI, ixN, is_from_eq n1, i1, isTripD]
        cases c <;> simp
        cases a <;> simp
        simp at i1
        intro h1 h2
        omega
      | true =>
        obtain ⟨s, rfl, s0, s1⟩ := isFrom_shape i1
        cases i2 : isFromD b (s + 1) 720 with
        | false =>
          simp [atI, ixN, is_from_eq n1, is_from_eq n2, i1, i2, isTripD]
          cases c <;> simp [i2]
        | true =>
          obtain ⟨e, rfl, e0, e1⟩ := isFrom_shape i2
          cases c
          case str w =>
            have hw : w.length ≤ 1000 := hs _ _ _ rfl
            have hw2 : w.length ≤ sizeLine := by simp [sizeLine]; omega
            simp [atI, ixN, is_from_eq n1, is_from_eq n2, i1, i2, isTripD, hw2, days_of_eq, noOwn, s0, s1, e0, e1]
            by_cases hq : (w.length : Int) = daysI e
            · simp [hq]
              refine wp_lcMap (fun _ => true) letG ?_ ?_ ?_
              · simp [DL.signs]; exact hw2
              · intro d hd
                obtain ⟨c, _, rfl⟩ := List.mem_map.mp hd
                refine ⟨_, rfl, ?_⟩
                simp [is_trip_of_e1, letG]
              · simp only [List.nil_append]
                simp [letG_signs]
                exact fun _ => ⟨⟨⟨s0, s1⟩, e0, e1⟩, hq⟩
            · simp [hq]
          all_goals simp [atI, ixN, is_from_eq n1, is_from_eq n2, i1, i2, isTripD] at *
          all_goals simp [*]
    · have l3' : ¬ (ds.length : Int) = 3 := by omega
      simp [l3', trip3 l3]
  all_goals simp [isTripD]
theorem is_trip_eq {v : PyData} (hd : noDict v = true) (hs : shortW v) : f_is_trip [v] = some (.ok (false, .bool (isTripD v))) := by
  refine wp_mkFn rfl ?_
  unfold b_is_trip
  simp [is_trip_of_eq hd hs]
/-! ### trips, typed -/
structure Trip where
  s : Int
  e : Int
  w : List Nat
def Trip.enc (t : Trip) : PyData := .tuple [.int t.s, .int t.e, .str (S t.w)]
structure Trip.Ok (t : Trip) : Prop where
  s : 0 ≤ t.s ∧ t.s ≤ 23
  e : t.s + 1 ≤ t.e ∧ t.e ≤ 720
  len : (t.w.length : Int) = daysI t.e
  let_ : ∀ c ∈ t.w, okL c = true
theorem trip_enc {t : Trip} (h : t.Ok) : isTripD t.enc = true := by
  unfold Trip.enc isTripD
  simp [h.s, h.e, Str.length]
  exact ⟨h.len, h.let_⟩
theorem trip_dec {d : PyData} (h : isTripD d = true) : ∃ t : Trip, d = t.enc ∧ t.Ok := by
  unfold isTripD at h
  split at h
  · rename_i a b w
    split at h
    · rename_i s
      simp at h
      obtain ⟨⟨⟨h1, h2⟩, h3⟩, h4⟩ := h
      obtain ⟨e, rfl, e0, e1⟩ := isFrom_shape h2
      simp at h3
      refine ⟨⟨s, e, w.cps.toList⟩, rfl, h1, ⟨e0, e1⟩, ?_, fun c hc => ?_⟩
      · simpa [Str.length] using h3
      · obtain ⟨i, hi, rfl⟩ := List.getElem_of_mem hc
        simpa using h4 i (by simpa using hi)
    · cases h
  · cases h
theorem trip_len {t : Trip} (h : t.Ok) : 1 ≤ t.w.length ∧ t.w.length ≤ 30 := by
  have h1 := h.len
  have h2 := h.e
  have h3 := h.s
  unfold daysI at h1
  omega
theorem trip_short {t : Trip} (h : t.Ok) : shortW t.enc := by
  intro a b w e
  cases e
  have := (trip_len h).2
  simp [Str.length]
  omega
theorem nd_trip (t : Trip) : noDict t.enc = true := rfl
theorem str_len (l : List Nat) : (S l).length = l.length := S_len l
/-! ### drawn words and ways -/
theorem joinL_map : ∀ l : List Nat, TL.joinL [] (l.map fun c => [c]) = l
  | [] => rfl
  | [c] => rfl
  | c :: d :: l => by
    have := joinL_map (d :: l)
    simp only [List.map_cons] at this ⊢
    unfold TL.joinL
    rw [this]; rfl
theorem strs_map (l : List Nat) : strsD (l.map fun c => .str (S [c])) = some (l.map fun c => S [c]) := by
  induction l with
  | nil => rfl
  | cons c l ih => simp [ih]
theorem join_signs (l : List Nat) : Txt.join "" (l.map fun c => S [c]) = S l := by
  have := join_S [] (l.map fun c => [c])
  rw [joinL_map, List.map_map] at this
  rw [ls_0]
  exact this
theorem joinD_signs {l : List Nat} (hl : l.length ≤ 1000) : joinD (.str "") (.list (l.map fun c => .str (S [c]))) = some (false, .str (S l)) := by
  unfold joinD
  simp only [strs_map]
  have h1 : ((l.map fun c => S [c]).map (·.length)).sum = l.length := by
    clear hl
    induction l with
    | nil => rfl
    | cons c l ih =>
      rw [List.map_cons, List.map_cons, List.sum_cons, ih, S_len]
      simp; omega
  have h2 : ("" : Str).length = 0 := by decide +kernel
  rw [if_pos (by rw [h1, h2]; simp; omega), join_signs]
  rfl
theorem ix_sign {l : List Nat} {i : Int} (h0 : 0 ≤ i) (h1 : i < l.length) (hl : l.length ≤ sizeLine) : ∃ c, c ∈ l ∧ ixD (.str (S l)) (.int i) = some (false, .str (S [c])) := by
  have h2 : i.toNat < l.length := by omega
  refine ⟨l[i.toNat], List.getElem_mem h2, ?_⟩
  unfold ixD
  simp only
  rw [if_pos (by rw [S_len]; exact hl)]
  have : atI l i = some l[i.toNat] := by
    unfold atI ixN
    rw [if_pos h0, if_pos h1]
    exact List.getElem?_eq_getElem h2
  simp [this]
def WordR (n : Nat) (m : Int) (own : Bool) (d : PyData) (ds1 : List PyData) : Prop := own = false ∧ Dk n ds1 ∧ ∃ l : List Nat, d = .str (S l) ∧ (l.length : Int) = m ∧ ∀ c ∈ l, okL c = true
def WordI (n : Nat) (sg : List Nat) (m : Int) (acc rest : List PyData) (env : Ev) : Prop := ∃ (ds : List PyData) (l : List Nat), env = [.io ds, .fz (.int m), .fz (.str (S sg)), .no] ∧ Dk (n + rest.length) ds ∧ acc = l.map (fun c => .str (S [c])) ∧ (l.length : Int) + rest.length = m ∧ ∀ c ∈ l, okL c = true
theorem word_ok {n : Nat} {m : Int} {ds : List PyData} (h0 : 0 ≤ m) (hm : m ≤ 1000) (h : Dk (n + m.toNat + 1) ds) : WpI (f_law_word ds [.int m]) (WordR n m) := by
  refine wpi_mk rfl ?_
  unfold b_law_word
  simp [sizeLine]
  refine pickI h (by decide) (by decide) fun ds s h s1 s2 => ?_
  obtain ⟨d, hd, hmem⟩ := at_mem (xs := [.str "ab", .str "a", .str "aB", .str "ABab"]) s1 (by simpa using s2)
  have : ∃ sg : List Nat, d = .str (S sg) ∧ 1 ≤ sg.length ∧ sg.length ≤ 4 ∧ ∀ c ∈ sg, okL c = true := by
    simp only [ls_ab, ls_a, ls_aB, ls_ABab, List.mem_cons, List.not_mem_nil, or_false] at hmem
    rcases hmem with rfl | rfl | rfl | rfl
    all_goals exact ⟨_, rfl, by decide, by decide, by decide⟩
  obtain ⟨sg, rfl, g1, g2, g3⟩ := this
  simp [hd]
  refine ⟨okR_of (by omega) (by omega), by simp [noOwn], ?_⟩
  refine wp_lcL (WordI n sg m) ?_ ?_ _ _ _ ⟨ds, [], rfl, h.le (by simp [range_len]), rfl, by simp [range_len]; omega, by simp⟩
  · rintro acc d rest env ⟨ds, l, rfl, hk, rfl, hlen, hall⟩
    simp at hlen
    refine ⟨by simp [sizeLine]; omega, _, rfl, ?_⟩
    have hsz : (S sg).length ≤ sizeLine := by rw [S_len]; simp [sizeLine]; omega
    simp [law_word_e1, hsz]
    have hk : Dk (n + rest.length + 1) ds := hk.le (by simp; omega)
    refine pickI hk (by rw [S_len]; omega) (by rw [S_len]; omega) fun ds i hk i1 i2 => ?_
    rw [S_len] at i2
    obtain ⟨c, hc, hix⟩ := ix_sign i1 i2 (by simp [sizeLine]; omega)
    simp [hix]
    refine ⟨ds, l ++ [c], rfl, hk, by simp, by simp; omega, fun x hx => ?_⟩
    rcases List.mem_append.mp hx with hx | hx
    · exact hall x hx
    · simp at hx; subst hx; exact g3 _ hc
  · rintro acc env ⟨ds, l, rfl, hk, rfl, hlen, hall⟩
    simp at hlen
    simp [joinD_signs (l := l) (by omega)]
    exact ⟨rfl, hk, l, rfl, by omega, hall⟩
theorem wordI {n : Nat} {m : Int} {ds : List PyData} {e : Ev} {i : Nat} {Q : Bool × PyData → Ev → Prop} (h0 : 0 ≤ m) (hm : m ≤ 1000) (h : Dk (n + m.toNat + 1) ds) (k : ∀ ds1 (l : List Nat), Dk n ds1 → (l.length : Int) = m → (∀ c ∈ l, okL c = true) → Q (false, .str (S l)) (e.set i (reSl e[i]? ds1))) : Wp (liftI (f_law_word ds [.int m]) e i) Q := by
  refine wp_I (word_ok h0 hm h) ?_
  rintro own _ ds1 ⟨rfl, hk, l, rfl, a, b⟩
  exact k ds1 l hk a b
def WayR (n : Nat) (own : Bool) (d : PyData) (ds1 : List PyData) : Prop := own = false ∧ Dk n ds1 ∧ ∃ t : Trip, d = t.enc ∧ t.Ok
theorem way_ok {n : Nat} {most : Int} {ds : List PyData} (h0 : 1 ≤ most) (h1 : most ≤ 30) (h : Dk (n + 40) ds) : WpI (f_law_way ds [.int most]) (WayR n) := by
  refine wpi_mk rfl ?_
  unfold b_law_way
  simp
  refine pickI h (by omega) (by omega) fun ds m h m1 m2 => ?_
  simp
  refine pickI h (by omega) (by omega) fun ds s h s1 s2 => ?_
  simp
  refine pickI h (by omega) (by omega) fun ds e h e1 e2 => ?_
  have h : Dk (n + 5 + (1 + m).toNat + 1) ds := h.le (by omega)
  by_cases hle : 24 * (1 + m - 1) + 1 + e ≤ s
  · simp [hle, sizeLine]
    refine wordI (by omega) (by omega) h fun ds l h l1 l2 => ?_
    simp [sizeLine]
    refine ⟨rfl, h.le (by omega), ⟨s, s + 1, l⟩, rfl, ⟨s1, by simp; omega⟩, ⟨by simp, by simp; omega⟩, ?_, l2⟩
    unfold daysI
    simp; omega
  · simp [hle, sizeLine]
    refine wordI (by omega) (by omega) h fun ds l h l1 l2 => ?_
    simp [sizeLine]
    refine ⟨rfl, h.le (by omega), ⟨s, 24 * (1 + m - 1) + 1 + e, l⟩, rfl, ⟨s1, by simp; omega⟩, ⟨by simp; omega, by simp; omega⟩, ?_, l2⟩
    unfold daysI
    simp; omega
theorem wayI {n : Nat} {most : Int} {ds : List PyData} {e : Ev} {i : Nat} {Q : Bool × PyData → Ev → Prop} (h0 : 1 ≤ most) (h1 : most ≤ 30) (h : Dk (n + 40) ds) (k : ∀ ds1 (t : Trip), Dk n ds1 → t.Ok → Q (false, t.enc) (e.set i (reSl e[i]? ds1))) : Wp (liftI (f_law_way ds [.int most]) e i) Q := by
  refine wp_I (way_ok h0 h1 h) ?_
  rintro own _ ds1 ⟨rfl, hk, t, rfl, a⟩
  exact k ds1 t hk a
end Pu

/-! What trips pay: the rules, typed; the program's defs and the law's. -/
namespace Pu
open PySem PySem.Spec PyProof.Rows L2 DL Sm SX
def isA (c : Nat) : Bool := decide (c = 97) || decide (c = 65)
def isMeal (c : Nat) : Bool := decide (c = 65) || decide (c = 66)
def bandAmt : List (Int × Int) → Int → Int → Int
  | [], _, a => a
  | p :: l, h, a => bandAmt l h (if p.1 ≤ h then p.2 else a)
def Rule.bands (r : Rule) (c : Nat) : List (Int × Int) := if isA c = true then r.b1 else r.b2
def Rule.band (r : Rule) (h : Int) (c : Nat) : Int := bandAmt (r.bands c) h 0
def Rule.rest (r : Rule) (a : Int) (c : Nat) : Int := if isMeal c = true then (if r.meal < a then a - r.meal else 0) else a
def Rule.whole (r : Rule) (h : Int) (c : Nat) : Int := r.rest (r.band h c) c
def Rule.endd (r : Rule) (h : Int) (c : Nat) : Int := r.rest (match r.ends with | none => r.band h c | some e => e) c
def Trip.hour (t : Trip) (d : Nat) : Int := (if t.e < 24 * (d : Int) + 24 then t.e else 24 * (d : Int) + 24) - (if 24 * (d : Int) < t.s then t.s else 24 * (d : Int))
def Trip.hours (t : Trip) : List Int := (List.range t.w.length).map t.hour
def Trip.c (t : Trip) (i : Nat) : Nat := t.w.getD i 97
def Trip.mid (t : Trip) : List Nat := (t.w.drop 1).take (t.w.length - 2)
def Rule.one (r : Rule) (t : Trip) : Bool := r.join && decide (t.w.length = 2) && decide (t.e - t.s < 24)
def Rule.amts (r : Rule) (t : Trip) : List Int :=
  if t.w.length = 1 then [r.whole (t.hour 0) (t.c 0)]
  else if r.one t = true then [r.whole (t.e - t.s) (if t.hour 0 ≥ t.hour 1 then t.c 0 else t.c 1)]
  else r.endd (t.hour 0) (t.c 0) :: (t.mid.map (r.whole 24) ++ [r.endd (t.hour (t.w.length - 1)) (t.c (t.w.length - 1))])
def Rule.pay (r : Rule) (t : Trip) : Int := if t.e - t.s < r.least then 0 else min r.cap ((r.amts t).sum + r.night * ((r.amts t).length - 1))
theorem leSz {n : Nat} (h : n ≤ 1000000) : n ≤ sizeLine := Nat.le_trans h (by decide)
theorem ltSz {n : Nat} (h : n ≤ 1000000) : n < sizeLine := Nat.lt_of_le_of_lt h (by decide)
/-! ### reading rules and trips -/
section
variable {r : Rule} {t : Trip}
@[simp] theorem rx0 : ixD r.enc (.int 0) = some (false, .tuple [encB r.b1, encB r.b2]) := rfl
@[simp] theorem rx1 : ixD r.enc (.int 1) = some (false, encO r.ends) := rfl
@[simp] theorem rx2 : ixD r.enc (.int 2) = some (false, .int r.night) := rfl
@[simp] theorem rx3 : ixD r.enc (.int 3) = some (false, .int r.meal) := rfl
@[simp] theorem rx4 : ixD r.enc (.int 4) = some (false, .bool r.join) := rfl
@[simp] theorem rx5 : ixD r.enc (.int 5) = some (false, .int r.least) := rfl
@[simp] theorem rx6 : ixD r.enc (.int 6) = some (false, .int r.cap) := rfl
@[simp] theorem tx0 : ixD t.enc (.int 0) = some (false, .int t.s) := rfl
@[simp] theorem tx1 : ixD t.enc (.int 1) = some (false, .int t.e) := rfl
@[simp] theorem tx2 : ixD t.enc (.int 2) = some (false, .str (S t.w)) := rfl
@[simp] theorem tp_s : gTp = gTp := rfl
theorem tunp {b : GsM} {env : Ev} : gTp b t.enc env = b [.int t.s, .int t.e, .str (S t.w)] env := rfl
end
@[simp] theorem lenS_S {l : List Nat} : (S l).length = l.length := S_len l
theorem ixS {l : List Nat} {i : Int} {c : Nat} (hl : l.length ≤ 1000) (h : atI l i = some c) : ixD (.str (S l)) (.int i) = some (false, .str (S [c])) := by
  unfold ixD
  simp only
  rw [if_pos (by rw [S_len]; simp [sizeLine]; omega)]
  rw [h]
  rfl
theorem atI_nat {α : Type} {l : List α} {i : Nat} : atI l ((i : Nat) : Int) = l[i]? := by
  unfold atI ixN
  rw [if_pos (Int.natCast_nonneg i)]
  by_cases h : i < l.length
  · rw [if_pos (by omega)]; simp
  · rw [if_neg (by omega)]; simp; omega
theorem atI_last {α : Type} {l : List α} : atI l (-1) = l[l.length - 1]? := by
  unfold atI ixN
  rw [if_neg (by omega)]
  by_cases h : l = []
  · subst h; simp
  · have : 0 < l.length := List.length_pos_iff.mpr h
    rw [if_pos (by omega)]
    have e : (-1 + (l.length : Int)).toNat = l.length - 1 := by omega
    simp only [Option.bind_some, e]
theorem ok4 {c : Nat} (h : okL c = true) : c = 65 ∨ c = 66 ∨ c = 97 ∨ c = 98 := by
  unfold okL at h
  simpa using h
def lo4 (c : Nat) : Nat := if isA c = true then 97 else 98
theorem lower4 {c : Nat} (h : okL c = true) : lowerD (.str (S [c])) = some (false, .str (S [lo4 c])) := by
  have hl : (S [c]).length ≤ 5592405 := by rw [S_len]; simp
  unfold lowerD
  simp only
  rw [if_pos hl]
  have : Txt.lower (S [c]) = S [lo4 c] := by
    rcases ok4 h with rfl | rfl | rfl | rfl <;> decide +kernel
  rw [this]; rfl
theorem index4 {c : Nat} : indexD (.str "ab") (.str (S [lo4 c])) = some (false, .int (if isA c = true then 0 else 1)) := by
  have h1 : Builtin.Str.occurrences "ab" (S [97]) 0 (Str.length "ab") 1 = [0] := by decide +kernel
  have h2 : Builtin.Str.occurrences "ab" (S [98]) 0 (Str.length "ab") 1 = [1] := by decide +kernel
  unfold lo4 indexD
  cases h : isA c
  · show (match Builtin.Str.occurrences "ab" (S [98]) 0 (Str.length "ab") 1 with | i :: _ => iD (i : Nat) | [] => none) = _
    rw [h2]; rfl
  · show (match Builtin.Str.occurrences "ab" (S [97]) 0 (Str.length "ab") 1 with | i :: _ => iD (i : Nat) | [] => none) = _
    rw [h1]; rfl
theorem bands_len {r : Rule} (hr : r.Ok) (c : Nat) : (r.bands c).length ≤ 3 := by
  unfold Rule.bands
  split
  · exact hr.b1.2.1
  · exact hr.b2.2.1
theorem ixBands {r : Rule} {c : Nat} : atI [encB r.b1, encB r.b2] (if isA c = true then 0 else 1) = some (.tuple ((r.bands c).map encP)) := by
  unfold Rule.bands
  cases h : isA c
  · rfl
  · rfl
theorem bandAmt_last (h : Int) : ∀ (l : List (Int × Int)) (a : Int), bandAmt l h a = (((l.filter fun p => decide (p.1 ≤ h)).map fun p => p.2).getLast?).getD a
  | [], a => rfl
  | p :: l, a => by
    unfold bandAmt
    rw [bandAmt_last h l]
    by_cases hp : p.1 ≤ h
    · simp only [hp, if_true, List.filter_cons, decide_true, List.map_cons]
      rw [List.getLast?_cons]
      rfl
    · simp [hp]
def pLe (h : Int) (d : PyData) : Bool := match d with
  | .tuple [.int a, _] => decide (a ≤ h)
  | _ => false
def pSnd (d : PyData) : PyData := match d with
  | .tuple [_, b] => b
  | _ => .none
theorem ne_nilL {ds : List PyData} (h : shp (.list ds) = true) : neD (.list ds) (.list []) = some (false, .bool (!ds.isEmpty)) := by
  have : shp (.list []) = true := by decide
  cases ds with
  | nil => simp [neD, this, PyData.eqv, PyData.eqvAll]
  | cons x xs => simp [neD, this, h, PyData.eqv, PyData.eqvAll]
theorem shp_ints (l : List Int) : shp (.list (l.map PyData.int)) = true := by
  have : ZD l.length 1 (.list (l.map PyData.int)) := by
    rw [zd_lst]
    refine ⟨by simp, fun d hd => ?_⟩
    obtain ⟨i, _, rfl⟩ := List.mem_map.mp hd
    exact zd_atom.2.2.1 i
  exact this.shp (by omega)
theorem by_bands_eq {r : Rule} (hr : r.Ok) {h : Int} {c : Nat} (hc : okL c = true) : f_by_bands [r.enc, .int h, .str (S [c])] = some (.ok (false, .int (r.band h c))) := by
  refine wp_mkFn rfl ?_
  unfold b_by_bands
  simp [lower4 hc, index4, ixBands, noOwn]
  refine wp_lcMap (pLe h) pSnd ?_ ?_ ?_
  · have := bands_len hr c; simp [sizeLine]; omega
  · intro d hd
    obtain ⟨p, _, rfl⟩ := List.mem_map.mp hd
    refine ⟨_, rfl, ?_⟩
    simp [pLe, pSnd, encP]
  · have e : ((((r.bands c).map encP).filter (pLe h)).map pSnd) = (((r.bands c).filter fun p => decide (p.1 ≤ h)).map fun p => p.2).map PyData.int := by
      rw [List.filter_map, List.map_map, List.map_map]
      congr 1
    simp only [List.nil_append, e]
    unfold Rule.band
    rw [bandAmt_last]
    generalize hl : (((r.bands c).filter fun p => decide (p.1 ≤ h)).map fun p => p.2) = l
    simp [sizeLine, ne_nilL (shp_ints l)]
    cases l with
    | nil => simp
    | cons x xs =>
      simp only [List.map_cons]
      have := atI_last (l := (x :: xs).map PyData.int)
      simp only [List.map_cons] at this
      simp [this]
      rw [List.getLast?_eq_getElem?]
      simp
      have e3 : ∀ (i : Nat) (h1 : i < ((x :: xs).map PyData.int).length), ((x :: xs).map PyData.int)[i] = .int ((x :: xs)[i]'(by simpa using h1)) := fun i h1 => List.getElem_map ..
      exact e3 xs.length (by simp)
end Pu

namespace Pu
open PySem PySem.Spec PyProof.Rows L2 DL Sm SX
theorem ls_aA : ("aA" : Str) = S [97, 65] := by decide +kernel
theorem inAB {c : Nat} : inStr (S [c]) "AB" = isMeal c := by rw [ls_AB, inS]; unfold isMeal; simp
theorem in_aA {c : Nat} : inStr (S [c]) "aA" = isA c := by rw [ls_aA, inS]; unfold isA; simp
theorem in_ab {c : Nat} (h : okL c = true) : inStr (S [c]) "ab" = !isMeal c := by
  rw [ls_ab, inS]
  rcases ok4 h with rfl | rfl | rfl | rfl <;> decide
section
variable {r : Rule} {t : Trip} {a h : Int} {c : Nat}
theorem less_meal_eq : f_less_meal [r.enc, .int a, .str (S [c])] = some (.ok (false, .int (r.rest a c))) := by
  refine wp_mkFn rfl ?_
  unfold b_less_meal Rule.rest
  cases hm : isMeal c
  · simp [inAB, hm]
  · simp [inAB, hm]
theorem law_rest_eq (hc : okL c = true) : f_law_rest [r.enc, .int a, .str (S [c])] = some (.ok (false, .int (r.rest a c))) := by
  refine wp_mkFn rfl ?_
  unfold b_law_rest Rule.rest
  cases hm : isMeal c
  · simp [in_ab hc, hm]
  · simp [in_ab hc, hm]
    by_cases q : r.meal < a
    · simp [q]
      omega
    · simp [q]
theorem whole_day_eq (hr : r.Ok) (hc : okL c = true) : f_whole_day [r.enc, .int h, .str (S [c])] = some (.ok (false, .int (r.whole h c))) := by
  refine wp_mkFn rfl ?_
  unfold b_whole_day
  simp [by_bands_eq hr hc, less_meal_eq]
  rfl
theorem end_day_eq (hr : r.Ok) (hc : okL c = true) : f_end_day [r.enc, .int h, .str (S [c])] = some (.ok (false, .int (r.endd h c))) := by
  refine wp_mkFn rfl ?_
  unfold b_end_day Rule.endd
  cases he : r.ends with
  | none => simp [by_bands_eq hr hc, less_meal_eq, he, encO, isNone]
  | some e => simp [by_bands_eq hr hc, less_meal_eq, he, encO, isNone]
theorem law_band_loop {env0 : Sl} {s2 : Sl} {h : Int} : ∀ (l : List (Int × Int)) (a : Int) (s4 s5 : Sl) {Q : Out → Ev → Prop}, (∀ s4 s5, Q .nx [env0, .fz (.int h), s2, .fz (.int (bandAmt l h a)), s4, s5]) →
    Wp (forL (gTp (gsCons (gNm 4) (gsCons (gNm 5) gsNil))) law_band_b1 (l.map encP) [env0, .fz (.int h), s2, .fz (.int a), s4, s5]) Q
  | [], a, s4, s5, Q, k => by simpa [bandAmt] using k s4 s5
  | p :: l, a, s4, s5, Q, k => by
    simp [wp_forL_cons, encP, law_band_b1]
    by_cases hp : p.1 ≤ h
    · simp [hp]
      exact law_band_loop l p.2 _ _ (by simpa [bandAmt, hp] using k)
    · simp [hp]
      exact law_band_loop l a _ _ (by simpa [bandAmt, hp] using k)
theorem law_band_eq : f_law_band [r.enc, .int h, .str (S [c])] = some (.ok (false, .int (r.band h c))) := by
  refine wp_mkFn rfl ?_
  unfold b_law_band
  simp [in_aA]
  unfold Rule.band Rule.bands
  cases hA : isA c
  · simp [atI, ixN, encB]
    exact law_band_loop _ 0 _ _ fun s4 s5 => by simp
  · simp [atI, ixN, encB]
    exact law_band_loop _ 0 _ _ fun s4 s5 => by simp
end
/-! ### the hours of the days -/
theorem trip_len' {t : Trip} (h : t.Ok) : t.w.length ≤ 1000 := by have := (trip_len h).2; omega
theorem rangeD_nat {n : Nat} : rangeD 0 n = (List.range n).map fun i => PyData.int ((i : Nat) : Int) := by
  unfold rangeD; simp
theorem forL_range {b : GM} {body : SM} {Q : Out → Ev → Prop} {n : Nat} {env : Ev} (I : Nat → Ev → Prop) (h0 : I 0 env)
    (step : ∀ i env, i < n → I i env → ∃ e1, b (.int (i : Int)) env = some e1 ∧ Wp (body e1) fun o e2 => match o with | .nx => I (i + 1) e2 | .ct => I (i + 1) e2 | .bk => Q .nx e2 | .rt own v => Q (.rt own v) e2)
    (done : ∀ env, I n env → Q .nx env) : Wp (forL b body (rangeD 0 n) env) Q := by
  refine wp_forL (fun rest env => ∃ i, i ≤ n ∧ rest = (rangeD 0 n).drop i ∧ I i env) ?_ ?_ _ _ ⟨0, Nat.zero_le _, rfl, h0⟩
  · rintro d rest env ⟨i, hi, hr, h⟩
    have hl : i < n := by
      have := congrArg List.length hr
      simp [rangeD] at this
      omega
    have hd : (rangeD 0 n).drop i = .int (i : Int) :: (rangeD 0 n).drop (i + 1) := by
      rw [List.drop_eq_getElem_cons (by simpa [rangeD] using hl)]
      simp [rangeD]
    rw [hd] at hr
    cases hr
    obtain ⟨e1, hb, w⟩ := step i env hl h
    refine ⟨e1, hb, w.mono fun o e2 q => ?_⟩
    cases o with
    | nx => exact ⟨i + 1, hl, rfl, q⟩
    | ct => exact ⟨i + 1, hl, rfl, q⟩
    | bk => exact q
    | rt own v => exact q
  · rintro env ⟨i, hi, hr, h⟩
    have : i = n := by
      have := congrArg List.length hr
      simp [rangeD] at this
      omega
    subst this
    exact done env h
def Trip.hoursD (t : Trip) : PyData := .list (t.hours.map .int)
theorem hours_len {t : Trip} : t.hours.length = t.w.length := by simp [Trip.hours]
theorem hours_of_eq {t : Trip} (ht : t.Ok) : f_hours_of [t.enc] = some (.ok (false, t.hoursD)) := by
  have hl := trip_len' ht
  have hs : t.w.length ≤ sizeLine := leSz (by omega)
  refine wp_mkFn rfl ?_
  unfold b_hours_of
  simp [tunp, hs]
  refine ⟨okR_of (by omega) (by omega), ?_⟩
  refine forL_range (fun i env => ∃ x, env = [.fz t.enc, .fz (.int t.s), .fz (.int t.e), .fz (.str (S t.w)), .ow (.list (((List.range i).map t.hour).map .int)), x]) ⟨_, rfl⟩ ?_ ?_
  · rintro i env hi ⟨x, rfl⟩
    refine ⟨_, rfl, ?_⟩
    unfold hours_of_b1
    have hz : i < sizeLine := ltSz (by omega)
    simp [hz, smallI]
    rw [List.range_succ]
    simp [Trip.hour]
    have e1 : (24 * ((i : Int) + 1)) = 24 * i + 24 := by omega
    rw [e1]
    congr 1
    · by_cases q : 24 * (i : Int) + 24 < t.e
      · rw [if_pos q, if_neg (by omega)]
      · rw [if_neg q]; split <;> omega
    · split <;> split <;> omega
  · rintro env ⟨x, rfl⟩
    simp [Trip.hoursD, Trip.hours]
theorem law_lengths_eq {t : Trip} (ht : t.Ok) : f_law_lengths [t.enc] = some (.ok (false, t.hoursD)) := by
  have hl := trip_len' ht
  have hs : t.w.length ≤ sizeLine := leSz (by omega)
  refine wp_mkFn rfl ?_
  unfold b_law_lengths
  simp [tunp, hs]
  refine ⟨okR_of (by omega) (by omega), ?_⟩
  refine forL_range (fun i env => ∃ x y z, env = [.fz t.enc, .fz (.int t.s), .fz (.int t.e), .fz (.str (S t.w)), .ow (.list (((List.range i).map t.hour).map .int)), x, y, z]) ⟨_, _, _, rfl⟩ ?_ ?_
  · rintro i env hi ⟨x, y, z, rfl⟩
    refine ⟨_, rfl, ?_⟩
    unfold law_lengths_b1
    have hz : i < sizeLine := ltSz (by omega)
    have hz2 : (i : Int) < 1000 := by omega
    by_cases q1 : t.e < 24 * (i : Int) + 24 <;> by_cases q2 : 24 * (i : Int) < t.s <;> simp [Trip.hour, q1, q2, hz, smallI, List.range_succ]
  · rintro env ⟨x, y, z, rfl⟩
    simp [Trip.hoursD, Trip.hours]
end Pu

namespace Pu
open PySem PySem.Spec PyProof.Rows L2 DL Sm SX
@[simp] theorem intsD_map (l : List Int) : intsD (l.map PyData.int) = some l := by
  induction l with
  | nil => rfl
  | cons x l ih => simp [ih]
theorem sumD_ints (l : List Int) : sumD [.list (l.map PyData.int)] = some (false, .int l.sum) := by
  rw [sumD_eq, intsD_map]
section
variable {r : Rule} {t : Trip}
theorem hxn {i : Nat} (h : i < t.w.length) : (t.hours.map PyData.int)[i]? = some (.int (t.hour i)) := by
  simp [Trip.hours, h]
theorem hx0 (h : 0 < t.w.length) : atI (t.hours.map PyData.int) 0 = some (.int (t.hour 0)) := (atI_nat (i := 0)).trans (hxn h)
theorem hx1 (h : 1 < t.w.length) : atI (t.hours.map PyData.int) 1 = some (.int (t.hour 1)) := (atI_nat (i := 1)).trans (hxn h)
theorem hxl (h : 0 < t.w.length) : atI (t.hours.map PyData.int) (-1) = some (.int (t.hour (t.w.length - 1))) := by
  rw [atI_last]
  have : (t.hours.map PyData.int).length = t.w.length := by simp [hours_len]
  rw [this]
  exact hxn (by omega)
theorem cxn {i : Nat} (h : i < t.w.length) : t.w[i]? = some (t.c i) := by
  unfold Trip.c
  rw [List.getD_eq_getElem?_getD]
  simp [h]
theorem wx0 (hl : t.w.length ≤ 1000) (h : 0 < t.w.length) : ixD (.str (S t.w)) (.int 0) = some (false, .str (S [t.c 0])) := ixS hl ((atI_nat (i := 0)).trans (cxn h))
theorem wx1 (hl : t.w.length ≤ 1000) (h : 1 < t.w.length) : ixD (.str (S t.w)) (.int 1) = some (false, .str (S [t.c 1])) := ixS hl ((atI_nat (i := 1)).trans (cxn h))
theorem wxn (hl : t.w.length ≤ 1000) {i : Nat} (h : i < t.w.length) : ixD (.str (S t.w)) (.int (i : Nat)) = some (false, .str (S [t.c i])) := ixS hl (atI_nat.trans (cxn h))
theorem wxl (hl : t.w.length ≤ 1000) (h : 0 < t.w.length) : ixD (.str (S t.w)) (.int (-1)) = some (false, .str (S [t.c (t.w.length - 1)])) := ixS hl (atI_last.trans (cxn (by omega)))
theorem okc (ht : t.Ok) {i : Nat} (h : i < t.w.length) : okL (t.c i) = true := by
  have := cxn h
  exact ht.let_ _ (List.mem_of_getElem? this)
theorem w_one (h : t.w.length = 1) : t.w = [t.c 0] := by
  have := cxn (t := t) (i := 0) (by omega)
  match hw : t.w, h with
  | [a], _ => rw [hw] at this; simp at this; rw [← this]
theorem hour_sum (ht : t.Ok) (h : t.w.length = 2) : t.hours.sum = t.e - t.s := by
  have h1 := ht.len
  have h2 := ht.e
  have h3 := ht.s
  unfold daysI at h1
  rw [h] at h1
  have : t.hours = [t.hour 0, t.hour 1] := by unfold Trip.hours; rw [h]; rfl
  rw [this]
  simp [Trip.hour]
  split <;> split <;> split <;> split <;> omega
theorem is_one_day_eq (ht : t.Ok) : f_is_one_day [r.enc, t.enc] = some (.ok (false, .bool (r.one t))) := by
  have hl := leSz (n := t.w.length) (by have := trip_len' ht; omega)
  refine wp_mkFn rfl ?_
  unfold b_is_one_day Rule.one
  cases hj : r.join
  · simp
    simp [hj]
  · simp
    simp [hj, hl]
    by_cases h2 : t.w.length = 2
    · have : (t.w.length : Int) = 2 := by omega
      simp [h2]
    · have : ¬ (t.w.length : Int) = 2 := by omega
      simp [h2, this]
theorem cut_mid {α : Type} {l : List α} (h : 2 ≤ l.length) : cutL l (some 1) (some (-1)) = (l.drop 1).take (l.length - 2) := by
  unfold cutL HT.sIx
  have e1 : min (Int.toNat 1) l.length = 1 := by
    have : Int.toNat 1 = 1 := rfl
    omega
  have e2 : ((-1 : Int) + (l.length : Int)).toNat = l.length - 1 := by omega
  simp [e2]
  have e3 : min 1 l.length = 1 := by omega
  rw [e3, List.drop_one, Nat.sub_sub]
theorem cut_mid' (h : 2 ≤ t.w.length) : cutL t.w (some 1) (some (-1)) = t.mid := cut_mid h
theorem mid_len (t : Trip) : t.mid.length ≤ t.w.length := by unfold Trip.mid; simp; omega
theorem mid_ok (ht : t.Ok) {c : Nat} (h : c ∈ t.mid) : okL c = true := ht.let_ _ (List.mem_of_mem_drop (List.mem_of_mem_take h))
theorem amts_1 (h : t.w.length = 1) : r.amts t = [r.whole (t.hour 0) (t.c 0)] := by unfold Rule.amts; rw [if_pos h]
theorem amts_o (h : t.w.length ≠ 1) (ho : r.one t = true) : r.amts t = [r.whole (t.e - t.s) (if t.hour 0 ≥ t.hour 1 then t.c 0 else t.c 1)] := by unfold Rule.amts; rw [if_neg h, if_pos ho]
theorem amts_n (h : t.w.length ≠ 1) (ho : r.one t = false) : r.amts t = r.endd (t.hour 0) (t.c 0) :: (t.mid.map (r.whole 24) ++ [r.endd (t.hour (t.w.length - 1)) (t.c (t.w.length - 1))]) := by unfold Rule.amts; rw [if_neg h, if_neg (by simp [ho])]
def wholeG (r : Rule) (d : PyData) : PyData := match d with
  | .str x => .int (r.whole 24 (x.cps.toList.headD 0))
  | _ => .none
theorem amounts_of_eq (hr : r.Ok) (ht : t.Ok) : f_amounts_of [r.enc, t.enc] = some (.ok (true, .list ((r.amts t).map .int))) := by
  have hl := trip_len' ht
  have h0 : 0 < t.w.length := by have := (trip_len ht).1; omega
  have hs := leSz (n := t.w.length) (by omega)
  refine wp_mkFn rfl ?_
  unfold b_amounts_of
  simp [hours_of_eq ht, hs, is_one_day_eq ht, Trip.hoursD]
  by_cases h1 : t.w.length = 1
  · rw [amts_1 h1]
    simp [h1, hx0 h0]
    have hc := okc ht h0
    have hw : (S t.w) = S [t.c 0] := by rw [w_one h1]
    simp [hw, whole_day_eq hr hc, sizeLine]
  · have h1' : ¬ (t.w.length : Int) = 1 := by omega
    have h2 : 2 ≤ t.w.length := by omega
    simp [h1', h1]
    cases ho : r.one t
    · rw [amts_n h1 ho]
      have hm := mid_len t
      simp [cutS_S, cut_mid' h2, noOwn]
      refine wp_lcMap (fun _ => true) (wholeG r) ?_ ?_ ?_
      · simp [DL.signs]
        exact leSz (by omega)
      · intro d hd
        obtain ⟨c, hcm, rfl⟩ := List.mem_map.mp hd
        have hc : okL c = true := mid_ok ht hcm
        refine ⟨_, rfl, ?_⟩
        simp [amounts_of_e1]
        rw [show ({ cps := #[c] } : Str) = S [c] from rfl, whole_day_eq hr hc]
        simp [wholeG]
      · have e : (((DL.signs (S t.mid)).filter fun _ => true).map (wholeG r)) = t.mid.map fun c => PyData.int (r.whole 24 c) := by
          have e1 : ((DL.signs (S t.mid)).filter fun _ => true) = DL.signs (S t.mid) := List.filter_eq_self.mpr (fun _ _ => rfl)
          rw [e1, signs_S, List.map_map]
          rfl
        rw [e]
        have l1 : 1 ≤ sizeLine := by decide
        simp [hx0 h0, hxl h0, wx0 hl h0, wxl hl h0, end_day_eq hr (okc ht h0), end_day_eq hr (okc ht (i := t.w.length - 1) (by omega)), l1]
        exact ⟨leSz (by omega), leSz (by omega)⟩
    · rw [amts_o h1 ho]
      unfold Rule.one at ho
      simp at ho
      obtain ⟨⟨hj, h22⟩, hlt⟩ := ho
      have h21 : 1 < t.w.length := by omega
      simp [hour_sum ht h22, hx0 h0, hx1 h21, wx0 hl h0, wx1 hl h21]
      by_cases hge : t.hour 1 ≤ t.hour 0
      · simp [hge, whole_day_eq hr (okc ht h0), sizeLine]
      · simp [hge, whole_day_eq hr (okc ht h21), sizeLine]
end
end Pu

namespace Pu
open PySem PySem.Spec PyProof.Rows L2 DL Sm SX
/-- a for, turn by turn -/
theorem forL_gen {b : GM} {body : SM} {Q : Out → Ev → Prop} {ds : List PyData} {env : Ev} (I : Nat → Ev → Prop) (h0 : I 0 env)
    (step : ∀ i d env, ds[i]? = some d → I i env → ∃ e1, b d env = some e1 ∧ Wp (body e1) fun o e2 => match o with | .nx => I (i + 1) e2 | .ct => I (i + 1) e2 | .bk => Q .nx e2 | .rt own v => Q (.rt own v) e2)
    (done : ∀ env, I ds.length env → Q .nx env) : Wp (forL b body ds env) Q := by
  refine wp_forL (fun rest env => ∃ i, i ≤ ds.length ∧ rest = ds.drop i ∧ I i env) ?_ ?_ _ _ ⟨0, Nat.zero_le _, rfl, h0⟩
  · rintro d rest env ⟨i, hi, hr, h⟩
    have hl : i < ds.length := by
      have := congrArg List.length hr
      simp at this
      omega
    rw [List.drop_eq_getElem_cons hl] at hr
    cases hr
    obtain ⟨e1, hb, w⟩ := step i _ env (List.getElem?_eq_getElem hl) h
    refine ⟨e1, hb, w.mono fun o e2 q => ?_⟩
    cases o with
    | nx => exact ⟨i + 1, hl, rfl, q⟩
    | ct => exact ⟨i + 1, hl, rfl, q⟩
    | bk => exact q
    | rt own v => exact q
  · rintro env ⟨i, hi, hr, h⟩
    have : i = ds.length := by
      have := congrArg List.length hr
      simp at this
      omega
    subst this
    exact done env h
theorem in_two {i a b : Int} : inD (.int i) (.tuple [.int a, .int b]) = some (false, .bool (decide (a = i) || decide (b = i))) := by
  by_cases h1 : a = i <;> by_cases h2 : b = i <;> simp [inD, flatD, PyData.eqv, h1, h2]
section
variable {r : Rule} {t : Trip}
/-- what the law takes as the i-th day's pay -/
def Rule.partAt (r : Rule) (t : Trip) (i : Nat) : Int := r.rest (match r.ends with | none => r.band (t.hour i) (t.c i) | some e => if t.w.length > 1 ∧ (i = 0 ∨ i + 1 = t.w.length) then e else r.band (t.hour i) (t.c i)) (t.c i)
theorem hour_mid (ht : t.Ok) {i : Nat} (h0 : 0 < i) (h1 : i + 1 < t.w.length) : t.hour i = 24 := by
  have a1 := ht.len
  have a2 := ht.e
  have a3 := ht.s
  unfold daysI at a1
  unfold Trip.hour
  split <;> split <;> omega
theorem parts_amts (ht : t.Ok) (ho : r.one t = false ∨ t.w.length = 1) : (List.range t.w.length).map (r.partAt t) = r.amts t := by
  by_cases h1 : t.w.length = 1
  · rw [amts_1 h1, h1]
    simp [Rule.partAt, Rule.whole]
    congr 1
    cases r.ends <;> simp [h1]
  · have ho : r.one t = false := ho.resolve_right h1
    have hp := (trip_len ht).1
    rw [amts_n h1 ho]
    have h2 : 2 ≤ t.w.length := by omega
    apply List.ext_getElem?
    intro i
    by_cases hi : i < t.w.length
    · rw [List.getElem?_map, List.getElem?_range hi]
      cases i with
      | zero =>
        simp [Rule.partAt, Rule.endd]
        congr 1
        cases r.ends with
        | none => rfl
        | some e => simp; omega
      | succ i =>
        rw [List.getElem?_cons_succ]
        have hm : t.mid.length = t.w.length - 2 := by unfold Trip.mid; simp; omega
        by_cases hi2 : i < t.mid.length
        · rw [List.getElem?_append_left (by simpa using hi2), List.getElem?_map]
          have hc : t.mid[i]? = some (t.c (i + 1)) := by
            unfold Trip.mid
            rw [List.getElem?_take, if_pos (by omega), List.getElem?_drop, Nat.add_comm 1 i]
            exact cxn (by omega)
          rw [hc]
          have hh := hour_mid ht (i := i + 1) (by omega) (by omega)
          simp [Rule.partAt, Rule.whole, hh]
          congr 1
          cases r.ends with
          | none => rfl
          | some e => simp; intro _ h; omega
        · have hi3 : i = t.mid.length := by omega
          rw [List.getElem?_append_right (by simp; omega)]
          have e : i + 1 = t.w.length - 1 := by omega
          simp [hi3, Rule.partAt, Rule.endd]
          have e2 : t.mid.length + 1 = t.w.length - 1 := by omega
          rw [e2]
          congr 1
          cases r.ends with
          | none => rfl
          | some e => simp; intro h; omega
    · rw [List.getElem?_eq_none (by simpa using hi), List.getElem?_eq_none]
      have hm : t.mid.length = t.w.length - 2 := by unfold Trip.mid; simp; omega
      simp; omega
theorem law_parts_loop (hr : r.Ok) (ht : t.Ok) {s4 : Sl} {Q : Out → Ev → Prop} (k : ∀ s6 s7 s8, Q .nx [.fz r.enc, .fz t.enc, .fz (.str (S t.w)), .fz t.hoursD, s4, .ow (.list (((List.range t.w.length).map (r.partAt t)).map .int)), s6, s7, s8]) :
    Wp (forL (gTp (gsCons (gNm 6) (gsCons (gNm 7) gsNil))) law_parts_b1 (enumD (t.hours.map .int)) [.fz r.enc, .fz t.enc, .fz (.str (S t.w)), .fz t.hoursD, s4, .ow (.list []), .no, .no, .no]) Q := by
  have hl := trip_len' ht
  have hn : (enumD (t.hours.map PyData.int)).length = t.w.length := by rw [enumD_len]; simp [hours_len]
  refine forL_gen (fun i env => ∃ s6 s7 s8, env = [.fz r.enc, .fz t.enc, .fz (.str (S t.w)), .fz t.hoursD, s4, .ow (.list (((List.range i).map (r.partAt t)).map .int)), s6, s7, s8]) ⟨_, _, _, rfl⟩ ?_ ?_
  · rintro i d env hd ⟨s6, s7, s8, rfl⟩
    obtain ⟨x, hx, rfl⟩ := enumD_get hd
    have hi : i < t.w.length := by
      have := (List.getElem?_eq_some_iff.mp hd).1
      omega
    rw [hxn hi] at hx
    cases hx
    refine ⟨_, rfl, ?_⟩
    have hc := okc ht hi
    have hz : i < sizeLine := ltSz (by omega)
    unfold law_parts_b1
    simp [wxn hl hi, law_band_eq, Trip.hoursD, hours_len, sizeLine]
    simp [in_two]
    rw [List.range_succ]
    cases he : r.ends with
    | none =>
      simp [encO, isNone, he, wxn hl hi, law_rest_eq hc, hz]
      refine ⟨by omega, ?_⟩
      simp [Rule.partAt, he]
    | some e =>
      simp [encO, isNone, he]
      by_cases h1 : 1 < t.w.length
      · have h1' : (1 : Int) < t.w.length := by omega
        by_cases h0 : i = 0
        · subst h0
          have := wxn hl hi
          simp only [Int.natCast_zero] at this
          simp [h1', he, this, law_rest_eq hc, encO, sizeLine]
          simp [Rule.partAt, he, h1]
        · by_cases hlast : i + 1 = t.w.length
          · have e1 : ((t.w.length : Int) - 1 = i) := by omega
            simp [h1', he, e1, wxn hl hi, law_rest_eq hc, encO, hz]
            refine ⟨by omega, ?_⟩
            simp [Rule.partAt, he, h1, hlast]
          · have e1 : ¬ ((t.w.length : Int) - 1 = i) := by omega
            have e2 : ¬ ((0 : Int) = i) := by omega
            simp [h1', he, e1, e2, wxn hl hi, law_rest_eq hc, hz]
            refine ⟨by omega, ?_⟩
            simp [Rule.partAt, he, h0, hlast]
      · have h1' : ¬ (1 : Int) < t.w.length := by omega
        simp [h1', wxn hl hi, law_rest_eq hc, hz]
        refine ⟨by omega, ?_⟩
        simp [Rule.partAt, he, h1]
  · rintro env ⟨s6, s7, s8, rfl⟩
    rw [hn]
    exact k _ _ _
theorem law_parts_eq (hr : r.Ok) (ht : t.Ok) : ∃ own, f_law_parts [r.enc, t.enc] = some (.ok (own, .list ((r.amts t).map .int))) := by
  have hl := trip_len' ht
  have h0 : 0 < t.w.length := by have := (trip_len ht).1; omega
  have hlh : ((t.hours.map PyData.int).length : Int) = t.w.length := by simp [hours_len]
  cases ho : r.one t
  · refine ⟨false, wp_mkFn rfl ?_⟩
    unfold b_law_parts
    have hj : r.join = false ∨ (r.join = true ∧ ¬ ((t.w.length : Int) = 2 ∧ t.hours.sum < 24)) := by
      cases hj : r.join with
      | false => exact .inl rfl
      | true =>
        refine .inr ⟨rfl, fun z => ?_⟩
        have z1 : t.w.length = 2 := by omega
        rw [hour_sum ht z1] at z
        unfold Rule.one at ho
        simp [hj, z1] at ho
        omega
    have fin : Wp (forL (gTp (gsCons (gNm 6) (gsCons (gNm 7) gsNil))) law_parts_b1 (enumD (t.hours.map .int)) [.fz r.enc, .fz t.enc, .fz (.str (S t.w)), .fz t.hoursD, .no, .ow (.list []), .no, .no, .no]) fun o e => o = .nx ∧ ∃ s6 s7 s8, e = [.fz r.enc, .fz t.enc, .fz (.str (S t.w)), .fz t.hoursD, .no, .ow (.list ((r.amts t).map .int)), s6, s7, s8] := by
      refine law_parts_loop hr ht fun s6 s7 s8 => ⟨rfl, s6, s7, s8, ?_⟩
      rw [parts_amts ht (.inl ho)]
    have fin2 := fin
    simp only [Trip.hoursD] at fin2
    rcases hj with hj | ⟨hj, hn⟩
    · simp [law_lengths_eq ht, hj, Trip.hoursD, hours_len, sizeLine]
      refine fin2.mono ?_
      rintro o e ⟨rfl, s6, s7, s8, rfl⟩
      simp
    · by_cases q : (t.w.length : Int) = 2
      · have q2 : ¬ t.hours.sum < 24 := fun z => hn ⟨q, z⟩
        simp [law_lengths_eq ht, hj, Trip.hoursD, hours_len, q, q2, sizeLine]
        refine fin2.mono ?_
        rintro o e ⟨rfl, s6, s7, s8, rfl⟩
        simp
      · simp [law_lengths_eq ht, hj, Trip.hoursD, hours_len, q, sizeLine]
        refine fin2.mono ?_
        rintro o e ⟨rfl, s6, s7, s8, rfl⟩
        simp
  · refine ⟨true, wp_mkFn rfl ?_⟩
    unfold b_law_parts
    have ho' := ho
    unfold Rule.one at ho'
    simp at ho'
    obtain ⟨⟨hj, h22⟩, hlt⟩ := ho'
    have h21 : 1 < t.w.length := by omega
    have h23 : (t.w.length : Int) = 2 := by omega
    rw [amts_o (by omega) ho]
    simp [law_lengths_eq ht, hj, Trip.hoursD, hours_len, h23, hour_sum ht h22, hlt, hx0 h0, hx1 h21, wx0 hl h0, wx1 hl h21]
    by_cases hge : t.hour 0 < t.hour 1
    · have : ¬ (t.hour 1 ≤ t.hour 0) := by omega
      simp [hge, this, law_band_eq, law_rest_eq (okc ht h21), wx1 hl h21, Rule.whole, sizeLine]
    · have : (t.hour 1 ≤ t.hour 0) := by omega
      simp [hge, this, law_band_eq, law_rest_eq (okc ht h0), wx0 hl h0, Rule.whole, sizeLine]
end
end Pu

namespace Pu
open PySem PySem.Spec PyProof.Rows L2 DL Sm SX
section
variable {r : Rule} {t : Trip}
theorem amts_pos (ht : t.Ok) : 1 ≤ (r.amts t).length ∧ (r.amts t).length ≤ 30 := by
  have h := trip_len ht
  by_cases h1 : t.w.length = 1
  · rw [amts_1 h1]; simp
  · cases ho : r.one t
    · rw [amts_n h1 ho]
      have := mid_len t
      unfold Trip.mid at *
      simp at *
      omega
    · rw [amts_o h1 ho]; simp
theorem paid_of_eq (hr : r.Ok) (ht : t.Ok) : f_paid_of [r.enc, t.enc] = some (.ok (false, .int (r.pay t))) := by
  refine wp_mkFn rfl ?_
  unfold b_paid_of Rule.pay
  by_cases h : t.e - t.s < r.least
  · simp [h]
  · simp [h, amounts_of_eq hr ht]
    have hz : okM r.night ((r.amts t).length - 1 : Int) := okM_of (by have := hr.night; omega) (by have := hr.night; omega)
    have hp := okM_iff (i := r.night) (j := ((r.amts t).length - 1 : Int))
    rw [hp] at hz
    simp only [smallI_iff] at hz
    refine ⟨hz, ?_⟩
    rw [Int.min_def]
    split <;> split <;> omega
theorem law_worth_eq (hr : r.Ok) (ht : t.Ok) : f_law_worth [r.enc, t.enc] = some (.ok (false, .int (r.pay t))) := by
  refine wp_mkFn rfl ?_
  unfold b_law_worth Rule.pay
  obtain ⟨own, hp⟩ := law_parts_eq hr ht
  by_cases h : t.e - t.s < r.least
  · simp [h]
  · have hl := amts_pos (r := r) ht
    have e2 : eVar 2 [.fz r.enc, .fz t.enc, slOf own (.list ((r.amts t).map .int)), .no] = rok (false, .list ((r.amts t).map .int)) [.fz r.enc, .fz t.enc, .fz (.list ((r.amts t).map .int)), .no] := a_varS rfl
    have hz : okM ((r.amts t).length - 1 : Int) r.night := okM_of (by omega) (by omega)
    rw [okM_iff] at hz
    simp only [smallI_iff] at hz
    simp [h, hp, e2]
    refine ⟨hz, ?_⟩
    rw [Int.mul_comm]
    rw [Int.min_def]
    by_cases q : (r.amts t).sum + r.night * ((r.amts t).length - 1 : Int) < r.cap
    · simp [q]
      omega
    · simp [q]
end
/-! ### needs -/
theorem mkFn_at {n p : Nat} {f : SM} {ds : List PyData} (h : ds.length = p) : mkFn n p f ds = outOf (f (ds.map Sl.fz ++ List.replicate (n - p) .no)) := by
  unfold mkFn
  rw [if_pos h]
theorem need_rule_eq {d : PyData} (hd : noDict d = true) : f_need_rule [d] = if isRuleD d = true then some (.ok (false, .none)) else some (.error ⟨"InvalidRule", none⟩) := by
  refine (mkFn_at (p := 1) (ds := [d]) rfl).trans ?_
  unfold b_need_rule
  simp [is_rule_of_eq hd]
  cases isRuleD d <;> rfl
theorem need_trip_eq {d : PyData} (hd : noDict d = true) (hs : shortW d) : f_need_trip [d] = if isTripD d = true then some (.ok (false, .none)) else some (.error ⟨"InvalidTrip", none⟩) := by
  refine (mkFn_at (p := 1) (ds := [d]) rfl).trans ?_
  unfold b_need_trip
  simp [is_trip_of_eq hd hs]
  cases isTripD d <;> rfl
theorem need_rule_ok {r : Rule} (hr : r.Ok) : f_need_rule [r.enc] = some (.ok (false, .none)) := by
  rw [need_rule_eq (nd_rule r), if_pos (rule_enc hr)]
theorem need_trip_ok {t : Trip} (ht : t.Ok) : f_need_trip [t.enc] = some (.ok (false, .none)) := by
  rw [need_trip_eq (nd_trip t) (trip_short ht), if_pos (trip_enc ht)]
@[simp] theorem liftF_err {x : Ex} {e : Ev} : liftF (some (.error x)) e = some (.error x) := rfl
theorem amounts_eq {r : Rule} {t : Trip} (hr : r.Ok) (ht : t.Ok) : f_amounts [r.enc, t.enc] = some (.ok (true, .list ((r.amts t).map .int))) := by
  refine wp_mkFn rfl ?_
  unfold b_amounts
  simp [need_rule_ok hr, need_trip_ok ht, amounts_of_eq hr ht]
theorem paid_eq {r : Rule} {t : Trip} (hr : r.Ok) (ht : t.Ok) : f_paid [r.enc, t.enc] = some (.ok (false, .int (r.pay t))) := by
  refine wp_mkFn rfl ?_
  unfold b_paid
  simp [need_rule_ok hr, need_trip_ok ht, paid_of_eq hr ht]
theorem amounts_bad {r : Rule} {d : PyData} (hr : r.Ok) (hd : noDict d = true) (hs : shortW d) (h : isTripD d = false) : f_amounts [r.enc, d] = some (.error ⟨"InvalidTrip", none⟩) := by
  refine (mkFn_at (p := 2) (ds := [r.enc, d]) rfl).trans ?_
  unfold b_amounts
  simp [need_rule_ok hr, need_trip_eq hd hs, h]
  rfl
theorem paid_bad {r : Rule} {d : PyData} (hr : r.Ok) (hd : noDict d = true) (hs : shortW d) (h : isTripD d = false) : f_paid [r.enc, d] = some (.error ⟨"InvalidTrip", none⟩) := by
  refine (mkFn_at (p := 2) (ds := [r.enc, d]) rfl).trans ?_
  unfold b_paid
  simp [need_rule_ok hr, need_trip_eq hd hs, h]
  rfl
/-! ### trying -/
theorem a_tryErr {f : EM} {env : Ev} {nm : Str} {z : Str} (h : f (env.map hideO) = some (.error ⟨nm, none⟩)) (hn : tabGet excTab nm = some z) : eTry nameOf f env = rok (false, .str z) env := by
  unfold eTry
  rw [h]
  have : nameOf ⟨nm, none⟩ = some z := hn
  simp only [this]
theorem nm_Trip : tabGet excTab "InvalidTrip" = some "Trip+" := by decide +kernel
theorem nm_Rule : tabGet excTab "InvalidRule" = some "Rule+" := by decide +kernel
theorem nm_Number : tabGet excTab "InvalidNumber" = some "Number+" := by decide +kernel
theorem nm_Place : tabGet excTab "InvalidPlace" = some "Place+" := by decide +kernel
theorem nm_Part : tabGet excTab "InvalidPart" = some "Part+" := by decide +kernel
theorem nm_Seen : tabGet excTab "InvalidSeen" = some "Seen+" := by decide +kernel
theorem nm_Joined : tabGet excTab "NotJoined" = some "Joined+" := by decide +kernel
theorem str_eqv {x y : Str} : PyData.eqv (.str x) (.str y) = decide (x = y) := by
  simp only [PyData.eqv]
  by_cases h : x = y
  · subst h; simp
  · simp [h]
theorem shp_str {x : Str} (h : PyData.strOk x = true) : shp (.str x) = true := by
  have : ZD 0 0 (.str x) := by unfold ZD; exact h
  exact this.shp (by omega)
theorem strOk_S {l : List Nat} (h : ∀ c ∈ l, c < 1114112) : PyData.strOk (S l) = true := by
  unfold PyData.strOk
  rw [Array.all_eq_true']
  intro c hc
  exact decide_eq_true (h c (by simpa [S] using hc))
theorem ne_str {x y : Str} (hx : PyData.strOk x = true) (hy : PyData.strOk y = true) : neD (.str x) (.str y) = some (false, .bool (!decide (x = y))) := by
  unfold neD
  rw [shp_str hx, shp_str hy, str_eqv]
  rfl
theorem eqD_refl {d : PyData} (h : shp d = true) : eqD d d = some (false, .bool true) := by
  unfold eqD
  have h2 : d.canLay0 = true := by
    unfold shp SeqAt.shaped at h
    simp at h
    exact h.1.1
  rw [h, SeqAt.eqv_refl d h2]
  rfl
theorem neD_refl {d : PyData} (h : shp d = true) : neD d d = some (false, .bool false) := by
  unfold neD
  have h2 : d.canLay0 = true := by
    unfold shp SeqAt.shaped at h
    simp at h
    exact h.1.1
  rw [h, SeqAt.eqv_refl d h2]
  rfl
/-! ### kinds and equality -/
def sortI : PyData → Int
  | .bool _ => 1
  | .int _ => 2
  | .str _ => 3
  | .list _ => 4
  | .tuple _ => 5
  | _ => 6
theorem law_sort_eq {d : PyData} (hd : isDictB d = false) : f_law_sort [d] = some (.ok (false, .int (sortI d))) := by
  refine wp_mkFn rfl ?_
  unfold b_law_sort
  cases d
  case dict => cases hd
  all_goals simp [sortI]
theorem sort_list {ds : List PyData} : f_law_sort [.list ds] = some (.ok (false, .int 4)) := law_sort_eq rfl
theorem sort_tup {ds : List PyData} : f_law_sort [.tuple ds] = some (.ok (false, .int 5)) := law_sort_eq rfl
theorem law_same_refl {w : Nat} (hw : w ≤ 1000000) : ∀ {k fuel : Nat} {d : PyData}, k < fuel → k ≤ 60 → ZD w k d → f_law_same fuel [d, d] = some (.ok (false, .bool true)) := by
  intro k fuel
  induction fuel generalizing k with
  | zero => intro d h; omega
  | succ fuel ih =>
    intro d hf hk hz
    have hsh := hz.shp (by omega)
    have hnd := nd_dict hz.nd
    refine wp_mkFn rfl ?_
    unfold b_law_same
    have part : ∀ (ds : List PyData) (H : Ev) (hH : H = [.fz d, .fz d, .no, .no]) (hix : ∀ i x, ds[i]? = some x → ixD d (.int (i : Nat)) = some (false, x)) (hr : ∀ x ∈ ds, f_law_same fuel [x, x] = some (.ok (false, .bool true))) (hl : ds.length ≤ 1000000),
        ∀ {Q : List PyData → Ev → Prop}, Q [] H → Wp (lcL [2, 3] (gTp (gsCons (gNm 2) (gsCons (gNm 3) gsNil))) (tNotM (tOf (eCall (f_law_same fuel) (aCons (eVar 3) (aCons (eBin ixD (eVar 1) (eVar 2)) aNil))))) (eVar 2) (enumD ds) H []) Q := by
      intro ds H hH hix hr hl Q q
      subst hH
      refine wp_lcMap (fun _ => false) (fun _ => .none) ?_ ?_ (by rw [List.filter_eq_nil_iff.mpr (fun _ _ => Bool.false_ne_true)]; exact q)
      · rw [enumD_len]; simp; exact leSz hl
      · intro x hx
        obtain ⟨i, hi⟩ := List.getElem?_of_mem hx
        obtain ⟨y, hy, rfl⟩ := enumD_get hi
        refine ⟨_, rfl, ?_⟩
        simp [hix i y hy, hr y (List.mem_of_getElem? hy)]
    cases d
    case dict => cases hnd
    case list ds =>
      cases k with
      | zero => unfold ZD at hz; exact hz.elim
      | succ k =>
        rw [zd_lst] at hz
        simp [sort_list, noOwn]
        refine part ds _ rfl (fun i x hx => by rw [o_ixL, atI_nat, hx]; rfl) (fun x hx => ih (k := k) (by omega) (by omega) (hz.2 x hx)) (by omega) ?_
        simp [eqD_refl (show shp (.list []) = true by decide)]
    case tuple ds =>
      cases k with
      | zero => unfold ZD at hz; exact hz.elim
      | succ k =>
        rw [zd_tup] at hz
        simp [sort_tup, noOwn]
        refine part ds _ rfl (fun i x hx => by rw [o_ixT, atI_nat, hx]; rfl) (fun x hx => ih (k := k) (by omega) (by omega) (hz.2 x hx)) (by omega) ?_
        simp [eqD_refl (show shp (.list []) = true by decide)]
    all_goals simp [law_sort_eq, sortI, eqD_refl hsh]
end Pu

/-! The law's names of exceptions (printed). -/
namespace Pu
open PySem PySem.Spec PyProof.Rows L2 DL Sm SX
theorem outOf_wp {r : Res Out} {own : Bool} {d : PyData} (h : Wp r fun o _ => o = .rt own d) : outOf r = some (.ok (own, d)) := by
  obtain ⟨o, e, rfl, rfl⟩ := h
  rfl
theorem a_isX {i : Nat} {a : Addr} {b : Bool} {env : Ev} (h : env[i]? = some (.ptr a)) : eIsX i a b env = rok (false, .bool b) env := by
  unfold eIsX
  rw [h]
  simp
@[simp] theorem a_zipL {as : AM} {env : Ev} : iZipL as env = rb (as env) fun as e => match as with
  | [.list a, .list b] => rok (zipD a b) e
  | _ => none := rfl
def isT (nm : Str) (y : Str) : Bool := [nm, "ValueError"].contains y
theorem isT_0 : isT "InvalidRule" "InvalidRule" = true ∧ isT "InvalidRule" "InvalidTrip" = false ∧ isT "InvalidRule" "InvalidNumber" = false ∧ isT "InvalidRule" "InvalidPlace" = false ∧ isT "InvalidRule" "InvalidPart" = false ∧ isT "InvalidRule" "InvalidSeen" = false ∧ isT "InvalidRule" "InvalidIndex" = false ∧ isT "InvalidRule" "NotJoined" = false ∧ isT "InvalidRule" "NothingToUndo" = false ∧ isT "InvalidRule" "TooMany" = false ∧ isT "InvalidRule" "InvalidText" = false ∧ isT "InvalidRule" "ValueError" = true := by decide +kernel
theorem jn_0 : joinD (.str "") (.list [.str "Rule"]) = some (false, .str "Rule") := by
  unfold joinD
  have h : Txt.join "" ["Rule"] = "Rule" := by decide +kernel
  simp [h]
  decide +kernel
theorem pl_0 : ("Rule" : Str) ++ ("+" : Str) = "Rule+" := by decide +kernel
theorem ln_0 : ("Rule" : Str).length + ("+" : Str).length ≤ sizeLine := by decide +kernel
theorem name_0 (a : Addr) : outOf (b_law_name_of a (isT "InvalidRule") (.ptr a :: List.replicate 5 .no)) = some (.ok (false, .str "Rule+")) := by
  obtain ⟨h1, h2, h3, h4, h5, h6, h7, h8, h9, h10, h11, h12⟩ := isT_0
  refine outOf_wp ?_
  unfold b_law_name_of
  simp [a_isX, h1, h2, h3, h4, h5, h6, h7, h8, h9, h10, h11, h12, leSz, noOwn, zipD, jn_0, pl_0, sizeLine]
  exact ln_0
theorem isT_1 : isT "InvalidTrip" "InvalidRule" = false ∧ isT "InvalidTrip" "InvalidTrip" = true ∧ isT "InvalidTrip" "InvalidNumber" = false ∧ isT "InvalidTrip" "InvalidPlace" = false ∧ isT "InvalidTrip" "InvalidPart" = false ∧ isT "InvalidTrip" "InvalidSeen" = false ∧ isT "InvalidTrip" "InvalidIndex" = false ∧ isT "InvalidTrip" "NotJoined" = false ∧ isT "InvalidTrip" "NothingToUndo" = false ∧ isT "InvalidTrip" "TooMany" = false ∧ isT "InvalidTrip" "InvalidText" = false ∧ isT "InvalidTrip" "ValueError" = true := by decide +kernel
theorem jn_1 : joinD (.str "") (.list [.str "Trip"]) = some (false, .str "Trip") := by
  unfold joinD
  have h : Txt.join "" ["Trip"] = "Trip" := by decide +kernel
  simp [h]
  decide +kernel
theorem pl_1 : ("Trip" : Str) ++ ("+" : Str) = "Trip+" := by decide +kernel
theorem ln_1 : ("Trip" : Str).length + ("+" : Str).length ≤ sizeLine := by decide +kernel
theorem name_1 (a : Addr) : outOf (b_law_name_of a (isT "InvalidTrip") (.ptr a :: List.replicate 5 .no)) = some (.ok (false, .str "Trip+")) := by
  obtain ⟨h1, h2, h3, h4, h5, h6, h7, h8, h9, h10, h11, h12⟩ := isT_1
  refine outOf_wp ?_
  unfold b_law_name_of
  simp [a_isX, h1, h2, h3, h4, h5, h6, h7, h8, h9, h10, h11, h12, leSz, noOwn, zipD, jn_1, pl_1, sizeLine]
  exact ln_1
theorem isT_2 : isT "InvalidNumber" "InvalidRule" = false ∧ isT "InvalidNumber" "InvalidTrip" = false ∧ isT "InvalidNumber" "InvalidNumber" = true ∧ isT "InvalidNumber" "InvalidPlace" = false ∧ isT "InvalidNumber" "InvalidPart" = false ∧ isT "InvalidNumber" "InvalidSeen" = false ∧ isT "InvalidNumber" "InvalidIndex" = false ∧ isT "InvalidNumber" "NotJoined" = false ∧ isT "InvalidNumber" "NothingToUndo" = false ∧ isT "InvalidNumber" "TooMany" = false ∧ isT "InvalidNumber" "InvalidText" = false ∧ isT "InvalidNumber" "ValueError" = true := by decide +kernel
theorem jn_2 : joinD (.str "") (.list [.str "Number"]) = some (false, .str "Number") := by
  unfold joinD
  have h : Txt.join "" ["Number"] = "Number" := by decide +kernel
  simp [h]
  decide +kernel
theorem pl_2 : ("Number" : Str) ++ ("+" : Str) = "Number+" := by decide +kernel
theorem ln_2 : ("Number" : Str).length + ("+" : Str).length ≤ sizeLine := by decide +kernel
theorem name_2 (a : Addr) : outOf (b_law_name_of a (isT "InvalidNumber") (.ptr a :: List.replicate 5 .no)) = some (.ok (false, .str "Number+")) := by
  obtain ⟨h1, h2, h3, h4, h5, h6, h7, h8, h9, h10, h11, h12⟩ := isT_2
  refine outOf_wp ?_
  unfold b_law_name_of
  simp [a_isX, h1, h2, h3, h4, h5, h6, h7, h8, h9, h10, h11, h12, leSz, noOwn, zipD, jn_2, pl_2, sizeLine]
  exact ln_2
theorem isT_3 : isT "InvalidPlace" "InvalidRule" = false ∧ isT "InvalidPlace" "InvalidTrip" = false ∧ isT "InvalidPlace" "InvalidNumber" = false ∧ isT "InvalidPlace" "InvalidPlace" = true ∧ isT "InvalidPlace" "InvalidPart" = false ∧ isT "InvalidPlace" "InvalidSeen" = false ∧ isT "InvalidPlace" "InvalidIndex" = false ∧ isT "InvalidPlace" "NotJoined" = false ∧ isT "InvalidPlace" "NothingToUndo" = false ∧ isT "InvalidPlace" "TooMany" = false ∧ isT "InvalidPlace" "InvalidText" = false ∧ isT "InvalidPlace" "ValueError" = true := by decide +kernel
theorem jn_3 : joinD (.str "") (.list [.str "Place"]) = some (false, .str "Place") := by
  unfold joinD
  have h : Txt.join "" ["Place"] = "Place" := by decide +kernel
  simp [h]
  decide +kernel
theorem pl_3 : ("Place" : Str) ++ ("+" : Str) = "Place+" := by decide +kernel
theorem ln_3 : ("Place" : Str).length + ("+" : Str).length ≤ sizeLine := by decide +kernel
theorem name_3 (a : Addr) : outOf (b_law_name_of a (isT "InvalidPlace") (.ptr a :: List.replicate 5 .no)) = some (.ok (false, .str "Place+")) := by
  obtain ⟨h1, h2, h3, h4, h5, h6, h7, h8, h9, h10, h11, h12⟩ := isT_3
  refine outOf_wp ?_
  unfold b_law_name_of
  simp [a_isX, h1, h2, h3, h4, h5, h6, h7, h8, h9, h10, h11, h12, leSz, noOwn, zipD, jn_3, pl_3, sizeLine]
  exact ln_3
theorem isT_4 : isT "InvalidPart" "InvalidRule" = false ∧ isT "InvalidPart" "InvalidTrip" = false ∧ isT "InvalidPart" "InvalidNumber" = false ∧ isT "InvalidPart" "InvalidPlace" = false ∧ isT "InvalidPart" "InvalidPart" = true ∧ isT "InvalidPart" "InvalidSeen" = false ∧ isT "InvalidPart" "InvalidIndex" = false ∧ isT "InvalidPart" "NotJoined" = false ∧ isT "InvalidPart" "NothingToUndo" = false ∧ isT "InvalidPart" "TooMany" = false ∧ isT "InvalidPart" "InvalidText" = false ∧ isT "InvalidPart" "ValueError" = true := by decide +kernel
theorem jn_4 : joinD (.str "") (.list [.str "Part"]) = some (false, .str "Part") := by
  unfold joinD
  have h : Txt.join "" ["Part"] = "Part" := by decide +kernel
  simp [h]
  decide +kernel
theorem pl_4 : ("Part" : Str) ++ ("+" : Str) = "Part+" := by decide +kernel
theorem ln_4 : ("Part" : Str).length + ("+" : Str).length ≤ sizeLine := by decide +kernel
theorem name_4 (a : Addr) : outOf (b_law_name_of a (isT "InvalidPart") (.ptr a :: List.replicate 5 .no)) = some (.ok (false, .str "Part+")) := by
  obtain ⟨h1, h2, h3, h4, h5, h6, h7, h8, h9, h10, h11, h12⟩ := isT_4
  refine outOf_wp ?_
  unfold b_law_name_of
  simp [a_isX, h1, h2, h3, h4, h5, h6, h7, h8, h9, h10, h11, h12, leSz, noOwn, zipD, jn_4, pl_4, sizeLine]
  exact ln_4
theorem isT_5 : isT "InvalidSeen" "InvalidRule" = false ∧ isT "InvalidSeen" "InvalidTrip" = false ∧ isT "InvalidSeen" "InvalidNumber" = false ∧ isT "InvalidSeen" "InvalidPlace" = false ∧ isT "InvalidSeen" "InvalidPart" = false ∧ isT "InvalidSeen" "InvalidSeen" = true ∧ isT "InvalidSeen" "InvalidIndex" = false ∧ isT "InvalidSeen" "NotJoined" = false ∧ isT "InvalidSeen" "NothingToUndo" = false ∧ isT "InvalidSeen" "TooMany" = false ∧ isT "InvalidSeen" "InvalidText" = false ∧ isT "InvalidSeen" "ValueError" = true := by decide +kernel
theorem jn_5 : joinD (.str "") (.list [.str "Seen"]) = some (false, .str "Seen") := by
  unfold joinD
  have h : Txt.join "" ["Seen"] = "Seen" := by decide +kernel
  simp [h]
  decide +kernel
theorem pl_5 : ("Seen" : Str) ++ ("+" : Str) = "Seen+" := by decide +kernel
theorem ln_5 : ("Seen" : Str).length + ("+" : Str).length ≤ sizeLine := by decide +kernel
theorem name_5 (a : Addr) : outOf (b_law_name_of a (isT "InvalidSeen") (.ptr a :: List.replicate 5 .no)) = some (.ok (false, .str "Seen+")) := by
  obtain ⟨h1, h2, h3, h4, h5, h6, h7, h8, h9, h10, h11, h12⟩ := isT_5
  refine outOf_wp ?_
  unfold b_law_name_of
  simp [a_isX, h1, h2, h3, h4, h5, h6, h7, h8, h9, h10, h11, h12, leSz, noOwn, zipD, jn_5, pl_5, sizeLine]
  exact ln_5
theorem isT_6 : isT "InvalidIndex" "InvalidRule" = false ∧ isT "InvalidIndex" "InvalidTrip" = false ∧ isT "InvalidIndex" "InvalidNumber" = false ∧ isT "InvalidIndex" "InvalidPlace" = false ∧ isT "InvalidIndex" "InvalidPart" = false ∧ isT "InvalidIndex" "InvalidSeen" = false ∧ isT "InvalidIndex" "InvalidIndex" = true ∧ isT "InvalidIndex" "NotJoined" = false ∧ isT "InvalidIndex" "NothingToUndo" = false ∧ isT "InvalidIndex" "TooMany" = false ∧ isT "InvalidIndex" "InvalidText" = false ∧ isT "InvalidIndex" "ValueError" = true := by decide +kernel
theorem jn_6 : joinD (.str "") (.list [.str "Index"]) = some (false, .str "Index") := by
  unfold joinD
  have h : Txt.join "" ["Index"] = "Index" := by decide +kernel
  simp [h]
  decide +kernel
theorem pl_6 : ("Index" : Str) ++ ("+" : Str) = "Index+" := by decide +kernel
theorem ln_6 : ("Index" : Str).length + ("+" : Str).length ≤ sizeLine := by decide +kernel
theorem name_6 (a : Addr) : outOf (b_law_name_of a (isT "InvalidIndex") (.ptr a :: List.replicate 5 .no)) = some (.ok (false, .str "Index+")) := by
  obtain ⟨h1, h2, h3, h4, h5, h6, h7, h8, h9, h10, h11, h12⟩ := isT_6
  refine outOf_wp ?_
  unfold b_law_name_of
  simp [a_isX, h1, h2, h3, h4, h5, h6, h7, h8, h9, h10, h11, h12, leSz, noOwn, zipD, jn_6, pl_6, sizeLine]
  exact ln_6
theorem isT_7 : isT "NotJoined" "InvalidRule" = false ∧ isT "NotJoined" "InvalidTrip" = false ∧ isT "NotJoined" "InvalidNumber" = false ∧ isT "NotJoined" "InvalidPlace" = false ∧ isT "NotJoined" "InvalidPart" = false ∧ isT "NotJoined" "InvalidSeen" = false ∧ isT "NotJoined" "InvalidIndex" = false ∧ isT "NotJoined" "NotJoined" = true ∧ isT "NotJoined" "NothingToUndo" = false ∧ isT "NotJoined" "TooMany" = false ∧ isT "NotJoined" "InvalidText" = false ∧ isT "NotJoined" "ValueError" = true := by decide +kernel
theorem jn_7 : joinD (.str "") (.list [.str "Joined"]) = some (false, .str "Joined") := by
  unfold joinD
  have h : Txt.join "" ["Joined"] = "Joined" := by decide +kernel
  simp [h]
  decide +kernel
theorem pl_7 : ("Joined" : Str) ++ ("+" : Str) = "Joined+" := by decide +kernel
theorem ln_7 : ("Joined" : Str).length + ("+" : Str).length ≤ sizeLine := by decide +kernel
theorem name_7 (a : Addr) : outOf (b_law_name_of a (isT "NotJoined") (.ptr a :: List.replicate 5 .no)) = some (.ok (false, .str "Joined+")) := by
  obtain ⟨h1, h2, h3, h4, h5, h6, h7, h8, h9, h10, h11, h12⟩ := isT_7
  refine outOf_wp ?_
  unfold b_law_name_of
  simp [a_isX, h1, h2, h3, h4, h5, h6, h7, h8, h9, h10, h11, h12, leSz, noOwn, zipD, jn_7, pl_7, sizeLine]
  exact ln_7
theorem isT_8 : isT "NothingToUndo" "InvalidRule" = false ∧ isT "NothingToUndo" "InvalidTrip" = false ∧ isT "NothingToUndo" "InvalidNumber" = false ∧ isT "NothingToUndo" "InvalidPlace" = false ∧ isT "NothingToUndo" "InvalidPart" = false ∧ isT "NothingToUndo" "InvalidSeen" = false ∧ isT "NothingToUndo" "InvalidIndex" = false ∧ isT "NothingToUndo" "NotJoined" = false ∧ isT "NothingToUndo" "NothingToUndo" = true ∧ isT "NothingToUndo" "TooMany" = false ∧ isT "NothingToUndo" "InvalidText" = false ∧ isT "NothingToUndo" "ValueError" = true := by decide +kernel
theorem jn_8 : joinD (.str "") (.list [.str "Undo"]) = some (false, .str "Undo") := by
  unfold joinD
  have h : Txt.join "" ["Undo"] = "Undo" := by decide +kernel
  simp [h]
  decide +kernel
theorem pl_8 : ("Undo" : Str) ++ ("+" : Str) = "Undo+" := by decide +kernel
theorem ln_8 : ("Undo" : Str).length + ("+" : Str).length ≤ sizeLine := by decide +kernel
theorem name_8 (a : Addr) : outOf (b_law_name_of a (isT "NothingToUndo") (.ptr a :: List.replicate 5 .no)) = some (.ok (false, .str "Undo+")) := by
  obtain ⟨h1, h2, h3, h4, h5, h6, h7, h8, h9, h10, h11, h12⟩ := isT_8
  refine outOf_wp ?_
  unfold b_law_name_of
  simp [a_isX, h1, h2, h3, h4, h5, h6, h7, h8, h9, h10, h11, h12, leSz, noOwn, zipD, jn_8, pl_8, sizeLine]
  exact ln_8
theorem isT_9 : isT "TooMany" "InvalidRule" = false ∧ isT "TooMany" "InvalidTrip" = false ∧ isT "TooMany" "InvalidNumber" = false ∧ isT "TooMany" "InvalidPlace" = false ∧ isT "TooMany" "InvalidPart" = false ∧ isT "TooMany" "InvalidSeen" = false ∧ isT "TooMany" "InvalidIndex" = false ∧ isT "TooMany" "NotJoined" = false ∧ isT "TooMany" "NothingToUndo" = false ∧ isT "TooMany" "TooMany" = true ∧ isT "TooMany" "InvalidText" = false ∧ isT "TooMany" "ValueError" = true := by decide +kernel
theorem jn_9 : joinD (.str "") (.list [.str "Many"]) = some (false, .str "Many") := by
  unfold joinD
  have h : Txt.join "" ["Many"] = "Many" := by decide +kernel
  simp [h]
  decide +kernel
theorem pl_9 : ("Many" : Str) ++ ("+" : Str) = "Many+" := by decide +kernel
theorem ln_9 : ("Many" : Str).length + ("+" : Str).length ≤ sizeLine := by decide +kernel
theorem name_9 (a : Addr) : outOf (b_law_name_of a (isT "TooMany") (.ptr a :: List.replicate 5 .no)) = some (.ok (false, .str "Many+")) := by
  obtain ⟨h1, h2, h3, h4, h5, h6, h7, h8, h9, h10, h11, h12⟩ := isT_9
  refine outOf_wp ?_
  unfold b_law_name_of
  simp [a_isX, h1, h2, h3, h4, h5, h6, h7, h8, h9, h10, h11, h12, leSz, noOwn, zipD, jn_9, pl_9, sizeLine]
  exact ln_9
theorem isT_10 : isT "InvalidText" "InvalidRule" = false ∧ isT "InvalidText" "InvalidTrip" = false ∧ isT "InvalidText" "InvalidNumber" = false ∧ isT "InvalidText" "InvalidPlace" = false ∧ isT "InvalidText" "InvalidPart" = false ∧ isT "InvalidText" "InvalidSeen" = false ∧ isT "InvalidText" "InvalidIndex" = false ∧ isT "InvalidText" "NotJoined" = false ∧ isT "InvalidText" "NothingToUndo" = false ∧ isT "InvalidText" "TooMany" = false ∧ isT "InvalidText" "InvalidText" = true ∧ isT "InvalidText" "ValueError" = true := by decide +kernel
theorem jn_10 : joinD (.str "") (.list [.str "Text"]) = some (false, .str "Text") := by
  unfold joinD
  have h : Txt.join "" ["Text"] = "Text" := by decide +kernel
  simp [h]
  decide +kernel
theorem pl_10 : ("Text" : Str) ++ ("+" : Str) = "Text+" := by decide +kernel
theorem ln_10 : ("Text" : Str).length + ("+" : Str).length ≤ sizeLine := by decide +kernel
theorem name_10 (a : Addr) : outOf (b_law_name_of a (isT "InvalidText") (.ptr a :: List.replicate 5 .no)) = some (.ok (false, .str "Text+")) := by
  obtain ⟨h1, h2, h3, h4, h5, h6, h7, h8, h9, h10, h11, h12⟩ := isT_10
  refine outOf_wp ?_
  unfold b_law_name_of
  simp [a_isX, h1, h2, h3, h4, h5, h6, h7, h8, h9, h10, h11, h12, leSz, noOwn, zipD, jn_10, pl_10, sizeLine]
  exact ln_10
theorem names_true (nm z : Str) (h : tabGet excTab nm = some z) (a : Addr) : outOf (b_law_name_of a (fun y => [nm, "ValueError"].contains y) (.ptr a :: List.replicate 5 .no)) = some (.ok (false, .str z)) := by
  have hm := tabGet_mem h
  simp only [excTab, List.map_cons, List.map_nil, List.mem_cons, List.not_mem_nil, or_false] at hm
  rcases hm with rfl | rfl | rfl | rfl | rfl | rfl | rfl | rfl | rfl | rfl | rfl
  · rw [show tabGet excTab "InvalidRule" = some "Rule+" by decide +kernel] at h
    cases h
    exact name_0 a
  · rw [show tabGet excTab "InvalidTrip" = some "Trip+" by decide +kernel] at h
    cases h
    exact name_1 a
  · rw [show tabGet excTab "InvalidNumber" = some "Number+" by decide +kernel] at h
    cases h
    exact name_2 a
  · rw [show tabGet excTab "InvalidPlace" = some "Place+" by decide +kernel] at h
    cases h
    exact name_3 a
  · rw [show tabGet excTab "InvalidPart" = some "Part+" by decide +kernel] at h
    cases h
    exact name_4 a
  · rw [show tabGet excTab "InvalidSeen" = some "Seen+" by decide +kernel] at h
    cases h
    exact name_5 a
  · rw [show tabGet excTab "InvalidIndex" = some "Index+" by decide +kernel] at h
    cases h
    exact name_6 a
  · rw [show tabGet excTab "NotJoined" = some "Joined+" by decide +kernel] at h
    cases h
    exact name_7 a
  · rw [show tabGet excTab "NothingToUndo" = some "Undo+" by decide +kernel] at h
    cases h
    exact name_8 a
  · rw [show tabGet excTab "TooMany" = some "Many+" by decide +kernel] at h
    cases h
    exact name_9 a
  · rw [show tabGet excTab "InvalidText" = some "Text+" by decide +kernel] at h
    cases h
    exact name_10 a
end Pu

/-! Written rules and trips; trying. -/
namespace Pu
open PySem PySem.Spec PyProof.Rows L2 DL Sm SX
theorem encP_inj {l l' : List (Int × Int)} (h : l.map encP = l'.map encP) : l = l' := by
  induction l generalizing l' with
  | nil => cases l' with
    | nil => rfl
    | cons p l' => cases h
  | cons p l ih => cases l' with
    | nil => cases h
    | cons p' l' =>
      simp only [List.map_cons, List.cons.injEq] at h
      obtain ⟨h1, h2⟩ := h
      rw [ih h2]
      obtain ⟨a, b⟩ := p
      obtain ⟨a', b'⟩ := p'
      unfold encP at h1
      cases h1
      rfl
theorem encB_inj {l l' : List (Int × Int)} (h : encB l = encB l') : l = l' := encP_inj (PyData.tuple.inj h)
theorem encO_inj {a b : Option Int} (h : encO a = encO b) : a = b := by
  cases a <;> cases b <;> cases h <;> rfl
theorem Rule.enc_inj {r r' : Rule} (h : r.enc = r'.enc) : r = r' := by
  obtain ⟨a1, a2, a3, a4, a5, a6, a7, a8⟩ := r
  obtain ⟨b1, b2, b3, b4, b5, b6, b7, b8⟩ := r'
  unfold Rule.enc at h
  simp only [PyData.tuple.injEq, List.cons.injEq, PyData.int.injEq, PyData.bool.injEq, and_true] at h
  obtain ⟨⟨h1, h2⟩, h3, rfl, rfl, rfl, rfl, rfl⟩ := h
  rw [encB_inj h1, encB_inj h2, encO_inj h3]
theorem rule_okB {r : Rule} (h : isRuleD r.enc = true) : r.Ok := by
  obtain ⟨r', e, h'⟩ := rule_dec h
  rw [Rule.enc_inj e]; exact h'
theorem S_inj {a b : List Nat} (h : S a = S b) : a = b := by
  have : (S a).cps.toList = (S b).cps.toList := by rw [h]
  exact this
theorem Trip.enc_inj {t t' : Trip} (h : t.enc = t'.enc) : t = t' := by
  obtain ⟨a1, a2, a3⟩ := t
  obtain ⟨b1, b2, b3⟩ := t'
  unfold Trip.enc at h
  simp only [PyData.tuple.injEq, List.cons.injEq, PyData.int.injEq, PyData.str.injEq, and_true] at h
  obtain ⟨rfl, rfl, h⟩ := h
  rw [S_inj h]
theorem trip_okB {t : Trip} (h : isTripD t.enc = true) : t.Ok := by
  obtain ⟨t', e, h'⟩ := trip_dec h
  rw [Trip.enc_inj e]; exact h'
def plainR : Rule := ⟨[(8, 6), (12, 12)], [(8, 10)], none, 20, 4, false, 8, 400⟩
def shortR : Rule := ⟨[(8, 6), (12, 12)], [(8, 10)], some 6, 20, 4, true, 8, 400⟩
theorem plain_ok : plainR.Ok := rule_okB (by decide +kernel)
theorem short_ok : shortR.Ok := rule_okB (by decide +kernel)
theorem amtsC {r : Rule} {t : Trip} {d1 d2 : PyData} (l : List Int) (h1 : d1 = r.enc) (h2 : d2 = t.enc) (hr : r.Ok) (ht : isTripD t.enc = true) (hl : r.amts t = l) : f_amounts [d1, d2] = some (.ok (true, .list (l.map .int))) := by
  subst h1 h2 hl
  exact amounts_eq hr (trip_okB ht)
theorem paidC {r : Rule} {t : Trip} {d1 d2 : PyData} {i : Int} (h1 : d1 = r.enc) (h2 : d2 = t.enc) (hr : r.Ok) (ht : isTripD t.enc = true) (hl : r.pay t = i) : f_paid [d1, d2] = some (.ok (false, .int i)) := by
  subst h1 h2 hl
  exact paid_eq hr (trip_okB ht)
theorem ls_aa : ("aa" : Str) = S [97, 97] := by decide +kernel
theorem ls_bb : ("bb" : Str) = S [98, 98] := by decide +kernel
theorem ls_A : ("A" : Str) = S [65] := by decide +kernel
theorem ls_B : ("B" : Str) = S [66] := by decide +kernel
theorem ls_aBa : ("aBa" : Str) = S [97, 66, 97] := by decide +kernel
theorem neS_refl {x : Str} (h : PyData.strOk x = true) : neD (.str x) (.str x) = some (false, .bool false) := neD_refl (shp_str h)
theorem neS_Trip : neD (.str "Trip+") (.str "Trip+") = some (false, .bool false) := neS_refl (by decide +kernel)
theorem neS_Rule : neD (.str "Rule+") (.str "Rule+") = some (false, .bool false) := neS_refl (by decide +kernel)
theorem neS_Number : neD (.str "Number+") (.str "Number+") = some (false, .bool false) := neS_refl (by decide +kernel)
theorem neS_Place : neD (.str "Place+") (.str "Place+") = some (false, .bool false) := neS_refl (by decide +kernel)
theorem neS_Part : neD (.str "Part+") (.str "Part+") = some (false, .bool false) := neS_refl (by decide +kernel)
theorem neS_Seen : neD (.str "Seen+") (.str "Seen+") = some (false, .bool false) := neS_refl (by decide +kernel)
theorem neS_Joined : neD (.str "Joined+") (.str "Joined+") = some (false, .bool false) := neS_refl (by decide +kernel)
@[simp] theorem hideO_fz {d : PyData} : hideO (.fz d) = .fz d := rfl
@[simp] theorem hideO_ow {d : PyData} : hideO (.ow d) = .no := rfl
@[simp] theorem hideO_io {d : List PyData} : hideO (.io d) = .no := rfl
@[simp] theorem hideO_no : hideO .no = .no := rfl
@[simp] theorem thaw_fz {d : PyData} : thaw (.fz d) = .fz d := rfl
@[simp] theorem thaw_ow {d : PyData} : thaw (.ow d) = .fz d := rfl
@[simp] theorem thaw_no : thaw .no = .no := rfl
theorem short_tup' {a b : PyData} {w : Str} (h : w.length ≤ 1000) : shortW (.tuple [a, b, .str w]) := by
  intro a' b' w' e
  cases e
  exact h
theorem short_no' {d : PyData} (h : ∀ a b w, d ≠ .tuple [a, b, .str w]) : shortW d := fun a b w e => absurd e (h a b w)
/-- what is no trip -/
def BadT (d : PyData) : Prop := noDict d = true ∧ shortW d ∧ isTripD d = false
theorem badT_tup {a b : PyData} {w : Str} (hn : noDict (.tuple [a, b, .str w]) = true) (hw : w.length ≤ 1000) (h : isTripD (.tuple [a, b, .str w]) = false) : BadT (.tuple [a, b, .str w]) := ⟨hn, short_tup' hw, h⟩
theorem badT_no {d : PyData} (hn : noDict d = true) (h : ∀ a b w, d ≠ .tuple [a, b, .str w]) (h2 : isTripD d = false) : BadT d := ⟨hn, short_no' h, h2⟩
theorem zd_int {w k : Nat} (i : Int) : ZD w k (.int i) := zd_atom.2.2.1 i
theorem same_int {i : Int} : f_law_same 12 [.int i, .int i] = some (.ok (false, .bool true)) := law_same_refl (w := 0) (k := 0) (by omega) (by omega) (by omega) (zd_int i)
theorem same_ints {l : List Int} (h : l.length ≤ 1000000) : f_law_same 12 [.list (l.map .int), .list (l.map .int)] = some (.ok (false, .bool true)) := by
  refine law_same_refl (w := 1000000) (k := 1) (by omega) (by omega) (by omega) ?_
  rw [zd_lst]
  refine ⟨by simpa using h, fun d hd => ?_⟩
  obtain ⟨i, _, rfl⟩ := List.mem_map.mp hd
  exact zd_int i
end Pu

/-! Rules written as words, and read: one plain reader, exact. -/
namespace Pu
open PySem PySem.Spec PyProof.Rows L2 DL Sm SX
abbrev Wd := List Nat
def kA : Wd := [97]
def kB : Wd := [98]
def kNight : Wd := [110, 105, 103, 104, 116]
def kMeal : Wd := [109, 101, 97, 108]
def kJoin : Wd := [106, 111, 105, 110]
def kLeast : Wd := [108, 101, 97, 115, 116]
def kCap : Wd := [99, 97, 112]
def kEnds : Wd := [101, 110, 100, 115]
/-- the word of a number -/
def nw (n : Int) : Wd := TL.numL n.toNat
def bandW (p : Int × Int) : Wd := nw p.1 ++ 58 :: nw p.2
def endsW : Option Int → List Wd
  | none => []
  | some e => [kEnds, nw e]
def joinW (b : Bool) : List Wd := if b = true then [kJoin] else []
def tailW (n m : Int) (j : Bool) (l c : Int) : List Wd := kNight :: nw n :: kMeal :: nw m :: (joinW j ++ [kLeast, nw l, kCap, nw c])
def Rule.words (r : Rule) : List Wd := kA :: (r.b1.map bandW ++ kB :: (r.b2.map bandW ++ (endsW r.ends ++ tailW r.night r.meal r.join r.least r.cap)))
/-! ### numbers -/
theorem nw_inj {a b : Int} (ha : 0 ≤ a) (hb : 0 ≤ b) (h : nw a = nw b) : a = b := by
  have := TL.numL_inj h
  omega
theorem nw_free {a : Int} {c : Nat} (h : c < 48 ∨ 57 < c) : c ∉ nw a := TL.numL_free h
theorem nw_ne (a : Int) : nw a ≠ [] := TL.numL_ne _
theorem nw_len {a : Int} (h : a < 1000) : (nw a).length ≤ 3 := TL.numL_len (by decide) (by omega)
def isDig (c : Nat) : Bool := decide (48 ≤ c) && decide (c ≤ 57)
theorem nw_dig (a : Int) : (nw a).all isDig = true := by
  rw [List.all_eq_true]
  intro c hc
  have := TL.numL_digits a.toNat c hc
  simp [isDig, this]
/-- the number that a word writes, of at most three figures -/
def numIn (w : Wd) : Option Int := if 1 ≤ w.length ∧ w.length ≤ 3 ∧ w.all isDig = true then (if TL.numL (NumText.digitsVal w) = w then some ((NumText.digitsVal w : Nat) : Int) else none) else none
theorem digs_lt {w : Wd} (h : w.all isDig = true) : NumText.digitsVal w < 10 ^ w.length := by
  have key : ∀ (w : Wd) (a : Nat), w.all isDig = true → w.foldl (fun acc c => acc * 10 + (c - 48)) a < (a + 1) * 10 ^ w.length := by
    intro w
    induction w with
    | nil => intro a _; simp
    | cons c w ih =>
      intro a h
      simp only [List.all_cons, Bool.and_eq_true] at h
      have h1 : 48 ≤ c ∧ c ≤ 57 := by simpa [isDig] using h.1
      have := ih (a * 10 + (c - 48)) h.2
      rw [List.foldl_cons, List.length_cons, Nat.pow_succ]
      refine Nat.lt_of_lt_of_le this ?_
      have : (a * 10 + (c - 48) + 1) ≤ (a + 1) * 10 := by omega
      calc (a * 10 + (c - 48) + 1) * 10 ^ w.length ≤ ((a + 1) * 10) * 10 ^ w.length := Nat.mul_le_mul_right _ this
        _ = (a + 1) * (10 ^ w.length * 10) := by rw [Nat.mul_assoc, Nat.mul_comm 10]
  have := key w 0 h
  simpa [NumText.digitsVal] using this
theorem numIn_iff {w : Wd} {n : Int} : numIn w = some n ↔ 0 ≤ n ∧ n < 1000 ∧ nw n = w := by
  unfold numIn
  constructor
  · intro h
    split at h
    · rename_i c
      split at h
      · rename_i e
        cases h
        have := digs_lt c.2.2
        have h3 : 10 ^ w.length ≤ 10 ^ 3 := Nat.pow_le_pow_right (by decide) c.2.1
        refine ⟨by omega, by omega, ?_⟩
        unfold nw
        simpa using e
      · cases h
    · cases h
  · rintro ⟨h0, h1, rfl⟩
    have hl := nw_len h1
    have hp : 1 ≤ (nw n).length := List.length_pos_iff.mpr (nw_ne n)
    have hv : NumText.digitsVal (nw n) = n.toNat := TL.numL_val _
    rw [if_pos ⟨hp, hl, nw_dig n⟩, hv, if_pos (show TL.numL n.toNat = nw n from rfl)]
    congr 1
    omega
def numR (w : Wd) (lo hi : Int) : Option Int := match numIn w with
  | some n => if lo ≤ n ∧ n ≤ hi then some n else none
  | none => none
theorem numR_iff {w : Wd} {lo hi n : Int} (h0 : 0 ≤ lo) (h1 : hi < 1000) : numR w lo hi = some n ↔ lo ≤ n ∧ n ≤ hi ∧ nw n = w := by
  unfold numR
  constructor
  · intro h
    split at h
    · rename_i m e
      split at h
      · rename_i c
        cases h
        exact ⟨c.1, c.2, (numIn_iff.mp e).2.2⟩
      · cases h
    · cases h
  · rintro ⟨a, b, c⟩
    rw [numIn_iff.mpr ⟨by omega, by omega, c⟩]
    exact if_pos ⟨a, b⟩
/-! ### bands -/
def before (w : Wd) : Wd := w.takeWhile fun c => decide (c ≠ 58)
def behind (w : Wd) : Wd := w.drop ((before w).length + 1)
theorem before_app {a b : Wd} (h : 58 ∉ a) : before (a ++ 58 :: b) = a := by
  unfold before
  induction a with
  | nil => simp
  | cons c a ih =>
    simp only [List.mem_cons, not_or] at h
    rw [List.cons_append, List.takeWhile_cons, if_pos (by simp; omega), ih h.2]
theorem behind_app {a b : Wd} (h : 58 ∉ a) : behind (a ++ 58 :: b) = b := by
  unfold behind
  rw [before_app h]
  simp
theorem before_behind {w : Wd} (h : 58 ∈ w) : w = before w ++ 58 :: behind w := by
  unfold behind before
  induction w with
  | nil => cases h
  | cons c w ih =>
    by_cases hc : c = 58
    · subst hc; simp
    · have h2 : 58 ∈ w := by
        rcases List.mem_cons.mp h with e | e
        · exact absurd e.symm hc
        · exact e
      have := ih h2
      rw [List.takeWhile_cons, if_pos (by simp [hc])]
      simp only [List.length_cons, List.drop_succ_cons, List.cons_append]
      rw [← this]
def bandR (w : Wd) (low : Int) : Option (Int × Int) := match numR (before w) low 24, numR (behind w) 0 40 with
  | some h, some a => some (h, a)
  | _, _ => none
theorem bandR_iff {w : Wd} {low : Int} {p : Int × Int} (hw : 58 ∈ w) (h0 : 0 ≤ low) : bandR w low = some p ↔ low ≤ p.1 ∧ p.1 ≤ 24 ∧ 0 ≤ p.2 ∧ p.2 ≤ 40 ∧ bandW p = w := by
  unfold bandR
  constructor
  · intro h
    split at h
    · rename_i a b ea eb
      cases h
      have e1 := (numR_iff h0 (by decide)).mp ea
      have e2 := (numR_iff (by decide) (by decide)).mp eb
      refine ⟨e1.1, e1.2.1, e2.1, e2.2.1, ?_⟩
      unfold bandW
      rw [e1.2.2, e2.2.2]
      exact (before_behind hw).symm
    · cases h
  · rintro ⟨a, b, c, d, e⟩
    have e1 : before w = nw p.1 := by rw [← e]; exact before_app (nw_free (by omega))
    have e2 : behind w = nw p.2 := by rw [← e]; exact behind_app (nw_free (by omega))
    rw [(numR_iff h0 (by decide)).mpr ⟨a, b, e1.symm⟩, (numR_iff (by decide) (by decide)).mpr ⟨c, d, e2.symm⟩]
theorem bandW_mem (p : Int × Int) : 58 ∈ bandW p := by simp [bandW]
def pairsGo : List Wd → List (Int × Int) → Int → Option (List (Int × Int) × List Wd)
  | [], acc, _ => some (acc, [])
  | w :: ws, acc, low => if 58 ∈ w then (match bandR w low with
      | some p => if acc.length = 3 then none else pairsGo ws (acc ++ [p]) (p.1 + 1)
      | none => none) else some (acc, w :: ws)
/-- what stands behind the bands -/
def NoBand (ws : List Wd) : Prop := ∀ w r, ws = w :: r → 58 ∉ w
theorem pairsGo_sound : ∀ {ws : List Wd} {acc : List (Int × Int)} {low : Int} {l : List (Int × Int)} {rest : List Wd}, 1 ≤ low → acc.length ≤ 3 → pairsGo ws acc low = some (l, rest) →
    ∃ l', l = acc ++ l' ∧ ws = l'.map bandW ++ rest ∧ NoBand rest ∧ Asc (low - 1) l' ∧ l.length ≤ 3
  | [], acc, low, l, rest, h0, ha, h => by
    unfold pairsGo at h
    cases h
    exact ⟨[], by simp, by simp, (fun w r z => nomatch z), trivial, ha⟩
  | w :: ws, acc, low, l, rest, h0, ha, h => by
    unfold pairsGo at h
    split at h
    · rename_i hw
      split at h
      · rename_i p hp
        split at h
        · cases h
        · rename_i hl
          have e := (bandR_iff hw (by omega)).mp hp
          obtain ⟨l', e1, e2, e3, e4, e5⟩ := pairsGo_sound (by omega) (by simp; omega) h
          refine ⟨p :: l', by simp [e1], by simp [e2, e.2.2.2.2], e3, ⟨by omega, e.2.1, e.2.2.1, e.2.2.2.1, ?_⟩, e5⟩
          simpa using e4
      · cases h
    · rename_i hw
      cases h
      exact ⟨[], by simp, by simp, (fun w' r z => by cases z; exact hw), trivial, ha⟩
theorem pairsGo_complete : ∀ {l' : List (Int × Int)} {acc : List (Int × Int)} {low : Int} {rest : List Wd}, 1 ≤ low → acc.length + l'.length ≤ 3 → Asc (low - 1) l' → NoBand rest → pairsGo (l'.map bandW ++ rest) acc low = some (acc ++ l', rest)
  | [], acc, low, rest, h0, hl, ha, hr => by
    cases rest with
    | nil => simp [pairsGo]
    | cons w r =>
      have := hr w r rfl
      simp [pairsGo, this]
  | p :: l', acc, low, rest, h0, hl, ha, hr => by
    obtain ⟨a1, a2, a3, a4, a5⟩ := ha
    simp only [List.length_cons] at hl
    rw [List.map_cons, List.cons_append]
    unfold pairsGo
    rw [if_pos (bandW_mem p), (bandR_iff (bandW_mem p) (by omega)).mpr ⟨by omega, a2, a3, a4, rfl⟩]
    simp only
    rw [if_neg (by omega), pairsGo_complete (by omega) (by simp; omega) (by simpa using a5) hr]
    simp
def pairsR (ws : List Wd) : Option (List (Int × Int) × List Wd) := match pairsGo ws [] 1 with
  | some (l, rest) => if l = [] then none else some (l, rest)
  | none => none
theorem pairsR_iff {ws : List Wd} {l : List (Int × Int)} {rest : List Wd} : pairsR ws = some (l, rest) ↔ BOk l ∧ ws = l.map bandW ++ rest ∧ NoBand rest := by
  unfold pairsR
  constructor
  · intro h
    split at h
    · rename_i l1 rest1 e
      split at h
      · cases h
      · rename_i hne
        cases h
        obtain ⟨l', e1, e2, e3, e4, e5⟩ := pairsGo_sound (by decide) (by simp) e
        simp at e1
        subst e1
        exact ⟨⟨List.length_pos_iff.mpr hne, e5, by simpa using e4⟩, e2, e3⟩
    · cases h
  · rintro ⟨⟨b1, b2, b3⟩, rfl, hr⟩
    rw [pairsGo_complete (acc := []) (by decide) (by simpa using b2) (by simpa using b3) hr]
    simp only [List.nil_append]
    rw [if_neg (List.length_pos_iff.mp b1)]
/-! ### the rest of a rule -/
def afterR (ws : List Wd) (k : Wd) (lo hi : Int) : Option (Int × List Wd) := match ws with
  | w :: n :: rest => if w = k then (match numR n lo hi with
      | some v => some (v, rest)
      | none => none) else none
  | _ => none
theorem afterR_iff {ws : List Wd} {k : Wd} {lo hi n : Int} {rest : List Wd} (h0 : 0 ≤ lo) (h1 : hi < 1000) : afterR ws k lo hi = some (n, rest) ↔ lo ≤ n ∧ n ≤ hi ∧ ws = k :: nw n :: rest := by
  unfold afterR
  constructor
  · intro h
    split at h
    · rename_i w m r
      split at h
      · rename_i hw
        split at h
        · rename_i v hv
          cases h
          have := (numR_iff h0 h1).mp hv
          exact ⟨this.1, this.2.1, by rw [hw, this.2.2]⟩
        · cases h
      · cases h
    · cases h
  · rintro ⟨a, b, rfl⟩
    simp only
    rw [if_pos trivial, (numR_iff h0 h1).mpr ⟨a, b, rfl⟩]
def joinR (ws : List Wd) : Bool × List Wd := match ws with
  | w :: r => if w = kJoin then (true, r) else (false, w :: r)
  | [] => (false, [])
theorem joinR_ws (ws : List Wd) : ws = joinW (joinR ws).1 ++ (joinR ws).2 := by
  cases ws with
  | nil => simp [joinR, joinW]
  | cons w r =>
    by_cases h : w = kJoin
    · simp [joinR, joinW, h]
    · simp [joinR, joinW, h]
theorem joinR_of (j : Bool) (r : List Wd) : joinR (joinW j ++ kLeast :: r) = (j, kLeast :: r) := by
  cases j
  · simp [joinR, joinW, kLeast, kJoin]
  · simp [joinR, joinW]
def capR (b1 b2 : List (Int × Int)) (e : Option Int) (n m : Int) (j : Bool) (l : Int) (ws : List Wd) : Option Rule := match afterR ws kCap 1 400 with
  | some (c, ws) => if ws = [] then some ⟨b1, b2, e, n, m, j, l, c⟩ else none
  | none => none
def leastR (b1 b2 : List (Int × Int)) (e : Option Int) (n m : Int) (ws : List Wd) : Option Rule := match afterR (joinR ws).2 kLeast 0 24 with
  | some (l, ws') => capR b1 b2 e n m (joinR ws).1 l ws'
  | none => none
def mealR (b1 b2 : List (Int × Int)) (e : Option Int) (n : Int) (ws : List Wd) : Option Rule := match afterR ws kMeal 0 40 with
  | some (m, ws) => leastR b1 b2 e n m ws
  | none => none
def nightR (b1 b2 : List (Int × Int)) (e : Option Int) (ws : List Wd) : Option Rule := match afterR ws kNight 0 40 with
  | some (n, ws) => mealR b1 b2 e n ws
  | none => none
def endsR (b1 b2 : List (Int × Int)) (ws : List Wd) : Option Rule := if ws.head? = some kEnds then (match afterR ws kEnds 0 40 with
    | some (e, ws) => nightR b1 b2 (some e) ws
    | none => none) else nightR b1 b2 none ws
def readB (b1 : List (Int × Int)) (ws : List Wd) : Option Rule := match pairsR ws with
  | some (b2, ws) => endsR b1 b2 ws
  | none => none
def readW (ws : List Wd) : Option Rule := match ws with
  | w :: ws => if w = kA then (match pairsR ws with
      | some (b1, w1 :: ws1) => if w1 = kB then readB b1 ws1 else none
      | _ => none) else none
  | [] => none
theorem nightR_iff {b1 b2 : List (Int × Int)} {e : Option Int} {ws : List Wd} {r : Rule} : nightR b1 b2 e ws = some r ↔ r.b1 = b1 ∧ r.b2 = b2 ∧ r.ends = e ∧ (0 ≤ r.night ∧ r.night ≤ 40) ∧ (0 ≤ r.meal ∧ r.meal ≤ 40) ∧ (0 ≤ r.least ∧ r.least ≤ 24) ∧ (1 ≤ r.cap ∧ r.cap ≤ 400) ∧ ws = tailW r.night r.meal r.join r.least r.cap := by
  constructor
  · intro h
    unfold nightR at h
    split at h
    · rename_i n ws1 e1
      unfold mealR at h
      split at h
      · rename_i m ws2 e2
        unfold leastR at h
        split at h
        · rename_i l ws3 e3
          unfold capR at h
          split at h
          · rename_i c ws4 e4
            split at h
            · rename_i e5
              cases h
              have f1 := (afterR_iff (by decide) (by decide)).mp e1
              have f2 := (afterR_iff (by decide) (by decide)).mp e2
              have f3 := (afterR_iff (by decide) (by decide)).mp e3
              have f4 := (afterR_iff (by decide) (by decide)).mp e4
              refine ⟨rfl, rfl, rfl, ⟨f1.1, f1.2.1⟩, ⟨f2.1, f2.2.1⟩, ⟨f3.1, f3.2.1⟩, ⟨f4.1, f4.2.1⟩, ?_⟩
              have e6 : ws2 = joinW (joinR ws2).1 ++ [kLeast, nw l, kCap, nw c] := by
                have := joinR_ws ws2
                rw [f3.2.2, f4.2.2, e5] at this
                exact this
              rw [f1.2.2, f2.2.2]
              exact congrArg (fun z => kNight :: nw n :: kMeal :: nw m :: z) e6
            · cases h
          · cases h
        · cases h
      · cases h
    · cases h
  · rintro ⟨rfl, rfl, rfl, h1, h2, h3, h4, rfl⟩
    unfold nightR tailW
    rw [(afterR_iff (by decide) (by decide)).mpr ⟨h1.1, h1.2, rfl⟩]
    simp only
    unfold mealR
    rw [(afterR_iff (by decide) (by decide)).mpr ⟨h2.1, h2.2, rfl⟩]
    simp only
    unfold leastR
    rw [joinR_of]
    simp only
    rw [(afterR_iff (by decide) (by decide)).mpr ⟨h3.1, h3.2, rfl⟩]
    simp only
    unfold capR
    rw [(afterR_iff (by decide) (by decide)).mpr ⟨h4.1, h4.2, rfl⟩]
    simp
theorem endsR_iff {b1 b2 : List (Int × Int)} {ws : List Wd} {r : Rule} : endsR b1 b2 ws = some r ↔ r.b1 = b1 ∧ r.b2 = b2 ∧ (∀ i, r.ends = some i → 0 ≤ i ∧ i ≤ 40) ∧ (0 ≤ r.night ∧ r.night ≤ 40) ∧ (0 ≤ r.meal ∧ r.meal ≤ 40) ∧ (0 ≤ r.least ∧ r.least ≤ 24) ∧ (1 ≤ r.cap ∧ r.cap ≤ 400) ∧ ws = endsW r.ends ++ tailW r.night r.meal r.join r.least r.cap := by
  unfold endsR
  constructor
  · intro h
    split at h
    · split at h
      · rename_i e ws1 he
        obtain ⟨q1, q2, q3, q4, q5, q6, q7, q8⟩ := nightR_iff.mp h
        have f := (afterR_iff (by decide) (by decide)).mp he
        refine ⟨q1, q2, fun i hi => ?_, q4, q5, q6, q7, ?_⟩
        · rw [q3] at hi; cases hi; exact ⟨f.1, f.2.1⟩
        · rw [q3, f.2.2, q8]; rfl
      · cases h
    · obtain ⟨q1, q2, q3, q4, q5, q6, q7, q8⟩ := nightR_iff.mp h
      refine ⟨q1, q2, fun i hi => ?_, q4, q5, q6, q7, ?_⟩
      · rw [q3] at hi; cases hi
      · rw [q3, q8]; rfl
  · rintro ⟨q1, q2, q3, q4, q5, q6, q7, rfl⟩
    cases e : r.ends with
    | none =>
      rw [if_neg (by simp [endsW, tailW, kNight, kEnds])]
      exact nightR_iff.mpr ⟨q1, q2, e, q4, q5, q6, q7, rfl⟩
    | some i =>
      have := q3 i e
      rw [if_pos (by simp [endsW])]
      have e0 : endsW (some i) ++ tailW r.night r.meal r.join r.least r.cap = kEnds :: nw i :: tailW r.night r.meal r.join r.least r.cap := rfl
      rw [e0]
      rw [(afterR_iff (n := i) (by decide) (by decide)).mpr ⟨this.1, this.2, rfl⟩]
      exact nightR_iff.mpr ⟨q1, q2, e, q4, q5, q6, q7, rfl⟩
theorem nb_tail (e : Option Int) (n m : Int) (j : Bool) (l c : Int) : NoBand (endsW e ++ tailW n m j l c) := by
  intro w r h
  cases e with
  | none => simp [endsW, tailW] at h; rw [← h.1]; decide
  | some i => simp [endsW, tailW] at h; rw [← h.1]; decide
theorem readW_iff {ws : List Wd} {r : Rule} : readW ws = some r ↔ r.Ok ∧ ws = r.words := by
  constructor
  · intro h
    unfold readW at h
    split at h
    · rename_i w ws
      split at h
      · rename_i hw
        split at h
        · rename_i b1 w1 ws1 hp
          split at h
          · rename_i hb
            unfold readB at h
            split at h
            · rename_i b2 ws2 hp2
              obtain ⟨q1, q2, q3, q4, q5, q6, q7, q8⟩ := endsR_iff.mp h
              obtain ⟨p1, p2, p3⟩ := pairsR_iff.mp hp
              obtain ⟨p4, p5, p6⟩ := pairsR_iff.mp hp2
              refine ⟨⟨q1 ▸ p1, q2 ▸ p4, q3, q4, q5, q6, q7⟩, ?_⟩
              unfold Rule.words
              rw [hw, p2, hb, p5, q8, q1, q2]
            · cases h
          · cases h
        · cases h
      · cases h
    · cases h
  · rintro ⟨hr, rfl⟩
    unfold readW Rule.words
    simp only
    rw [if_pos trivial, pairsR_iff.mpr ⟨hr.b1, rfl, fun w r z => by cases z; decide⟩]
    simp only
    rw [if_pos trivial]
    unfold readB
    rw [pairsR_iff.mpr ⟨hr.b2, rfl, nb_tail _ _ _ _ _ _⟩]
    exact endsR_iff.mpr ⟨rfl, rfl, hr.ends, hr.night, hr.meal, hr.least, hr.cap, rfl⟩
/-! ### no blank, no line end in a word -/
theorem words_free {r : Rule} {c : Nat} (h : c = 32 ∨ c = 10) : ∀ w ∈ r.words, c ∉ w := by
  have hn : ∀ a : Int, c ∉ nw a := fun a => nw_free (by omega)
  have hb : ∀ p : Int × Int, c ∉ bandW p := fun p => by
    unfold bandW
    simp only [List.mem_append, List.mem_cons, not_or]
    exact ⟨hn _, by omega, hn _⟩
  have hk : c ∉ kA ∧ c ∉ kB ∧ c ∉ kNight ∧ c ∉ kMeal ∧ c ∉ kJoin ∧ c ∉ kLeast ∧ c ∉ kCap ∧ c ∉ kEnds := by
    rcases h with rfl | rfl <;> decide
  obtain ⟨h1, h2, h3, h4, h5, h6, h7, h8⟩ := hk
  intro w hw
  unfold Rule.words tailW at hw
  simp only [List.mem_cons, List.mem_append, List.mem_map, List.not_mem_nil, or_false] at hw
  rcases hw with rfl | ⟨p, _, rfl⟩ | rfl | ⟨p, _, rfl⟩ | hw | rfl | rfl | rfl | rfl | hw | rfl | rfl | rfl | rfl
  all_goals first | assumption | exact hb _ | exact hn _ | skip
  · cases e : r.ends with
    | none => rw [e] at hw; cases hw
    | some i =>
      rw [e] at hw
      simp only [endsW, List.mem_cons, List.not_mem_nil, or_false] at hw
      rcases hw with rfl | rfl
      · exact h8
      · exact hn _
  · unfold joinW at hw
    split at hw
    · simp only [List.mem_cons, List.not_mem_nil, or_false] at hw
      subst hw; exact h5
    · cases hw
end Pu

/-! Texts cut and joined; numbers written and read; the two writers of a rule. -/
namespace Pu
open PySem PySem.Spec PyProof.Rows L2 DL Sm SX
def Asc7 (l : List Nat) : Prop := ∀ c ∈ l, c < 128
theorem Asc7.ok {l : List Nat} (h : Asc7 l) : PyData.strOk (S l) = true := strOk_S fun c hc => by have := h c hc; omega
theorem eqS {a b : List Nat} (ha : Asc7 a) (hb : Asc7 b) : eqD (.str (S a)) (.str (S b)) = some (false, .bool (decide (a = b))) := by
  unfold eqD
  rw [shp_str ha.ok, shp_str hb.ok, str_eqv]
  by_cases h : a = b
  · subst h; simp [bD]
  · have : ¬ S a = S b := fun z => h (S_inj z)
    simp [bD, h, this]
theorem neS {a b : List Nat} (ha : Asc7 a) (hb : Asc7 b) : neD (.str (S a)) (.str (S b)) = some (false, .bool (!decide (a = b))) := by
  rw [ne_str ha.ok hb.ok]
  by_cases h : a = b
  · subst h; simp
  · have : ¬ S a = S b := fun z => h (S_inj z)
    simp [h, this]
/-! ### cutting at one sign -/
theorem pre1 (c d : Nat) (r : List Nat) : TL.pre [c] (d :: r) = decide (d = c) := by
  by_cases h : d = c <;> simp [TL.pre, h]
def cutAt (c : Nat) (l : List Nat) : List (List Nat) := TL.spl [c] 0 [] l
theorem spl_all (c : Nat) : ∀ (l acc : List Nat), c ∉ acc → (∀ p ∈ TL.spl [c] 0 acc l, c ∉ p ∧ ∀ x ∈ p, x ∈ acc ∨ x ∈ l) ∧ TL.joinL [c] (TL.spl [c] 0 acc l) = acc ++ l ∧ TL.spl [c] 0 acc l ≠ []
  | [], acc, h => by
    rw [TL.spl_nil]
    refine ⟨fun p hp => ?_, by simp [TL.joinL], by simp⟩
    simp at hp; subst hp
    exact ⟨h, fun x hx => .inl hx⟩
  | d :: l, acc, h => by
    by_cases hd : d = c
    · rw [TL.spl_hit (by rw [pre1]; simp [hd])]
      obtain ⟨h1, h2, h3⟩ := spl_all c l [] (by simp)
      refine ⟨fun p hp => ?_, ?_, by simp⟩
      · rcases List.mem_cons.mp hp with rfl | hp
        · exact ⟨h, fun x hx => .inl hx⟩
        · obtain ⟨a, b⟩ := h1 p hp
          exact ⟨a, fun x hx => .inr (List.mem_cons_of_mem _ ((b x hx).elim (fun z => by cases z) id))⟩
      · show TL.joinL [c] (acc :: TL.spl [c] 0 [] l) = acc ++ d :: l
        cases e : TL.spl [c] 0 [] l with
        | nil => exact absurd e h3
        | cons p q =>
          rw [e] at h2
          show acc ++ ([c] ++ TL.joinL [c] (p :: q)) = _
          rw [h2, hd]; rfl
    · rw [TL.spl_miss (by rw [pre1]; simp [hd])]
      obtain ⟨h1, h2, h3⟩ := spl_all c l (acc ++ [d]) (by simp [h, Ne.symm hd])
      refine ⟨fun p hp => ?_, by rw [h2]; simp, h3⟩
      obtain ⟨a, b⟩ := h1 p hp
      refine ⟨a, fun x hx => ?_⟩
      rcases b x hx with z | z
      · rcases List.mem_append.mp z with z | z
        · exact .inl z
        · simp at z; exact .inr (by simp [z])
      · exact .inr (List.mem_cons_of_mem _ z)
theorem cut_free {c : Nat} {l p : List Nat} (h : p ∈ cutAt c l) : c ∉ p := ((spl_all c l [] (by simp)).1 p h).1
theorem cut_mem {c : Nat} {l p : List Nat} {x : Nat} (h : p ∈ cutAt c l) (hx : x ∈ p) : x ∈ l := (((spl_all c l [] (by simp)).1 p h).2 x hx).elim (fun z => by cases z) id
theorem cut_asc {c : Nat} {l p : List Nat} (hl : Asc7 l) (h : p ∈ cutAt c l) : Asc7 p := fun x hx => hl x (cut_mem h hx)
theorem cut_join {c : Nat} {l : List Nat} : TL.joinL [c] (cutAt c l) = l := (spl_all c l [] (by simp)).2.1
theorem cut_ne {c : Nat} {l : List Nat} : cutAt c l ≠ [] := (spl_all c l [] (by simp)).2.2
theorem join_cut {c : Nat} {ws : List (List Nat)} (h : ws ≠ []) (hf : ∀ p ∈ ws, c ∉ p) : cutAt c (TL.joinL [c] ws) = ws := spl_join h hf
theorem join_len {c : Nat} : ∀ {ws : List (List Nat)}, ws ≠ [] → (ws.map List.length).sum + ws.length = (TL.joinL [c] ws).length + 1
  | [], h => absurd rfl h
  | [p], _ => by simp [TL.joinL]
  | p :: q :: r, _ => by
    have := join_len (c := c) (ws := q :: r) (by simp)
    show _ = (p ++ ([c] ++ TL.joinL [c] (q :: r))).length + 1
    simp only [List.map_cons, List.sum_cons, List.length_cons, List.length_append] at this ⊢
    simp only [List.length_nil]
    omega
theorem cut_len {c : Nat} {l : List Nat} : ((cutAt c l).map List.length).sum + (cutAt c l).length = l.length + 1 := by
  have := join_len (c := c) (ws := cutAt c l) cut_ne
  rw [cut_join] at this
  exact this
theorem mem_sum {ws : List (List Nat)} {p : List Nat} (h : p ∈ ws) : p.length ≤ (ws.map List.length).sum := by
  induction ws with
  | nil => cases h
  | cons q ws ih =>
    rw [List.map_cons, List.sum_cons]
    rcases List.mem_cons.mp h with rfl | h
    · omega
    · have := ih h; omega
theorem cut_part {c : Nat} {l p : List Nat} (h : p ∈ cutAt c l) : p.length ≤ l.length := by
  have h1 := mem_sum h
  have h2 := cut_len (c := c) (l := l)
  have h3 := List.length_pos_iff.mpr (cut_ne (c := c) (l := l))
  omega
/-- a list of texts -/
def encS (w : List Nat) : PyData := .str (S w)
theorem splitD_S {c : Nat} {l : List Nat} (hc : c < 256) (hl : l.length ≤ 1000000) : splitD (.str (S l)) (.str (S [c])) = some (true, .list ((cutAt c l).map encS)) := by
  have h1 : ((S [c]).length == 0) = false := rfl
  have h2 : (S l).length + 2 ≤ sizeLine := by rw [S_len]; exact leSz' hl
  unfold splitD
  simp only
  rw [if_pos ⟨h1, h2⟩, split_S (by simp) (by simp [hc])]
  show _ = some (true, PyData.list ((cutAt c l).map (PyData.str ∘ S)))
  rw [List.map_map]; rfl
where leSz' {n : Nat} (h : n ≤ 1000000) : n + 2 ≤ sizeLine := Nat.le_trans (Nat.add_le_add_right h 2) (by decide)
theorem strsD_S (ws : List (List Nat)) : strsD (ws.map encS) = some (ws.map S) := by
  induction ws with
  | nil => rfl
  | cons w ws ih =>
    rw [List.map_cons, List.map_cons]
    show (strsD (ws.map encS)).map (S w :: ·) = _
    rw [ih]; rfl
theorem joinD_S {c : Nat} {ws : List (List Nat)} (hl : (ws.map List.length).sum + ws.length ≤ 1000000) : joinD (.str (S [c])) (.list (ws.map encS)) = some (false, .str (S (TL.joinL [c] ws))) := by
  unfold joinD
  simp only [strsD_S]
  have h1 : ((ws.map S).map (·.length)) = ws.map List.length := lens ws
  have h2 : (S [c]).length = 1 := rfl
  rw [if_pos (by rw [h1, h2]; simp; omega), join_S]
  rfl
/-! ### numbers -/
theorem toS {i : Int} (h : 0 ≤ i) : Str.ofString (toString i) = S (nw i) := by
  have := num_S i.toNat
  rw [Int.toNat_of_nonneg h] at this
  exact this
theorem log_ok {i : Int} (h : 0 ≤ i) (h1 : i < 1000) : i.natAbs.log2 < 1920 := by
  by_cases h0 : i.natAbs = 0
  · rw [h0]; decide
  · rw [Nat.log2_lt h0]
    have : i.natAbs < 2 ^ 10 := by omega
    exact Nat.lt_of_lt_of_le this (Nat.pow_le_pow_right (by decide) (by decide))
theorem strI_S {i : Int} (h : 0 ≤ i) (h1 : i < 1000) : strID [.int i] = some (false, .str (S (nw i))) := by
  unfold strID
  simp only
  rw [if_pos (log_ok h h1)]
  show some (false, PyData.str (Str.ofString (toString i))) = _
  rw [toS h]
theorem fmtI_S {i : Int} (h : 0 ≤ i) (h1 : i < 1000) : fmtD (.int i) = some (false, .str (S (nw i))) := by
  unfold fmtD
  simp only
  rw [if_pos (log_ok h h1)]
  show some (false, PyData.str (Str.ofString (toString i))) = _
  rw [toS h]
theorem nw_asc (i : Int) : Asc7 (nw i) := fun c hc => by
  have := List.all_eq_true.mp (nw_dig i) c hc
  simp [isDig] at this
  omega
theorem dig_asc {w : List Nat} (h : w.all isDig = true) : Asc7 w := fun c hc => by
  have := List.all_eq_true.mp h c hc
  simp [isDig] at this
  omega
/-- the law's number of a word -/
def isW (w : List Nat) (d : PyData) : Bool := match d with
  | .int i => decide (nw i = w)
  | _ => false
theorem rng_filter (w : List Nat) (lo : Int) (n : Nat) : (rangeD lo n).filter (isW w) = (((List.range n).map fun (i : Nat) => lo + (i : Int)).filter fun i => decide (nw i = w)).map PyData.int := by
  unfold rangeD
  rw [List.filter_map, List.filter_map, List.map_map]
  rfl
theorem law_number_eq {w : List Nat} {lo hi : Int} (hw : Asc7 w) (h0 : 0 ≤ lo) (h1 : hi < 1000) (h2 : lo ≤ 100) (h3 : 0 ≤ hi) : f_law_number [.str (S w), .int lo, .int hi] = some (.ok (false, encO (numR w lo hi))) := by
  refine wp_mkFn rfl ?_
  unfold b_law_number
  simp [noOwn]
  refine ⟨⟨okR_of (by omega) (by omega), okR_of (by omega) (by omega)⟩, ?_⟩
  refine wp_lcMap (isW w) id ?_ ?_ ?_
  · have : (hi + 1 - lo).toNat ≤ 1000 := by omega
    rw [List.length_nil, Nat.zero_add, rangeD, List.length_map, List.length_range]
    exact leSz (Nat.le_trans this (by decide))
  · intro d hd
    unfold rangeD at hd
    obtain ⟨i, hi, rfl⟩ := List.mem_map.mp hd
    have hi := List.mem_range.mp hi
    refine ⟨_, rfl, ?_⟩
    simp [strI_S (show 0 ≤ lo + (i : Int) by omega) (show lo + (i : Int) < 1000 by omega), eqS (nw_asc _) hw, isW]
  · rw [List.map_id, List.nil_append, rng_filter]
    have mem : ∀ i : Int, i ∈ (((List.range (hi + 1 - lo).toNat).map fun (i : Nat) => lo + (i : Int)).filter fun i => decide (nw i = w)) ↔ (lo ≤ i ∧ i ≤ hi) ∧ nw i = w := by
      intro i
      simp only [List.mem_filter, List.mem_map, List.mem_range, decide_eq_true_eq]
      constructor
      · rintro ⟨⟨j, hj, rfl⟩, e⟩
        exact ⟨⟨by omega, by omega⟩, e⟩
      · rintro ⟨⟨a, b⟩, e⟩
        exact ⟨⟨(i - lo).toNat, by omega, by omega⟩, e⟩
    generalize hL : (((List.range (hi + 1 - lo).toNat).map fun (i : Nat) => lo + (i : Int)).filter fun i => decide (nw i = w)) = L at mem
    simp [sizeLine, ne_nilL (shp_ints L)]
    cases L with
    | nil =>
      have : numR w lo hi = none := by
        cases e : numR w lo hi with
        | none => rfl
        | some i =>
          have := (numR_iff h0 h1).mp e
          exact absurd ((mem i).mpr ⟨⟨this.1, this.2.1⟩, this.2.2⟩) (by simp)
      simp [this, encO]
    | cons i L =>
      have hm := (mem i).mp (by simp)
      have : numR w lo hi = some i := (numR_iff h0 h1).mpr ⟨hm.1.1, hm.1.2, hm.2⟩
      simp [this, encO, atI, ixN]
/-- the program's number of a word -/
theorem ls_dig : ("0123456789" : Str) = S [48, 49, 50, 51, 52, 53, 54, 55, 56, 57] := by decide +kernel
def digG (d : PyData) : PyData := match d with
  | .str x => .bool (inStr x "0123456789")
  | _ => .none
theorem dig_in (c : Nat) : inStr (S [c]) "0123456789" = isDig c := by
  rw [ls_dig, inS]
  unfold isDig
  rw [Bool.eq_iff_iff]
  simp
  omega
theorem intTD_S {w : List Nat} (h : w.all isDig = true) (hne : w ≠ []) (hl : w.length ≤ 3) : intTD [.str (S w)] = some (false, .int ((NumText.digitsVal w : Nat) : Int)) := by
  unfold intTD
  simp only
  rw [int_S h hne (by omega)]
  simp only
  rw [if_pos (by rw [S_len]; omega)]
theorem number_in_eq {w : List Nat} (hw : Asc7 w) (hl : w.length ≤ 1000000) : f_number_in [.str (S w)] = some (.ok (false, encO (numIn w))) := by
  refine wp_mkFn rfl ?_
  unfold b_number_in
  have hz : w.length ≤ sizeLine := leSz hl
  have hcomp : ∀ {Q : List PyData → Ev → Prop}, Q (w.map fun c => .bool (isDig c)) [.fz (.str (S w)), .no] → Wp (lcL [1] (gNm 1) tTrue number_in_e1 (DL.signs (S w)) [.fz (.str (S w)), .no] []) Q := by
    intro Q q
    refine wp_lcMap (fun _ => true) digG ?_ ?_ ?_
    · simp [DL.signs]; exact leSz hl
    · intro d hd
      obtain ⟨c, _, rfl⟩ := List.mem_map.mp hd
      refine ⟨_, rfl, ?_⟩
      simp [number_in_e1, digG]
    · have e : ((DL.signs (S w)).filter fun _ => true).map digG = w.map fun c => .bool (isDig c) := by
        rw [List.filter_eq_self.mpr (fun _ _ => rfl), signs_S, List.map_map]
        refine List.map_congr_left fun c _ => ?_
        simp [digG, dig_in]
      rw [List.nil_append, e]; exact q
  unfold numIn
  by_cases c1 : 1 ≤ w.length
  · by_cases c2 : w.length ≤ 3
    · have c1' : (1 : Int) ≤ w.length := by omega
      have c2' : (w.length : Int) ≤ 3 := by omega
      have hne : w ≠ [] := List.length_pos_iff.mp c1
      have ha : allD [.list (w.map fun c => .bool (isDig c))] = some (false, .bool (w.all isDig)) := by
        rw [allD_eq, bools_map]
        simp [Function.comp_def]
      by_cases c3 : w.all isDig = true
      · have hv := digs_lt c3
        have h3 : 10 ^ w.length ≤ 10 ^ 3 := Nat.pow_le_pow_right (by decide) c2
        have hs := strI_S (i := ((NumText.digitsVal w : Nat) : Int)) (by omega) (by omega)
        have he := eqS (nw_asc ((NumText.digitsVal w : Nat) : Int)) hw
        have e3 : nw ((NumText.digitsVal w : Nat) : Int) = TL.numL (NumText.digitsVal w) := by unfold nw; simp
        rw [e3] at hs he
        have hi := intTD_S c3 hne c2
        rw [if_pos ⟨c1, c2, c3⟩]
        rw [c3] at ha
        simp [c1', c2', hz, noOwn]
        refine hcomp ?_
        simp [-allD_eq, ha, hi, hs, he]
        by_cases e : TL.numL (NumText.digitsVal w) = w
        · simp [e, hi, encO]
        · simp [e, encO]
      · rw [if_neg (fun z => c3 z.2.2)]
        simp only [Bool.not_eq_true] at c3
        rw [c3] at ha
        simp [c1', c2', hz, noOwn]
        refine hcomp ?_
        simp [-allD_eq, ha, encO]
    · have c1' : (1 : Int) ≤ w.length := by omega
      have c2' : ¬ (w.length : Int) ≤ 3 := by omega
      simp [c1, c2, c1', c2', hz, encO]
  · have c1' : ¬ (1 : Int) ≤ w.length := by omega
    simp [c1, c1', hz, encO]
end Pu

/-! The two writers of a rule. -/
namespace Pu
open PySem PySem.Spec PyProof.Rows L2 DL Sm SX
theorem ls_col : (":" : Str) = S [58] := by decide +kernel
theorem ls_sp : (" " : Str) = S [32] := by decide +kernel
theorem ls_nl : ("\n" : Str) = S [10] := by decide +kernel
theorem ls_night : ("night" : Str) = S kNight := by decide +kernel
theorem ls_meal : ("meal" : Str) = S kMeal := by decide +kernel
theorem ls_join : ("join" : Str) = S kJoin := by decide +kernel
theorem ls_least : ("least" : Str) = S kLeast := by decide +kernel
theorem ls_cap : ("cap" : Str) = S kCap := by decide +kernel
theorem ls_ends : ("ends" : Str) = S kEnds := by decide +kernel
theorem ls_kA : ("a" : Str) = S kA := by decide +kernel
theorem ls_kB : ("b" : Str) = S kB := by decide +kernel
theorem addS {a b : List Nat} (h : a.length + b.length ≤ 1000000) : addD (.str (S a)) (.str (S b)) = some (false, .str (S (a ++ b))) := by
  rw [o_addS, if_pos (by rw [S_len, S_len]; exact leSz h), S_cat]
theorem asc_mem : ∀ {l : List (Int × Int)} {k : Int} {p : Int × Int}, 0 ≤ k → Asc k l → p ∈ l → 0 ≤ p.1 ∧ p.1 ≤ 24 ∧ 0 ≤ p.2 ∧ p.2 ≤ 40
  | [], _, _, _, _, h => by cases h
  | q :: l, k, p, h0, ⟨a1, a2, a3, a4, a5⟩, h => by
    rcases List.mem_cons.mp h with rfl | h
    · exact ⟨by omega, a2, a3, a4⟩
    · exact asc_mem (by omega) a5 h
def bandG (d : PyData) : PyData := match d with
  | .tuple [.int h, .int a] => encS (bandW (h, a))
  | _ => .none
theorem bandG_map (b : List (Int × Int)) : ((b.map encP).filter fun _ => true).map bandG = (b.map bandW).map encS := by
  rw [List.filter_eq_self.mpr (fun _ _ => rfl), List.map_map, List.map_map]
  rfl
theorem lt_comp {b : List (Int × Int)} {H : Ev} {s0 s1 s2 s3 : Sl} (hb : BOk b) (hH : H = [s0, s1, s2, s3, .no, .no]) {Q : List PyData → Ev → Prop} (q : Q ((b.map bandW).map encS) H) :
    Wp (lcL [4, 5] (gTp (gsCons (gNm 4) (gsCons (gNm 5) gsNil))) tTrue law_text_e1 (b.map encP) H []) Q := by
  subst hH
  refine wp_lcMap (fun _ => true) bandG ?_ ?_ ?_
  · rw [List.length_nil, Nat.zero_add, List.length_map]; exact leSz (Nat.le_trans hb.2.1 (by decide))
  · intro d hd
    obtain ⟨p, hp, rfl⟩ := List.mem_map.mp hd
    obtain ⟨h1, h2, h3, h4⟩ := asc_mem (by decide) hb.2.2 hp
    have l1 := nw_len (a := p.1) (by omega)
    have l2 := nw_len (a := p.2) (by omega)
    refine ⟨_, rfl, ?_⟩
    simp [law_text_e1, strI_S h1 (by omega), strI_S h3 (by omega), ls_col, -o_addS, addS (a := nw p.1) (b := [58]) (by simp; omega), addS (a := nw p.1 ++ [58]) (b := nw p.2) (by simp; omega), bandG, encP, encS, bandW]
  · rw [bandG_map]; simpa using q
theorem sum_le {n : Nat} : ∀ {ws : List (List Nat)}, (∀ w ∈ ws, w.length ≤ n) → (ws.map List.length).sum ≤ n * ws.length
  | [], _ => by simp
  | w :: ws, h => by
    have := sum_le fun x hx => h x (List.mem_cons_of_mem _ hx)
    have := h w (List.mem_cons_self ..)
    rw [List.map_cons, List.sum_cons, List.length_cons, Nat.mul_succ]
    omega
theorem words_le {r : Rule} (hr : r.Ok) : ∀ w ∈ r.words, w.length ≤ 7 := by
  have hn : ∀ a : Int, a < 1000 → (nw a).length ≤ 7 := fun a h => Nat.le_trans (nw_len h) (by decide)
  have hb : ∀ {l : List (Int × Int)}, BOk l → ∀ p ∈ l, (bandW p).length ≤ 7 := fun hl p hp => by
    obtain ⟨h1, h2, h3, h4⟩ := asc_mem (by decide) hl.2.2 hp
    have l1 := nw_len (a := p.1) (by omega)
    have l2 := nw_len (a := p.2) (by omega)
    unfold bandW
    simp
    omega
  have h3 := hr.night
  have h4 := hr.meal
  have h5 := hr.least
  have h6 := hr.cap
  intro w hw
  unfold Rule.words tailW at hw
  simp only [List.mem_cons, List.mem_append, List.mem_map, List.not_mem_nil, or_false] at hw
  rcases hw with rfl | ⟨p, hp, rfl⟩ | rfl | ⟨p, hp, rfl⟩ | hw | rfl | rfl | rfl | rfl | hw | rfl | rfl | rfl | rfl
  case inr.inl => exact hb hr.b1 p hp
  case inr.inr.inr.inl => exact hb hr.b2 p hp
  case inr.inr.inr.inr.inl =>
    cases e : r.ends with
    | none => rw [e] at hw; cases hw
    | some i =>
      have := hr.ends i e
      rw [e] at hw
      simp only [endsW, List.mem_cons, List.not_mem_nil, or_false] at hw
      rcases hw with rfl | rfl
      · decide
      · exact hn _ (by omega)
  case inr.inr.inr.inr.inr.inr.inr.inr.inr.inl =>
    unfold joinW at hw
    split at hw
    · simp only [List.mem_cons, List.not_mem_nil, or_false] at hw
      subst hw; decide
    · cases hw
  all_goals first | decide | exact hn _ (by omega)
theorem words_len {r : Rule} (hr : r.Ok) : r.words.length ≤ 19 := by
  have b1 := hr.b1.2.1
  have b2 := hr.b2.2.1
  have h1 : (endsW r.ends).length ≤ 2 := by cases r.ends <;> simp [endsW]
  have h2 : (joinW r.join).length ≤ 1 := by cases r.join <;> simp [joinW]
  unfold Rule.words tailW
  simp
  omega
theorem words_sum {r : Rule} (hr : r.Ok) : (r.words.map List.length).sum + r.words.length ≤ 200 := by
  have := sum_le (words_le hr)
  have := words_len hr
  omega
theorem words_ne (r : Rule) : r.words ≠ [] := by unfold Rule.words; simp
def Rule.text (r : Rule) : List Nat := TL.joinL [32] r.words
theorem text_len {r : Rule} (hr : r.Ok) : r.text.length ≤ 200 := by
  have := join_len (c := 32) (words_ne r)
  have := words_sum hr
  unfold Rule.text
  omega
theorem e_A : encS kA = .str "a" := by rw [ls_kA]; rfl
theorem e_B : encS kB = .str "b" := by rw [ls_kB]; rfl
theorem e_night : encS kNight = .str "night" := by rw [ls_night]; rfl
theorem e_meal : encS kMeal = .str "meal" := by rw [ls_meal]; rfl
theorem e_join : encS kJoin = .str "join" := by rw [ls_join]; rfl
theorem e_least : encS kLeast = .str "least" := by rw [ls_least]; rfl
theorem e_cap : encS kCap = .str "cap" := by rw [ls_cap]; rfl
theorem e_ends : encS kEnds = .str "ends" := by rw [ls_ends]; rfl
theorem e_nw {i : Int} : encS (nw i) = .str (S (nw i)) := rfl
set_option maxHeartbeats 1000000
theorem law_text_eq {r : Rule} (hr : r.Ok) : f_law_text [r.enc] = some (.ok (false, .str (S r.text))) := by
  refine wp_mkFn rfl ?_
  unfold b_law_text
  have hs := words_sum hr
  have hj := joinD_S (c := 32) (ws := r.words) (by omega)
  rw [← ls_sp] at hj
  have b1 := hr.b1.2.1
  have b2 := hr.b2.2.1
  have n1 := strI_S hr.night.1 (by have := hr.night; omega)
  have n2 := strI_S hr.meal.1 (by have := hr.meal; omega)
  have n3 := strI_S hr.least.1 (by have := hr.least; omega)
  have n4 := strI_S (i := r.cap) (by have := hr.cap; omega) (by have := hr.cap; omega)
  have z : ∀ n, n ≤ 1000 → n ≤ sizeLine := fun n h => leSz (by omega)
  simp [atI, ixN, z, wp_forL_cons, law_text_b2, encB, noOwn]
  refine lt_comp hr.b1 rfl ?_
  simp
  refine ⟨z _ (by omega), ?_⟩
  simp [wp_forL_cons, z, noOwn]
  refine ⟨z _ (by omega), ?_⟩
  refine lt_comp hr.b2 rfl ?_
  simp
  refine ⟨z _ (by omega), ?_⟩
  cases e : r.ends with
  | none =>
    cases j : r.join
    all_goals
      simp [Rule.words, e, j, endsW, joinW, tailW, e_A, e_B, e_night, e_meal, e_join, e_least, e_cap, e_nw] at hj
      simp [encO, isNone, n1, n2, n3, n4, j, hj, Rule.text]
      repeat' (first | exact z _ (by omega) | refine And.intro ?_ ?_)
      all_goals simp [Rule.words, e, j, endsW, joinW, tailW]
  | some i =>
    have n5 := strI_S (i := i) (hr.ends i e).1 (by have := hr.ends i e; omega)
    cases j : r.join
    all_goals
      simp [Rule.words, e, j, endsW, joinW, tailW, e_A, e_B, e_night, e_meal, e_join, e_least, e_cap, e_ends, e_nw] at hj
      simp [encO, isNone, n1, n2, n3, n4, n5, j, hj, Rule.text]
      repeat' (first | exact z _ (by omega) | refine And.intro ?_ ?_)
      all_goals simp [Rule.words, e, j, endsW, joinW, tailW]
/-! ### the program's writer -/
theorem rt_comp {b : List (Int × Int)} {H : Ev} {s0 s1 s2 s3 s4 s5 s6 s7 s8 s9 s10 : Sl} (hb : BOk b) (hH : H = [s0, s1, s2, s3, s4, s5, s6, s7, s8, s9, s10, .no, .no]) {Q : List PyData → Ev → Prop} (q : Q ((b.map bandW).map encS) H) :
    Wp (lcL [11, 12] (gTp (gsCons (gNm 11) (gsCons (gNm 12) gsNil))) tTrue rule_text_e1 (b.map encP) H []) Q := by
  subst hH
  refine wp_lcMap (fun _ => true) bandG ?_ ?_ ?_
  · rw [List.length_nil, Nat.zero_add, List.length_map]; exact leSz (Nat.le_trans hb.2.1 (by decide))
  · intro d hd
    obtain ⟨p, hp, rfl⟩ := List.mem_map.mp hd
    obtain ⟨h1, h2, h3, h4⟩ := asc_mem (by decide) hb.2.2 hp
    have l1 := nw_len (a := p.1) (by omega)
    have l2 := nw_len (a := p.2) (by omega)
    refine ⟨_, rfl, ?_⟩
    simp [rule_text_e1, fmtI_S h1 (by omega), fmtI_S h3 (by omega), eJs, jsM, bandG, encP, encS, bandW]
    have e0 : Str.empty = S [] := rfl
    have z : ∀ n, n ≤ 1000 → n ≤ sizeLine := fun n h => leSz (by omega)
    simp only [e0, ls_col, S_cat, S_len]
    refine ⟨z _ (by simp; omega), z _ (by simp; omega), z _ (by simp; omega), ?_⟩
    simp
  · rw [bandG_map]; simpa using q
@[simp] theorem a_zipS {as : AM} {env : Ev} : iZipS as env = rb (as env) fun as e => match as with
  | [.str x, .tuple b] => if b.length = x.cps.size then rok (zipD (DL.signs x) b) e else none
  | _ => none := rfl
theorem signs_ab : DL.signs "ab" = [.str "a", .str "b"] := by rw [ls_ab, ls_kA, ls_kB]; rfl
theorem size_ab : ("ab" : Str).cps.size = 2 := by decide +kernel
theorem rule_unp {r : Rule} {b : GsM} {env : Ev} : gTp b r.enc env = b [.tuple [encB r.b1, encB r.b2], encO r.ends, .int r.night, .int r.meal, .bool r.join, .int r.least, .int r.cap] env := rfl
theorem rule_text_eq {r : Rule} (hr : r.Ok) : f_rule_text [r.enc] = some (.ok (false, .str (S r.text))) := by
  refine wp_mkFn rfl ?_
  unfold b_rule_text
  have hs := words_sum hr
  have hj := joinD_S (c := 32) (ws := r.words) (by omega)
  rw [← ls_sp] at hj
  have b1 := hr.b1.2.1
  have b2 := hr.b2.2.1
  have n1 := strI_S hr.night.1 (by have := hr.night; omega)
  have n2 := strI_S hr.meal.1 (by have := hr.meal; omega)
  have n3 := strI_S hr.least.1 (by have := hr.least; omega)
  have n4 := strI_S (i := r.cap) (by have := hr.cap; omega) (by have := hr.cap; omega)
  have z : ∀ n, n ≤ 1000 → n ≤ sizeLine := fun n h => leSz (by omega)
  simp [need_rule_ok hr, rule_unp, size_ab, signs_ab, zipD, atI, ixN, z, wp_forL_cons, rule_text_b2, encB, noOwn]
  refine rt_comp hr.b1 rfl ?_
  simp
  refine ⟨z _ (by omega), ?_⟩
  simp [wp_forL_cons, z, noOwn]
  refine ⟨z _ (by omega), ?_⟩
  refine rt_comp hr.b2 rfl ?_
  simp
  refine ⟨z _ (by omega), ?_⟩
  cases e : r.ends with
  | none =>
    cases j : r.join
    all_goals
      simp [Rule.words, e, j, endsW, joinW, tailW, e_A, e_B, e_night, e_meal, e_join, e_least, e_cap, e_nw] at hj
      simp [encO, isNone, n1, n2, n3, n4, j, hj, Rule.text]
      repeat' (first | exact z _ (by omega) | refine And.intro ?_ ?_)
      all_goals simp [Rule.words, e, j, endsW, joinW, tailW]
  | some i =>
    have n5 := strI_S (i := i) (hr.ends i e).1 (by have := hr.ends i e; omega)
    cases j : r.join
    all_goals
      simp [Rule.words, e, j, endsW, joinW, tailW, e_A, e_B, e_night, e_meal, e_join, e_least, e_cap, e_ends, e_nw] at hj
      simp [encO, isNone, n1, n2, n3, n4, n5, j, hj, Rule.text]
      repeat' (first | exact z _ (by omega) | refine And.intro ?_ ?_)
      all_goals simp [Rule.words, e, j, endsW, joinW, tailW]
end Pu

/-! The law's reader. -/
namespace Pu
open PySem PySem.Spec PyProof.Rows L2 DL Sm SX
def encWs (ws : List Wd) : PyData := .list (ws.map encS)
/-- words of short ascii signs -/
def WsOk (ws : List Wd) : Prop := ws.length ≤ 1000000 ∧ ∀ w ∈ ws, Asc7 w ∧ w.length ≤ 1000000
theorem WsOk.tail {w : Wd} {ws : List Wd} (h : WsOk (w :: ws)) : WsOk ws := ⟨Nat.le_trans (Nat.le_succ _) h.1, fun x hx => h.2 x (List.mem_cons_of_mem _ hx)⟩
theorem WsOk.head {w : Wd} {ws : List Wd} (h : WsOk (w :: ws)) : Asc7 w ∧ w.length ≤ 1000000 := h.2 w (List.mem_cons_self ..)
theorem shpWs {ws : List Wd} (h : WsOk ws) : shp (.list (ws.map encS)) = true := by
  have : ZD ws.length 1 (.list (ws.map encS)) := by
    rw [zd_lst]
    refine ⟨by simp, fun d hd => ?_⟩
    obtain ⟨w, hw, rfl⟩ := List.mem_map.mp hd
    show ZD _ 0 (.str (S w))
    unfold ZD
    exact (h.2 w hw).1.ok
  exact this.shp (by omega)
theorem eqL_nil {ds : List PyData} (h : shp (.list ds) = true) : eqD (.list ds) (.list []) = some (false, .bool ds.isEmpty) := by
  have : shp (.list []) = true := by decide
  cases ds with
  | nil => simp [eqD, this, PyData.eqv, PyData.eqvAll]
  | cons x xs => simp [eqD, this, h, PyData.eqv, PyData.eqvAll]
theorem find_S {w : Wd} (h : 58 ∈ w) : findD (.str (S w)) (.str ":") = some (false, .int ((before w).length : Int)) := by
  rw [ls_col]
  unfold findD
  simp only
  have hne : TL.tl (S [58]) ≠ [] := by simp
  have hb := before_behind h
  have hf : 58 ∉ before w := fun z => by
    have := List.all_eq_true.mp (List.all_takeWhile (p := fun c => decide (c ≠ 58)) (l := w)) 58 z
    simp at this
  have key : ∀ i, StrLaws.At (S w) (S [58]) (S w).length i ↔ TL.pre [58] (w.drop i) = true := fun i => TL.at_iff hne i
  have at1 : ∀ i, StrLaws.At (S w) (S [58]) (S w).length i ↔ w[i]? = some 58 := fun i => by
    rw [key]
    cases e : w.drop i with
    | nil =>
      have : w.length ≤ i := by simpa using e
      simp [TL.pre, List.getElem?_eq_none this]
    | cons d r =>
      have hd : w[i]? = some d := by
        have := congrArg (fun l => l[0]?) e
        simpa using this
      rw [pre1, hd]
      simp
  have h0 : w[(before w).length]? = some 58 := by
    have e : ∀ a b : Wd, (a ++ 58 :: b)[a.length]? = some 58 := fun a b => by rw [List.getElem?_append_right (Nat.le_refl _), Nat.sub_self]; rfl
    have := e (before w) (behind w)
    rw [← hb] at this
    exact this
  have hlt : ∀ k, k < (before w).length → w[k]? ≠ some 58 := fun k hk z => by
    rw [hb, List.getElem?_append_left hk] at z
    exact hf (List.mem_of_getElem? z)
  rcases find_whole (S w) (S [58]) with ⟨_, hn⟩ | ⟨i, e, hi, hn⟩
  · exact absurd ((at1 _).mpr h0) (hn _)
  · have hi := (at1 i).mp hi
    have h1 : ¬ i < (before w).length := fun z => hlt i z hi
    have h2 : ¬ (before w).length < i := fun z => hn _ z ((at1 _).mpr h0)
    have : i = (before w).length := by omega
    rw [e, this]
theorem before_len {w : Wd} (h : 58 ∈ w) : (before w).length + 1 ≤ w.length := by
  have := congrArg List.length (before_behind h)
  simp at this
  omega
theorem take_before {w : Wd} : w.take (before w).length = before w := by
  unfold before
  induction w with
  | nil => rfl
  | cons c w ih =>
    rw [List.takeWhile_cons]
    split
    · rw [List.length_cons, List.take_succ_cons, ih]
    · rfl
theorem sl_before {w : Wd} (h : 58 ∈ w) (hl : w.length ≤ 1000000) : slD (.str (S w)) none (some ((before w).length : Int)) = some (false, .str (S (before w))) := by
  have := before_len h
  rw [o_slS, if_pos (by rw [S_len]; exact leSz hl), cutS_S, cut_lo (by omega) (by omega), Int.toNat_natCast, take_before]
theorem sl_behind {w : Wd} (h : 58 ∈ w) (hl : w.length ≤ 1000000) : slD (.str (S w)) (some ((before w).length + 1 : Int)) none = some (false, .str (S (behind w))) := by
  have := before_len h
  rw [o_slS, if_pos (by rw [S_len]; exact leSz hl), cutS_S, cut_hi (by omega) (by omega)]
  have : ((before w).length + 1 : Int).toNat = (before w).length + 1 := by omega
  rw [this]; rfl
theorem before_asc {w : Wd} (h : Asc7 w) : Asc7 (before w) := fun c hc => h c (List.takeWhile_subset _ hc)
theorem behind_asc {w : Wd} (h : Asc7 w) : Asc7 (behind w) := fun c hc => h c (List.mem_of_mem_drop hc)
theorem iN_none : isNone .none = true := rfl
theorem iN_int {i : Int} : isNone (.int i) = false := rfl
theorem eO_none : encO none = .none := rfl
theorem eO_some {i : Int} : encO (some i) = .int i := rfl
def pairsTest : TM := tAndM (tOf (eBin neD (eVar 0) (eLst aNil))) (tOf (eBin inD (eC (.str ":")) (eBin ixD (eVar 0) (eC (.int 0)))))
theorem slOf_get {own : Bool} {d : PyData} {r : List Sl} : (slOf own d :: r)[0]? = some (slOf own d) := rfl
theorem pairs_test {ws : List Wd} {own : Bool} {s1 s2 s3 s4 s5 : Sl} (h : WsOk ws) : Wp (pairsTest [slOf own (encWs ws), s1, s2, s3, s4, s5]) fun b e => e = [.fz (encWs ws), s1, s2, s3, s4, s5] ∧ b = (match ws with | [] => false | w :: _ => decide (58 ∈ w)) := by
  have hv := a_varS (i := 0) (env := [slOf own (encWs ws), s1, s2, s3, s4, s5]) (own := own) (d := encWs ws) rfl
  have hs := shpWs h
  unfold pairsTest
  cases ws with
  | nil =>
    simp [hv]
    simp [encWs, ne_nilL (show shp (.list []) = true by decide), leSz]
  | cons w ws =>
    simp [hv]
    rw [encWs, ne_nilL hs]
    simp [leSz, encWs, atI, ixN, encS, ls_col, inS]
theorem pairs_body {w : Wd} {ws : List Wd} {acc : List (Int × Int)} {low : Int} {s3 s4 s5 : Sl} (h : WsOk (w :: ws)) (hw : 58 ∈ w) (h0 : 0 ≤ low) (h1 : low ≤ 100) (ha : acc.length ≤ 3) :
    Wp (law_pairs_b1 [.fz (encWs (w :: ws)), .fz (encB acc), .fz (.int low), s3, s4, s5]) fun o e => match bandR w low with
      | none => o = .rt false .none
      | some p => if acc.length = 3 then o = .rt false .none else o = .nx ∧ ∃ t3 t4 t5, e = [.ow (encWs ws), .fz (encB (acc ++ [p])), .fz (.int (p.1 + 1)), t3, t4, t5] := by
  have hf := find_S hw
  have h2 := sl_before hw h.head.2
  have h3 := sl_behind hw h.head.2
  have n1 := law_number_eq (lo := low) (hi := 24) (before_asc h.head.1) h0 (by decide) h1 (by decide)
  have n2 := law_number_eq (lo := 0) (hi := 40) (behind_asc h.head.1) (by decide) (by decide) (by decide) (by decide)
  unfold law_pairs_b1
  unfold bandR
  cases e1 : numR (before w) low 24 with
  | none =>
    rw [e1] at n1
    simp [encWs, atI, ixN, encS, hf, h2, h3, n1, n2, -o_slS, eO_none, iN_none]
  | some a =>
    rw [e1] at n1
    cases e2 : numR (behind w) 0 40 with
    | none =>
      rw [e2] at n2
      simp [encWs, atI, ixN, encS, hf, h2, h3, n1, n2, -o_slS, eO_none, iN_none, eO_some, iN_int]
    | some b =>
      rw [e2] at n2
      by_cases hl : acc.length = 3
      · simp [encWs, atI, ixN, encS, hf, h2, h3, n1, n2, -o_slS, eO_some, iN_int, encB, hl]
      · have hl' : ¬ (acc.length : Int) = 3 := by omega
        have hc : cutL (PyData.str (S w) :: ws.map encS) (some 1) none = ws.map encS := by
          rw [cut_hi (by decide) (by simp; omega)]; rfl
        have hz : acc.length + 1 ≤ sizeLine := leSz (by omega)
        simp [encWs, atI, ixN, encS, hf, h2, h3, n1, n2, -o_slS, eO_some, iN_int, encB, hl, hl', leSz, hc, hz, encP]
def pairsD (o : Option (List (Int × Int) × List Wd)) : PyData := match o with
  | none => .none
  | some (l, rest) => .tuple [encB l, encWs rest]
theorem pairs_loop : ∀ (ws : List Wd) {N : Nat} {own : Bool} {acc : List (Int × Int)} {low : Int} {s3 s4 s5 : Sl} {Q : Out → Ev → Prop}, ws.length < N → WsOk ws → 0 ≤ low → low ≤ 100 → acc.length ≤ 3 →
    (match pairsGo ws acc low with
      | none => ∀ e, Q (.rt false .none) e
      | some (l, rest) => ∀ t2 t3 t4 t5, Q .nx [.fz (encWs rest), .fz (encB l), t2, t3, t4, t5]) → Wp (whL pairsTest law_pairs_b1 N [slOf own (encWs ws), .fz (encB acc), .fz (.int low), s3, s4, s5]) Q
  | ws, 0, _, _, _, _, _, _, _, hN, _, _, _, _, _ => absurd hN (Nat.not_lt_zero _)
  | [], N + 1, own, acc, low, s3, s4, s5, Q, hN, h, h0, h1, ha, hq => by
    unfold whL
    rw [wp_rb]
    refine (pairs_test h).mono ?_
    rintro b e ⟨rfl, rfl⟩
    simp [pairsGo] at hq
    simp
    exact hq _ _ _ _
  | w :: ws, N + 1, own, acc, low, s3, s4, s5, Q, hN, h, h0, h1, ha, hq => by
    unfold whL
    rw [wp_rb]
    refine (pairs_test h).mono ?_
    rintro b e ⟨rfl, rfl⟩
    unfold pairsGo at hq
    by_cases hw : 58 ∈ w
    · rw [if_pos hw] at hq
      simp only [hw, decide_true, if_true, wp_rb]
      refine (pairs_body h hw h0 h1 ha).mono ?_
      intro o e hb
      cases e1 : bandR w low with
      | none =>
        rw [e1] at hb hq
        subst hb
        simpa using hq e
      | some p =>
        rw [e1] at hb hq
        simp only at hb hq
        by_cases hl : acc.length = 3
        · rw [if_pos hl] at hb hq
          subst hb
          simpa using hq e
        · rw [if_neg hl] at hb hq
          obtain ⟨rfl, t3, t4, t5, rfl⟩ := hb
          have hp := (bandR_iff hw h0).mp e1
          exact pairs_loop ws (own := true) (by simp at hN; omega) h.tail (by omega) (by omega) (by simp; omega) hq
    · rw [if_neg hw] at hq
      simp [hw]
      exact hq _ _ _ _
theorem shpB {l : List (Int × Int)} : shp (encB l) = true := by
  have : ZD (l.length + 2) 2 (encB l) := by
    unfold encB
    rw [zd_tup]
    refine ⟨by simp, fun d hd => ?_⟩
    obtain ⟨p, _, rfl⟩ := List.mem_map.mp hd
    unfold encP
    rw [zd_tup]
    refine ⟨by simp, fun d hd => ?_⟩
    simp at hd
    rcases hd with rfl | rfl <;> exact zd_atom.2.2.1 _
  exact this.shp (by omega)
theorem eqT_nil {ds : List PyData} (h : shp (.tuple ds) = true) : eqD (.tuple ds) (.tuple []) = some (false, .bool ds.isEmpty) := by
  have : shp (.tuple []) = true := by decide
  cases ds with
  | nil => simp [eqD, this, PyData.eqv, PyData.eqvAll]
  | cons x xs => simp [eqD, this, h, PyData.eqv, PyData.eqvAll]
theorem law_pairs_eq {ws : List Wd} (h : WsOk ws) : f_law_pairs [encWs ws] = some (.ok (false, pairsD (pairsR ws))) := by
  refine wp_mkFn rfl ?_
  unfold b_law_pairs
  simp [leSz]
  have hl : ws.length < 2 ^ 40 := by have := h.1; omega
  refine pairs_loop ws (own := false) (acc := []) hl h (by decide) (by decide) (by decide) ?_
  unfold pairsR
  cases e : pairsGo ws [] 1 with
  | none =>
    intro e
    simp [pairsD]
  | some p =>
    obtain ⟨l, rest⟩ := p
    simp only
    intro t2 t3 t4 t5
    have hs := eqT_nil (show shp (.tuple (l.map encP)) = true from shpB)
    by_cases hl : l = []
    · subst hl
      simp [encB, leSz, eqT_nil (show shp (.tuple []) = true by decide), pairsD]
    · have hm : (l.map encP).isEmpty = false := by cases l <;> simp at hl ⊢
      rw [hm] at hs
      rw [if_neg hl]
      simp [encB, leSz, hs, pairsD]
end Pu

/-! The law's reader, the whole line. -/
namespace Pu
open PySem PySem.Spec PyProof.Rows L2 DL Sm SX
def afterD (o : Option (Int × List Wd)) : PyData := match o with
  | none => .none
  | some (n, rest) => .tuple [.int n, encWs rest]
theorem at0 {α : Type} {x : α} {xs : List α} : atI (x :: xs) 0 = some x := by
  have : (0 : Int) = ((0 : Nat) : Int) := rfl
  rw [this, atI_nat]; rfl
theorem at1 {α : Type} {x y : α} {xs : List α} : atI (x :: y :: xs) 1 = some y := by
  have : (1 : Int) = ((1 : Nat) : Int) := rfl
  rw [this, atI_nat]; rfl
theorem cutW1 {w : Wd} {ws : List Wd} : cutL ((w :: ws).map encS) (some 1) none = ws.map encS := by
  rw [cut_hi (by decide) (by simp; omega)]; rfl
theorem law_after_eq {ws : List Wd} {k : Wd} {lo hi : Int} (h : WsOk ws) (hk : Asc7 k) (h0 : 0 ≤ lo) (h1 : hi < 1000) (h2 : lo ≤ 100) (h3 : 0 ≤ hi) : f_law_after [encWs ws, .str (S k), .int lo, .int hi] = some (.ok (false, afterD (afterR ws k lo hi))) := by
  refine wp_mkFn rfl ?_
  unfold b_law_after
  match ws, h with
  | [], _ => simp [encWs, afterR, afterD]
  | [w], _ => simp [encWs, afterR, afterD]
  | w :: n :: rest, h =>
    have hl : ¬ ((rest.length : Int) + 1 + 1 < 2) := by omega
    have hn := law_number_eq (lo := lo) (hi := hi) h.tail.head.1 h0 h1 h2 h3
    by_cases hw : w = k
    · subst hw
      cases e : numR n lo hi with
      | none =>
        rw [e] at hn
        simp [encWs, afterR, afterD, hl, encS, neS h.head.1 h.head.1, hn, e, eO_none, iN_none, at0, at1]
      | some v =>
        rw [e] at hn
        have hc : cutL (PyData.str (S w) :: PyData.str (S n) :: rest.map encS) (some 2) none = rest.map encS := by
          rw [cut_hi (by decide) (by simp; omega)]; rfl
        simp [encWs, afterR, afterD, hl, encS, neS h.head.1 h.head.1, hn, e, eO_some, iN_int, at0, at1, leSz, hc]
    · simp [encWs, afterR, afterD, hl, encS, neS h.head.1 hk, hw, at0, at1]
@[simp] theorem a_subNm {i : Nat} {n : Int} {j : Nat} {f : EM} {env : Ev} : sSubNm i n j f env = rb (f env) fun od e => match od.2 with
  | .tuple [a, b] => (match slList e[i]? with
    | some ds => (match ixN ds.length n with
      | some k => if i ≠ j then rok .nx ((e.set i (reSl e[i]? (ds.set k a))).set j (.fz b)) else none
      | none => none)
    | none => none)
  | _ => none := rfl
theorem WsOk.joinR {ws : List Wd} (h : WsOk ws) : WsOk (joinR ws).2 := by
  cases ws with
  | nil => exact h
  | cons w ws =>
    by_cases hw : w = kJoin
    · simp only [Pu.joinR, hw, if_true]; exact h.tail
    · simp only [Pu.joinR, hw, if_false]; exact h
theorem kLeast_asc : Asc7 kLeast := by intro c hc; revert c; decide
theorem lr_body {ws : List Wd} {k : Wd} {lo hi : Int} {s0 s2 s3 s5 : Sl} {x : PyData} {j : Bool} {nums : List PyData} (h : WsOk ws) (hk : Asc7 k) (h0 : 0 ≤ lo) (h1 : hi < 1000) (h2 : lo ≤ 100) (h3 : 0 ≤ hi) (hn : nums.length ≤ 10) :
    Wp (law_read_b1 [s0, .fz (encWs ws), s2, s3, .ow (.list [x, .bool j]), s5, .ow (.list nums), .fz (.str (S k)), .fz (.int lo), .fz (.int hi)]) fun o e =>
      match afterR (if k = kLeast then (joinR ws).2 else ws) k lo hi with
      | none => o = .rt false .none
      | some (n, rest) => o = .nx ∧ ∃ t5, e = [s0, .fz (encWs rest), s2, s3, .ow (.list [x, .bool (if k = kLeast then j || (joinR ws).1 else j)]), t5, .ow (.list (nums ++ [.int n])), .fz (.str (S k)), .fz (.int lo), .fz (.int hi)] := by
  have hz : nums.length < sizeLine := ltSz (by omega)
  have fin : ∀ (ws' : List Wd) (j' : Bool), WsOk ws' → Wp ((sSeq (sSet 5 (eCall f_law_after (aCons (eVar 1) (aCons (eVar 7) (aCons (eVar 8) (aCons (eVar 9) aNil))))))
    (sSeq (sIf (tOf (eBin isD (eVar 5) (eC .none))) (sRet (eC .none)) sSkip)
    (sSeq (sApp 6 (eBin ixD (eVar 5) (eC (.int 0))))
    (sSet 1 (eBin ixD (eVar 5) (eC (.int 1))))))) [s0, .fz (encWs ws'), s2, s3, .ow (.list [x, .bool j']), s5, .ow (.list nums), .fz (.str (S k)), .fz (.int lo), .fz (.int hi)]) fun o e =>
      match afterR ws' k lo hi with
      | none => o = .rt false .none
      | some (n, rest) => o = .nx ∧ ∃ t5, e = [s0, .fz (encWs rest), s2, s3, .ow (.list [x, .bool j']), t5, .ow (.list (nums ++ [.int n])), .fz (.str (S k)), .fz (.int lo), .fz (.int hi)] := by
    intro ws' j' h'
    have hf := law_after_eq (k := k) h' hk h0 h1 h2 h3
    cases e : afterR ws' k lo hi with
    | none =>
      rw [e] at hf
      simp [hf, afterD, iN_none]
    | some p =>
      obtain ⟨n, rest⟩ := p
      rw [e] at hf
      simp [hf, afterD, iN_none, isNone, atI, ixN, hz]
  have split : law_read_b1 = sSeq (sIf (tAndM (tOf (eBin eqD (eVar 7) (eC (.str "least")))) (tAndM (tOf (eBin neD (eVar 1) (eLst aNil))) (tOf (eBin eqD (eBin ixD (eVar 1) (eC (.int 0))) (eC (.str "join")))))) (sSubNm 4 1 1 (eTup (aCons (eC (.bool true)) (aCons (eSl (eVar 1) (oAt (eC (.int 1))) oNo) aNil)))) sSkip) (sSeq (sSet 5 (eCall f_law_after (aCons (eVar 1) (aCons (eVar 7) (aCons (eVar 8) (aCons (eVar 9) aNil))))))
    (sSeq (sIf (tOf (eBin isD (eVar 5) (eC .none))) (sRet (eC .none)) sSkip)
    (sSeq (sApp 6 (eBin ixD (eVar 5) (eC (.int 0))))
    (sSet 1 (eBin ixD (eVar 5) (eC (.int 1))))))) := rfl
  rw [split]
  have jn : Asc7 kJoin := by intro c hc; revert c; decide
  refine wp_seq (fun o e => o = .nx ∧ e = [s0, .fz (encWs (if k = kLeast then (joinR ws).2 else ws)), s2, s3, .ow (.list [x, .bool (if k = kLeast then j || (joinR ws).1 else j)]), s5, .ow (.list nums), .fz (.str (S k)), .fz (.int lo), .fz (.int hi)]) ?_ ?_ ?_
  · by_cases hkl : k = kLeast
    · subst hkl
      have hs := ne_nilL (shpWs h)
      cases ws with
      | nil => simp [ls_least, eqS kLeast_asc kLeast_asc, encWs, hs, leSz, joinR, ne_nilL (show shp (.list []) = true by decide)]
      | cons w ws =>
        by_cases hw : w = kJoin
        · subst hw
          have hc := cutW1 (w := kJoin) (ws := ws)
          simp only [List.map_cons, encS, List.isEmpty_cons] at hs hc
          simp [ls_least, ls_join, eqS kLeast_asc kLeast_asc, encWs, hs, leSz, joinR, hc, at0, encS, eqS jn jn, ixN]
        · have hc := cutW1 (w := w) (ws := ws)
          simp only [List.map_cons, encS, List.isEmpty_cons] at hs hc
          simp [ls_least, ls_join, eqS kLeast_asc kLeast_asc, encWs, hs, leSz, joinR, hw, hc, at0, encS, eqS h.head.1 jn, ixN]
    · simp [ls_least, eqS hk kLeast_asc, hkl]
  · rintro e ⟨_, rfl⟩
    refine fin _ _ ?_
    by_cases hkl : k = kLeast
    · rw [if_pos hkl]; exact h.joinR
    · rw [if_neg hkl]; exact h
  · rintro o e hne ⟨rfl, _⟩
    exact absurd rfl hne
end Pu

/-! The law's reader, the whole line: joined. -/
namespace Pu
open PySem PySem.Spec PyProof.Rows L2 DL Sm SX
def encOR (o : Option Rule) : PyData := match o with
  | none => .none
  | some r => r.enc
theorem nAsc : Asc7 kNight ∧ Asc7 kMeal ∧ Asc7 kCap ∧ Asc7 kEnds ∧ Asc7 kA ∧ Asc7 kB := by
  refine ⟨?_, ?_, ?_, ?_, ?_, ?_⟩ <;> (intro c hc; revert c; decide)
theorem afterR_ok {ws rest : List Wd} {k : Wd} {lo hi n : Int} (h : WsOk ws) (e : afterR ws k lo hi = some (n, rest)) : WsOk rest := by
  unfold afterR at e
  split at e
  · split at e
    · split at e
      · cases e; exact h.tail.tail
      · cases e
    · cases e
  · cases e
theorem eqN : kNight ≠ kLeast ∧ kMeal ≠ kLeast ∧ kCap ≠ kLeast := by decide
theorem at2 {α : Type} {x y z : α} {xs : List α} : atI (x :: y :: z :: xs) 2 = some z := by
  have : (2 : Int) = ((2 : Nat) : Int) := rfl
  rw [this, atI_nat]; rfl
theorem at3 {α : Type} {x y z w : α} {xs : List α} : atI (x :: y :: z :: w :: xs) 3 = some w := by
  have : (3 : Int) = ((3 : Nat) : Int) := rfl
  rw [this, atI_nat]; rfl
theorem pure_O {o : Option Int} : pureD (encO o) = true := by cases o <;> rfl
theorem pure_i {i : Int} : pureD (.int i) = true := rfl
theorem pure_b {i : Bool} : pureD (.bool i) = true := rfl
def lrFor : SM := sFor (gTp (gsCons (gNm 7) (gsCons (gNm 8) (gsCons (gNm 9) gsNil)))) (iOf (eTup (aCons (eTup (aCons (eC (.str "night")) (aCons (eC (.int 0)) (aCons (eC (.int 40)) aNil)))) (aCons (eTup (aCons (eC (.str "meal")) (aCons (eC (.int 0)) (aCons (eC (.int 40)) aNil)))) (aCons (eTup (aCons (eC (.str "least")) (aCons (eC (.int 0)) (aCons (eC (.int 24)) aNil)))) (aCons (eTup (aCons (eC (.str "cap")) (aCons (eC (.int 1)) (aCons (eC (.int 400)) aNil)))) aNil)))))) law_read_b1
def lrEnd : SM := sSeq (sIf (tOf (eBin neD (eVar 1) (eLst aNil))) (sRet (eC .none)) sSkip)
    (sRet (eTup (aCons (eTup (aCons (eBin ixD (eVar 2) (eC (.int 0))) (aCons (eBin ixD (eVar 3) (eC (.int 0))) aNil))) (aCons (ePeek (eBin ixD (eVar 4) (eC (.int 0)))) (aCons (ePeek (eBin ixD (eVar 6) (eC (.int 0)))) (aCons (ePeek (eBin ixD (eVar 6) (eC (.int 1)))) (aCons (ePeek (eBin ixD (eVar 4) (eC (.int 1)))) (aCons (ePeek (eBin ixD (eVar 6) (eC (.int 2)))) (aCons (ePeek (eBin ixD (eVar 6) (eC (.int 3)))) aNil)))))))))
theorem lr_tail {b1 b2 : List (Int × Int)} {e : Option Int} {ws : List Wd} {s0 s5 : Sl} {d1 d2 : PyData} (h : WsOk ws) :
    Wp (sSeq lrFor lrEnd [s0, .fz (encWs ws), .fz (.tuple [encB b1, d1]), .fz (.tuple [encB b2, d2]), .ow (.list [encO e, .bool false]), s5, .ow (.list []), .no, .no, .no]) fun o _ => o = .rt false (encOR (nightR b1 b2 e ws)) := by
  obtain ⟨a1, a2, a3, a4, a5, a6⟩ := nAsc
  obtain ⟨q1, q2, q3⟩ := eqN
  unfold lrFor
  simp only [a_sSeq, a_sFor, wp_rb]
  simp [leSz, ls_night, ls_meal, ls_least, ls_cap, -a_sSeq]
  rw [wp_forL_cons]
  simp only [a_gTp, a_gsCons, a_gsNil, a_gNm]
  refine (lr_body h a1 (by decide) (by decide) (by decide) (by decide) (by simp)).mono ?_
  intro o e1 hb
  rw [if_neg q1] at hb
  unfold nightR
  cases r1 : afterR ws kNight 0 40 with
  | none => rw [r1] at hb; subst hb; simp [encOR]
  | some p =>
    obtain ⟨n, ws1⟩ := p
    rw [r1] at hb
    obtain ⟨rfl, t5, rfl⟩ := hb
    have h1 := afterR_ok h r1
    simp only
    rw [wp_forL_cons]
    simp [-a_sSeq, if_neg q1]
    refine (lr_body h1 a2 (by decide) (by decide) (by decide) (by decide) (by simp)).mono ?_
    intro o e2 hb
    rw [if_neg q2] at hb
    unfold mealR
    cases r2 : afterR ws1 kMeal 0 40 with
    | none => rw [r2] at hb; subst hb; simp [encOR]
    | some p =>
      obtain ⟨m, ws2⟩ := p
      rw [r2] at hb
      obtain ⟨rfl, t5, rfl⟩ := hb
      have h2 := afterR_ok h1 r2
      simp only
      rw [wp_forL_cons]
      simp [-a_sSeq, if_neg q2]
      refine (lr_body h2 kLeast_asc (by decide) (by decide) (by decide) (by decide) (by simp)).mono ?_
      intro o e3 hb
      rw [if_pos rfl] at hb
      unfold leastR
      cases r3 : afterR (joinR ws2).2 kLeast 0 24 with
      | none => rw [r3] at hb; subst hb; simp [encOR]
      | some p =>
        obtain ⟨l, ws3⟩ := p
        rw [r3] at hb
        obtain ⟨rfl, t5, rfl⟩ := hb
        have h3 := afterR_ok h2.joinR r3
        simp only
        rw [wp_forL_cons]
        simp [-a_sSeq]
        refine (lr_body h3 a3 (by decide) (by decide) (by decide) (by decide) (by simp)).mono ?_
        intro o e4 hb
        rw [if_neg q3] at hb
        unfold capR
        cases r4 : afterR ws3 kCap 1 400 with
        | none => rw [r4] at hb; subst hb; simp [encOR]
        | some p =>
          obtain ⟨c, ws4⟩ := p
          rw [r4] at hb
          obtain ⟨rfl, t5, rfl⟩ := hb
          have h4 := afterR_ok h3 r4
          simp only
          simp [-a_sSeq, if_neg q3]
          unfold lrEnd
          have hs := ne_nilL (shpWs h4)
          by_cases hw : ws4 = []
          · subst hw
            simp [encWs, ne_nilL (show shp (.list []) = true by decide), leSz, thaw_ow, thaw_fz, pure_O, pure_i, pure_b, at0, at1, at2, at3, encOR, Rule.enc]
          · have hm : (ws4.map encS).isEmpty = false := by cases ws4 <;> simp at hw ⊢
            rw [hm] at hs
            simp [encWs, hs, leSz, hw, encOR]
theorem lr_ends {b1 b2 : List (Int × Int)} {ws : List Wd} {s0 s5 : Sl} {d1 d2 : PyData} (h : WsOk ws) :
    Wp (sSeq (sIf (tAndM (tOf (eBin neD (eVar 1) (eLst aNil))) (tOf (eBin eqD (eBin ixD (eVar 1) (eC (.int 0))) (eC (.str "ends"))))) (sSeq (sSet 5 (eCall f_law_after (aCons (eVar 1) (aCons (eC (.str "ends")) (aCons (eC (.int 0)) (aCons (eC (.int 40)) aNil))))))
    (sSeq (sIf (tOf (eBin isD (eVar 5) (eC .none))) (sRet (eC .none)) sSkip)
    (sSubNm 4 0 1 (eVar 5)))) sSkip)
    (sSeq (sSet 6 (eLst aNil)) (sSeq lrFor lrEnd)) [s0, .fz (encWs ws), .fz (.tuple [encB b1, d1]), .fz (.tuple [encB b2, d2]), .ow (.list [.none, .bool false]), s5, .no, .no, .no, .no]) fun o _ => o = .rt false (encOR (endsR b1 b2 ws)) := by
  obtain ⟨a1, a2, a3, a4, a5, a6⟩ := nAsc
  have hs := ne_nilL (shpWs h)
  refine wp_seq (fun o e => (o = .rt false .none ∧ endsR b1 b2 ws = none) ∨ (o = .nx ∧ ∃ en ws' t5, WsOk ws' ∧ e = [s0, .fz (encWs ws'), .fz (.tuple [encB b1, d1]), .fz (.tuple [encB b2, d2]), .ow (.list [encO en, .bool false]), t5, .no, .no, .no, .no] ∧ endsR b1 b2 ws = nightR b1 b2 en ws')) ?_ ?_ ?_
  · cases ws with
    | nil =>
      simp [encWs, ne_nilL (show shp (.list []) = true by decide), leSz]
      exact ⟨none, [], ⟨by simp, by simp⟩, by simp [encO], by simp [endsR]⟩
    | cons w ws =>
      simp only [List.map_cons, encS, List.isEmpty_cons] at hs
      by_cases hw : w = kEnds
      · subst hw
        have hf := law_after_eq (k := kEnds) (lo := 0) (hi := 40) h a4 (by decide) (by decide) (by decide) (by decide)
        unfold endsR
        cases r : afterR (kEnds :: ws) kEnds 0 40 with
        | none =>
          rw [r] at hf
          simp only [encWs, List.map_cons, encS] at hf
          simp [encWs, hs, leSz, at0, encS, ls_ends, eqS a4 a4, hf, afterD, iN_none]
        | some p =>
          obtain ⟨n, rest⟩ := p
          rw [r] at hf
          simp only [encWs, List.map_cons, encS] at hf
          simp [encWs, hs, leSz, at0, encS, ls_ends, eqS a4 a4, hf, afterD, isNone, ixN]
          refine ⟨some n, rest, afterR_ok h r, ?_, rfl⟩
          simp [encO, encWs]
      · simp [encWs, hs, leSz, at0, encS, ls_ends, eqS h.head.1 a4, hw]
        refine ⟨none, w :: ws, h, ?_, by simp [endsR, hw]⟩
        simp [encO, encS]
  · rintro e (⟨z, _⟩ | ⟨_, en, ws', t5, h', rfl, r⟩)
    · cases z
    · rw [r, a_sSeq]
      simp [leSz, -a_sSeq]
      exact lr_tail h'
  · rintro o e hne (⟨rfl, r⟩ | ⟨rfl, _⟩)
    · rw [r]; rfl
    · exact absurd rfl hne
def lrRest : SM := sSeq (sIf (tAndM (tOf (eBin neD (eVar 1) (eLst aNil))) (tOf (eBin eqD (eBin ixD (eVar 1) (eC (.int 0))) (eC (.str "ends"))))) (sSeq (sSet 5 (eCall f_law_after (aCons (eVar 1) (aCons (eC (.str "ends")) (aCons (eC (.int 0)) (aCons (eC (.int 40)) aNil))))))
    (sSeq (sIf (tOf (eBin isD (eVar 5) (eC .none))) (sRet (eC .none)) sSkip)
    (sSubNm 4 0 1 (eVar 5)))) sSkip)
    (sSeq (sSet 6 (eLst aNil)) (sSeq lrFor lrEnd))
theorem lr_rest {b1 b2 : List (Int × Int)} {ws : List Wd} {s0 s5 : Sl} {d1 d2 : PyData} (h : WsOk ws) :
    Wp (lrRest [s0, .fz (encWs ws), .fz (.tuple [encB b1, d1]), .fz (.tuple [encB b2, d2]), .ow (.list [.none, .bool false]), s5, .no, .no, .no, .no]) fun o _ => o = .rt false (encOR (endsR b1 b2 ws)) := lr_ends h
theorem read_split : b_law_read = sSeq (sSet 1 (eM1 splitD (eVar 0) (eC (.str " "))))
    (sSeq (sSet 2 (eIf (tOf (eBin eqD (eBin ixD (eVar 1) (eC (.int 0))) (eC (.str "a")))) (eCall f_law_pairs (aCons (eSl (eVar 1) (oAt (eC (.int 1))) oNo) aNil)) (eC .none)))
    (sSeq (sIf (tOrM (tOf (eBin isD (eVar 2) (eC .none))) (tOrM (tOf (eBin eqD (eBin ixD (eVar 2) (eC (.int 1))) (eLst aNil))) (tOf (eBin neD (eBin ixD (eBin ixD (eVar 2) (eC (.int 1))) (eC (.int 0))) (eC (.str "b")))))) (sRet (eC .none)) sSkip)
    (sSeq (sSet 3 (eCall f_law_pairs (aCons (eSl (eBin ixD (eVar 2) (eC (.int 1))) (oAt (eC (.int 1))) oNo) aNil)))
    (sSeq (sIf (tOf (eBin isD (eVar 3) (eC .none))) (sRet (eC .none)) sSkip)
    (sSeq (sPar2 1 4 (eBin ixD (eVar 3) (eC (.int 1))) (eLst (aCons (eC .none) (aCons (eC (.bool false)) aNil)))) lrRest))))) := rfl
theorem cut_ok {c : Nat} {l : List Nat} (h : Asc7 l) (hl : l.length ≤ 900000) : WsOk (cutAt c l) := by
  have := cut_len (c := c) (l := l)
  exact ⟨by omega, fun w hw => ⟨cut_asc h hw, by have := cut_part hw; omega⟩⟩
theorem pairsR_ok {ws rest : List Wd} {l : List (Int × Int)} (h : WsOk ws) (e : pairsR ws = some (l, rest)) : WsOk rest := by
  obtain ⟨_, rfl, _⟩ := pairsR_iff.mp e
  exact ⟨by have := h.1; simp at this; omega, fun w hw => h.2 w (List.mem_append_right _ hw)⟩
theorem law_read_eq {l : List Nat} (h : Asc7 l) (hl : l.length ≤ 900000) : f_law_read [.str (S l)] = some (.ok (false, encOR (readW (cutAt 32 l)))) := by
  obtain ⟨a1, a2, a3, a4, a5, a6⟩ := nAsc
  refine wp_mkFn rfl ?_
  rw [read_split]
  have hsp := splitD_S (c := 32) (l := l) (by decide) (by omega)
  rw [← ls_sp] at hsp
  have hw := cut_ok (c := 32) h hl
  have hne := cut_ne (c := 32) (l := l)
  generalize cutAt 32 l = ws at hsp hw hne
  cases ws with
  | nil => exact absurd rfl hne
  | cons w ws =>
    have hc := cutW1 (w := w) (ws := ws)
    simp only [List.map_cons, encS] at hsp hc
    by_cases hwa : w = kA
    · subst hwa
      have hp := law_pairs_eq hw.tail
      unfold readW
      simp only [if_true]
      cases r : pairsR ws with
      | none =>
        rw [r] at hp
        simp only [encWs] at hp
        simp [hsp, at0, ls_kA, eqS a5 a5, hc, hp, pairsD, isNone, encOR]
      | some p =>
        obtain ⟨b1, rest⟩ := p
        rw [r] at hp
        simp only [encWs] at hp
        have hr := pairsR_ok hw.tail r
        have hs := eqL_nil (shpWs hr)
        cases rest with
        | nil =>
          simp [hsp, at0, at1, ls_kA, eqS a5 a5, hc, hp, pairsD, isNone, encOR, encWs, leSz, eqL_nil (show shp (.list []) = true by decide)]
        | cons w1 ws1 =>
          have hc1 := cutW1 (w := w1) (ws := ws1)
          simp only [List.map_cons, encS, List.isEmpty_cons] at hs hc1
          by_cases hwb : w1 = kB
          · subst hwb
            have hp2 := law_pairs_eq hr.tail
            unfold readB
            cases r2 : pairsR ws1 with
            | none =>
              rw [r2] at hp2
              simp only [encWs] at hp2
              simp [hsp, at0, at1, ls_kA, ls_kB, eqS a5 a5, neS a6 a6, hc, hp, pairsD, isNone, encOR, encWs, leSz, hs, encS, hc1, hp2, r2]
            | some p2 =>
              obtain ⟨b2, ws2⟩ := p2
              rw [r2] at hp2
              simp only [encWs] at hp2
              have hr2 := pairsR_ok hr.tail r2
              simp [hsp, at0, at1, ls_kA, ls_kB, eqS a5 a5, neS a6 a6, hc, hp, pairsD, isNone, encOR, encWs, leSz, hs, encS, hc1, hp2, r2]
              rw [r2]
              exact lr_rest hr2
          · simp [hsp, at0, at1, ls_kA, ls_kB, eqS a5 a5, neS hr.head.1 a6, hwb, hc, hp, pairsD, isNone, encOR, encWs, leSz, hs, encS]
    · unfold readW
      simp [hsp, at0, ls_kA, eqS hw.head.1 a5, hwa, isNone, encOR]
end Pu

/-! The program's reader: its parts. -/
namespace Pu
open PySem PySem.Spec PyProof.Rows L2 DL Sm SX
def bandI (w : Wd) : PyData := .tuple ((cutAt 58 w).map fun p => encO (numIn p))
theorem bands_in_eq {ws : List Wd} (h : WsOk ws) (hl : ∀ w ∈ ws, w.length ≤ 900000) : f_bands_in [encWs ws] = some (.ok (false, .tuple (ws.map bandI))) := by
  refine wp_mkFn rfl ?_
  unfold b_bands_in
  simp [leSz, encWs]
  refine wp_forL (fun rest env => ∃ (pre post : List Wd) (s2 s3 : Sl), ws = pre ++ post ∧ rest = post.map encS ∧ env = [.fz (encWs ws), .fz (.tuple (pre.map bandI)), s2, s3, .no]) ?_ ?_ _ _ ⟨[], ws, _, _, rfl, rfl, rfl⟩
  · rintro d rest env ⟨pre, post, s2, s3, hw, hr, rfl⟩
    cases post with
    | nil => cases hr
    | cons w post =>
      rw [List.map_cons] at hr
      cases hr
      refine ⟨_, rfl, ?_⟩
      have hwm : w ∈ ws := by rw [hw]; simp
      have hwo := h.2 w hwm
      have hsp := splitD_S (c := 58) (l := w) (by decide) hwo.2
      rw [← ls_col] at hsp
      have hcl := cut_len (c := 58) (l := w)
      have hpl : pre.length + 1 ≤ 1000000 := by
        have := h.1
        rw [hw] at this
        simp at this
        omega
      have hz := leSz hpl
      unfold bands_in_b2
      simp [encS, hsp, noOwn]
      refine wp_lcMap (fun _ => true) (fun d => match d with | .str x => encO (numIn x.cps.toList) | _ => .none) ?_ ?_ ?_
      · rw [List.length_nil, Nat.zero_add, List.length_map]
        have := hl w hwm
        exact leSz (by omega)
      · intro d hd
        obtain ⟨p, hp, rfl⟩ := List.mem_map.mp hd
        refine ⟨_, rfl, ?_⟩
        have hn := number_in_eq (cut_asc hwo.1 hp) (Nat.le_trans (cut_part hp) hwo.2)
        simp [bands_in_e1, encS, hn]
      · rw [List.filter_eq_self.mpr (fun _ _ => rfl), List.nil_append, List.map_map]
        simp [leSz]
        refine ⟨hz, pre ++ [w], post, by simp [hw], rfl, ?_⟩
        simp [bandI, Function.comp_def, encS]
  · rintro env ⟨pre, post, s2, s3, hw, hr, rfl⟩
    have : post = [] := by simpa using hr.symm
    subst this
    simp at hw
    subst hw
    simp
theorem bandI_W {p : Int × Int} (h1 : 0 ≤ p.1) (h2 : p.1 < 1000) (h3 : 0 ≤ p.2) (h4 : p.2 < 1000) : bandI (bandW p) = encP p := by
  have e : bandW p = TL.joinL [58] [nw p.1, nw p.2] := rfl
  unfold bandI
  rw [e, join_cut (by simp) (by
    intro q hq
    simp only [List.mem_cons, List.not_mem_nil, or_false] at hq
    rcases hq with rfl | rfl <;> exact nw_free (by omega))]
  simp [numIn_iff.mpr ⟨h1, h2, rfl⟩, numIn_iff.mpr ⟨h3, h4, rfl⟩, encO, encP]
theorem bandI_map {b : List (Int × Int)} (hb : BOk b) : (b.map bandW).map bandI = b.map encP := by
  rw [List.map_map]
  refine List.map_congr_left fun p hp => ?_
  obtain ⟨h1, h2, h3, h4⟩ := asc_mem (by decide) hb.2.2 hp
  exact bandI_W h1 (by omega) h3 (by omega)
/-! ### places -/
theorem sIdx_S {ws : List Wd} {k : Wd} : sIdx (ws.map encS) (S k) = ws.findIdx? fun w => decide (w = k) := by
  unfold sIdx
  rw [strsD_S]
  simp only [Option.bind_some]
  rw [List.findIdx?_map]
  congr 1
  funext w
  by_cases h : w = k
  · simp [h]
  · have : ¬ S w = S k := fun z => h (S_inj z)
    simp [h, this]
theorem idx_app {P r : List Wd} {k : Wd} (h : ∀ x ∈ P, x ≠ k) : (P ++ k :: r).findIdx? (fun w => decide (w = k)) = some P.length := by
  induction P with
  | nil => simp [List.findIdx?_cons]
  | cons x P ih =>
    have hx : x ≠ k := h x (List.mem_cons_self ..)
    have := ih fun y hy => h y (List.mem_cons_of_mem _ hy)
    rw [List.cons_append, List.findIdx?_cons, this]
    simp [hx]
theorem idx_in {ws : List Wd} {k : Wd} (h : k ∈ ws) : ∃ i, ws.findIdx? (fun w => decide (w = k)) = some i ∧ i < ws.length := by
  cases e : ws.findIdx? (fun w => decide (w = k)) with
  | none =>
    have := List.findIdx?_eq_none_iff.mp e k h
    simp at this
  | some i =>
    obtain ⟨hlt, _⟩ := List.findIdx?_eq_some_iff_getElem.mp e
    exact ⟨i, rfl, hlt⟩
theorem inW {ws : List Wd} {k : Wd} (h : WsOk ws) : inD (.str (S k)) (.list (ws.map encS)) = some (false, .bool (decide (k ∈ ws))) ∧ notInD (.str (S k)) (.list (ws.map encS)) = some (false, .bool (!decide (k ∈ ws))) := by
  have e1 : (ws.map encS).all flatD = true := by
    rw [List.all_eq_true]
    intro d hd
    obtain ⟨w, _, rfl⟩ := List.mem_map.mp hd
    rfl
  have e2 : ((ws.map encS).any fun d => PyData.eqv d (.str (S k))) = decide (k ∈ ws) := by
    rw [Bool.eq_iff_iff, List.any_eq_true]
    simp only [List.mem_map, decide_eq_true_eq]
    constructor
    · rintro ⟨_, ⟨w, hw, rfl⟩, e⟩
      unfold encS at e
      rw [str_eqv] at e
      have := S_inj (of_decide_eq_true e)
      rw [← this]; exact hw
    · intro hk
      refine ⟨_, ⟨k, hk, rfl⟩, ?_⟩
      unfold encS
      rw [str_eqv]
      simp
  unfold inD notInD
  simp [flatD, e1, e2, bD]
/-- the word at a place -/
def wAt (ws : List Wd) (i : Int) : Wd := (atI ws i).getD []
theorem ixN_len {α β : Type} {f : α → β} {l : List α} {i : Int} : ixN (l.map f).length i = ixN l.length i := by rw [List.length_map]
theorem at_map {α β : Type} {f : α → β} {l : List α} {i : Int} : atI (l.map f) i = (atI l i).map f := by
  unfold atI
  rw [ixN_len]
  cases ixN l.length i with
  | none => rfl
  | some j => simp
theorem at_in {α : Type} {l : List α} {i : Int} (h0 : -(l.length : Int) ≤ i) (h1 : i < l.length) : ∃ x, atI l i = some x ∧ x ∈ l := by
  unfold atI ixN
  by_cases h : 0 ≤ i
  · rw [if_pos h, if_pos h1]
    have h2 : i.toNat < l.length := by omega
    exact ⟨l[i.toNat], List.getElem?_eq_getElem h2, List.getElem_mem h2⟩
  · rw [if_neg h, if_pos (by omega)]
    have h2 : (i + (l.length : Int)).toNat < l.length := by omega
    exact ⟨l[(i + (l.length : Int)).toNat], List.getElem?_eq_getElem h2, List.getElem_mem h2⟩
theorem wAt_in {ws : List Wd} {i : Int} (h0 : -(ws.length : Int) ≤ i) (h1 : i < ws.length) : atI (ws.map encS) i = some (encS (wAt ws i)) ∧ wAt ws i ∈ ws := by
  obtain ⟨x, e, hx⟩ := at_in h0 h1
  unfold wAt
  rw [at_map, e]
  exact ⟨rfl, hx⟩
theorem wAt_nat {ws : List Wd} {i : Nat} {w : Wd} (h : ws[i]? = some w) : wAt ws (i : Int) = w := by
  unfold wAt
  rw [atI_nat, h]; rfl
theorem wAt_neg {ws : List Wd} {k : Nat} {w : Wd} (h : 0 < k) (hk : k ≤ ws.length) (e : ws[ws.length - k]? = some w) : wAt ws (-(k : Int)) = w := by
  unfold wAt atI ixN
  rw [if_neg (by omega), if_pos (by omega)]
  have : (-(k : Int) + (ws.length : Int)).toNat = ws.length - k := by omega
  rw [this, Option.bind_some, e]; rfl
end Pu

/-! The program's reader: what stands where in a rule's words. -/
namespace Pu
open PySem PySem.Spec PyProof.Rows L2 DL Sm SX
theorem cutL_map {α β : Type} {f : α → β} {xs : List α} {lo hi : Option Int} : cutL (xs.map f) lo hi = (cutL xs lo hi).map f := by
  unfold cutL
  rw [List.length_map, List.map_take, List.map_drop]
theorem cutL_sub {α : Type} {xs : List α} {lo hi : Option Int} {x : α} (h : x ∈ cutL xs lo hi) : x ∈ xs := List.mem_of_mem_drop (List.mem_of_mem_take h)
theorem cutL_len {α : Type} {xs : List α} {lo hi : Option Int} : (cutL xs lo hi).length ≤ xs.length := by
  unfold cutL
  simp
  omega
theorem cutL_ok {ws : List Wd} {lo hi : Option Int} (h : WsOk ws) : WsOk (cutL ws lo hi) := ⟨Nat.le_trans cutL_len h.1, fun w hw => h.2 w (cutL_sub hw)⟩
theorem cutL_mid {α : Type} {xs : List α} {a b : Nat} (h1 : a ≤ b) (h2 : b ≤ xs.length) : cutL xs (some (a : Int)) (some (b : Int)) = (xs.drop a).take (b - a) := by
  unfold cutL
  have e1 : HT.sIx xs.length 0 (some (a : Int)) = a := by
    have : ¬ (a : Int) < 0 := by omega
    simp [HT.sIx, this]; omega
  have e2 : HT.sIx xs.length xs.length (some (b : Int)) = b := by
    have : ¬ (b : Int) < 0 := by omega
    simp [HT.sIx, this]; omega
  rw [e1, e2]
def progR (ws : List Wd) (iB iN : Nat) : PyData :=
  .tuple [.tuple [.tuple ((cutL ws (some 1) (some (iB : Int))).map bandI), .tuple ((cutL ws (some ((iB : Int) + 1)) (some (if wAt ws ((iN : Int) - 2) = kEnds then (iN : Int) - 2 else (iN : Int)))).map bandI)],
    if wAt ws ((iN : Int) - 2) = kEnds then encO (numIn (wAt ws ((iN : Int) - 1))) else .none,
    encO (numIn (wAt ws ((iN : Int) + 1))), encO (numIn (wAt ws ((iN : Int) + 3))), .bool (decide (wAt ws (-5) = kJoin)), encO (numIn (wAt ws (-3))), encO (numIn (wAt ws (-1)))]
structure Facts (r : Rule) (ws : List Wd) (iB iN : Nat) : Prop where
  len : 12 ≤ ws.length
  a : wAt ws 0 = kA
  b : ws.findIdx? (fun w => decide (w = kB)) = some iB
  n : ws.findIdx? (fun w => decide (w = kNight)) = some iN
  tot : (ws.length : Int) = iN + 8 + (if wAt ws (-5) = kJoin then 1 else 0)
  enc : progR ws iB iN = r.enc
theorem bw_ne {p : Int × Int} {k : Wd} (h : 58 ∉ k) : bandW p ≠ k := fun e => h (e ▸ bandW_mem p)
theorem nw_ne_k {i : Int} {k : Wd} {c : Nat} (hc : c ∈ k) (h : c < 48 ∨ 57 < c) : nw i ≠ k := fun e => nw_free h (e ▸ hc)
theorem facts (r : Rule) (hr : r.Ok) : ∃ iB iN, Facts r r.words iB iN := by
  obtain ⟨b1l, b1u, b1a⟩ := hr.b1
  obtain ⟨b2l, b2u, b2a⟩ := hr.b2
  have hE : (endsW r.ends).length = 0 ∨ (endsW r.ends).length = 2 := by cases r.ends <;> simp [endsW]
  have hA : ∀ x ∈ kA :: r.b1.map bandW, x ≠ kB := fun x hx => by
    rcases List.mem_cons.mp hx with rfl | hx
    · decide
    · obtain ⟨p, _, rfl⟩ := List.mem_map.mp hx
      exact bw_ne (by decide)
  have e1 : r.words = (kA :: r.b1.map bandW) ++ kB :: (r.b2.map bandW ++ (endsW r.ends ++ tailW r.night r.meal r.join r.least r.cap)) := by simp [Rule.words]
  have e2 : r.words = ((kA :: r.b1.map bandW) ++ kB :: (r.b2.map bandW ++ endsW r.ends)) ++ kNight :: (nw r.night :: kMeal :: nw r.meal :: (joinW r.join ++ [kLeast, nw r.least, kCap, nw r.cap])) := by simp [Rule.words, tailW]
  have hP : ∀ x ∈ (kA :: r.b1.map bandW) ++ kB :: (r.b2.map bandW ++ endsW r.ends), x ≠ kNight := fun x hx => by
    rcases List.mem_append.mp hx with hx | hx
    · rcases List.mem_cons.mp hx with rfl | hx
      · decide
      · obtain ⟨p, _, rfl⟩ := List.mem_map.mp hx
        exact bw_ne (by decide)
    · rcases List.mem_cons.mp hx with rfl | hx
      · decide
      · rcases List.mem_append.mp hx with hx | hx
        · obtain ⟨p, _, rfl⟩ := List.mem_map.mp hx
          exact bw_ne (by decide)
        · cases e : r.ends with
          | none => rw [e] at hx; cases hx
          | some i =>
            rw [e] at hx
            simp only [endsW, List.mem_cons, List.not_mem_nil, or_false] at hx
            rcases hx with rfl | rfl
            · decide
            · exact nw_ne_k (c := 110) (by decide) (by omega)
  have hiB := idx_app (r := r.b2.map bandW ++ (endsW r.ends ++ tailW r.night r.meal r.join r.least r.cap)) hA
  rw [← e1] at hiB
  have hiN := idx_app (r := nw r.night :: kMeal :: nw r.meal :: (joinW r.join ++ [kLeast, nw r.least, kCap, nw r.cap])) hP
  rw [← e2] at hiN
  generalize hPP : (kA :: r.b1.map bandW) ++ kB :: (r.b2.map bandW ++ endsW r.ends) = P at *
  have hPl : P.length = r.b1.length + r.b2.length + (endsW r.ends).length + 2 := by
    rw [← hPP]; simp; omega
  have hlen : r.words.length = P.length + 8 + (if r.join = true then 1 else 0) := by
    rw [e2]
    cases r.join <;> simp [joinW]
  have hat : ∀ (i : Nat) (w : Wd), (kNight :: (nw r.night :: kMeal :: nw r.meal :: (joinW r.join ++ [kLeast, nw r.least, kCap, nw r.cap])))[i]? = some w → wAt r.words ((P.length : Int) + (i : Int)) = w := fun i w h => by
    have : r.words[P.length + i]? = some w := by
      rw [e2, List.getElem?_append_right (by omega)]
      have : P.length + i - P.length = i := by omega
      rw [this]; exact h
    have := wAt_nat this
    rw [← this]
    congr 1
  have hng : ∀ (k i : Nat) (w : Wd), 0 < k → i + k = 8 + (if r.join = true then 1 else 0) → (kNight :: (nw r.night :: kMeal :: nw r.meal :: (joinW r.join ++ [kLeast, nw r.least, kCap, nw r.cap])))[i]? = some w → wAt r.words (-(k : Int)) = w := fun k i w h0 hk h => by
    refine wAt_neg h0 (by omega) ?_
    have e : r.words.length - k = P.length + i := by omega
    rw [e, e2, List.getElem?_append_right (by omega)]
    have : P.length + i - P.length = i := by omega
    rw [this]; exact h
  have j5 : (wAt r.words (-5) = kJoin) ↔ r.join = true := by
    cases j : r.join
    · have := hng 5 3 (nw r.meal) (by decide) (by simp [j]) (by simp [j])
      rw [show wAt r.words (-5) = nw r.meal from this]
      simp
      exact nw_ne_k (c := 106) (by decide) (by omega)
    · have := hng 5 4 kJoin (by decide) (by simp [j]) (by simp [j, joinW])
      rw [show wAt r.words (-5) = kJoin from this]
      simp
  have hI : ∀ (w : Wd), P[P.length - 2]? = some w → wAt r.words ((P.length : Int) - 2) = w := fun w h => by
    have : r.words[P.length - 2]? = some w := by
      rw [e2, List.getElem?_append_left (by omega)]; exact h
    have := wAt_nat this
    rw [← this]
    congr 1
    omega
  have hE2 : (wAt r.words ((P.length : Int) - 2) = kEnds) ↔ r.ends.isSome = true := by
    cases e : r.ends with
    | none =>
      obtain ⟨w, hw, hm⟩ : ∃ w, P[P.length - 2]? = some w ∧ w ∈ P := ⟨_, List.getElem?_eq_getElem (by omega), List.getElem_mem _⟩
      rw [hI w hw]
      simp
      rw [← hPP, e] at hm
      simp only [endsW, List.append_nil] at hm
      rcases List.mem_append.mp hm with hx | hx
      · rcases List.mem_cons.mp hx with rfl | hx
        · decide
        · obtain ⟨p, _, rfl⟩ := List.mem_map.mp hx
          exact bw_ne (by decide)
      · rcases List.mem_cons.mp hx with rfl | hx
        · decide
        · obtain ⟨p, _, rfl⟩ := List.mem_map.mp hx
          exact bw_ne (by decide)
    | some i =>
      rw [hI kEnds ?_]
      · simp
      · rw [← hPP, e]
        have : (kA :: r.b1.map bandW ++ kB :: (r.b2.map bandW ++ endsW (some i))) = (kA :: r.b1.map bandW ++ kB :: r.b2.map bandW) ++ [kEnds, nw i] := by simp [endsW]
        rw [this]
        generalize (kA :: r.b1.map bandW ++ kB :: r.b2.map bandW) = Z
        rw [List.getElem?_append_right (by simp)]
        simp
  have hE1 : ∀ i, r.ends = some i → wAt r.words ((P.length : Int) - 1) = nw i := fun i e => by
    have : r.words[P.length - 1]? = some (nw i) := by
      rw [e2, List.getElem?_append_left (by omega), ← hPP, e]
      have : (kA :: r.b1.map bandW ++ kB :: (r.b2.map bandW ++ endsW (some i))) = (kA :: r.b1.map bandW ++ kB :: r.b2.map bandW) ++ [kEnds, nw i] := by simp [endsW]
      rw [this]
      generalize (kA :: r.b1.map bandW ++ kB :: r.b2.map bandW) = Z
      rw [List.getElem?_append_right (by simp)]
      simp
    have := wAt_nat this
    rw [← this]
    congr 1
    omega
  have hn1 := hat 1 (nw r.night) rfl
  have hn3 := hat 3 (nw r.meal) rfl
  have hn : ∀ {x : Int}, 0 ≤ x → x < 1000 → numIn (nw x) = some x := fun h0 h1 => numIn_iff.mpr ⟨h0, h1, rfl⟩
  have m3 : wAt r.words (-3) = nw r.least := by
    cases j : r.join
    · exact hng 3 5 _ (by decide) (by simp [j]) (by simp [j, joinW])
    · exact hng 3 6 _ (by decide) (by simp [j]) (by simp [j, joinW])
  have m1 : wAt r.words (-1) = nw r.cap := by
    cases j : r.join
    · exact hng 1 7 _ (by decide) (by simp [j]) (by simp [j, joinW])
    · exact hng 1 8 _ (by decide) (by simp [j]) (by simp [j, joinW])
  have c1 : cutL r.words (some 1) (some (((kA :: r.b1.map bandW).length : Nat) : Int)) = r.b1.map bandW := by
    have := cutL_mid (xs := r.words) (a := 1) (b := (kA :: r.b1.map bandW).length) (by simp) (by rw [hlen, hPl]; simp; omega)
    rw [show ((1 : Nat) : Int) = 1 from rfl] at this
    rw [this, e1]
    simp
  have c2 : cutL r.words (some ((((kA :: r.b1.map bandW).length : Nat) : Int) + 1)) (some (if wAt r.words ((P.length : Int) - 2) = kEnds then (P.length : Int) - 2 else (P.length : Int))) = r.b2.map bandW := by
    have hlast : (if wAt r.words ((P.length : Int) - 2) = kEnds then (P.length : Int) - 2 else (P.length : Int)) = ((r.b1.length + 2 + r.b2.length : Nat) : Int) := by
      cases e : r.ends with
      | none =>
        rw [e] at hE2 hPl
        rw [if_neg (fun z => by simpa using hE2.mp z)]
        simp [endsW] at hPl
        omega
      | some i =>
        rw [e] at hE2 hPl
        rw [if_pos (hE2.mpr rfl)]
        simp [endsW] at hPl
        omega
    have hfirst : ((((kA :: r.b1.map bandW).length : Nat) : Int) + 1) = ((r.b1.length + 2 : Nat) : Int) := by simp; omega
    rw [hlast, hfirst, cutL_mid (by omega) (by omega), e1]
    have e3 : (kA :: r.b1.map bandW ++ kB :: (r.b2.map bandW ++ (endsW r.ends ++ tailW r.night r.meal r.join r.least r.cap))) = (kA :: r.b1.map bandW ++ [kB]) ++ (r.b2.map bandW ++ (endsW r.ends ++ tailW r.night r.meal r.join r.least r.cap)) := by simp
    rw [e3, List.drop_left' (by simp), List.take_left' (by simp)]
  refine ⟨_, _, ⟨by omega, ?_, hiB, hiN, ?_, ?_⟩⟩
  · exact (wAt_nat (ws := r.words) (i := 0) rfl : wAt r.words ((0 : Nat) : Int) = kA)
  · rw [hlen]
    by_cases j : r.join = true
    · rw [if_pos j, if_pos (j5.mpr j)]; omega
    · rw [if_neg j, if_neg (fun z => j (j5.mp z))]; omega
  · unfold progR Rule.enc
    rw [c1, c2, bandI_map hr.b1, bandI_map hr.b2, m3, m1]
    rw [show ((P.length : Int) + 1) = (P.length : Int) + ((1 : Nat) : Int) from rfl, hn1, show ((P.length : Int) + 3) = (P.length : Int) + ((3 : Nat) : Int) from rfl, hn3]
    rw [hn hr.night.1 (by have := hr.night; omega), hn hr.meal.1 (by have := hr.meal; omega), hn hr.least.1 (by have := hr.least; omega), hn (by have := hr.cap; omega) (by have := hr.cap; omega)]
    have hj : decide (wAt r.words (-5) = kJoin) = r.join := by
      rw [Bool.eq_iff_iff, decide_eq_true_eq]; exact j5
    rw [hj]
    have he : (if wAt r.words ((P.length : Int) - 2) = kEnds then encO (numIn (wAt r.words ((P.length : Int) - 1))) else .none) = encO r.ends := by
      cases e : r.ends with
      | none =>
        rw [e] at hE2
        rw [if_neg (fun z => by simpa using hE2.mp z)]; rfl
      | some i =>
        rw [e] at hE2
        have := hr.ends i e
        rw [if_pos (hE2.mpr rfl), hE1 i e, hn this.1 (by omega)]
    rw [he]
    rfl
end Pu

/-! The program's reader: the whole line. -/
namespace Pu
open PySem PySem.Spec PyProof.Rows L2 DL Sm SX
@[simp] theorem a_sIdx {f k : EM} {env : Ev} : eSIdx f k env = rb (f env) fun od e1 => match od.2 with
  | .list _ => rb (k e1) fun ok e2 => match od.2, ok.2 with
    | .list ds, .str x => match sIdx ds x with
      | some j => rok (false, .int (j : Int)) e2
      | none => none
    | _, _ => none
  | _ => none := rfl
theorem readW_none {ws : List Wd} (h : ∀ r : Rule, r.Ok → ws = r.words → False) : readW ws = none := by
  cases e : readW ws with
  | none => rfl
  | some r =>
    obtain ⟨a, b⟩ := readW_iff.mp e
    exact (h r a b).elim
theorem words_asc {r : Rule} : ∀ w ∈ r.words, Asc7 w := by
  have hb : ∀ p : Int × Int, Asc7 (bandW p) := fun p c hc => by
    unfold bandW at hc
    rcases List.mem_append.mp hc with hc | hc
    · exact nw_asc _ c hc
    · rcases List.mem_cons.mp hc with rfl | hc
      · decide
      · exact nw_asc _ c hc
  obtain ⟨a1, a2, a3, a4, a5, a6⟩ := nAsc
  have jn : Asc7 kJoin := by intro c hc; revert c; decide
  intro w hw
  unfold Rule.words tailW at hw
  simp only [List.mem_cons, List.mem_append, List.mem_map, List.not_mem_nil, or_false] at hw
  rcases hw with rfl | ⟨p, _, rfl⟩ | rfl | ⟨p, _, rfl⟩ | hw | rfl | rfl | rfl | rfl | hw | rfl | rfl | rfl | rfl
  case inr.inr.inr.inr.inl =>
    cases e : r.ends with
    | none => rw [e] at hw; cases hw
    | some i =>
      rw [e] at hw
      simp only [endsW, List.mem_cons, List.not_mem_nil, or_false] at hw
      rcases hw with rfl | rfl
      · exact a4
      · exact nw_asc _
  case inr.inr.inr.inr.inr.inr.inr.inr.inr.inl =>
    unfold joinW at hw
    split at hw
    · simp only [List.mem_cons, List.not_mem_nil, or_false] at hw
      subst hw; exact jn
    · cases hw
  all_goals first | assumption | exact hb _ | exact nw_asc _ | exact kLeast_asc
theorem join_asc {c : Nat} (hc : c < 128) : ∀ {ws : List Wd}, (∀ w ∈ ws, Asc7 w) → Asc7 (TL.joinL [c] ws)
  | [], _ => fun x hx => by cases hx
  | [p], h => h p (by simp)
  | p :: q :: r, h => fun x hx => by
    have hx : x ∈ p ++ ([c] ++ TL.joinL [c] (q :: r)) := hx
    rcases List.mem_append.mp hx with hx | hx
    · exact h p (by simp) x hx
    · rcases List.mem_append.mp hx with hx | hx
      · simp at hx; omega
      · exact join_asc hc (fun w hw => h w (List.mem_cons_of_mem _ hw)) x hx
theorem text_asc (r : Rule) : Asc7 r.text := join_asc (by decide) words_asc
theorem nd_O {o : Option Int} : noDict (encO o) = true := by cases o <;> rfl
theorem nd_list {ds : List PyData} (h : ∀ d ∈ ds, noDict d = true) : noDicts ds = true := by
  induction ds with
  | nil => rfl
  | cons d ds ih =>
    unfold noDicts
    rw [h d (List.mem_cons_self ..), ih fun x hx => h x (List.mem_cons_of_mem _ hx)]
    rfl
theorem nd_bandI (w : Wd) : noDict (bandI w) = true := by
  unfold bandI noDict
  refine nd_list fun d hd => ?_
  obtain ⟨p, _, rfl⟩ := List.mem_map.mp hd
  exact nd_O
theorem nd_progR {ws : List Wd} {iB iN : Nat} : noDict (progR ws iB iN) = true := by
  have hb : ∀ l : List Wd, noDict (.tuple (l.map bandI)) = true := fun l => by
    unfold noDict
    refine nd_list fun d hd => ?_
    obtain ⟨w, _, rfl⟩ := List.mem_map.mp hd
    exact nd_bandI w
  unfold progR noDict
  refine nd_list fun d hd => ?_
  simp only [List.mem_cons, List.not_mem_nil, or_false] at hd
  rcases hd with rfl | rfl | rfl | rfl | rfl | rfl | rfl
  · unfold noDict
    refine nd_list fun d hd => ?_
    simp only [List.mem_cons, List.not_mem_nil, or_false] at hd
    rcases hd with rfl | rfl <;> exact hb _
  · split
    · exact nd_O
    · rfl
  all_goals first | exact nd_O | rfl
/-- the last test -/
theorem last_test {l : List Nat} (h : Asc7 l) (hl : l.length ≤ 900000) {ws : List Wd} (hws : ws = cutAt 32 l) {iB iN : Nat} (hf : ∀ r : Rule, r.Ok → ws = r.words → progR ws iB iN = r.enc) {s0 s1 s2 s3 s4 s5 s6 s7 s8 s10 : Sl} (hs0 : s0 = .fz (.str (S l))) :
    Wp (sRet (eIf (tAndM (tOf (eCall f_is_rule_of (aCons (eVar 9) aNil))) (tOf (eBin eqD (eCall f_rule_text (aCons (eVar 9) aNil)) (eVar 0)))) (eVar 9) (eC .none)) [s0, s1, s2, s3, s4, s5, s6, s7, s8, .fz (progR ws iB iN), s10]) fun o _ => o = .rt false (encOR (readW ws)) := by
  subst hs0
  have hi := is_rule_of_eq (v := progR ws iB iN) nd_progR
  cases hR : isRuleD (progR ws iB iN) with
  | false =>
    rw [hR] at hi
    have : readW ws = none := readW_none fun r hr e => by
      have := hf r hr e
      rw [this, rule_enc hr] at hR
      cases hR
    simp [hi, this, encOR]
  | true =>
    rw [hR] at hi
    obtain ⟨r, er, hr⟩ := rule_dec hR
    have ht := rule_text_eq hr
    rw [← er] at ht
    have he := eqS (text_asc r) h
    by_cases hx : r.text = l
    · have hw : ws = r.words := by
        rw [hws, ← hx]
        exact join_cut (words_ne r) fun p hp => words_free (.inl rfl) p hp
      have : readW ws = some r := readW_iff.mpr ⟨hr, hw⟩
      rw [this]
      rw [er] at hi ht ⊢
      simp [hi, ht, he, hx, encOR, eqS h h]
    · have : readW ws = none := readW_none fun r' hr' e => by
        have h1 := hf r' hr' e
        have h2 : r'.text = l := by
          unfold Rule.text
          rw [← e, hws, cut_join]
        have : readW r'.words = some r' := readW_iff.mpr ⟨hr', rfl⟩
        have h3 : r.enc = r'.enc := er ▸ h1
        have h4 := rule_text_eq hr'
        rw [← h3, rule_text_eq hr] at h4
        simp only [Option.some.injEq, Except.ok.injEq, Prod.mk.injEq, PyData.str.injEq, true_and] at h4
        exact hx ((S_inj h4).trans h2)
      simp [hi, ht, he, hx, this, encOR]
theorem mem_asc {ws : List Wd} (h : WsOk ws) {w : Wd} (hw : w ∈ ws) : Asc7 w := (h.2 w hw).1
theorem idx_mem {ws : List Wd} {k : Wd} {i : Nat} (h : ws.findIdx? (fun w => decide (w = k)) = some i) : k ∈ ws := by
  obtain ⟨hlt, hp, _⟩ := List.findIdx?_eq_some_iff_getElem.mp h
  rw [← of_decide_eq_true hp]
  exact List.getElem_mem hlt
def riTail : SM := sSeq (sIf (tOf (eBin neD (eB lenD (aCons (eVar 1) aNil)) (eBin addD (eBin addD (eVar 3) (eC (.int 8))) (eVar 4)))) (sRet (eC .none)) sSkip)
    (sSeq (sSet 8 (eLc [10] (gNm 10) (iOf (eTup (aCons (eBin addD (eVar 3) (eC (.int 1))) (aCons (eBin addD (eVar 3) (eC (.int 3))) (aCons (eUn negD (eC (.int 3))) (aCons (eUn negD (eC (.int 1))) aNil)))))) tTrue rule_in_e1))
    (sSeq (sSet 9 (eTup (aCons (eVar 7) (aCons (eVar 5) (aCons (eBin ixD (eVar 8) (eC (.int 0))) (aCons (eBin ixD (eVar 8) (eC (.int 1))) (aCons (eBin eqD (eVar 4) (eC (.int 1))) (aCons (eBin ixD (eVar 8) (eC (.int 2))) (aCons (eBin ixD (eVar 8) (eC (.int 3))) aNil)))))))))
    (sRet (eIf (tAndM (tOf (eCall f_is_rule_of (aCons (eVar 9) aNil))) (tOf (eBin eqD (eCall f_rule_text (aCons (eVar 9) aNil)) (eVar 0)))) (eVar 9) (eC .none)))))
theorem ri_split : b_rule_in = sSeq (sSet 1 (eM1 splitD (eVar 0) (eC (.str " "))))
    (sSeq (sIf (tOrM (tOf (eBin ltD (eB lenD (aCons (eVar 1) aNil)) (eC (.int 12)))) (tOrM (tOf (eBin neD (eBin ixD (eVar 1) (eC (.int 0))) (eC (.str "a")))) (tOrM (tOf (eBin notInD (eC (.str "b")) (eVar 1))) (tOf (eBin notInD (eC (.str "night")) (eVar 1)))))) (sRet (eC .none)) sSkip)
    (sSeq (sPar2 2 3 (eSIdx (eVar 1) (eC (.str "b"))) (eSIdx (eVar 1) (eC (.str "night"))))
    (sSeq (sSet 4 (eIf (tOf (eBin eqD (eBin ixD (eVar 1) (eUn negD (eC (.int 5)))) (eC (.str "join")))) (eC (.int 1)) (eC (.int 0))))
    (sSeq (sSet 5 (eIf (tOf (eBin eqD (eBin ixD (eVar 1) (eBin subD (eVar 3) (eC (.int 2)))) (eC (.str "ends")))) (eCall f_number_in (aCons (eBin ixD (eVar 1) (eBin subD (eVar 3) (eC (.int 1)))) aNil)) (eC .none)))
    (sSeq (sSet 6 (eIf (tOf (eBin eqD (eBin ixD (eVar 1) (eBin subD (eVar 3) (eC (.int 2)))) (eC (.str "ends")))) (eBin subD (eVar 3) (eC (.int 2))) (eVar 3)))
    (sSeq (sSet 7 (eTup (aCons (eCall f_bands_in (aCons (eSl (eVar 1) (oAt (eC (.int 1))) (oAt (eVar 2))) aNil)) (aCons (eCall f_bands_in (aCons (eSl (eVar 1) (oAt (eBin addD (eVar 2) (eC (.int 1)))) (oAt (eVar 6))) aNil)) aNil)))) riTail)))))) := rfl
theorem rule_in_eq {l : List Nat} (h : Asc7 l) (hl : l.length ≤ 900000) : f_rule_in [.str (S l)] = some (.ok (false, encOR (readW (cutAt 32 l)))) := by
  obtain ⟨a1, a2, a3, a4, a5, a6⟩ := nAsc
  have a7 : Asc7 kJoin := by intro c hc; revert c; decide
  refine wp_mkFn rfl ?_
  have hsp := splitD_S (c := 32) (l := l) (by decide) (by omega)
  rw [← ls_sp] at hsp
  have hw := cut_ok (c := 32) h hl
  have hpart : ∀ w ∈ cutAt 32 l, w.length ≤ 900000 := fun w hw => Nat.le_trans (cut_part hw) hl
  have hlast := fun {iB iN : Nat} hf => @last_test l h hl (cutAt 32 l) rfl iB iN hf
  generalize hws : cutAt 32 l = ws at hsp hw hpart hlast
  have fct : ∀ r : Rule, r.Ok → ws = r.words → ∃ iB iN, Facts r ws iB iN := fun r hr e => by rw [e]; exact facts r hr
  rw [ri_split]
  have hz : (ws.map encS).length ≤ sizeLine := by rw [List.length_map]; exact leSz hw.1
  by_cases c1 : ws.length < 12
  · have hn : readW ws = none := readW_none fun r hr e => by
      obtain ⟨_, _, f⟩ := fct r hr e
      have := f.len
      omega
    have c1' : (ws.length : Int) < 12 := by omega
    rw [hn]
    simp [hsp, c1', encOR]
  have c1' : ¬ (ws.length : Int) < 12 := by omega
  obtain ⟨w0, m0⟩ := wAt_in (ws := ws) (i := 0) (by omega) (by omega)
  have e0 := neS (mem_asc hw m0) a5
  by_cases c2 : ¬ wAt ws 0 = kA
  · have hn : readW ws = none := readW_none fun r hr e => by
      obtain ⟨_, _, f⟩ := fct r hr e
      exact c2 f.a
    rw [hn]
    simp [hsp, c1', w0, encS, ls_kA, e0, c2, encOR]
  have c2 := Decidable.not_not.mp c2
  rw [c2] at w0 e0
  obtain ⟨_, inB⟩ := inW (k := kB) hw
  obtain ⟨_, inN⟩ := inW (k := kNight) hw
  by_cases c3 : ¬ kB ∈ ws
  · have hn : readW ws = none := readW_none fun r hr e => by
      obtain ⟨_, _, f⟩ := fct r hr e
      exact c3 (idx_mem f.b)
    rw [hn]
    simp [hsp, c1', w0, encS, ls_kA, ls_kB, e0, inB, c3, encOR]
  have c3 := Decidable.not_not.mp c3
  by_cases c4 : ¬ kNight ∈ ws
  · have hn : readW ws = none := readW_none fun r hr e => by
      obtain ⟨_, _, f⟩ := fct r hr e
      exact c4 (idx_mem f.n)
    rw [hn]
    simp [hsp, c1', w0, encS, ls_kA, ls_kB, ls_night, e0, inB, inN, c3, c4, encOR]
  have c4 := Decidable.not_not.mp c4
  obtain ⟨iB, hxB, lB⟩ := idx_in c3
  obtain ⟨iN, hxN, lN⟩ := idx_in c4
  have xB := sIdx_S (ws := ws) (k := kB)
  have xN := sIdx_S (ws := ws) (k := kNight)
  rw [hxB] at xB
  rw [hxN] at xN
  obtain ⟨w5, m5⟩ := wAt_in (ws := ws) (i := -5) (by omega) (by omega)
  obtain ⟨w2, m2⟩ := wAt_in (ws := ws) (i := (iN : Int) - 2) (by omega) (by omega)
  obtain ⟨w1, m1⟩ := wAt_in (ws := ws) (i := (iN : Int) - 1) (by omega) (by omega)
  have e5 := eqS (mem_asc hw m5) a7
  have e2 := eqS (mem_asc hw m2) a4
  have fct2 : ∀ r : Rule, r.Ok → ws = r.words → Facts r ws iB iN := fun r hr e => by
    obtain ⟨iB', iN', f⟩ := fct r hr e
    have q1 := f.b
    have q2 := f.n
    rw [hxB] at q1
    rw [hxN] at q2
    cases q1; cases q2
    exact f
  have nE := number_in_eq (mem_asc hw m1) (hw.2 _ m1).2
  have hb1 := bands_in_eq (cutL_ok (lo := some 1) (hi := some (iB : Int)) hw) (fun w h => hpart w (cutL_sub h))
  have hb2 := fun hi : Int => bands_in_eq (cutL_ok (lo := some ((iB : Int) + 1)) (hi := some hi) hw) (fun w h => hpart w (cutL_sub h))
  simp only [encWs] at hb1 hb2
  have fin : ∀ (j : Int) (jb : Bool) (en : PyData) (B1 B2 : List PyData) (s6 : Sl), jb = decide (wAt ws (-5) = kJoin) → j = (if jb = true then 1 else 0) → progR ws iB iN = .tuple [.tuple [.tuple B1, .tuple B2], en, encO (numIn (wAt ws ((iN : Int) + 1))), encO (numIn (wAt ws ((iN : Int) + 3))), .bool jb, encO (numIn (wAt ws (-3))), encO (numIn (wAt ws (-1)))] →
      Wp (riTail [.fz (.str (S l)), .fz (.list (ws.map encS)), .fz (.int iB), .fz (.int iN), .fz (.int j), .fz en, s6, .fz (.tuple [.tuple B1, .tuple B2]), .no, .no, .no]) fun o _ => o = .rt false (encOR (readW ws)) := by
    intro j jb en B1 B2 s6 hjb hj hR
    unfold riTail
    by_cases ct : (ws.length : Int) = iN + 8 + j
    · obtain ⟨x1, y1⟩ := wAt_in (ws := ws) (i := (iN : Int) + 1) (by omega) (by split at hj <;> omega)
      obtain ⟨x3, y3⟩ := wAt_in (ws := ws) (i := (iN : Int) + 3) (by omega) (by split at hj <;> omega)
      obtain ⟨z3, v3⟩ := wAt_in (ws := ws) (i := -3) (by omega) (by omega)
      obtain ⟨z1, v1⟩ := wAt_in (ws := ws) (i := -1) (by omega) (by omega)
      have q1 := number_in_eq (mem_asc hw y1) (hw.2 _ y1).2
      have q2 := number_in_eq (mem_asc hw y3) (hw.2 _ y3).2
      have q3 := number_in_eq (mem_asc hw v3) (hw.2 _ v3).2
      have q4 := number_in_eq (mem_asc hw v1) (hw.2 _ v1).2
      have hj1 : (decide (j = 1)) = jb := by cases jb <;> simp [hj]
      have := hlast (iB := iB) (iN := iN) (fun r hr e => (fct2 r hr e).enc) (s1 := .fz (.list (ws.map encS))) (s2 := .fz (.int iB)) (s3 := .fz (.int iN)) (s4 := .fz (.int j)) (s5 := .fz en) (s6 := s6) (s7 := .fz (.tuple [.tuple B1, .tuple B2])) (s8 := .fz (.list [encO (numIn (wAt ws ((iN : Int) + 1))), encO (numIn (wAt ws ((iN : Int) + 3))), encO (numIn (wAt ws (-3))), encO (numIn (wAt ws (-1)))])) (s10 := .no) rfl
      rw [hR] at this
      simp [ct, -a_sRet, leSz, noOwn, rule_in_e1, x1, x3, z3, z1, encS, q1, q2, q3, q4, at0, at1, at2, at3, hj1]
      exact ⟨ltSz (by decide), ltSz (by decide), ltSz (by decide), ltSz (by decide), this⟩
    · have hn : readW ws = none := readW_none fun r hr e => by
        have := (fct2 r hr e).tot
        rw [hj, hjb] at ct
        simp only [decide_eq_true_eq] at ct
        exact ct this
      rw [hn]
      simp [ct, encOR]
  by_cases c5 : wAt ws (-5) = kJoin
  · by_cases c6 : wAt ws ((iN : Int) - 2) = kEnds
    · simp [hsp, c1', w0, encS, ls_kA, ls_kB, ls_night, e0, inB, inN, c3, c4, xB, xN, w5, w2, w1, nE, ls_join, ls_ends, e5, e2, eqS a4 a4, eqS a7 a7, c5, c6, cutL_map, hb1, hb2, leSz]
      refine fin 1 true _ _ _ _ (by simp [c5]) rfl ?_
      unfold progR
      simp [c5, c6]
    · simp [hsp, c1', w0, encS, ls_kA, ls_kB, ls_night, e0, inB, inN, c3, c4, xB, xN, w5, w2, w1, nE, ls_join, ls_ends, e5, e2, eqS a4 a4, eqS a7 a7, c5, c6, cutL_map, hb1, hb2, leSz]
      refine fin 1 true _ _ _ _ (by simp [c5]) rfl ?_
      unfold progR
      simp [c5, c6]
  · by_cases c6 : wAt ws ((iN : Int) - 2) = kEnds
    · simp [hsp, c1', w0, encS, ls_kA, ls_kB, ls_night, e0, inB, inN, c3, c4, xB, xN, w5, w2, w1, nE, ls_join, ls_ends, e5, e2, eqS a4 a4, eqS a7 a7, c5, c6, cutL_map, hb1, hb2, leSz]
      refine fin 0 false _ _ _ _ (by simp [c5]) rfl ?_
      unfold progR
      simp [c5, c6]
    · simp [hsp, c1', w0, encS, ls_kA, ls_kB, ls_night, e0, inB, inN, c3, c4, xB, xN, w5, w2, w1, nE, ls_join, ls_ends, e5, e2, eqS a4 a4, eqS a7 a7, c5, c6, cutL_map, hb1, hb2, leSz]
      refine fin 0 false _ _ _ _ (by simp [c5]) rfl ?_
      unfold progR
      simp [c5, c6]
end Pu

/-! Texts of rules: what the program and the law say of them. -/
namespace Pu
open PySem PySem.Spec PyProof.Rows L2 DL Sm SX
def readL (l : List Nat) : Option Rule := readW (cutAt 32 l)
/-- the rules of the lines, or the number of the first line that is none -/
def dueGo : Nat → List (List Nat) → List Rule → Except Nat (List Rule)
  | _, [], acc => .ok acc
  | k, l :: ls, acc => match readL l with
    | none => .error (k + 1)
    | some r => dueGo (k + 1) ls (acc ++ [r])
def linesOf (l : List Nat) : List (List Nat) := if l = [] then [] else cutAt 10 l
def encRs (rs : List Rule) : PyData := .tuple (rs.map Rule.enc)
def dueE (x : Except Nat (List Rule)) : PyData := match x with
  | .ok rs => encRs rs
  | .error k => .int (k : Int)
def dueX (l : List Nat) : Except Nat (List Rule) := dueGo 0 (linesOf l) []
def enumF (k : Nat) (ds : List PyData) : List PyData := (ds.zipIdx k).map fun p => .tuple [.int (p.2 : Nat), p.1]
theorem enumF_nil {k : Nat} : enumF k [] = [] := rfl
theorem enumF_cons {k : Nat} {d : PyData} {ds : List PyData} : enumF k (d :: ds) = .tuple [.int (k : Nat), d] :: enumF (k + 1) ds := by
  unfold enumF
  rw [List.zipIdx_cons, List.map_cons]
theorem enumD_F (ds : List PyData) : enumD ds = enumF 0 ds := rfl
theorem readL_none {l : List Nat} (h : Asc7 l) (hl : l.length ≤ 900000) (e : readL l = none) : f_rule_in [.str (S l)] = some (.ok (false, .none)) ∧ f_law_read [.str (S l)] = some (.ok (false, .none)) := by
  have h1 := rule_in_eq h hl
  have h2 := law_read_eq h hl
  unfold readL at e
  rw [e] at h1 h2
  exact ⟨h1, h2⟩
theorem readL_some {l : List Nat} {r : Rule} (h : Asc7 l) (hl : l.length ≤ 900000) (e : readL l = some r) : f_rule_in [.str (S l)] = some (.ok (false, r.enc)) ∧ f_law_read [.str (S l)] = some (.ok (false, r.enc)) := by
  have h1 := rule_in_eq h hl
  have h2 := law_read_eq h hl
  unfold readL at e
  rw [e] at h1 h2
  exact ⟨h1, h2⟩
theorem isN_enc {r : Rule} : isNone r.enc = false := rfl
def LsOk (ls : List (List Nat)) : Prop := ∀ l ∈ ls, Asc7 l ∧ l.length ≤ 900000
theorem du_step {k : Nat} {acc : List Rule} {l : List Nat} {s0 s4 : Sl} (h : Asc7 l) (hl : l.length ≤ 900000) (ha : acc.length + 1 ≤ 1000000) :
    Wp (law_due_b1 [s0, .fz (encRs acc), .fz (.int (k : Int)), .fz (.str (S l)), s4]) fun o e => match readL l with
      | none => o = .rt false (.int ((k + 1 : Nat) : Int))
      | some r => o = .nx ∧ e = [s0, .fz (encRs (acc ++ [r])), .fz (.int (k : Int)), .fz (.str (S l)), .fz r.enc] := by
  unfold law_due_b1
  cases e : readL l with
  | none =>
    obtain ⟨_, h2⟩ := readL_none h hl e
    simp [h2, isNone]
  | some r =>
    obtain ⟨_, h2⟩ := readL_some h hl e
    have hz := leSz ha
    simp [h2, isN_enc, encRs, leSz, hz]
theorem due_loop : ∀ (ls : List (List Nat)) (k : Nat) (acc : List Rule) (s0 s2 s3 s4 : Sl) {Q : Out → Ev → Prop}, LsOk ls → acc.length + ls.length ≤ 1000000 →
    (match dueGo k ls acc with
      | .ok rs => ∀ t2 t3 t4, Q .nx [s0, .fz (encRs rs), t2, t3, t4]
      | .error m => ∀ e, Q (.rt false (.int (m : Int))) e) →
    Wp (forL (gTp (gsCons (gNm 2) (gsCons (gNm 3) gsNil))) law_due_b1 (enumF k (ls.map encS)) [s0, .fz (encRs acc), s2, s3, s4]) Q
  | [], k, acc, s0, s2, s3, s4, Q, h, hl, q => by
    unfold dueGo at q
    rw [List.map_nil, enumF_nil, wp_forL_nil]
    exact q _ _ _
  | l :: ls, k, acc, s0, s2, s3, s4, Q, h, hl, q => by
    rw [List.map_cons, enumF_cons, wp_forL_cons]
    have hl0 := h l (List.mem_cons_self ..)
    unfold dueGo at q
    simp only [List.length_cons] at hl
    refine (du_step (k := k) (acc := acc) hl0.1 hl0.2 (by omega)).mono ?_
    intro o e hb
    cases er : readL l with
    | none =>
      rw [er] at q hb
      subst hb
      exact q _
    | some r =>
      rw [er] at q hb
      obtain ⟨rfl, rfl⟩ := hb
      exact due_loop ls (k + 1) (acc ++ [r]) s0 (.fz (.int k)) (.fz (.str (S l))) (.fz r.enc) (fun x hx => h x (List.mem_cons_of_mem _ hx)) (by simp; omega) q
theorem rd_step {k : Nat} {acc : List Rule} {l : List Nat} {s0 s4 : Sl} (h : Asc7 l) (hl : l.length ≤ 900000) (ha : acc.length + 1 ≤ 1000000) :
    read_rules_b1 [s0, .fz (encRs acc), .fz (.int (k : Int)), .fz (.str (S l)), s4] = (match readL l with
      | none => some (.error ⟨"InvalidText", some ("line", ((k + 1 : Nat) : Int))⟩)
      | some r => some (.ok (.nx, [s0, .fz (encRs (acc ++ [r])), .fz (.int (k : Int)), .fz (.str (S l)), .fz r.enc]))) := by
  unfold read_rules_b1
  cases e : readL l with
  | none =>
    obtain ⟨h1, _⟩ := readL_none h hl e
    have hr : sRaiseF "InvalidText" "line" (aCons (eBin addD (eVar 2) (eC (.int 1))) aNil) [s0, .fz (encRs acc), .fz (.int (k : Int)), .fz (.str (S l)), .fz .none] = some (.error ⟨"InvalidText", some ("line", ((k + 1 : Nat) : Int))⟩) := by
      unfold sRaiseF
      simp
    simp [h1, isNone, hr]
  | some r =>
    obtain ⟨h1, _⟩ := readL_some h hl e
    have hz := leSz ha
    simp [h1, isN_enc, encRs, leSz, hz]
    rfl
theorem rd_loop : ∀ (ls : List (List Nat)) (k : Nat) (acc : List Rule) (s0 s2 s3 s4 : Sl), LsOk ls → acc.length + ls.length ≤ 1000000 →
    (match dueGo k ls acc with
      | .ok rs => ∃ t2 t3 t4, forL (gTp (gsCons (gNm 2) (gsCons (gNm 3) gsNil))) read_rules_b1 (enumF k (ls.map encS)) [s0, .fz (encRs acc), s2, s3, s4] = some (.ok (.nx, [s0, .fz (encRs rs), t2, t3, t4]))
      | .error m => forL (gTp (gsCons (gNm 2) (gsCons (gNm 3) gsNil))) read_rules_b1 (enumF k (ls.map encS)) [s0, .fz (encRs acc), s2, s3, s4] = some (.error ⟨"InvalidText", some ("line", (m : Int))⟩))
  | [], k, acc, s0, s2, s3, s4, h, hl => by
    unfold dueGo
    exact ⟨s2, s3, s4, rfl⟩
  | l :: ls, k, acc, s0, s2, s3, s4, h, hl => by
    have hl0 := h l (List.mem_cons_self ..)
    simp only [List.length_cons] at hl
    have st := rd_step (k := k) (acc := acc) (s0 := s0) (s4 := s4) hl0.1 hl0.2 (by omega)
    have un : forL (gTp (gsCons (gNm 2) (gsCons (gNm 3) gsNil))) read_rules_b1 (enumF k ((l :: ls).map encS)) [s0, .fz (encRs acc), s2, s3, s4] = rb (read_rules_b1 [s0, .fz (encRs acc), .fz (.int (k : Int)), .fz (.str (S l)), s4]) fun o e2 => match o with
      | .nx => forL (gTp (gsCons (gNm 2) (gsCons (gNm 3) gsNil))) read_rules_b1 (enumF (k + 1) (ls.map encS)) e2
      | .ct => forL (gTp (gsCons (gNm 2) (gsCons (gNm 3) gsNil))) read_rules_b1 (enumF (k + 1) (ls.map encS)) e2
      | .bk => rok .nx e2
      | .rt own d => rok (.rt own d) e2 := by
      rw [List.map_cons, enumF_cons]
      conv => lhs; unfold forL
      rfl
    rw [un, st]
    unfold dueGo
    cases e : readL l with
    | none => rfl
    | some r =>
      exact rd_loop ls (k + 1) (acc ++ [r]) s0 (.fz (.int k)) (.fz (.str (S l))) (.fz r.enc) (fun x hx => h x (List.mem_cons_of_mem _ hx)) (by simp; omega)
theorem lines_ok {l : List Nat} (h : Asc7 l) (hl : l.length ≤ 900000) : LsOk (linesOf l) ∧ (linesOf l).length ≤ 900001 := by
  unfold linesOf
  split
  · exact ⟨fun x hx => (by cases hx), by simp⟩
  · have := cut_len (c := 10) (l := l)
    exact ⟨fun x hx => ⟨cut_asc h hx, Nat.le_trans (cut_part hx) hl⟩, by omega⟩
theorem asc_nil : Asc7 [] := fun x hx => by cases hx
theorem law_due_eq {l : List Nat} (h : Asc7 l) (hl : l.length ≤ 900000) : f_law_due [.str (S l)] = some (.ok (false, dueE (dueX l))) := by
  refine wp_mkFn rfl ?_
  unfold b_law_due
  have hs := splitD_S (c := 10) (l := l) (by decide) (by omega)
  rw [← ls_nl] at hs
  have hn := neS h asc_nil
  rw [← ls_0] at hn
  obtain ⟨h1, h2⟩ := lines_ok h hl
  have key : ∀ (s2 s3 s4 : Sl), Wp (forL (gTp (gsCons (gNm 2) (gsCons (gNm 3) gsNil))) law_due_b1 (enumD ((linesOf l).map encS)) [.fz (.str (S l)), .fz (.tuple []), s2, s3, s4]) fun b e => Wp (match b with | Out.nx => rb (eVar 1 e) fun od e => rok (Out.rt od.1 od.2) e | o => rok o e) fun o x => o = Out.rt false (dueE (dueX l)) := by
    intro s2 s3 s4
    rw [enumD_F]
    refine due_loop (linesOf l) 0 [] _ s2 s3 s4 h1 (by simp; omega) ?_
    unfold dueX
    cases dueGo 0 (linesOf l) [] with
    | ok rs => intro t2 t3 t4; simp [dueE]
    | error m => intro e; simp [dueE]
  by_cases he : l = []
  · have e0 : linesOf l = [] := if_pos he
    rw [e0] at key
    subst he
    simp [leSz, hn]
    exact key .no .no .no
  · have e0 : linesOf l = cutAt 10 l := if_neg he
    rw [e0] at key
    simp [leSz, hn, he, hs]
    exact key .no .no .no
theorem read_rules_eq {l : List Nat} (h : Asc7 l) (hl : l.length ≤ 900000) : f_read_rules [.str (S l)] = (match dueX l with
    | .ok rs => some (.ok (false, encRs rs))
    | .error m => some (.error ⟨"InvalidText", some ("line", (m : Int))⟩)) := by
  refine (mkFn_at (p := 1) (ds := [.str (S l)]) rfl).trans ?_
  unfold b_read_rules
  have hs := splitD_S (c := 10) (l := l) (by decide) (by omega)
  rw [← ls_nl] at hs
  have hn := neS h asc_nil
  rw [← ls_0] at hn
  obtain ⟨h1, h2⟩ := lines_ok h hl
  have key := rd_loop (linesOf l) 0 [] (.fz (.str (S l))) .no .no .no h1 (by simp; omega)
  rw [← enumD_F] at key
  unfold dueX
  by_cases he : l = []
  · have e0 : linesOf l = [] := if_pos he
    rw [e0] at key ⊢
    subst he
    simp [leSz, hn]
    revert key
    cases dueGo 0 [] [] with
    | ok rs =>
      rintro ⟨t2, t3, t4, e⟩
      simp only [encRs, List.map_nil] at e
      rw [e]; rfl
    | error m =>
      intro e
      simp only [encRs, List.map_nil] at e
      rw [e]; rfl
  · have e0 : linesOf l = cutAt 10 l := if_neg he
    rw [e0] at key ⊢
    simp [leSz, hn, he, hs]
    revert key
    cases dueGo 0 (cutAt 10 l) [] with
    | ok rs =>
      rintro ⟨t2, t3, t4, e⟩
      simp only [encRs, List.map_nil] at e
      rw [e]; rfl
    | error m =>
      intro e
      simp only [encRs, List.map_nil] at e
      rw [e]; rfl
theorem law_told_eq {l : List Nat} (h : Asc7 l) (hl : l.length ≤ 900000) : f_law_told [.str (S l)] = some (.ok (false, dueE (dueX l))) := by
  unfold f_law_told toldF
  rw [if_pos (show [PyData.str (S l)].length = 1 from rfl), read_rules_eq h hl]
  cases dueX l with
  | ok rs => rfl
  | error m => simp [dueE]
/-- what is no text -/
def NoTxt (d : PyData) : Prop := isiD "str" d = some (false, .bool false)
theorem read_no {d : PyData} (h : NoTxt d) : f_read_rules [d] = some (.error ⟨"InvalidText", some ("line", 0)⟩) := by
  refine (mkFn_at (p := 1) (ds := [d]) rfl).trans ?_
  unfold b_read_rules
  unfold NoTxt at h
  have hr : sRaiseF "InvalidText" "line" (aCons (eC (.int 0)) aNil) [.fz d, .no, .no, .no, .no] = some (.error ⟨"InvalidText", some ("line", 0)⟩) := by
    unfold sRaiseF
    simp
  simp [h, hr]
  rfl
theorem told_no {d : PyData} (h : NoTxt d) : f_law_told [d] = some (.ok (false, .int 0)) := by
  unfold f_law_told toldF
  rw [if_pos (show [d].length = 1 from rfl), read_no h]
  simp
/-! ### whole texts of rules -/
def textOf (rs : List Rule) : List Nat := TL.joinL [10] (rs.map Rule.text)
theorem text_free (r : Rule) : 10 ∉ r.text := by
  unfold Rule.text
  have : ∀ {ws : List Wd}, (∀ w ∈ ws, 10 ∉ w) → 10 ∉ TL.joinL [32] ws := by
    intro ws
    induction ws with
    | nil => intro _ h; cases h
    | cons w ws ih =>
      intro h hm
      cases ws with
      | nil => exact h w (by simp) hm
      | cons q ws =>
        have hm : 10 ∈ w ++ ([32] ++ TL.joinL [32] (q :: ws)) := hm
        rcases List.mem_append.mp hm with hm | hm
        · exact h w (by simp) hm
        · rcases List.mem_append.mp hm with hm | hm
          · simp at hm
          · exact ih (fun x hx => h x (List.mem_cons_of_mem _ hx)) hm
  exact this fun w hw => words_free (.inr rfl) w hw
theorem read_text {r : Rule} (hr : r.Ok) : readL r.text = some r := by
  unfold readL Rule.text
  rw [join_cut (words_ne r) fun p hp => words_free (.inl rfl) p hp]
  exact readW_iff.mpr ⟨hr, rfl⟩
theorem due_texts : ∀ {rs : List Rule} {k : Nat} {acc : List Rule}, (∀ r ∈ rs, r.Ok) → dueGo k (rs.map Rule.text) acc = .ok (acc ++ rs)
  | [], k, acc, h => by simp [dueGo]
  | r :: rs, k, acc, h => by
    rw [List.map_cons]
    unfold dueGo
    rw [read_text (h r (List.mem_cons_self ..))]
    simp only
    rw [due_texts fun x hx => h x (List.mem_cons_of_mem _ hx)]
    simp
theorem text_ne (r : Rule) : r.text ≠ [] := by
  intro h
  have : cutAt 32 r.text = r.words := join_cut (words_ne r) fun p hp => words_free (.inl rfl) p hp
  rw [h] at this
  have h2 : r.words = [[]] := this.symm
  unfold Rule.words at h2
  simp [kA] at h2
theorem due_text {rs : List Rule} (h : ∀ r ∈ rs, r.Ok) : dueX (textOf rs) = .ok rs := by
  unfold dueX textOf linesOf
  cases rs with
  | nil => simp [TL.joinL, dueGo]
  | cons r rs =>
    have hne : TL.joinL [10] ((r :: rs).map Rule.text) ≠ [] := by
      cases rs with
      | nil => exact text_ne r
      | cons q rs =>
        intro z
        have z : r.text ++ ([10] ++ TL.joinL [10] ((q :: rs).map Rule.text)) = [] := z
        simp at z
    rw [if_neg hne, join_cut (by simp) (by
      intro p hp
      obtain ⟨q, _, rfl⟩ := List.mem_map.mp hp
      exact text_free q), due_texts h]
    simp
theorem textOf_asc (rs : List Rule) : Asc7 (textOf rs) := join_asc (by decide) (by
  intro w hw
  obtain ⟨r, _, rfl⟩ := List.mem_map.mp hw
  exact text_asc r)
theorem textOf_len {rs : List Rule} (h : ∀ r ∈ rs, r.Ok) : (textOf rs).length ≤ 201 * rs.length := by
  cases rs with
  | nil => simp [textOf, TL.joinL]
  | cons r rs =>
    have h1 := join_len (c := 10) (ws := (r :: rs).map Rule.text) (by simp)
    have h2 := sum_le (n := 200) (ws := (r :: rs).map Rule.text) (by
      intro w hw
      obtain ⟨q, hq, rfl⟩ := List.mem_map.mp hw
      exact text_len (h q hq))
    unfold textOf
    simp only [List.length_map] at h1 h2
    omega
/-! ### equal answers are the same -/
theorem due_ok : ∀ {ls : List (List Nat)} {k : Nat} {acc rs : List Rule}, (∀ r ∈ acc, r.Ok) → dueGo k ls acc = .ok rs → (∀ r ∈ rs, r.Ok) ∧ rs.length = acc.length + ls.length
  | [], k, acc, rs, h, e => by
    unfold dueGo at e
    cases e
    exact ⟨h, by simp⟩
  | l :: ls, k, acc, rs, h, e => by
    unfold dueGo at e
    split at e
    · cases e
    · rename_i r hr
      have hrk := (readW_iff.mp hr).1
      have := due_ok (fun x hx => by
        rcases List.mem_append.mp hx with hx | hx
        · exact h x hx
        · simp at hx; subst hx; exact hrk) e
      exact ⟨this.1, by rw [this.2]; simp; omega⟩
end Pu

/-! The law of rules written and read. -/
namespace Pu
open PySem PySem.Spec PyProof.Rows L2 DL Sm SX
theorem zd_due {l : List Nat} (hl : l.length ≤ 900000) : ZD 1000000 5 (dueE (dueX l)) := by
  cases e : dueX l with
  | error m => exact zd_atom.2.2.1 _
  | ok rs =>
    unfold dueX at e
    have h := due_ok (acc := []) (fun x hx => by cases hx) e
    have hlen : (linesOf l).length ≤ 900001 := by
      unfold linesOf
      split
      · simp
      · have := cut_len (c := 10) (l := l); omega
    unfold dueE encRs
    simp only
    rw [zd_tup]
    refine ⟨by rw [List.length_map, h.2]; simp; omega, fun d hd => ?_⟩
    obtain ⟨r, hr, rfl⟩ := List.mem_map.mp hd
    exact (zd_enc (h.1 r hr)).up (by decide) (by decide)
theorem same_due {l : List Nat} (hl : l.length ≤ 900000) : f_law_same 12 [dueE (dueX l), dueE (dueX l)] = some (.ok (false, .bool true)) := law_same_refl (by decide) (by decide) (by decide) (zd_due hl)
/-! ### the drawn change of a text -/
def signL : List (List Nat) := [[32], [49], [48], [57], [58], [10], [], [106, 111, 105, 110, 32], [32, 101, 110, 100, 115, 32, 51], [32, 98], [32, 57, 58, 49], [97, 32]]
theorem sign_list : ([.str " ", .str "1", .str "0", .str "9", .str ":", .str "\n", .str "", .str "join ", .str " ends 3", .str " b", .str " 9:1", .str "a "] : List PyData) = signL.map encS := by
  have h : ([" ", "1", "0", "9", ":", "\n", "", "join ", " ends 3", " b", " 9:1", "a "] : List Str) = signL.map S := by decide +kernel
  have := congrArg (List.map PyData.str) h
  simp only [List.map_cons, List.map_nil] at this
  rw [List.map_map] at this
  exact this
theorem sign_ok : ∀ w ∈ signL, Asc7 w ∧ w.length ≤ 7 := by
  have : signL.all (fun w => w.all (fun c => decide (c < 128)) && decide (w.length ≤ 7)) = true := by decide
  intro w hw
  have := List.all_eq_true.mp this w hw
  rw [Bool.and_eq_true, List.all_eq_true] at this
  exact ⟨fun c hc => of_decide_eq_true (this.1 c hc), of_decide_eq_true this.2⟩
theorem cut_loS {l : List Nat} {i : Int} (h0 : 0 ≤ i) (h1 : i ≤ l.length) (hl : l.length ≤ 1000000) : slD (.str (S l)) none (some i) = some (false, .str (S (l.take i.toNat))) := by
  rw [o_slS, if_pos (by rw [S_len]; exact leSz hl), cutS_S, cut_lo h0 h1]
theorem cut_hiS {l : List Nat} {i : Int} (h0 : 0 ≤ i) (hl : l.length ≤ 1000000) : slD (.str (S l)) (some i) none = some (false, .str (S (l.drop i.toNat))) := by
  rw [o_slS, if_pos (by rw [S_len]; exact leSz hl), cutS_S]
  by_cases h1 : i ≤ l.length
  · rw [cut_hi h0 h1]
  · have e : l.drop i.toNat = [] := List.drop_eq_nil_of_le (by omega)
    rw [e]
    unfold cutL
    have h : ¬ i < 0 := by omega
    simp [HT.sIx, h]
    have : min i.toNat l.length = l.length := by omega
    rw [this]
    simp
theorem k17_b3 {n : Nat} {s a1 a3 a4 a6 a7 a8 a9 a10 a11 a12 a13 a14 a15 : Sl} {ds : List PyData} {l : List Nat} (hl : Asc7 l) (hn : l.length ≤ 1000) (h : Dk (n + 3) ds) :
    Wp (law_k17_b3 [s, a1, .ow (.list ds), a3, a4, .fz (.str (S l)), a6, a7, a8, a9, a10, a11, a12, a13, a14, a15]) fun o e => o = .nx ∧ ∃ ds1 b7 b8 b9, Dk n ds1 ∧ e = [s, a1, .ow (.list ds1), a3, a4, .fz (.str (S l)), a6, b7, b8, b9, a10, a11, a12, a13, a14, a15] := by
  unfold law_k17_b3
  simp [leSz, show l.length ≤ sizeLine from leSz (by omega)]
  refine pickI h (by omega) (by omega) fun ds i h i1 i2 => ?_
  simp [leSz]
  rw [sign_list]
  refine wp_I (one_ok (n := n + 1) h (by decide) (by decide)) ?_
  rintro own d ds1 ⟨rfl, h, hm⟩
  obtain ⟨w, hw, rfl⟩ := List.mem_map.mp hm
  obtain ⟨hw1, hw2⟩ := sign_ok w hw
  have t1 := cut_loS (l := l) i1 (by omega) (by omega)
  simp [encS, t1, -o_slS, -o_addS]
  have e1 := addS (a := l.take i.toNat) (b := w) (by have := List.length_take_le i.toNat l; omega)
  rw [e1]
  simp [-o_slS, -o_addS]
  refine pickI h (by decide) (by decide) fun ds p h p1 p2 => ?_
  have t2 := cut_hiS (l := l) (i := i + p) (by omega) (by omega)
  simp [t2, -o_slS, -o_addS]
  have hlen : (l.take i.toNat ++ w).length + (l.drop (i + p).toNat).length ≤ 1000000 := by
    have := List.length_take_le i.toNat l
    simp
    omega
  have e2 := addS (a := l.take i.toNat ++ w) (b := l.drop (i + p).toNat) hlen
  rw [e2]
  have hA : Asc7 (l.take i.toNat ++ w ++ l.drop (i + p).toNat) := fun c hc => by
    rcases List.mem_append.mp hc with hc | hc
    · rcases List.mem_append.mp hc with hc | hc
      · exact hl c (List.mem_of_mem_take hc)
      · exact hw1 c hc
    · exact hl c (List.mem_of_mem_drop hc)
  have hL : (l.take i.toNat ++ w ++ l.drop (i + p).toNat).length ≤ 900000 := by
    have := List.length_take_le i.toNat l
    simp
    omega
  have q1 := law_told_eq hA hL
  have q2 := law_due_eq hA hL
  have q3 := same_due hL
  generalize l.take i.toNat ++ w ++ l.drop (i + p).toNat = m at *
  simp [q1, q2, q3]
  exact h
/-- a comprehension over a list of known things -/
theorem wp_lcOf {α : Type} {vs : List Nat} {b : GM} {t : TM} {f : EM} {Q : List PyData → Ev → Prop} {H : Ev} (enc g : α → PyData) : ∀ {xs : List α} {acc : List PyData}, acc.length + xs.length ≤ sizeLine →
    (∀ a ∈ xs, ∃ e1, b (enc a) H = some e1 ∧ Wp (t e1) fun c e2 => c = true ∧ Wp (f e2) fun od e3 => od.2 = g a ∧ hide e3 vs = H) → Q (acc ++ xs.map g) H → Wp (lcL vs b t f (xs.map enc) H acc) Q
  | [], acc, _, _, q => by simpa using q
  | a :: xs, acc, hl, h, q => by
    simp at hl
    obtain ⟨e1, hb, w⟩ := h a (by simp)
    rw [List.map_cons, wp_lcL_cons, hb]
    refine w.mono fun c e2 ⟨hc, k⟩ => ?_
    subst hc
    rw [if_pos rfl]
    refine k.mono fun od e3 ⟨h1, h2⟩ => ⟨by omega, ?_⟩
    rw [h1, h2]
    refine wp_lcOf enc g (by simp; omega) (fun x hx => h x (by simp [hx])) ?_
    simpa using q
def SomeI (n : Nat) (s : Sl) (k : Int) (a3 a4 a5 a7 a8 a9 a10 a11 a12 a13 : Sl) (acc rest : List PyData) (env : Ev) : Prop := ∃ (ds : List PyData) (rs : List Rule), env = [s, .fz (.int k), .ow (.list ds), a3, a4, a5, .no, a7, a8, a9, a10, a11, a12, a13, .no, .no] ∧ Dk (n + 40 * rest.length) ds ∧ acc = rs.map Rule.enc ∧ (∀ r ∈ rs, r.Ok) ∧ rs.length + rest.length ≤ 4
def gTxt (r : Rule) : PyData := encS r.text
theorem gTxt_map (rs : List Rule) : rs.map gTxt = (rs.map Rule.text).map encS := by rw [List.map_map]; rfl
def OutK17 (s : Sl) (rest : List PyData) (env : Ev) : Prop := (∃ a1 a2 a3 a4 a5 a6 a7 a8 a9, noOwn [a6] [0] = true ∧ env = [s, a1, a2, a3, a4, a5, a6, a7, a8, a9, .no, .no, .no, .no, .no, .no]) ∧ ∀ d ∈ rest, ∃ i : Int, d = .int i ∧ 0 ≤ i ∧ i < 8
theorem k17_turn {s : Sl} {ns : List Int} {k : Int} {a2 a3 a4 a5 a7 a8 a9 a10 a11 a12 a13 a6 : Sl} (hs : scOf (some s) = some ns) (hl : ns.length ≤ 63) (k0 : 0 ≤ k) (k1 : k < 8) (h6 : noOwn [a6] [0] = true) :
    Wp (law_k17_b4 [s, .fz (.int k), a2, a3, a4, a5, a6, a7, a8, a9, a10, a11, a12, a13, .no, .no]) fun o e => o = .nx ∧ ∃ a2 a3 a4 a5 a6 a7 a8 a9, noOwn [a6] [0] = true ∧ e = [s, .fz (.int k), a2, a3, a4, a5, a6, a7, a8, a9, a10, a11, a12, a13, .no, .no] := by
  obtain ⟨c, hc⟩ := cell_ok (env := [s, .fz (.int k), a2, a3, a4, a5, a6, a7, a8, a9, a10, a11, a12, a13, .no, .no]) rfl hs hl rfl k0 k1 (by decide)
  obtain ⟨ds, he, hk⟩ := deck_ok c k k0 (by omega)
  unfold law_k17_b4
  rw [a_sSeq, a_sSet, a_call, a_aCons]
  rw [hc]
  simp [he]
  refine pickI (n := 1000) (hk.le (by decide)) (by decide) (by decide) fun ds m h m1 m2 => ?_
  simp
  refine ⟨okR_of (by omega) (by omega), ?_⟩
  have hno : ∀ r : List Sl, noOwn (s :: .fz (.int k) :: .ow (.list ds) :: a3 :: a4 :: a5 :: a6 :: r) [6] = true := fun r => h6
  simp [hno]
  refine wp_lcL (SomeI 200 s k a3 a4 a5 a7 a8 a9 a10 a11 a12 a13) ?_ ?_ _ _ _ ⟨ds, [], rfl, h.le (by simp [range_len]; omega), rfl, by simp, by simp [range_len]; omega⟩
  · rintro acc d rest env ⟨ds, rs, rfl, hd, rfl, hr, hlen⟩
    simp at hlen hd
    refine ⟨by rw [List.length_map]; exact ltSz (by omega), _, rfl, ?_⟩
    simp
    refine ruleI (n := 200 + 40 * rest.length) (hd.le (by omega)) fun ds r hd hrk => ?_
    refine ⟨ds, rs ++ [r], rfl, hd, by simp, fun x hx => ?_, by simp; omega⟩
    rcases List.mem_append.mp hx with hx | hx
    · exact hr x hx
    · simp at hx; subst hx; exact hrk
  · rintro acc env ⟨ds, rs, rfl, hd, rfl, hr, hlen⟩
    simp at hlen
    simp
    have hn14 : ∀ a b c d e f g h i j x y z w : Sl, noOwn [a, b, c, d, e, f, g, h, i, j, x, y, z, w, .no, .no] [14] = true := fun _ _ _ _ _ _ _ _ _ _ _ _ _ _ => rfl
    refine ⟨hn14 _ _ _ _ _ _ _ _ _ _ _ _ _ _, ?_⟩
    refine wp_lcOf Rule.enc gTxt ?_ ?_ ?_
    · simp; exact leSz (by omega)
    · intro r hrm
      refine ⟨_, rfl, ?_⟩
      simp [law_k17_e1, law_text_eq (hr r hrm), gTxt, encS]
    have hW : WsOk (rs.map Rule.text) := ⟨by simp; omega, fun w hw => by
      obtain ⟨r, hrm, rfl⟩ := List.mem_map.mp hw
      exact ⟨text_asc r, Nat.le_trans (text_len (hr r hrm)) (by decide)⟩⟩
    have hsh := neD_refl (shpWs hW)
    rw [List.nil_append, gTxt_map]
    simp [hn14]
    refine wp_lcOf Rule.enc gTxt ?_ ?_ ?_
    · simp; exact leSz (by omega)
    · intro r hrm
      refine ⟨_, rfl, ?_⟩
      simp [law_k17_e2, rule_text_eq (hr r hrm), gTxt, encS]
    rw [List.nil_append, gTxt_map]
    have hsum : ((rs.map Rule.text).map List.length).sum + (rs.map Rule.text).length ≤ 1000000 := by
      have h2 := sum_le (n := 200) (ws := rs.map Rule.text) (by
        intro w hw
        obtain ⟨q, hq, rfl⟩ := List.mem_map.mp hw
        exact text_len (hr q hq))
      simp only [List.length_map] at h2 ⊢
      omega
    have hj := joinD_S (c := 10) (ws := rs.map Rule.text) hsum
    rw [← ls_nl] at hj
    have htl := textOf_len hr
    have hto := law_told_eq (textOf_asc rs) (Nat.le_trans htl (by omega))
    rw [due_text hr] at hto
    have hsm := same_due (l := textOf rs) (Nat.le_trans htl (by omega))
    rw [due_text hr] at hsm
    simp only [dueE, encRs] at hto hsm
    unfold textOf at hto
    simp only [List.map_map] at hsh hj hto
    simp [hsh, hj, hto, hsm]
    refine forL_range (n := 6) (fun i env => ∃ ds b6 b7 b8 b9, noOwn [b6] [0] = true ∧ env = [s, .fz (.int k), .ow (.list ds), .fz (.tuple (rs.map Rule.enc)), .fz (.list (rs.map (encS ∘ Rule.text))), .fz (.str (S (TL.joinL [10] (rs.map Rule.text)))), b6, b7, b8, b9, a10, a11, a12, a13, .no, .no] ∧ Dk (3 * (6 - i)) ds) ⟨ds, _, _, _, _, h6, rfl, hd.le (by simp)⟩ ?_ ?_
    · rintro i env hi ⟨ds, b6, b7, b8, b9, h6, rfl, hd⟩
      refine ⟨_, rfl, ?_⟩
      refine (k17_b3 (n := 3 * (6 - (i + 1))) (textOf_asc rs) (Nat.le_trans htl (by omega)) (hd.le (by omega))).mono ?_
      rintro o e ⟨rfl, ds1, c7, c8, c9, hk1, rfl⟩
      exact ⟨ds1, _, _, _, _, rfl, rfl, hk1⟩
    · rintro env ⟨ds, b6, b7, b8, b9, h6, rfl, hd⟩
      exact ⟨rfl, _, _, _, _, _, _, _, _, h6, rfl⟩
/-! ### what is no text; what is no text of rules -/
theorem nm_Text : tabGet excTab "InvalidText" = some "Text+" := by decide +kernel
theorem neS_Text : neD (.str "Text+") (.str "Text+") = some (false, .bool false) := neS_refl (by decide +kernel)
theorem a_tryErr17 {f : EM} {env : Ev} {ex : Ex} {z : Str} (h : f (env.map hideO) = some (.error ex)) (hn : tabGet excTab ex.name = some z) : eTry nameOf f env = rok (false, .str z) env := by
  unfold eTry
  rw [h]
  have : nameOf ex = some z := hn
  simp only [this]
theorem k17_odd {a0 a1 a2 a3 a4 a5 a6 a7 a8 a9 a11 a12 a13 : Sl} {d : PyData} (h : NoTxt d) : Wp (law_k17_b6 [a0, a1, a2, a3, a4, a5, a6, a7, a8, a9, .fz d, a11, a12, a13, .no, .no]) fun o e => o = .nx ∧ e = [a0, a1, a2, a3, a4, a5, a6, a7, a8, a9, .fz d, a11, a12, a13, .no, .no] := by
  have e1 : eTry nameOf law_k17_l5 [a0, a1, a2, a3, a4, a5, a6, a7, a8, a9, .fz d, a11, a12, a13, .no, .no] = rok (false, .str "Text+") [a0, a1, a2, a3, a4, a5, a6, a7, a8, a9, .fz d, a11, a12, a13, .no, .no] := by
    refine a_tryErr17 (ex := ⟨"InvalidText", some ("line", 0)⟩) ?_ nm_Text
    unfold law_k17_l5
    have : ([a0, a1, a2, a3, a4, a5, a6, a7, a8, a9, .fz d, a11, a12, a13, .no, .no] : Ev).map hideO = [hideO a0, hideO a1, hideO a2, hideO a3, hideO a4, hideO a5, hideO a6, hideO a7, hideO a8, hideO a9, .fz d, hideO a11, hideO a12, hideO a13, .no, .no] := rfl
    rw [this]
    simp [read_no h]
  unfold law_k17_b6
  simp [told_no h, e1, neS_Text]
theorem k17_odds : ∀ d ∈ ([.none, .int 3, .list [], .tuple []] : List PyData), NoTxt d := by
  intro d hd
  simp only [List.mem_cons, List.not_mem_nil, or_false] at hd
  rcases hd with rfl | rfl | rfl | rfl
  all_goals unfold NoTxt; simp
def goodS : Str := "a 8:6 b 8:10 night 20 meal 4 least 8 cap 400"
def isErr (m : Nat) (x : Except Nat (List Rule)) : Bool := match x with
  | .error k => k == m
  | _ => false
def chk (m : Nat) (x : Str) : Bool := x.cps.toList.all (fun c => decide (c < 128)) && (decide (x.cps.toList.length ≤ 900000) && isErr m (dueX x.cps.toList))
theorem chk_told {m : Nat} {x : Str} (h : chk m x = true) : f_law_told [.str x] = some (.ok (false, .int (m : Int))) := by
  unfold chk at h
  simp only [Bool.and_eq_true, List.all_eq_true, decide_eq_true_eq] at h
  have := law_told_eq (l := x.cps.toList) h.1 h.2.1
  rw [S_tl] at this
  rw [this]
  have h3 := h.2.2
  cases e : dueX x.cps.toList with
  | ok rs => rw [e] at h3; cases h3
  | error k =>
    rw [e] at h3
    have : k = m := by simpa [isErr] using h3
    subst this
    rfl
def tailS : Str := " night 20 meal 4 least 8 cap 400"
def wrongs : List Str := ["a b 8:10 night 20 meal 4 least 8 cap 400", "a 8:6 b 8:10 meal 4 night 20 least 8 cap 400", goodS ++ " ", "a 8:6 8:7 b 8:10" ++ tailS, "a 08:6 b 8:10" ++ tailS, "a 8:6 b 8:10 ends" ++ tailS, "a 8:6 b" ++ tailS, "b 8:6 a 8:10" ++ tailS, "a 8:6:1 b 8:10" ++ tailS, "a 8: b 8:10" ++ tailS, "a 8:41 b 8:10" ++ tailS, "a 8:6 b 8:10 night 20 meal 4 least 8 cap 0"]
theorem wrongs_chk : (wrongs.all fun x => chk 2 (goodS ++ "\n" ++ x) && decide ((goodS ++ "\n").length + x.length ≤ sizeLine)) = true := by decide +kernel
theorem last_chk : chk 2 (goodS ++ "\n") = true ∧ chk 1 "\n" = true := by decide +kernel
theorem k17_wrong {a0 a1 a2 a3 a4 a5 a6 a7 a8 a9 a12 a13 : Sl} {x : Str} (h : x ∈ wrongs) : Wp (law_k17_b9 [a0, a1, a2, a3, a4, a5, a6, a7, a8, a9, .fz (.str x), .fz (.str goodS), a12, a13, .no, .no]) fun o e => o = .nx ∧ e = [a0, a1, a2, a3, a4, a5, a6, a7, a8, a9, .fz (.str x), .fz (.str goodS), a12, a13, .no, .no] := by
  have hc := List.all_eq_true.mp wrongs_chk x h
  rw [Bool.and_eq_true] at hc
  have h1 := chk_told hc.1
  have h2 : (goodS ++ "\n").length + x.length ≤ sizeLine := of_decide_eq_true hc.2
  have h3 : goodS.length + ("\n" : Str).length ≤ sizeLine := by decide +kernel
  unfold law_k17_b9
  simp [h3, h2, h1]
theorem heads_z : ("a 8:6 8:7 b 8:10" : Str).length + tailS.length ≤ sizeLine ∧ ("a 08:6 b 8:10" : Str).length + tailS.length ≤ sizeLine ∧ ("a 8:6 b 8:10 ends" : Str).length + tailS.length ≤ sizeLine ∧ ("a 8:6 b" : Str).length + tailS.length ≤ sizeLine ∧
    ("b 8:6 a 8:10" : Str).length + tailS.length ≤ sizeLine ∧ ("a 8:6:1 b 8:10" : Str).length + tailS.length ≤ sizeLine ∧ ("a 8: b 8:10" : Str).length + tailS.length ≤ sizeLine ∧ ("a 8:41 b 8:10" : Str).length + tailS.length ≤ sizeLine ∧ goodS.length + (" " : Str).length ≤ sizeLine := by decide +kernel
theorem told_empty : f_law_told [.str ""] = some (.ok (false, .tuple [])) := by
  rw [ls_0, law_told_eq asc_nil (by decide)]
  rfl
theorem told_good : f_law_told [.str (goodS ++ "\n")] = some (.ok (false, .int 2)) := chk_told last_chk.1
theorem told_nl : f_law_told [.str "\n"] = some (.ok (false, .int 1)) := chk_told last_chk.2
def wr1 : List PyData := [.str "a b 8:10 night 20 meal 4 least 8 cap 400", .str "a 8:6 b 8:10 meal 4 night 20 least 8 cap 400", .str (goodS ++ " ")]
def wr2 : List PyData := [.str ("a 8:6 8:7 b 8:10" ++ tailS), .str ("a 08:6 b 8:10" ++ tailS), .str ("a 8:6 b 8:10 ends" ++ tailS), .str ("a 8:6 b" ++ tailS)]
def wr3 : List PyData := [.str ("b 8:6 a 8:10" ++ tailS), .str ("a 8:6:1 b 8:10" ++ tailS), .str ("a 8: b 8:10" ++ tailS), .str ("a 8:41 b 8:10" ++ tailS)]
theorem wr_all : ∀ d ∈ wr1 ++ wr2 ++ wr3 ++ [.str "a 8:6 b 8:10 night 20 meal 4 least 8 cap 0"], ∃ x, d = PyData.str x ∧ x ∈ wrongs := by
  intro d hd
  simp only [wr1, wr2, wr3, List.mem_append, List.mem_cons, List.not_mem_nil, or_false] at hd
  rcases hd with ((((rfl | rfl | rfl) | (rfl | rfl | rfl | rfl)) | (rfl | rfl | rfl | rfl)) | rfl) <;> exact ⟨_, rfl, by simp [wrongs]⟩
section
variable {s a1 a2 a3 a4 a5 a6 a7 a8 a9 a10 a11 a12 a13 : Sl}
theorem tail_2 : Wp (sSet 12 (eLst (aCons (eC (.str "a b 8:10 night 20 meal 4 least 8 cap 400")) (aCons (eC (.str "a 8:6 b 8:10 meal 4 night 20 least 8 cap 400")) (aCons (eBin addD (eVar 11) (eC (.str " "))) aNil)))) [s, a1, a2, a3, a4, a5, a6, a7, a8, a9, a10, .fz (.str goodS), a12, a13, .no, .no]) fun o e => o = .nx ∧ e = [s, a1, a2, a3, a4, a5, a6, a7, a8, a9, a10, .fz (.str goodS), .ow (.list wr1), a13, .no, .no] := by
  have z9 := heads_z.2.2.2.2.2.2.2.2
  simp [leSz, z9, wr1]
theorem tail_lc {x1 x2 x3 x4 t : Str} {ws : List PyData} {f : EM} (hf : f = eBin addD (eVar 15) (eVar 13)) (h1 : x1.length + t.length ≤ sizeLine) (h2 : x2.length + t.length ≤ sizeLine) (h3 : x3.length + t.length ≤ sizeLine) (h4 : x4.length + t.length ≤ sizeLine) (hl : ws.length + 4 ≤ sizeLine) :
    Wp (sSet 12 (eBin addD (eVar 12) (eLc [15] (gNm 15) (iOf (eLst (aCons (eC (.str x1)) (aCons (eC (.str x2)) (aCons (eC (.str x3)) (aCons (eC (.str x4)) aNil)))))) tTrue f)) [s, a1, a2, a3, a4, a5, a6, a7, a8, a9, a10, .fz (.str goodS), .ow (.list ws), .fz (.str t), .no, .no]) fun o e => o = .nx ∧ e = [s, a1, a2, a3, a4, a5, a6, a7, a8, a9, a10, .fz (.str goodS), .ow (.list (ws ++ [.str (x1 ++ t), .str (x2 ++ t), .str (x3 ++ t), .str (x4 ++ t)])), .fz (.str t), .no, .no] := by
  subst hf
  simp [leSz, noOwn, h1, h2, h3, h4, hl]
  exact ⟨ltSz (by decide), ltSz (by decide), ltSz (by decide), ltSz (by decide)⟩
theorem tail_end {ws : List PyData} {x : Str} (h : ∀ d ∈ ws ++ [.str x], ∃ x, d = PyData.str x ∧ x ∈ wrongs) (hl : ws.length + 1 ≤ sizeLine) :
    Wp (sSeq (sFor (gNm 10) (iOf (eBin addD (eVar 12) (eLst (aCons (eC (.str x)) aNil)))) law_k17_b9)
    (sRet (eAnd (eBin eqD (eCall f_law_told (aCons (eBin addD (eVar 11) (eC (.str "\n"))) aNil)) (eC (.int 2))) (eAnd (eBin eqD (eCall f_law_told (aCons (eC (.str "")) aNil)) (eTup aNil)) (eBin eqD (eCall f_law_told (aCons (eC (.str "\n")) aNil)) (eC (.int 1)))))) [s, a1, a2, a3, a4, a5, a6, a7, a8, a9, a10, .fz (.str goodS), .ow (.list ws), .fz (.str tailS), .no, .no]) fun o _ => o = .rt false (.bool true) := by
  refine wp_seq (fun o e => o = .nx ∧ ∃ a10 a12, e = [s, a1, a2, a3, a4, a5, a6, a7, a8, a9, a10, .fz (.str goodS), a12, .fz (.str tailS), .no, .no]) ?_ ?_ ?_
  · simp [leSz, hl]
    refine wp_forL (fun rest env => (∃ a10 a12, env = [s, a1, a2, a3, a4, a5, a6, a7, a8, a9, a10, .fz (.str goodS), a12, .fz (.str tailS), .no, .no]) ∧ ∀ d ∈ rest, ∃ x, d = PyData.str x ∧ x ∈ wrongs) ?_ ?_ _ _ ⟨⟨_, _, rfl⟩, h⟩
    · rintro d rest env ⟨⟨a10, a12, rfl⟩, hd⟩
      obtain ⟨x, rfl, hx⟩ := hd d (by simp)
      refine ⟨_, rfl, ?_⟩
      refine (k17_wrong hx).mono ?_
      rintro o e ⟨rfl, rfl⟩
      exact ⟨⟨_, _, rfl⟩, fun d' h' => hd d' (by simp [h'])⟩
    · rintro env ⟨⟨a10, a12, rfl⟩, _⟩
      exact ⟨rfl, _, _, rfl⟩
  · rintro e ⟨_, a10, a12, rfl⟩
    have zg : goodS.length + ("\n" : Str).length ≤ sizeLine := by decide +kernel
    have et := eqT_nil (show shp (.tuple []) = true by decide)
    simp [zg, told_good, told_empty, told_nl, et]
  · rintro o e hne ⟨h, _⟩
    exact (hne h).elim
end
theorem law_k17_true : LawTrue 16 b_law_k17 := by
  intro s ns hs hl
  have : Wp (b_law_k17 (s :: List.replicate (16 - 1) .no)) fun o _ => o = .rt false (.bool true) := by
    unfold b_law_k17
    refine wp_seq (fun o e => o = .nx ∧ ∃ a1 a2 a3 a4 a5 a6 a7 a8 a9, e = [s, a1, a2, a3, a4, a5, a6, a7, a8, a9, .no, .no, .no, .no, .no, .no]) ?_ ?_ ?_
    · simp
      refine wp_forL (OutK17 s) ?_ ?_ _ _ ⟨⟨_, _, _, _, _, _, _, _, _, rfl, rfl⟩, fun d hd => by simpa using range_mem hd⟩
      · rintro d rest env ⟨⟨a1, a2, a3, a4, a5, a6, a7, a8, a9, h6, rfl⟩, hd⟩
        obtain ⟨k, rfl, k0, k1⟩ := hd d (by simp)
        refine ⟨_, rfl, ?_⟩
        refine (k17_turn hs hl k0 k1 h6).mono ?_
        rintro o e ⟨rfl, b2, b3, b4, b5, b6, b7, b8, b9, h6, rfl⟩
        exact ⟨⟨_, _, _, _, _, _, _, _, _, h6, rfl⟩, fun d' h' => hd d' (by simp [h'])⟩
      · rintro env ⟨⟨a1, a2, a3, a4, a5, a6, a7, a8, a9, h6, rfl⟩, _⟩
        exact ⟨rfl, _, _, _, _, _, _, _, _, _, rfl⟩
    · rintro e ⟨_, a1, a2, a3, a4, a5, a6, a7, a8, a9, rfl⟩
      refine wp_seq (fun o e => o = .nx ∧ ∃ a10, e = [s, a1, a2, a3, a4, a5, a6, a7, a8, a9, a10, .no, .no, .no, .no, .no]) ?_ ?_ ?_
      · simp [leSz]
        refine wp_forL (fun rest env => (∃ a10, env = [s, a1, a2, a3, a4, a5, a6, a7, a8, a9, a10, .no, .no, .no, .no, .no]) ∧ ∀ d ∈ rest, NoTxt d) ?_ ?_ _ _ ⟨⟨_, rfl⟩, k17_odds⟩
        · rintro d rest env ⟨⟨a10, rfl⟩, hd⟩
          refine ⟨_, rfl, ?_⟩
          refine (k17_odd (hd d (by simp))).mono ?_
          rintro o e ⟨rfl, rfl⟩
          exact ⟨⟨_, rfl⟩, fun d' h' => hd d' (by simp [h'])⟩
        · rintro env ⟨⟨a10, rfl⟩, _⟩
          exact ⟨rfl, _, rfl⟩
      · rintro e ⟨_, a10, rfl⟩
        refine wp_seq (fun o e => o = .nx ∧ e = [s, a1, a2, a3, a4, a5, a6, a7, a8, a9, a10, .fz (.str goodS), .no, .no, .no, .no]) (by simp [goodS]) (fun e h => ?_) (fun o e hne h => (hne h.1).elim)
        obtain ⟨_, rfl⟩ := h
        refine wp_seq _ tail_2 (fun e h => ?_) (fun o e hne h => (hne h.1).elim)
        obtain ⟨_, rfl⟩ := h
        refine wp_seq (fun o e => o = .nx ∧ e = [s, a1, a2, a3, a4, a5, a6, a7, a8, a9, a10, .fz (.str goodS), .ow (.list wr1), .fz (.str tailS), .no, .no]) (by simp [tailS]) (fun e h => ?_) (fun o e hne h => (hne h.1).elim)
        obtain ⟨_, rfl⟩ := h
        obtain ⟨z1, z2, z3, z4, z5, z6, z7, z8, z9⟩ := heads_z
        refine wp_seq _ (tail_lc rfl z1 z2 z3 z4 (leSz (by decide))) (fun e h => ?_) (fun o e hne h => (hne h.1).elim)
        obtain ⟨_, rfl⟩ := h
        refine wp_seq _ (tail_lc rfl z5 z6 z7 z8 (leSz (by decide))) (fun e h => ?_) (fun o e hne h => (hne h.1).elim)
        obtain ⟨_, rfl⟩ := h
        exact tail_end wr_all (leSz (by decide))
      · rintro o e hne ⟨h, _⟩
        exact (hne h).elim
    · rintro o e hne ⟨h, _⟩
      exact (hne h).elim
  obtain ⟨o, e, h, rfl⟩ := this
  exact ⟨e, h⟩
end Pu

theorem PySem.Challenge.cw_tripallowances_k17_rules_written_and_rea_holds : PySem.Challenge.rw_tripallowances_k17_rules_written_and_rea.Holds :=
  Lk17.closes Pu.law_k17_true Pu.names_true
