import PyProof.Rows.All
import Wide.All
import OpenK.AllK
import Wide.FinOn
import HandS.ForMost
import HandS.Exc
import HandS.ExcInit
import HandS.ExcIs
import HandS.IsInst
import HandS.Wide
import HandS.WideMore
import HandS.Conv
import HandS.Deep
import HandS.DictComp
import HandS.Style
import HandS.Zip
import HandS.Flow
import HandS.Codes
import HandS.HeadHook4
import KE.KExcIs
import HandS.ExcOwn
import KE.KStateDown
import HandS.Head0
import HandS.Head1
import HandS.Head2
import HandS.HeadEnd
import PySem.Challenge.RW_sameproof_k95_errors_of_what_is_asked
import HandS.HotCalls
import HandS.ExcInitHot
import HandS.ExcCtx
set_option Elab.async false
set_option linter.all false
set_option maxRecDepth 100000
set_option maxHeartbeats 2000000
/-! B1: values of a small machine, and what they stand for over the abstract heap. -/
namespace BK
open PySem PySem.Spec PyProof.Rows L2

/-- a value: tuples, lists and dicts that nobody changes by what they hold; ref: a list or a dict that may change, by its number; fn, cls: a def, a class of the text, by its number -/
inductive W where
  | non | bl (b : Bool) | int (i : Int) | str (s : Str)
  | tup (l : List W) | lst (l : List W) | dct (l : List (Key × W))
  | exn (c : Nat) (l : List (Str × W))
  | ref (i : Nat) | fn (i : Nat) | cls (i : Nat) | ty (s : String)
  | arg (l : List W)
/-- what stands at a number -/
inductive O where
  | lst (l : List W) | dct (l : List (Key × W)) | gone
abbrev Sto := List O
abbrev Env := List (Option W)
/-- an answer: a value, an exception of a class with its fields, or nothing told -/
inductive R (α : Type) where
  | ok (a : α) (s : Sto) | exc (c : Nat) (l : List (Str × W)) (s : Sto) | stuck

mutual
/-- all numbers in it are below n -/
def W.low (n : Nat) : W → Bool
  | .tup l => W.lows n l
  | .lst l => W.lows n l
  | .arg l => W.lows n l
  | .dct l => W.lowd n l
  | .exn _ l => W.lowf n l
  | .ref i => Nat.blt i n
  | _ => true
def W.lows (n : Nat) : List W → Bool
  | [] => true
  | w :: l => w.low n && W.lows n l
def W.lowd (n : Nat) : List (Key × W) → Bool
  | [] => true
  | (_, w) :: l => w.low n && W.lowd n l
def W.lowf (n : Nat) : List (Str × W) → Bool
  | [] => true
  | (_, w) :: l => w.low n && W.lowf n l
end
def O.low (n : Nat) : O → Bool
  | .lst l => W.lows n l
  | .dct l => W.lowd n l
  | .gone => true
/-- where defs and classes stand -/
structure Adr where
  fn : Nat → Addr
  cls : Nat → Addr
abbrev Own := List (Option Addr)
def Own.has (ρ : Own) (a : Addr) : Prop := ∃ i : Nat, ρ[i]? = some (some a)

/-- a list of the written part -/
def KL (K : PySem.W.Frag) (a : Addr) (xs : List V) : Prop := ∃ (o : Obj) (its : Array Value) (n : Nat), K.lookup a = some o ∧ o.cls = .type "list" ∧ o.dict = none ∧ o.data = .seq its n ∧ its.size ≤ sizeLine ∧ Vals xs its.toList
mutual
/-- w stands for v -/
inductive VR (K : PySem.W.Frag) (T : Adr) (ρ : Own) (H : Hp) : W → V → Prop where
  | non : VR K T ρ H .non .non
  | bl (b : Bool) : VR K T ρ H (.bl b) (.bl b)
  | int (i : Int) : VR K T ρ H (.int i) (.int i)
  | str (s : Str) : VR K T ρ H (.str s) (.str s)
  | tup {a : Addr} {vs : List V} {ws : List W} : SqT K H a vs → VRs K T ρ H ws vs → VR K T ρ H (.tup ws) (.ref a)
  | lst {a : Addr} {vs : List V} {ws : List W} : ¬ ρ.has a → Rd H a (.lst vs) → VRs K T ρ H ws vs → VR K T ρ H (.lst ws) (.ref a)
  | dct {a : Addr} {kvs : List (Key × V)} {kws : List (Key × W)} : ¬ ρ.has a → Rd H a (.dK kvs) → VRd K T ρ H kws kvs → VR K T ρ H (.dct kws) (.ref a)
  | arg {a : Addr} {vs : List V} {ws : List W} : (¬ ρ.has a ∧ Rd H a (.lst vs)) ∨ KL K a vs → VRs K T ρ H ws vs → VR K T ρ H (.arg ws) (.ref a)
  | exn0 {a : Addr} {c : Nat} : ¬ ρ.has a → H a = some (exo a (T.cls c) none) → VR K T ρ H (.exn c []) (.ref a)
  | exn {a d : Addr} {c : Nat} {fs : List (Str × V)} {ws : List (Str × W)} : ¬ ρ.has a → ¬ ρ.has d → H a = some (exo a (T.cls c) (some d)) → H d = some (exd d fs) → VRf K T ρ H ws fs → VR K T ρ H (.exn c ws) (.ref a)
  | ref {i : Nat} {v : V} : i < ρ.length → (∀ a, ρ[i]? = some (some a) → v = .ref a) → VR K T ρ H (.ref i) v
  | fn (i : Nat) : VR K T ρ H (.fn i) (.ref (T.fn i))
  | cls (i : Nat) : VR K T ρ H (.cls i) (.ref (T.cls i))
  | ty (s : String) : VR K T ρ H (.ty s) (.ty s)
inductive VRs (K : PySem.W.Frag) (T : Adr) (ρ : Own) (H : Hp) : List W → List V → Prop where
  | nil : VRs K T ρ H [] []
  | cons {w : W} {v : V} {ws : List W} {vs : List V} : VR K T ρ H w v → VRs K T ρ H ws vs → VRs K T ρ H (w :: ws) (v :: vs)
inductive VRd (K : PySem.W.Frag) (T : Adr) (ρ : Own) (H : Hp) : List (Key × W) → List (Key × V) → Prop where
  | nil : VRd K T ρ H [] []
  | cons {k : Key} {w : W} {v : V} {ws : List (Key × W)} {vs : List (Key × V)} : VR K T ρ H w v → VRd K T ρ H ws vs → VRd K T ρ H ((k, w) :: ws) ((k, v) :: vs)
inductive VRf (K : PySem.W.Frag) (T : Adr) (ρ : Own) (H : Hp) : List (Str × W) → List (Str × V) → Prop where
  | nil : VRf K T ρ H [] []
  | cons {k : Str} {w : W} {v : V} {ws : List (Str × W)} {vs : List (Str × V)} : VR K T ρ H w v → VRf K T ρ H ws vs → VRf K T ρ H ((k, w) :: ws) ((k, v) :: vs)
end

inductive OR (K : PySem.W.Frag) (T : Adr) (ρ : Own) (H : Hp) : O → Option Addr → Prop where
  | lst {a : Addr} {vs : List V} {ws : List W} : H a = some (.lst vs) → VRs K T ρ H ws vs → OR K T ρ H (.lst ws) (some a)
  | dct {a : Addr} {kvs : List (Key × V)} {kws : List (Key × W)} : H a = some (.dK kvs) → VRd K T ρ H kws kvs → OR K T ρ H (.dct kws) (some a)
  | gone : OR K T ρ H .gone none

/-- the store stands for the heap -/
structure Rl (K : PySem.W.Frag) (T : Adr) (ρ : Own) (S : Sto) (H : Hp) : Prop where
  len : ρ.length = S.length
  at_ : ∀ (i : Nat) (x : Option Addr) (o : O), ρ[i]? = some x → S[i]? = some o → OR K T ρ H o x
  inj : ∀ (i j : Nat) (a : Addr), ρ[i]? = some (some a) → ρ[j]? = some (some a) → i = j
  low : ∀ (i : Nat) (o : O), S[i]? = some o → o.low i = true

/-- later -/
structure Ext (ρ : Own) (H : Hp) (ρ' : Own) (H' : Hp) : Prop where
  len : ρ.length ≤ ρ'.length
  pt : ∀ (i : Nat) (x : Option Addr), ρ[i]? = some x → ρ'[i]? = some x ∨ ρ'[i]? = some none
  new : ∀ (i : Nat) (a : Addr), ρ.length ≤ i → ρ'[i]? = some (some a) → H a = none
  keep : ∀ (a : Addr) (o : HO), H a = some o → ¬ ρ.has a → H' a = some o
  there : ∀ (a : Addr) (o : HO), H a = some o → ∃ o', H' a = some o'
theorem Ext.refl (ρ : Own) (H : Hp) : Ext ρ H ρ H :=
  ⟨Nat.le_refl _, fun _ _ h => .inl h, fun i a h e => by
    have := (List.getElem?_eq_some_iff.mp e).1
    omega, fun _ _ h _ => h, fun _ o h => ⟨o, h⟩⟩
section
variable {K : PySem.W.Frag} {T : Adr} {ρ ρ' ρ'' : Own} {H H' H'' : Hp}
theorem Ext.has (e : Ext ρ H ρ' H') {a : Addr} {o : HO} (h : H a = some o) (n : ¬ ρ.has a) : ¬ ρ'.has a := by
  rintro ⟨i, q⟩
  by_cases hi : i < ρ.length
  · have e1 := List.getElem?_eq_getElem hi
    rcases e.pt i _ e1 with z | z
    · rw [z] at q
      refine n ⟨i, ?_⟩
      rw [e1]
      exact q
    · rw [z] at q
      cases q
  · have := e.new i a (by omega) q
    rw [h] at this
    cases this
theorem Ext.trans (e : Ext ρ H ρ' H') (f : Ext ρ' H' ρ'' H'') : Ext ρ H ρ'' H'' where
  len := Nat.le_trans e.len f.len
  pt := fun i x h => by
    rcases e.pt i x h with z | z
    · exact f.pt i x z
    · rcases f.pt i _ z with y | y
      · exact .inr y
      · exact .inr y
  new := fun i a hi h => by
    by_cases hj : i < ρ'.length
    · have e1 := List.getElem?_eq_getElem hj
      rcases f.pt i _ e1 with z | z
      · rw [z] at h
        exact e.new i a hi (by rw [e1]; exact h)
      · rw [z] at h
        cases h
    · have := f.new i a (by omega) h
      cases q : H a with
      | none => rfl
      | some o =>
        obtain ⟨o', z⟩ := e.there a o q
        rw [z] at this
        cases this
  keep := fun a o h n => f.keep a o (e.keep a o h n) (e.has h n)
  there := fun a o h => by
    obtain ⟨o', z⟩ := e.there a o h
    exact f.there a o' z
theorem Ext.sqL (e : Ext ρ H ρ' H') {a : Addr} {vs : List V} (n : ¬ ρ.has a) (h : SqL K H a vs) : SqL K H' a vs := by
  rcases h with (h | ⟨o, h⟩) | h
  · exact .inl (.inl (e.keep _ _ h n))
  · exact .inl (.inr ⟨o, e.keep _ _ h n⟩)
  · exact .inr h
end

theorem Rl.noT {K : PySem.W.Frag} {T : Adr} {ρ : Own} {S : Sto} {H : Hp} (r : Rl K T ρ S H) {a : Addr} (h : ρ.has a) : (∃ xs, H a = some (.lst xs)) ∨ ∃ kvs, H a = some (.dK kvs) := by
  obtain ⟨i, q⟩ := h
  have hi : i < S.length := by
    have := (List.getElem?_eq_some_iff.mp q).1
    rw [r.len] at this
    exact this
  have o := r.at_ i _ _ q (List.getElem?_eq_getElem hi)
  generalize S[i] = ob at o
  cases o with
  | lst h _ => exact .inl ⟨_, h⟩
  | dct h _ => exact .inr ⟨_, h⟩
section
variable {K : PySem.W.Frag} {T : Adr} {ρ ρ' : Own} {S : Sto} {H H' : Hp}
theorem Rl.tupK (r : Rl K T ρ S H) {a : Addr} {o : HO} (h : H a = some o) (n1 : ∀ xs, o ≠ .lst xs) (n2 : ∀ xs, o ≠ .dK xs) : ¬ ρ.has a := fun z => by
  rcases r.noT z with ⟨xs, q⟩ | ⟨xs, q⟩
  · rw [h] at q; exact n1 xs (Option.some.inj q)
  · rw [h] at q; exact n2 xs (Option.some.inj q)
theorem Ext.sqT (r : Rl K T ρ S H) (e : Ext ρ H ρ' H') {a : Addr} {vs : List V} (h : SqT K H a vs) : SqT K H' a vs := by
  rcases h with (h | ⟨o, h⟩) | h
  · exact .inl (.inl (e.keep _ _ h (r.tupK h (fun _ q => by cases q) (fun _ q => by cases q))))
  · exact .inl (.inr ⟨o, e.keep _ _ h (r.tupK h (fun _ q => by cases q) (fun _ q => by cases q))⟩)
  · exact .inr h
theorem Ext.rd (e : Ext ρ H ρ' H') {a : Addr} {u : HO} (n : ¬ ρ.has a) (h : Rd H a u) : Rd H' a u ∧ ¬ ρ'.has a := by
  rcases h with h | ⟨o, h⟩
  · exact ⟨.inl (e.keep _ _ h n), e.has h n⟩
  · exact ⟨.inr ⟨o, e.keep _ _ h n⟩, e.has h n⟩
mutual
theorem VR.mono (r : Rl K T ρ S H) (e : Ext ρ H ρ' H') : ∀ {w : W} {v : V}, VR K T ρ H w v → VR K T ρ' H' w v
  | _, _, .non => .non
  | _, _, .bl b => .bl b
  | _, _, .int i => .int i
  | _, _, .str x => .str x
  | _, _, .tup h hs => .tup (e.sqT r h) (VRs.mono r e hs)
  | _, _, .lst n h hs => .lst (e.rd n h).2 (e.rd n h).1 (VRs.mono r e hs)
  | _, _, .arg h hs => .arg (h.imp (fun z => ⟨(e.rd z.1 z.2).2, (e.rd z.1 z.2).1⟩) id) (VRs.mono r e hs)
  | _, _, .dct n h hs => .dct (e.rd n h).2 (e.rd n h).1 (VRd.mono r e hs)
  | _, _, .exn0 n h => .exn0 (e.has h n) (e.keep _ _ h n)
  | _, _, .exn n m h g hs => .exn (e.has h n) (e.has g m) (e.keep _ _ h n) (e.keep _ _ g m) (VRf.mono r e hs)
  | _, _, .ref (i := i) hi h => .ref (Nat.lt_of_lt_of_le hi e.len) fun a q => by
      have e1 := List.getElem?_eq_getElem hi
      rcases e.pt i _ e1 with z | z
      · rw [z] at q
        exact h a (by rw [e1]; exact q)
      · rw [z] at q
        cases q
  | _, _, .fn i => .fn i
  | _, _, .cls i => .cls i
  | _, _, .ty x => .ty x
theorem VRs.mono (r : Rl K T ρ S H) (e : Ext ρ H ρ' H') : ∀ {w : List W} {v : List V}, VRs K T ρ H w v → VRs K T ρ' H' w v
  | _, _, .nil => .nil
  | _, _, .cons h t => .cons (VR.mono r e h) (VRs.mono r e t)
theorem VRd.mono (r : Rl K T ρ S H) (e : Ext ρ H ρ' H') : ∀ {w : List (Key × W)} {v : List (Key × V)}, VRd K T ρ H w v → VRd K T ρ' H' w v
  | _, _, .nil => .nil
  | _, _, .cons h t => .cons (VR.mono r e h) (VRd.mono r e t)
theorem VRf.mono (r : Rl K T ρ S H) (e : Ext ρ H ρ' H') : ∀ {w : List (Str × W)} {v : List (Str × V)}, VRf K T ρ H w v → VRf K T ρ' H' w v
  | _, _, .nil => .nil
  | _, _, .cons h t => .cons (VR.mono r e h) (VRf.mono r e t)
end
end

/-! ### a dict is locked, let go -/
def NotD (o : HO) : Prop := (∀ kvs, o ≠ .dK kvs) ∧ ∀ od kvs, o ≠ .frz od (.dK kvs)
structure Lk (H H' : Hp) : Prop where
  keep : ∀ a o, NotD o → H a = some o → H' a = some o
  dk : ∀ a kvs, Rd H a (.dK kvs) → Rd H' a (.dK kvs)
theorem exo_nd {e C : Addr} {d : Option Addr} : NotD (exo e C d) := by
  refine ⟨fun _ q => ?_, fun _ _ q => ?_⟩
  · have q' : HO.ext _ = HO.dK _ := q
    cases q'
  · have q' : HO.ext _ = HO.frz _ _ := q
    cases q'
theorem exd_nd {e : Addr} {fs : List (Str × V)} : NotD (exd e fs) := by
  refine ⟨fun _ q => ?_, fun _ _ q => ?_⟩
  · have q' : HO.ext _ = HO.dK _ := q
    cases q'
  · have q' : HO.ext _ = HO.frz _ _ := q
    cases q'
section
variable {K : PySem.W.Frag} {T : Adr} {ρ : Own} {S : Sto} {H H' : Hp}
theorem Lk.rdL (k : Lk H H') {a : Addr} {vs : List V} (h : Rd H a (.lst vs)) : Rd H' a (.lst vs) := by
  rcases h with h | ⟨o, h⟩
  · exact .inl (k.keep _ _ ⟨fun _ q => (by cases q), fun _ _ q => (by cases q)⟩ h)
  · exact .inr ⟨o, k.keep _ _ ⟨fun _ q => (by cases q), fun _ _ q => (by cases q)⟩ h⟩
theorem Lk.sqT (k : Lk H H') {a : Addr} {vs : List V} (h : SqT K H a vs) : SqT K H' a vs := by
  rcases h with (h | ⟨o, h⟩) | h
  · exact .inl (.inl (k.keep _ _ ⟨fun _ q => (by cases q), fun _ _ q => (by cases q)⟩ h))
  · exact .inl (.inr ⟨o, k.keep _ _ ⟨fun _ q => (by cases q), fun _ _ q => (by cases q)⟩ h⟩)
  · exact .inr h
mutual
theorem VR.lk (k : Lk H H') : ∀ {w : W} {v : V}, VR K T ρ H w v → VR K T ρ H' w v
  | _, _, .non => .non
  | _, _, .bl b => .bl b
  | _, _, .int i => .int i
  | _, _, .str x => .str x
  | _, _, .tup h hs => .tup (k.sqT h) (VRs.lk k hs)
  | _, _, .lst n h hs => .lst n (k.rdL h) (VRs.lk k hs)
  | _, _, .arg h hs => .arg (h.imp (fun z => ⟨z.1, k.rdL z.2⟩) id) (VRs.lk k hs)
  | _, _, .dct n h hs => .dct n (k.dk _ _ h) (VRd.lk k hs)
  | _, _, .exn0 n h => .exn0 n (k.keep _ _ exo_nd h)
  | _, _, .exn n m h g hs => .exn n m (k.keep _ _ exo_nd h) (k.keep _ _ exd_nd g) (VRf.lk k hs)
  | _, _, .ref hi h => .ref hi h
  | _, _, .fn i => .fn i
  | _, _, .cls i => .cls i
  | _, _, .ty x => .ty x
theorem VRs.lk (k : Lk H H') : ∀ {w : List W} {v : List V}, VRs K T ρ H w v → VRs K T ρ H' w v
  | _, _, .nil => .nil
  | _, _, .cons h t => .cons (VR.lk k h) (VRs.lk k t)
theorem VRd.lk (k : Lk H H') : ∀ {w : List (Key × W)} {v : List (Key × V)}, VRd K T ρ H w v → VRd K T ρ H' w v
  | _, _, .nil => .nil
  | _, _, .cons h t => .cons (VR.lk k h) (VRd.lk k t)
theorem VRf.lk (k : Lk H H') : ∀ {w : List (Str × W)} {v : List (Str × V)}, VRf K T ρ H w v → VRf K T ρ H' w v
  | _, _, .nil => .nil
  | _, _, .cons h t => .cons (VR.lk k h) (VRf.lk k t)
end
theorem lk_lock {d : Addr} {kvs : List (Key × V)} {od : Obj} (h : H d = some (.dK kvs)) : Lk H (upd H d (.frz od (.dK kvs))) where
  keep := fun a o n q => by
    rw [upd_ne fun z => ?_]
    · exact q
    · rw [z, h] at q
      cases q
      exact n.1 _ rfl
  dk := fun a kvs' q => by
    by_cases e : a = d
    · subst e
      rcases q with q | ⟨o, q⟩
      · rw [h] at q
        cases q
        exact .inr ⟨od, upd_same⟩
      · rw [h] at q
        cases q
    · rcases q with q | ⟨o, q⟩
      · exact .inl (by rw [upd_ne e]; exact q)
      · exact .inr ⟨o, by rw [upd_ne e]; exact q⟩
theorem lk_free {d : Addr} {kvs : List (Key × V)} {od : Obj} (h : H d = some (.frz od (.dK kvs))) : Lk H (upd H d (.dK kvs)) where
  keep := fun a o n q => by
    rw [upd_ne fun z => ?_]
    · exact q
    · rw [z, h] at q
      cases q
      exact n.2 _ _ rfl
  dk := fun a kvs' q => by
    by_cases e : a = d
    · subst e
      rcases q with q | ⟨o, q⟩
      · rw [h] at q
        cases q
      · rw [h] at q
        cases q
        exact .inl upd_same
    · rcases q with q | ⟨o, q⟩
      · exact .inl (by rw [upd_ne e]; exact q)
      · exact .inr ⟨o, by rw [upd_ne e]; exact q⟩
theorem Rl.lk (r : Rl K T ρ S H) (k : Lk H H') (ho : ∀ a o, ρ.has a → H a = some o → H' a = some o) : Rl K T ρ S H' where
  len := r.len
  at_ := fun i x o h1 h2 => by
    have q := r.at_ i x o h1 h2
    cases q with
    | lst h hs => exact .lst (ho _ _ ⟨i, h1⟩ h) (hs.lk k)
    | dct h hs => exact .dct (ho _ _ ⟨i, h1⟩ h) (hs.lk k)
    | gone => exact .gone
  inj := r.inj
  low := r.low
/-- what the locked walk has come to, the dict let go -/
theorem Ext.unlock {ρ' : Own} {H2 : Hp} {d : Addr} {kvs : List (Key × V)} {od : Obj} (e : Ext ρ (upd H d (.frz od (.dK kvs))) ρ' H2) (h : H d = some (.dK kvs)) (n : ¬ ρ.has d) : Ext ρ H ρ' (upd H2 d (.dK kvs)) where
  len := e.len
  pt := e.pt
  new := fun i a hi q => by
    have z := e.new i a hi q
    by_cases ed : a = d
    · rw [ed, upd_same] at z; cases z
    · rw [upd_ne ed] at z; exact z
  keep := fun a o q m => by
    by_cases ed : a = d
    · subst ed
      rw [h] at q
      cases q
      exact upd_same
    · rw [upd_ne ed]
      exact e.keep a o (by rw [upd_ne ed]; exact q) m
  there := fun a o q => by
    by_cases ed : a = d
    · subst ed
      exact ⟨_, upd_same⟩
    · obtain ⟨o', z⟩ := e.there a o (by rw [upd_ne ed]; exact q)
      exact ⟨o', by rw [upd_ne ed]; exact z⟩
end

/-! ### lists -/
section
variable {K : PySem.W.Frag} {T : Adr} {ρ ρ' : Own} {S : Sto} {H H' : Hp}
theorem VRs.length : ∀ {ws : List W} {vs : List V}, VRs K T ρ H ws vs → ws.length = vs.length
  | _, _, .nil => rfl
  | _, _, .cons _ t => congrArg Nat.succ t.length
theorem VRs.get : ∀ {ws : List W} {vs : List V} {i : Nat} {w : W}, VRs K T ρ H ws vs → ws[i]? = some w → ∃ v, vs[i]? = some v ∧ VR K T ρ H w v
  | _, _, _, _, .nil, h => by simp at h
  | _, _, 0, _, .cons h _, e => by
    simp at e
    subst e
    exact ⟨_, rfl, h⟩
  | _, _, i + 1, _, .cons _ t, e => by
    obtain ⟨v, h1, h2⟩ := t.get (i := i) (by simpa using e)
    exact ⟨v, by simpa using h1, h2⟩
theorem VRs.append : ∀ {a b : List W} {x y : List V}, VRs K T ρ H a x → VRs K T ρ H b y → VRs K T ρ H (a ++ b) (x ++ y)
  | _, _, _, _, .nil, h => h
  | _, _, _, _, .cons h t, g => .cons h (t.append g)
theorem VRs.set {w : W} {v : V} (h : VR K T ρ H w v) : ∀ {a : List W} {x : List V} (i : Nat), VRs K T ρ H a x → VRs K T ρ H (a.set i w) (x.set i v)
  | _, _, _, .nil => .nil
  | _, _, 0, .cons _ t => .cons h t
  | _, _, i + 1, .cons g t => .cons g (t.set h i)
theorem VRs.take : ∀ {a : List W} {x : List V} (n : Nat), VRs K T ρ H a x → VRs K T ρ H (a.take n) (x.take n)
  | _, _, 0, _ => by simpa using VRs.nil
  | _, _, n + 1, .nil => by simpa using VRs.nil
  | _, _, n + 1, .cons h t => .cons h (t.take n)
theorem VRs.drop : ∀ {a : List W} {x : List V} (n : Nat), VRs K T ρ H a x → VRs K T ρ H (a.drop n) (x.drop n)
  | _, _, 0, h => h
  | _, _, n + 1, .nil => by simpa using VRs.nil
  | _, _, n + 1, .cons _ t => t.drop n
theorem VRs.erase : ∀ {a : List W} {x : List V} (n : Nat), VRs K T ρ H a x → VRs K T ρ H (a.eraseIdx n) (x.eraseIdx n)
  | _, _, _, .nil => .nil
  | _, _, 0, .cons _ t => t
  | _, _, n + 1, .cons h t => .cons h (t.erase n)
theorem VRs.dropLast {a : List W} {x : List V} (h : VRs K T ρ H a x) : VRs K T ρ H a.dropLast x.dropLast := by
  rw [List.dropLast_eq_take, List.dropLast_eq_take, h.length]
  exact h.take _
theorem VRs.rev {a : List W} {x : List V} (h : VRs K T ρ H a x) : VRs K T ρ H a.reverse x.reverse := by
  induction a generalizing x with
  | nil => cases h; exact .nil
  | cons w l ih =>
    cases h with
    | cons h t =>
      rw [List.reverse_cons, List.reverse_cons]
      exact (ih t).append (.cons h .nil)
theorem VRd.length : ∀ {ws : List (Key × W)} {vs : List (Key × V)}, VRd K T ρ H ws vs → ws.length = vs.length
  | _, _, .nil => rfl
  | _, _, .cons _ t => congrArg Nat.succ t.length
theorem VRf.look {f : Str} {w : W} : ∀ {ws : List (Str × W)} {vs : List (Str × V)}, VRf K T ρ H ws vs → ws.lookup f = some w → ∃ v, vs.lookup f = some v ∧ VR K T ρ H w v
  | _, _, .nil, h => by simp at h
  | (g, _) :: _, _, .cons h t, e => by
    rw [List.lookup_cons] at e ⊢
    cases q : f == g with
    | true =>
      rw [q] at e
      cases e
      exact ⟨_, rfl, h⟩
    | false =>
      rw [q] at e
      exact t.look e
mutual
theorem VR.lowAll : ∀ {w : W} {v : V}, VR K T ρ H w v → w.low ρ.length = true
  | _, _, .non => rfl
  | _, _, .bl _ => rfl
  | _, _, .int _ => rfl
  | _, _, .str _ => rfl
  | _, _, .tup _ h => by simpa [W.low] using VRs.lowAll h
  | _, _, .lst _ _ h => by simpa [W.low] using VRs.lowAll h
  | _, _, .arg _ h => by simpa [W.low] using VRs.lowAll h
  | _, _, .dct _ _ h => by simpa [W.low] using VRd.lowAll h
  | _, _, .exn0 _ _ => rfl
  | _, _, .exn _ _ _ _ h => by simpa [W.low] using VRf.lowAll h
  | _, _, .ref h _ => by
    simp only [W.low, Nat.blt, Nat.ble_eq]
    exact h
  | _, _, .fn _ => rfl
  | _, _, .cls _ => rfl
  | _, _, .ty _ => rfl
theorem VRs.lowAll : ∀ {w : List W} {v : List V}, VRs K T ρ H w v → W.lows ρ.length w = true
  | _, _, .nil => rfl
  | _, _, .cons h t => by simp [W.lows, VR.lowAll h, VRs.lowAll t]
theorem VRd.lowAll : ∀ {w : List (Key × W)} {v : List (Key × V)}, VRd K T ρ H w v → W.lowd ρ.length w = true
  | _, _, .nil => rfl
  | _, _, .cons h t => by simp [W.lowd, VR.lowAll h, VRd.lowAll t]
theorem VRf.lowAll : ∀ {w : List (Str × W)} {v : List (Str × V)}, VRf K T ρ H w v → W.lowf ρ.length w = true
  | _, _, .nil => rfl
  | _, _, .cons h t => by simp [W.lowf, VR.lowAll h, VRf.lowAll t]
end
/-- the numbers from n on forgotten -/
theorem has_take {n : Nat} {a : Addr} (h : ¬ ρ.has a) : ¬ (Own.has (ρ.take n) a) := fun ⟨i, q⟩ => h ⟨i, by
  rw [List.getElem?_take] at q
  split at q
  · exact q
  · cases q⟩
mutual
theorem VR.cut (n : Nat) : ∀ {w : W} {v : V}, VR K T ρ H w v → w.low n = true → VR K T (ρ.take n) H w v
  | _, _, .non, _ => .non
  | _, _, .bl b, _ => .bl b
  | _, _, .int i, _ => .int i
  | _, _, .str x, _ => .str x
  | _, _, .tup h hs, l => .tup h (VRs.cut n hs (by simpa [W.low] using l))
  | _, _, .lst m h hs, l => .lst (has_take m) h (VRs.cut n hs (by simpa [W.low] using l))
  | _, _, .arg h hs, l => .arg (h.imp (fun z => ⟨has_take z.1, z.2⟩) id) (VRs.cut n hs (by simpa [W.low] using l))
  | _, _, .dct m h hs, l => .dct (has_take m) h (VRd.cut n hs (by simpa [W.low] using l))
  | _, _, .exn0 m h, _ => .exn0 (has_take m) h
  | _, _, .exn m k h g hs, l => .exn (has_take m) (has_take k) h g (VRf.cut n hs (by simpa [W.low] using l))
  | _, _, .ref (i := i) hi h, l => by
      have l' : i < n := by
        simp only [W.low, Nat.blt, Nat.ble_eq] at l
        exact l
      exact .ref (by rw [List.length_take]; omega) fun a q => h a (by rw [List.getElem?_take_of_lt l'] at q; exact q)
  | _, _, .fn i, _ => .fn i
  | _, _, .cls i, _ => .cls i
  | _, _, .ty x, _ => .ty x
theorem VRs.cut (n : Nat) : ∀ {w : List W} {v : List V}, VRs K T ρ H w v → W.lows n w = true → VRs K T (ρ.take n) H w v
  | _, _, .nil, _ => .nil
  | _, _, .cons h t, l => by
    simp only [W.lows, Bool.and_eq_true] at l
    exact .cons (VR.cut n h l.1) (VRs.cut n t l.2)
theorem VRd.cut (n : Nat) : ∀ {w : List (Key × W)} {v : List (Key × V)}, VRd K T ρ H w v → W.lowd n w = true → VRd K T (ρ.take n) H w v
  | _, _, .nil, _ => .nil
  | _, _, .cons h t, l => by
    simp only [W.lowd, Bool.and_eq_true] at l
    exact .cons (VR.cut n h l.1) (VRd.cut n t l.2)
theorem VRf.cut (n : Nat) : ∀ {w : List (Str × W)} {v : List (Str × V)}, VRf K T ρ H w v → W.lowf n w = true → VRf K T (ρ.take n) H w v
  | _, _, .nil, _ => .nil
  | _, _, .cons h t, l => by
    simp only [W.lowf, Bool.and_eq_true] at l
    exact .cons (VR.cut n h l.1) (VRf.cut n t l.2)
end
mutual
theorem W.low_mono {n m : Nat} (h : n ≤ m) : ∀ {w : W}, w.low n = true → w.low m = true
  | .non, _ => rfl
  | .bl _, _ => rfl
  | .int _, _ => rfl
  | .str _, _ => rfl
  | .tup l, g => by simp only [W.low] at g ⊢; exact W.lows_mono h g
  | .lst l, g => by simp only [W.low] at g ⊢; exact W.lows_mono h g
  | .arg l, g => by simp only [W.low] at g ⊢; exact W.lows_mono h g
  | .dct l, g => by simp only [W.low] at g ⊢; exact W.lowd_mono h g
  | .exn _ l, g => by simp only [W.low] at g ⊢; exact W.lowf_mono h g
  | .ref i, g => by
    simp only [W.low, Nat.blt, Nat.ble_eq] at g ⊢
    omega
  | .fn _, _ => rfl
  | .cls _, _ => rfl
  | .ty _, _ => rfl
theorem W.lows_mono {n m : Nat} (h : n ≤ m) : ∀ {l : List W}, W.lows n l = true → W.lows m l = true
  | [], _ => rfl
  | w :: l, g => by
    simp only [W.lows, Bool.and_eq_true] at g ⊢
    exact ⟨W.low_mono h g.1, W.lows_mono h g.2⟩
theorem W.lowd_mono {n m : Nat} (h : n ≤ m) : ∀ {l : List (Key × W)}, W.lowd n l = true → W.lowd m l = true
  | [], _ => rfl
  | (_, w) :: l, g => by
    simp only [W.lowd, Bool.and_eq_true] at g ⊢
    exact ⟨W.low_mono h g.1, W.lowd_mono h g.2⟩
theorem W.lowf_mono {n m : Nat} (h : n ≤ m) : ∀ {l : List (Str × W)}, W.lowf n l = true → W.lowf m l = true
  | [], _ => rfl
  | (_, w) :: l, g => by
    simp only [W.lowf, Bool.and_eq_true] at g ⊢
    exact ⟨W.low_mono h g.1, W.lowf_mono h g.2⟩
end
theorem lows_append {n : Nat} : ∀ {a b : List W}, W.lows n a = true → W.lows n b = true → W.lows n (a ++ b) = true
  | [], _, _, h => h
  | w :: a, b, h, g => by
    simp only [W.lows, Bool.and_eq_true] at h
    simp only [List.cons_append, W.lows, h.1, lows_append h.2 g, Bool.and_self]
theorem lows_mem {n : Nat} {a : List W} : W.lows n a = true ↔ ∀ w ∈ a, w.low n = true := by
  induction a with
  | nil => simp [W.lows]
  | cons w a ih => simp [W.lows, ih]
theorem lowd_mem {n : Nat} {a : List (Key × W)} : W.lowd n a = true ↔ ∀ w ∈ a, w.2.low n = true := by
  induction a with
  | nil => simp [W.lowd]
  | cons w a ih => obtain ⟨k, w⟩ := w; simp [W.lowd, ih]

/-! ### the store's changes -/
theorem has_push {p a : Addr} (h : Own.has (ρ ++ [some p]) a) : ρ.has a ∨ a = p := by
  obtain ⟨i, q⟩ := h
  by_cases hi : i < ρ.length
  · rw [List.getElem?_append_left hi] at q
    exact .inl ⟨i, q⟩
  · rw [List.getElem?_append_right (by omega)] at q
    cases e : i - ρ.length with
    | zero =>
      rw [e] at q
      cases q
      exact .inr rfl
    | succ n =>
      rw [e] at q
      simp at q
theorem ext_push {p : Addr} {o : HO} (hp : H p = none) : Ext ρ H (ρ ++ [some p]) (upd H p o) where
  len := by simp
  pt := fun i x h => .inl (by rw [List.getElem?_append_left (List.getElem?_eq_some_iff.mp h).1]; exact h)
  new := fun i a hi h => by
    rcases has_push (ρ := ρ) ⟨i, h⟩ with ⟨j, z⟩ | z
    · rw [List.getElem?_append_right hi] at h
      cases e : i - ρ.length with
      | zero => rw [e] at h; cases h; exact hp
      | succ n => rw [e] at h; simp at h
    · rw [z]; exact hp
  keep := fun a o h _ => by rw [upd_ne (ne_of_none h hp)]; exact h
  there := fun a o h => ⟨o, by rw [upd_ne (ne_of_none h hp)]; exact h⟩
theorem OR.mono (r : Rl K T ρ S H) (e : Ext ρ H ρ' H') {o : O} {x : Option Addr} (h : OR K T ρ H o x) (hk : ∀ a u, x = some a → H a = some u → H' a = some u) : OR K T ρ' H' o x := by
  cases h with
  | lst h hs => exact .lst (hk _ _ rfl h) (hs.mono r e)
  | dct h hs => exact .dct (hk _ _ rfl h) (hs.mono r e)
  | gone => exact .gone
theorem rl_push {p : Addr} {o : O} {u : HO} (r : Rl K T ρ S H) (hp : H p = none) (ho : OR K T (ρ ++ [some p]) (upd H p u) o (some p)) (hl : o.low S.length = true) : Rl K T (ρ ++ [some p]) (S ++ [o]) (upd H p u) where
  len := by simp [r.len]
  at_ := fun i x q h1 h2 => by
    by_cases hi : i < ρ.length
    · rw [List.getElem?_append_left hi] at h1
      rw [List.getElem?_append_left (by rw [← r.len]; exact hi)] at h2
      refine (r.at_ i x q h1 h2).mono r (ext_push hp) fun a u' _ h => ?_
      rw [upd_ne (ne_of_none h hp)]
      exact h
    · rw [List.getElem?_append_right (by omega)] at h1
      rw [List.getElem?_append_right (by rw [← r.len]; omega)] at h2
      rw [← r.len] at h2
      cases e : i - ρ.length with
      | zero =>
        rw [e] at h1 h2
        cases h1
        cases h2
        exact ho
      | succ n =>
        rw [e] at h1
        simp at h1
  inj := fun i j a h1 h2 => by
    have key : ∀ i, (ρ ++ [some p])[i]? = some (some a) → (i < ρ.length ∧ ρ[i]? = some (some a)) ∨ (i = ρ.length ∧ a = p) := fun i h => by
      by_cases hi : i < ρ.length
      · rw [List.getElem?_append_left hi] at h
        exact .inl ⟨hi, h⟩
      · rw [List.getElem?_append_right (by omega)] at h
        cases e : i - ρ.length with
        | zero => rw [e] at h; cases h; exact .inr ⟨by omega, rfl⟩
        | succ n => rw [e] at h; simp at h
    have no : ¬ ρ.has p := fun z => by
      rcases r.noT z with ⟨xs, q⟩ | ⟨xs, q⟩ <;> (rw [hp] at q; cases q)
    rcases key i h1 with ⟨_, a1⟩ | ⟨a1, b1⟩ <;> rcases key j h2 with ⟨_, a2⟩ | ⟨a2, b2⟩
    · exact r.inj i j a a1 a2
    · exact absurd ⟨i, b2 ▸ a1⟩ no
    · exact absurd ⟨j, b1 ▸ a2⟩ no
    · omega
  low := fun i q h => by
    by_cases hi : i < S.length
    · rw [List.getElem?_append_left hi] at h
      exact r.low i q h
    · rw [List.getElem?_append_right (by omega)] at h
      cases e : i - S.length with
      | zero =>
        rw [e] at h
        cases h
        have : i = S.length := by omega
        rw [this]
        exact hl
      | succ n => rw [e] at h; simp at h
theorem ext_write {i : Nat} {a : Addr} {u : HO} (hi : ρ[i]? = some (some a)) : Ext ρ H ρ (upd H a u) where
  len := Nat.le_refl _
  pt := fun _ _ h => .inl h
  new := fun j b hj h => by
    have := (List.getElem?_eq_some_iff.mp h).1
    omega
  keep := fun b o h n => by
    rw [upd_ne fun z => n ⟨i, by rw [z]; exact hi⟩]
    exact h
  there := fun b o h => by
    by_cases z : b = a
    · exact ⟨u, by rw [z, upd_same]⟩
    · exact ⟨o, by rw [upd_ne z]; exact h⟩
theorem rl_write {i : Nat} {a : Addr} {o : O} {u : HO} (r : Rl K T ρ S H) (hi : ρ[i]? = some (some a)) (ho : OR K T ρ (upd H a u) o (some a)) (hl : o.low i = true) : Rl K T ρ (S.set i o) (upd H a u) where
  len := by simp [r.len]
  at_ := fun j x q h1 h2 => by
    have hiS : i < S.length := by
      have := (List.getElem?_eq_some_iff.mp hi).1
      rw [r.len] at this
      exact this
    by_cases e : j = i
    · subst e
      rw [List.getElem?_set_self hiS] at h2
      cases h2
      rw [hi] at h1
      cases h1
      exact ho
    · rw [List.getElem?_set_ne (Ne.symm e)] at h2
      refine (r.at_ j x q h1 h2).mono r (ext_write hi) fun b u' hb h => ?_
      subst hb
      rw [upd_ne fun z => e (r.inj j i _ h1 (by rw [z]; exact hi))]
      exact h
  inj := r.inj
  low := fun j q h => by
    have hiS : i < S.length := by
      have := (List.getElem?_eq_some_iff.mp hi).1
      rw [r.len] at this
      exact this
    by_cases e : j = i
    · subst e
      rw [List.getElem?_set_self hiS] at h
      cases h
      exact hl
    · rw [List.getElem?_set_ne (Ne.symm e)] at h
      exact r.low j q h
theorem ext_gone {i : Nat} : Ext ρ H (ρ.set i none) H where
  len := by simp
  pt := fun j x h => by
    by_cases e : j = i
    · subst e
      exact .inr (List.getElem?_set_self (List.getElem?_eq_some_iff.mp h).1)
    · exact .inl (by rw [List.getElem?_set_ne (Ne.symm e)]; exact h)
  new := fun j b hj h => by
    have := (List.getElem?_eq_some_iff.mp h).1
    simp at this
    omega
  keep := fun b o h _ => h
  there := fun b o h => ⟨o, h⟩
theorem rl_gone {i : Nat} (r : Rl K T ρ S H) : Rl K T (ρ.set i none) (S.set i .gone) H where
  len := by simp [r.len]
  at_ := fun j x q h1 h2 => by
    by_cases e : j = i
    · subst e
      have hj : j < ρ.length := by
        have := (List.getElem?_eq_some_iff.mp h1).1
        simpa using this
      rw [List.getElem?_set_self hj] at h1
      rw [List.getElem?_set_self (by rw [← r.len]; exact hj)] at h2
      cases h1
      cases h2
      exact .gone
    · rw [List.getElem?_set_ne (Ne.symm e)] at h1 h2
      exact (r.at_ j x q h1 h2).mono r ext_gone fun _ _ _ h => h
  inj := fun j k a h1 h2 => by
    have key : ∀ j, (ρ.set i none)[j]? = some (some a) → ρ[j]? = some (some a) := fun j h => by
      by_cases e : j = i
      · subst e
        by_cases hj : j < ρ.length
        · rw [List.getElem?_set_self hj] at h; cases h
        · rw [List.getElem?_eq_none (by simpa using hj)] at h; cases h
      · rw [List.getElem?_set_ne (Ne.symm e)] at h
        exact h
    exact r.inj j k a (key j h1) (key k h2)
  low := fun j q h => by
    by_cases e : j = i
    · subst e
      by_cases hj : j < S.length
      · rw [List.getElem?_set_self hj] at h; cases h; rfl
      · rw [List.getElem?_eq_none (by simpa using hj)] at h; cases h
    · rw [List.getElem?_set_ne (Ne.symm e)] at h
      exact r.low j q h
theorem OR.cut {n i : Nat} {o : O} {x : Option Addr} (h : OR K T ρ H o x) (hl : o.low i = true) (hi : i ≤ n) : OR K T (ρ.take n) H o x := by
  have up : ∀ {w : W}, w.low i = true → w.low n = true := fun {w} => W.low_mono hi
  cases h with
  | lst h hs => exact .lst h (hs.cut n (lows_mem.mpr fun w hw => up (lows_mem.mp hl w hw)))
  | dct h hs => exact .dct h (hs.cut n (lowd_mem.mpr fun w hw => up (lowd_mem.mp hl w hw)))
  | gone => exact .gone
theorem rl_cut {n : Nat} (r : Rl K T ρ S H) : Rl K T (ρ.take n) (S.take n) H where
  len := by simp [r.len]
  at_ := fun i x o h1 h2 => by
    rw [List.getElem?_take] at h1 h2
    split at h1
    · rename_i hi
      rw [if_pos hi] at h2
      exact (r.at_ i x o h1 h2).cut (r.low i o h2) (by omega)
    · cases h1
  inj := fun i j a h1 h2 => by
    rw [List.getElem?_take] at h1 h2
    split at h1
    · split at h2
      · exact r.inj i j a h1 h2
      · cases h2
    · cases h1
  low := fun i o h => by
    rw [List.getElem?_take] at h
    split at h
    · exact r.low i o h
    · cases h
theorem ext_cut {n : Nat} (e : Ext ρ H ρ' H') (hn : n = ρ.length) : Ext ρ H (ρ'.take n) H' where
  len := by
    have := e.len
    rw [List.length_take]
    omega
  pt := fun i x h => by
    have hi := (List.getElem?_eq_some_iff.mp h).1
    rw [List.getElem?_take_of_lt (by omega)]
    exact e.pt i x h
  new := fun i a hi h => by
    rw [List.getElem?_take] at h
    split at h
    · omega
    · cases h
  keep := e.keep
  there := e.there
end
end BK

set_option maxRecDepth 100000
set_option maxHeartbeats 2000000
/-! B2: the small machine. -/
namespace BK
open PySem PySem.Spec PyProof.Rows L2

/-- what is done by values alone -/
inductive Pr where
  | tup | lst | mlst | mdct
  | add | sub | mul | fdiv | mod | pow | neg
  | eq | ne | lt | le | gt | ge | isin | notin | is_ | isnot
  | isi | len | list | mlist | tuple | all | any | sorted | str | int | abs | max2 | append | extend | pop | popAt | idx | slice | join | put
  | rev | get1 | index | popD
  deriving DecidableEq
inductive Tg where
  | nm (i : Nat) | tp (l : List Tg)
mutual
inductive Ex where
  | var (i : Nat) | lit (w : W) | pr (p : Pr) (es : List Ex)
  | and (a b : Ex) | or (a b : Ex) | not (a : Ex) | ifx (t a b : Ex)
  | call (f : Nat) (es : List Ex) | mk (c : Nat) (es : List Ex) | fld (a : Ex) (f : Str)
  | comp (m : Bool) (elt : Ex) (own : List Nat) (tg : Tg) (it : It) (cond : Option Ex)
  | dcomp (k v : Ex) (own : List Nat) (tg : Tg) (it : It)
  | frz (i : Nat) | disp (m : Bool) (es : List Ex) | brw (l : List Nat) (a : Ex)
  | callv (f : Ex) (es : List Ex) | callk (f : Nat) (o : List Nat) (es : List Ex) | mkk (c : Nat) (o : List Nat) (es : List Ex) | chn (p q : Pr) (a b c : Ex) | mth (p : Pr) (o : Ex) (es : List Ex) | slc (a b c : Ex)
inductive It where
  | seq (e : Ex) | keys (i : Nat) | range (es : List Ex) | enum (e : Ex) | zip (es : List Ex)
end
inductive St where
  | set (t : Tg) (e : Ex) | put (o i v : Ex) | ex (e : Ex) | ret (e : Ex)
  | ite (t : Ex) (a b : List St) | whl (t : Ex) (b : List St) | for_ (t : Tg) (it : It) (b : List St) | fort (t : Tg) (it : It) (b : List St)
  | brk | cnt | raise (c : Nat) (es : List Ex) | par (l : List Nat) (es : List Ex) | try_ (b : List St) (h : List (Nat × Nat × List St))

def R.bind {α β : Type} : R α → (α → Sto → R β) → R β
  | .ok a s, f => f a s
  | .exc c l s, _ => .exc c l s
  | .stuck, _ => .stuck
/-- outcome of a statement -/
inductive RS where
  | nx (e : Env) (s : Sto) | rt (w : W) (s : Sto) | bk (e : Env) (s : Sto) | ct (e : Env) (s : Sto) | exc (c : Nat) (l : List (Str × W)) (s : Sto) | stuck
def R.thn {α : Type} : R α → (α → Sto → RS) → RS
  | .ok a s, f => f a s
  | .exc c l s, _ => .exc c l s
  | .stuck, _ => .stuck

mutual
/-- as plain data -/
def W.data : W → Option PyData
  | .non => some .none
  | .bl b => some (.bool b)
  | .int i => some (.int i)
  | .str x => if PyData.canLay0 (.str x) = true then some (.str x) else none
  | .tup l => (W.datas l).map .tuple
  | .lst l => (W.datas l).map .list
  | _ => none
def W.datas : List W → Option (List PyData)
  | [] => some []
  | w :: l => match w.data, W.datas l with
    | some d, some ds => some (d :: ds)
    | _, _ => none
end
/-- with what stands at its number -/
def look (s : Sto) : W → W
  | .ref i => (match s[i]? with
    | some (.lst l) => .lst l
    | some (.dct l) => .dct l
    | _ => .ref i)
  | w => w
def weq (s : Sto) (a b : W) : Option Bool := match (look s a).data, (look s b).data with
  | some d, some e => if d.depth ≤ 64 ∨ e.depth ≤ 64 then some (PyData.eqv d e) else none
  | _, _ => none
def LIM : Nat := 16000000
def items (s : Sto) (w : W) : Option (List W) := match look s w with
  | .tup l => some l
  | .lst l => some l
  | .str x => some (x.cps.toList.map fun c => .str ⟨#[c]⟩)
  | _ => none
def tgSet : Tg → W → Env → Option Env
  | .nm i, w, e => some (e.set i (some w))
  | .tp ts, .tup ws, e => tgSets ts ws e
  | _, _, _ => none
where tgSets : List Tg → List W → Env → Option Env
  | [], [], e => some e
  | t :: ts, w :: ws, e => (tgSet t w e).bind (tgSets ts ws)
  | _, _, _ => none

/-- a dict's key -/
def keyOf : W → Option Key
  | .int i => some (.inl i)
  | .str x => some (.inr x)
  | _ => none
def getD' (k : Key) (l : List (Key × W)) : Option W := (l.find? fun kv => decide (kv.1 = k)).map (·.2)
def putD' (k : Key) (w : W) (l : List (Key × W)) : List (Key × W) := if (l.any fun kv => decide (kv.1 = k)) = true then l.map (fun kv => if kv.1 = k then (kv.1, w) else kv) else l ++ [(k, w)]
def okw (o : Option W) (s : Sto) : R W := match o with
  | some w => .ok w s
  | none => .stuck
def okb (o : Option Bool) (s : Sto) : R W := match o with
  | some b => .ok (.bl b) s
  | none => .stuck
/-- the place of an index among n -/
def ixAt (n : Nat) (i : Int) : Option Nat := if 0 ≤ i then (if i < n then some i.toNat else none) else if -(n : Int) ≤ i then some (i + n).toNat else none
def bools : List W → Option (List Bool)
  | [] => some []
  | .bl b :: l => (bools l).map (b :: ·)
  | _ => none
def strsOf : List W → Option (List Str)
  | [] => some []
  | .str x :: l => (strsOf l).map (x :: ·)
  | _ => none
def tyName : W → Option String
  | .non => some "NoneType"
  | .bl _ => some "bool"
  | .int _ => some "int"
  | .str _ => some "str"
  | .tup _ => some "tuple"
  | .lst _ => some "list"
  | .dct _ => some "dict"
  | _ => none
def plainTys : List String := ["bool", "int", "str", "list", "tuple", "dict"]
/-- isinstance of a value that is no own instance, one type -/
def isTy (t : String) : W → Option Bool
  | .ty u => if plainTys.contains u then some (t == u || (t == "bool" && u == "int")) else none
  | _ => none
def anyTy (t : String) : List W → Option Bool
  | [] => some false
  | u :: l => match isTy t u with
    | some true => some true
    | some false => anyTy t l
    | none => none
def catW (a b : W) : Option W := match a, b with
  | .lst l, .lst m => if l.length + m.length ≤ LIM then some (.lst (l ++ m)) else none
  | .tup l, .tup m => if l.length + m.length ≤ LIM ∧ l ≠ [] ∧ m ≠ [] then some (.tup (l ++ m)) else none
  | _, _ => none
/-- t[lo:hi] -/
def cut {α : Type} (l : List α) (lo hi : Option Int) : List α := (l.drop (HT.sIx l.length 0 lo)).take (HT.sIx l.length l.length hi - HT.sIx l.length 0 lo)
def part : W → Option (Option Int)
  | .non => some none
  | .int i => some (some i)
  | _ => none
/-- the program: its defs' own code, what is a kind of what -/
structure Def where
  n : Nat
  slots : Nat
  code : List St
  cutOff : Bool
structure Pg where
  defs : Nat → Option Def
  csub : Nat → Nat → Option Bool
  cty : Nat → String → Option Bool
  cps : Nat → Option (List Str)
  cfl : Nat → Str → Bool
def isOne (P : Pg) (x : W) (t : W) : Option Bool := match x with
  | .exn c _ => (match t with
    | .cls d => P.csub c d
    | .ty u => P.cty c u
    | _ => none)
  | _ => (match tyName x with
    | some n => isTy n t
    | none => none)
def isAny (P : Pg) (x : W) : List W → Option Bool
  | [] => some false
  | t :: l => match isOne P x t with
    | some true => some true
    | some false => isAny P x l
    | none => none
def isi (P : Pg) (x t : W) : Option Bool := match t with
  | .tup [] => none
  | .tup l => isAny P x l
  | t => isOne P x t
def divOk (j : Int) : Bool := decide (j ≠ 0) && decide (j.natAbs.log2 < 9000)
def mulOk (i j : Int) : Bool := decide (i.natAbs.log2 + j.natAbs.log2 ≤ 900000)
def cmpI (f : Int → Int → Bool) : W → W → Option Bool
  | .int i, .int j => some (f i j)
  | _, _ => none
def inW (s : Sto) (x o : W) : Option Bool := match look s o with
  | .lst l => (match (look s x).data, W.datas l with
    | some d, some ds => if d.depth ≤ 64 then some (ds.any fun z => PyData.eqv z d) else none
    | _, _ => none)
  | .tup l => (match (look s x).data, W.datas l with
    | some d, some ds => if d.depth ≤ 64 then some (ds.any fun z => PyData.eqv z d) else none
    | _, _ => none)
  | .dct l => (keyOf x).map fun k => (getD' k l).isSome
  | .str y => (match x with
    | .str x => (match x.cps.toList with
      | [c] => some (decide (c ∈ y.cps.toList))
      | _ => none)
    | _ => none)
  | _ => none
def isW (a b : W) : Option Bool := match b with
  | .non => (match a with | .non => some true | .ref _ => none | _ => some false)
  | .bl y => (match a with | .bl x => some (x == y) | .ref _ => none | _ => some false)
  | _ => none
def pTup : List W → Sto → R W
  | ws, s => if ws.length ≤ LIM then .ok (.tup ws) s else .stuck
def pLst : List W → Sto → R W
  | ws, s => if ws.length ≤ LIM then .ok (.lst ws) s else .stuck
def pMlst : List W → Sto → R W
  | ws, s => if ws.length ≤ LIM then .ok (.ref s.length) (s ++ [.lst ws]) else .stuck
def pMdct : List W → Sto → R W
  | [], s => .ok (.ref s.length) (s ++ [.dct []])
  | _, _ => .stuck
def pAdd : List W → Sto → R W
  | [.int i, .int j], s => .ok (.int (i + j)) s
  | [.str x, .str y], s => if x.length + y.length ≤ LIM then .ok (.str (x ++ y)) s else .stuck
  | [a, b], s => okw (catW (look s a) (look s b)) s
  | _, _ => .stuck
def pSub : List W → Sto → R W
  | [.int i, .int j], s => .ok (.int (i - j)) s
  | _, _ => .stuck
def pMul : List W → Sto → R W
  | [.int i, .int j], s => if mulOk i j then .ok (.int (i * j)) s else .stuck
  | _, _ => .stuck
def pFdiv : List W → Sto → R W
  | [.int i, .int j], s => if divOk j then .ok (.int (i.fdiv j)) s else .stuck
  | _, _ => .stuck
def pMod : List W → Sto → R W
  | [.int i, .int j], s => if j ≠ 0 then .ok (.int (i.fmod j)) s else .stuck
  | _, _ => .stuck
def pPow : List W → Sto → R W
  | [.int i, .int j], s => if 0 ≤ j ∧ j ≤ 1000 ∧ i.natAbs < 2 ^ 64 then .ok (.int (i ^ j.toNat)) s else .stuck
  | _, _ => .stuck
def pNeg : List W → Sto → R W
  | [.int i], s => .ok (.int (-i)) s
  | _, _ => .stuck
def pEq : List W → Sto → R W
  | [a, b], s => okb (weq s a b) s
  | _, _ => .stuck
def pNe : List W → Sto → R W
  | [a, b], s => okb ((weq s a b).map (!·)) s
  | _, _ => .stuck
def pLt : List W → Sto → R W
  | [.str x, .str y], s => .ok (.bl (decide (x.cps.toList < y.cps.toList))) s
  | [a, b], s => okb (cmpI (fun i j => decide (i < j)) a b) s
  | _, _ => .stuck
def pLe : List W → Sto → R W
  | [a, b], s => okb (cmpI (fun i j => decide (i ≤ j)) a b) s
  | _, _ => .stuck
def pGt : List W → Sto → R W
  | [a, b], s => okb (cmpI (fun i j => decide (j < i)) a b) s
  | _, _ => .stuck
def pGe : List W → Sto → R W
  | [a, b], s => okb (cmpI (fun i j => decide (j ≤ i)) a b) s
  | _, _ => .stuck
def pIsin : List W → Sto → R W
  | [x, o], s => okb (inW s x o) s
  | _, _ => .stuck
def pNotin : List W → Sto → R W
  | [x, o], s => okb ((inW s x o).map (!·)) s
  | _, _ => .stuck
def pIs_ : List W → Sto → R W
  | [a, b], s => okb (isW a b) s
  | _, _ => .stuck
def pIsnot : List W → Sto → R W
  | [a, b], s => okb ((isW a b).map (!·)) s
  | _, _ => .stuck
def pIsi (P : Pg) : List W → Sto → R W
  | [x, t], s => okb (isi P (look s x) t) s
  | _, _ => .stuck
def pLen : List W → Sto → R W
  | [x], s => (match look s x with
    | .lst l => .ok (.int l.length) s
    | .tup l => .ok (.int l.length) s
    | .dct l => .ok (.int l.length) s
    | .str x => if x.length ≤ LIM then .ok (.int x.length) s else .stuck
    | _ => .stuck)
  | _, _ => .stuck
def pList : List W → Sto → R W
  | [x], s => (match look s x with
    | .lst l => .ok (.lst l) s
    | .tup l => .ok (.lst l) s
    | .dct l => .ok (.lst (l.map fun kv => match kv.1 with | .inl i => .int i | .inr x => .str x)) s
    | _ => .stuck)
  | _, _ => .stuck
def pMlist : List W → Sto → R W
  | [x], s => (match look s x with
    | .lst l => .ok (.ref s.length) (s ++ [.lst l])
    | .arg l => .ok (.ref s.length) (s ++ [.lst l])
    | .tup l => .ok (.ref s.length) (s ++ [.lst l])
    | _ => .stuck)
  | _, _ => .stuck
def pTuple : List W → Sto → R W
  | [x], s => (match look s x with
    | .lst l => .ok (.tup l) s
    | .tup l => .ok (.tup l) s
    | _ => .stuck)
  | _, _ => .stuck
def pAll : List W → Sto → R W
  | [x], s => (match look s x with
    | .lst l => okb ((bools l).map (·.all id)) s
    | _ => .stuck)
  | _, _ => .stuck
def pAny : List W → Sto → R W
  | [x], s => (match look s x with
    | .lst l => okb ((bools l).map (·.any id)) s
    | _ => .stuck)
  | _, _ => .stuck
def pInt : List W → Sto → R W
  | [.int i], s => .ok (.int i) s
  | _, _ => .stuck
def pStr : List W → Sto → R W
  | [.int i], s => if i.natAbs.log2 < 1920 then .ok (.str (toString i)) s else .stuck
  | _, _ => .stuck
def pAbs : List W → Sto → R W
  | [.int i], s => .ok (.int (if i < 0 then -i else i)) s
  | _, _ => .stuck
def pMax2 : List W → Sto → R W
  | [.int i, .int j], s => .ok (.int (if j > i then j else i)) s
  | _, _ => .stuck
def pAppend : List W → Sto → R W
  | [.ref i, x], s => (match s[i]? with
    | some (.lst l) => if l.length < LIM ∧ x.low i = true then .ok .non (s.set i (.lst (l ++ [x]))) else .stuck
    | _ => .stuck)
  | _, _ => .stuck
def pExtend : List W → Sto → R W
  | [.ref i, y], s => (match s[i]?, look s y with
    | some (.lst l), .lst m => if l.length + m.length ≤ LIM ∧ W.lows i m = true then .ok .non (s.set i (.lst (l ++ m))) else .stuck
    | _, _ => .stuck)
  | _, _ => .stuck
def pPop : List W → Sto → R W
  | [.ref i], s => (match s[i]? with
    | some (.lst l) => (match l.getLast? with
      | some x => .ok x (s.set i (.lst l.dropLast))
      | none => .stuck)
    | _ => .stuck)
  | _, _ => .stuck
def pPopAt : List W → Sto → R W
  | [.ref i, .int k], s => (match s[i]? with
    | some (.lst l) => (match ixAt l.length k with
      | some j => (match l[j]? with
        | some x => .ok x (s.set i (.lst (l.eraseIdx j)))
        | none => .stuck)
      | none => .stuck)
    | _ => .stuck)
  | _, _ => .stuck
def dropD' (k : Key) (l : List (Key × W)) : List (Key × W) := l.filter fun kv => decide (kv.1 ≠ k)
/-- a dict's entry taken out -/
def pPopD : List W → Sto → R W
  | [.ref i, k], s => (match s[i]?, keyOf k with
    | some (.dct l), some k => (match getD' k l with
      | some x => .ok x (s.set i (.dct (dropD' k l)))
      | none => .stuck)
    | _, _ => .stuck)
  | _, _ => .stuck
def pPut : List W → Sto → R W
  | [.ref i, k, x], s => (match s[i]? with
    | some (.lst l) => (match k with
      | .int k => (match ixAt l.length k with
        | some j => if x.low i = true then .ok .non (s.set i (.lst (l.set j x))) else .stuck
        | none => .stuck)
      | _ => .stuck)
    | some (.dct l) => (match keyOf k with
      | some k => if l.length < LIM ∧ x.low i = true then .ok .non (s.set i (.dct (putD' k x l))) else .stuck
      | none => .stuck)
    | _ => .stuck)
  | _, _ => .stuck
def pIdx : List W → Sto → R W
  | [a, k], s => (match look s a, k with
    | .lst l, .int i => okw ((ixAt l.length i).bind (l[·]?)) s
    | .tup l, .int i => okw ((ixAt l.length i).bind (l[·]?)) s
    | .str x, .int i => okw (if x.length ≤ LIM then ((ixAt x.cps.toList.length i).bind (x.cps.toList[·]?)).map fun c => .str ⟨#[c]⟩ else none) s
    | .dct l, k => okw ((keyOf k).bind (getD' · l)) s
    | _, _ => .stuck)
  | _, _ => .stuck
def pSlice : List W → Sto → R W
  | [a, lo, hi], s => (match part lo, part hi with
    | some lo, some hi => (match look s a with
      | .lst l => .ok (.lst (cut l lo hi)) s
      | .tup l => if HT.sIx l.length 0 lo = 0 ∧ HT.sIx l.length l.length hi = l.length then .stuck else .ok (.tup (cut l lo hi)) s
      | _ => .stuck)
    | _, _ => .stuck)
  | _, _ => .stuck
/-- a written dict -/
def disp : List W → List (Key × W) → Option (List (Key × W))
  | [], acc => some acc
  | k :: w :: l, acc => (keyOf k).bind fun k => disp l (putD' k w acc)
  | _, _ => none
def prim (P : Pg) (p : Pr) (ws : List W) (s : Sto) : R W := match p with
  | .tup => pTup ws s
  | .lst => pLst ws s
  | .mlst => pMlst ws s
  | .mdct => pMdct ws s
  | .add => pAdd ws s
  | .sub => pSub ws s
  | .mul => pMul ws s
  | .fdiv => pFdiv ws s
  | .mod => pMod ws s
  | .pow => pPow ws s
  | .neg => pNeg ws s
  | .eq => pEq ws s
  | .ne => pNe ws s
  | .lt => pLt ws s
  | .le => pLe ws s
  | .gt => pGt ws s
  | .ge => pGe ws s
  | .isin => pIsin ws s
  | .notin => pNotin ws s
  | .is_ => pIs_ ws s
  | .isnot => pIsnot ws s
  | .isi => pIsi P ws s
  | .len => pLen ws s
  | .list => pList ws s
  | .mlist => pMlist ws s
  | .tuple => pTuple ws s
  | .all => pAll ws s
  | .any => pAny ws s
  | .int => pInt ws s
  | .str => pStr ws s
  | .abs => pAbs ws s
  | .max2 => pMax2 ws s
  | .append => pAppend ws s
  | .extend => pExtend ws s
  | .pop => pPop ws s
  | .popAt => pPopAt ws s
  | .popD => pPopD ws s
  | .put => pPut ws s
  | .idx => pIdx ws s
  | _ => .stuck

/-! ### the machine -/
def test : W → Sto → R Bool
  | .bl b, s => .ok b s
  | _, _ => .stuck
/-- the slots of a comprehension's own names forgotten -/
def wipeE (e : Env) : List Nat → Env
  | [] => e
  | v :: vs => (wipeE e vs).set v none
section
variable (cond : Env → Sto → R Bool) (elt : Env → Sto → R W) (tg : Tg) (e0 : Env) (n : Nat)
/-- a comprehension's items, laid at n; what is raised in it is not followed -/
def compL : List W → Sto → R Unit
  | [], s => .ok () s
  | w :: l, s => match tgSet tg w e0 with
    | none => .stuck
    | some e => match cond e s with
      | .ok true s => (match elt e s with
        | .ok x s => (match s[n]? with
          | some (.lst acc) => if acc.length < LIM ∧ x.low n = true then compL l (s.set n (.lst (acc ++ [x]))) else .stuck
          | _ => .stuck)
        | _ => .stuck)
      | .ok false s => compL l s
      | _ => .stuck
end
section
variable (kx vx : Env → Sto → R W) (tg : Tg) (e0 : Env) (n : Nat)
def dcompL : List W → Sto → R Unit
  | [], s => .ok () s
  | w :: l, s => match tgSet tg w e0 with
    | none => .stuck
    | some e => match kx e s with
      | .ok k s => (match vx e s with
        | .ok x s => (match keyOf k, s[n]? with
          | some k, some (.dct acc) => if acc.length < LIM ∧ x.low n = true then dcompL l (s.set n (.dct (putD' k x acc))) else .stuck
          | _, _ => .stuck)
        | _ => .stuck)
      | _ => .stuck
end
/-- what was made at n is handed on: by what it holds, or by its number -/
def made (m : Bool) (n : Nat) (s : Sto) : R W := match m with
  | true => .ok (.ref n) s
  | false => if s.length = n + 1 then (match s[n]? with
    | some (.lst l) => .ok (.lst l) (s.take n)
    | some (.dct l) => .ok (.dct l) (s.take n)
    | _ => .stuck) else .stuck
section
variable (body : Env → Sto → RS) (tg : Tg)
def forL : List W → Env → Sto → RS
  | [], e, s => .nx e s
  | w :: l, e, s => match tgSet tg w e with
    | none => .stuck
    | some e => match body e s with
      | .nx e s => forL l e s
      | .ct e s => forL l e s
      | .bk e s => .nx e s
      | r => r
end
/-- what is told by numbers from n on is forgotten -/
def trimE (n : Nat) (e : Env) : Env := e.map fun x => match x with
  | some w => if w.low n = true then some w else none
  | none => none
section
variable (body : Env → Sto → RS) (tg : Tg) (n : Nat)
/-- as forL; behind each turn what was made in it is forgotten -/
def forT : List W → Env → Sto → RS
  | [], e, s => .nx e s
  | w :: l, e, s => match tgSet tg w e with
    | none => .stuck
    | some e => match body e s with
      | .nx e s => forT l (trimE n e) (s.take n)
      | .ct e s => forT l (trimE n e) (s.take n)
      | .bk e s => .nx e s
      | r => r
end
section
variable (t : Env → Sto → R Bool) (body : Env → Sto → RS)
def whlL : Nat → Env → Sto → RS
  | 0, _, _ => .stuck
  | n + 1, e, s => (t e s).thn fun q s => match q with
    | true => (match body e s with
      | .nx e s => whlL n e s
      | .ct e s => whlL n e s
      | .bk e s => .nx e s
      | r => r)
    | false => .nx e s
end
def smallI (i : Int) : Bool := decide (-(2 ^ 62) ≤ i) && decide (i < 2 ^ 62)
def rangeW (a b : Int) : List W := (List.range (b - a).toNat).map fun k => .int (a + (k : Nat))
def ranged : List W → Option (List W)
  | [.int b] => if smallI b then some (rangeW 0 b) else none
  | [.int a, .int b] => if smallI a && smallI b then some (rangeW a b) else none
  | _ => none
/-- what does not change while it is walked -/
def keysW (l : List (Key × W)) : List W := l.map fun kv => match kv.1 with | .inl i => .int i | .inr x => .str x
def still : W → Option (List W)
  | .tup l => some l
  | .lst l => some l
  | .str x => some (x.cps.toList.map fun c => .str ⟨#[c]⟩)
  | _ => none
def enumW : Nat → List W → List W
  | _, [] => []
  | n, w :: l => .tup [.int (n : Int), w] :: enumW (n + 1) l
def zipped : List W → Option (List W)
  | [.lst l, .lst m] => if l.length = m.length then some ((l.zip m).map fun p => .tup [p.1, p.2]) else none
  | [.tup l, .tup m] => if l.length = m.length then some ((l.zip m).map fun p => .tup [p.1, p.2]) else none
  | _ => none
def okl {α : Type} (o : Option α) (s : Sto) : R α := match o with
  | some l => .ok l s
  | none => .stuck
def plain : W → Bool
  | .non => true
  | .bl _ => true
  | .int _ => true
  | .str _ => true
  | _ => false
/-- what a method is asked of -/
def recv (p : Pr) (s : Sto) (w : W) : Bool := match p with
  | .append => lstAt s w
  | .extend => lstAt s w
  | .pop => lstAt s w
  | .popAt => lstAt s w
  | .popD => (match w with
    | .ref i => (match s[i]? with | some (.dct _) => true | _ => false)
    | _ => false)
  | .index => (match look s w with | .lst _ => true | _ => false)
  | .get1 => (match look s w with | .dct _ => true | _ => false)
  | .join => (match w with | .str _ => true | _ => false)
  | _ => false
where lstAt (s : Sto) (w : W) : Bool := match w with
  | .ref i => (match s[i]? with | some (.lst _) => true | _ => false)
  | _ => false
/-- arguments by keywords, in the parameters' order: o tells for each its parameter -/
def byKw (o : List Nat) (ws : List W) : Option (List W) := if ws.length = o.length then (List.range o.length).mapM fun i => (o.findIdx? (· == i)).bind (ws[·]?) else none
def okR (o : Option (List W)) (f : List W → R W) : R W := match o with
  | some ws => f ws
  | none => .stuck
def setAll (e : Env) : List Nat → List W → Option Env
  | [], [] => some e
  | i :: l, w :: ws => setAll (e.set i (some w)) l ws
  | _, _ => none
section
variable (P : Pg) (c : Nat → List W → Sto → R W) (rm L : Nat)
/-- a class of the text is called -/
def mkE (k : Nat) (ws : List W) (s : Sto) : R W := match P.cps k with
  | some ns => if 3 ≤ rm ∧ ns.length = ws.length then .ok (.exn k (ns.zip ws).reverse) s else .stuck
  | none => .stuck
mutual
def ev : Ex → Env → Sto → R W
  | .var i, e, s => (match e[i]? with
    | some (some w) => .ok w s
    | _ => .stuck)
  | .lit w, _, s => .ok w s
  | .pr p es, e, s => (evs es e s).bind fun ws s => prim P p ws s
  | .and a b, e, s => (ev a e s).bind fun w s => (test w s).bind fun q s => match q with
    | true => ev b e s
    | false => .ok (.bl false) s
  | .or a b, e, s => (ev a e s).bind fun w s => (test w s).bind fun q s => match q with
    | true => .ok (.bl true) s
    | false => ev b e s
  | .not a, e, s => (ev a e s).bind fun w s => (test w s).bind fun q s => .ok (.bl (!q)) s
  | .ifx t a b, e, s => (ev t e s).bind fun w s => (test w s).bind fun q s => match q with
    | true => ev a e s
    | false => ev b e s
  | .call f es, e, s => (evs es e s).bind fun ws s => c f ws s
  | .mk k es, e, s => (evs es e s).bind fun ws s => mkE P rm k ws s
  | .mkk k o es, e, s => (evs es e s).bind fun ws s => okR (byKw o ws) fun ws => mkE P rm k ws s
  | .callk f o es, e, s => (evs es e s).bind fun ws s => okR (byKw o ws) fun ws => c f ws s
  | .callv f es, e, s => (ev f e s).bind fun w s => (evs es e s).bind fun ws s => match w with
    | .fn f => c f ws s
    | _ => .stuck
  | .chn p q x y z, e, s => (ev x e s).bind fun a s => (ev y e s).bind fun b s => (prim P p [a, b] s).bind fun w s => (test w s).bind fun t s => match t with
    | true => (ev z e s).bind fun d s => prim P q [b, d] s
    | false => .ok (.bl false) s
  | .fld a f, e, s => (ev a e s).bind fun w s => match w with
    | .exn k l => if P.cfl k f = true then okw (l.lookup f) s else .stuck
    | _ => .stuck
  | .comp m elt own tg it cond, e, s => (evI it e s).bind fun l s => (compL (evC cond) (ev elt) tg (wipeE e own) s.length l (s ++ [.lst []])).bind fun _ s' => made m s.length s'
  | .dcomp k v own tg it, e, s => (evI it e s).bind fun l s => (dcompL (ev k) (ev v) tg (wipeE e own) s.length l (s ++ [.dct []])).bind fun _ s' => made false s.length s'
  | .disp m es, e, s => (evs es e (s ++ [.dct []])).bind fun ws s' => match disp ws [], s'[s.length]? with
    | some l, some (.dct []) => if es.length ≤ 30 ∧ W.lows s.length ws = true then made m s.length (s'.set s.length (.dct l)) else .stuck
    | _, _ => .stuck
  | .brw _ a, e, s => (match ev a (e.map (Option.map (look s))) (s.map fun _ => .gone) with
    | .ok w s' => if plain w = true ∧ s'.length = s.length then .ok w s else .stuck
    | _ => .stuck)
  | .slc a b c, e, s => (ev a e s).bind fun wa s => (ev b e s).bind fun wl s => (okl (part wl) s).bind fun _ s => (ev c e s).bind fun wh s => pSlice [wa, wl, wh] s
  | .mth p o es, e, s => (ev o e s).bind fun w s => if recv p s w = true then (evs es e s).bind fun ws s => prim P p (w :: ws) s else .stuck
  | .frz i, e, s => (match e[i]? with
    | some (some (.ref j)) => (match s[j]? with
      | some (.lst l) => .ok (.lst l) (s.set j .gone)
      | some (.dct l) => .ok (.dct l) (s.set j .gone)
      | _ => .stuck)
    | _ => .stuck)
def evs : List Ex → Env → Sto → R (List W)
  | [], _, s => .ok [] s
  | a :: l, e, s => (ev a e s).bind fun w s => (evs l e s).bind fun ws s => .ok (w :: ws) s
def evC : Option Ex → Env → Sto → R Bool
  | none, _, s => .ok true s
  | some t, e, s => (ev t e s).bind test
def evI : It → Env → Sto → R (List W)
  | .seq a, e, s => (ev a e s).bind fun w s => okl (still w) s
  | .keys i, e, s => (match e[i]? with
    | some (some (.dct l)) => .ok (keysW l) s
    | _ => .stuck)
  | .range es, e, s => (evs es e s).bind fun ws s => okl (ranged ws) s
  | .enum a, e, s => (ev a e s).bind fun w s => match w with
    | .lst l => .ok (enumW 0 l) s
    | _ => .stuck
  | .zip es, e, s => (evs es e s).bind fun ws s => okl (zipped ws) s
end
mutual
def exe : St → Env → Sto → RS
  | .set t a, e, s => (ev P c rm a e s).thn fun w s => match tgSet t w e with
    | some e => .nx e s
    | none => .stuck
  | .put o i v, e, s => (ev P c rm v e s).thn fun x s => (ev P c rm o e s).thn fun o s => (ev P c rm i e s).thn fun i s => (pPut [o, i, x] s).thn fun _ s => .nx e s
  | .ex a, e, s => (ev P c rm a e s).thn fun _ s => .nx e s
  | .ret a, e, s => (ev P c rm a e s).thn fun w s => .rt w s
  | .ite t a b, e, s => ((ev P c rm t e s).bind test).thn fun q s => match q with
    | true => exes a e s
    | false => exes b e s
  | .whl t b, e, s => whlL (fun e s => (ev P c rm t e s).bind test) (fun e s => exes b e s) L e s
  | .for_ t it b, e, s => (evI P c rm it e s).thn fun l s => forL (fun e s => exes b e s) t l e s
  | .fort t it b, e, s => (evI P c rm it e s).thn fun l s => forT (fun e s => exes b e s) t s.length l e s
  | .brk, e, s => .bk e s
  | .cnt, e, s => .ct e s
  | .raise k es, e, s => (evs P c rm es e s).thn fun ws s => match mkE P rm k ws s with
    | .ok (.exn k l) s => .exc k l s
    | _ => .stuck
  | .par l es, e, s => (evs P c rm es e s).thn fun ws s => match setAll e l ws with
    | some e => .nx e s
    | none => .stuck
  | .try_ b h, e, s => match exes b e s with
    | .exc k l s => hnd h k l e s
    | r => r
def hnd : List (Nat × Nat × List St) → Nat → List (Str × W) → Env → Sto → RS
  | [], k, l, e, s => .exc k l s
  | (d, i, b) :: h, k, l, e, s => match P.csub k d with
    | some true => (match exes b (e.set i (some (.exn k l))) s with
      | .nx e s => .nx (e.set i none) s
      | .bk e s => .bk (e.set i none) s
      | .ct e s => .ct (e.set i none) s
      | .exc .. => .stuck
      | r => r)
    | some false => hnd h k l e s
    | none => .stuck
def exes : List St → Env → Sto → RS
  | [], e, s => .nx e s
  | a :: l, e, s => match exe a e s with
    | .nx e s => exes l e s
    | r => r
end
end
def fin (cutOff : Bool) (n : Nat) : RS → R W
  | .nx _ s => if cutOff then .ok .non (s.take n) else .ok .non s
  | .rt w s => if cutOff then (if w.low n then .ok w (s.take n) else .stuck) else .ok w s
  | .exc k l s => if cutOff then (if W.lowf n l then .exc k l (s.take n) else .stuck) else .exc k l s
  | _ => .stuck
def start (D : Def) (ws : List W) : Env := ws.map some ++ List.replicate (D.slots - ws.length) none
def call (P : Pg) (L : Nat) : Nat → Nat → List W → Sto → R W
  | 0, _, _, _ => .stuck
  | d + 1, f, ws, s => match P.defs f with
    | some D => if ws.length = D.n then fin D.cutOff s.length (exes P (call P L d) d L D.code (start D ws) s) else .stuck
    | none => .stuck
end BK

set_option maxRecDepth 100000
set_option maxHeartbeats 2000000
/-! B3: the operations by values. -/
namespace BK
open PySem PySem.Spec PyProof.Rows L2
section
variable {K : PySem.W.Frag} {T : Adr}
/-- an answer, as what is wanted has it -/
def PR (K : PySem.W.Frag) (T : Adr) (ρ : Own) (H : Hp) {α β : Type} (rel : Own → Hp → α → β → Prop) (E : XK) (Q : β → Hp → Prop) : R α → Prop
  | .ok a s => ∀ ρ' H' b, Ext ρ H ρ' H' → Rl K T ρ' s H' → rel ρ' H' a b → Q b H'
  | .exc c l s => ∀ ρ' H' d fs, Ext ρ H ρ' H' → Rl K T ρ' s H' → H' d = some (.xd fs) → VRf K T ρ' H' l fs → E (.ref (T.cls c)) (some d) H'
  | .stuck => False
theorem PR.later {ρ ρ1 : Own} {H H1 : Hp} {α β : Type} {rel : Own → Hp → α → β → Prop} {E : XK} {Q : β → Hp → Prop} {r : R α} (h : PR K T ρ H rel E Q r) (e : Ext ρ H ρ1 H1) : PR K T ρ1 H1 rel E Q r := by
  cases r with
  | ok a s => exact fun ρ' H' b e' r' v => h ρ' H' b (e.trans e') r' v
  | exc c l s => exact fun ρ' H' d fs e' r' x v => h ρ' H' d fs (e.trans e') r' x v
  | stuck => exact h
theorem PR.imp {ρ : Own} {H : Hp} {α β : Type} {rel : Own → Hp → α → β → Prop} {E E' : XK} {Q Q' : β → Hp → Prop} {r : R α} (h : PR K T ρ H rel E Q r) (hQ : ∀ b H, Q b H → Q' b H) (hE : ∀ c d H, E c d H → E' c d H) : PR K T ρ H rel E' Q' r := by
  cases r with
  | ok a s => exact fun ρ' H' b e' r' v => hQ _ _ (h ρ' H' b e' r' v)
  | exc c l s => exact fun ρ' H' d fs e' r' x v => hE _ _ _ (h ρ' H' d fs e' r' x v)
  | stuck => exact h
theorem PR.bind {ρ : Own} {H : Hp} {α β γ δ : Type} {rel : Own → Hp → γ → δ → Prop} {rel1 : Own → Hp → α → β → Prop} {E : XK} {Q : δ → Hp → Prop} {r : R α} {f : α → Sto → R γ} (h : PR K T ρ H rel E Q (r.bind f)) :
    PR K T ρ H rel1 E (fun b H1 => ∃ ρ1 a s, r = .ok a s ∧ Ext ρ H ρ1 H1 ∧ Rl K T ρ1 s H1 ∧ rel1 ρ1 H1 a b ∧ PR K T ρ1 H1 rel E Q (f a s)) r := by
  cases r with
  | ok a s => exact fun ρ' H' b e' r' v => ⟨ρ', a, s, rfl, e', r', v, PR.later (r := f a s) h e'⟩
  | exc c l s => exact h
  | stuck => exact h
/-- the slots stand for the frame's -/
def EnvR (K : PySem.W.Frag) (T : Adr) (ρ : Own) (H : Hp) (en : Env) (σ : L2.St) : Prop := en.length = σ.length ∧ ∀ (i : Nat) (w : W), en[i]? = some (some w) → ∃ v, σ[i]? = some (some v) ∧ VR K T ρ H w v
theorem EnvR.mono {ρ ρ' : Own} {S : Sto} {H H' : Hp} {en : Env} {σ : L2.St} (h : EnvR K T ρ H en σ) (r : Rl K T ρ S H) (e : Ext ρ H ρ' H') : EnvR K T ρ' H' en σ :=
  ⟨h.1, fun i w q => by
    obtain ⟨v, h1, h2⟩ := h.2 i w q
    exact ⟨v, h1, h2.mono r e⟩⟩
/-- a two-place operation by the machine -/
def rP2 (K : PySem.W.Frag) (T : Adr) (f : List W → Sto → R W) : R2 := fun x y H Q => ∃ ρ S wa wb E, Rl K T ρ S H ∧ VR K T ρ H wa x ∧ VR K T ρ H wb y ∧ PR K T ρ H (VR K T) E Q (f [wa, wb] S)
def rP1 (K : PySem.W.Frag) (T : Adr) (f : List W → Sto → R W) : V → Hp → VK → Prop := fun x H Q => ∃ ρ S wa E, Rl K T ρ S H ∧ VR K T ρ H wa x ∧ PR K T ρ H (VR K T) E Q (f [wa] S)
def rPn (K : PySem.W.Frag) (T : Adr) (f : List W → Sto → R W) : List V → Hp → VK → Prop := fun xs H Q => ∃ ρ S ws E, Rl K T ρ S H ∧ VRs K T ρ H ws xs ∧ PR K T ρ H (VR K T) E Q (f ws S)
section
variable {ρ : Own} {S : Sto} {H : Hp} {x y : V} {E : XK} {Q : VK}
theorem VR.int_inv {w : W} {i : Int} (h : VR K T ρ H w x) (e : w = .int i) : x = .int i := by subst e; cases h; rfl
theorem VR.str_inv {w : W} {i : Str} (h : VR K T ρ H w x) (e : w = .str i) : x = .str i := by subst e; cases h; rfl
theorem VR.bl_inv {i : Bool} (h : VR K T ρ H (.bl i) x) : x = .bl i := by cases h; rfl
theorem VR.non_inv (h : VR K T ρ H .non x) : x = .non := by cases h; rfl
/-- what is at its number, seen: a list is a list of the heap -/
theorem VR.lookL {w : W} {l : List W} (r : Rl K T ρ S H) (h : VR K T ρ H w x) (e : look S w = .lst l) : ∃ a vs, x = .ref a ∧ Rd H a (.lst vs) ∧ VRs K T ρ H l vs := by
  cases h with
  | lst _ h hs =>
    cases e
    exact ⟨_, _, rfl, h, hs⟩
  | @ref i v hi h =>
    unfold look at e
    have hi' : i < S.length := by rw [← r.len]; exact hi
    have o := r.at_ i _ _ (List.getElem?_eq_getElem hi) (List.getElem?_eq_getElem hi')
    simp only [List.getElem?_eq_getElem hi'] at e
    generalize q : S[i] = ob at o e
    generalize q2 : ρ[i] = xa at o
    cases o with
    | lst h1 hs =>
      cases e
      exact ⟨_, _, h _ (by rw [List.getElem?_eq_getElem hi, q2]), .inl h1, hs⟩
    | dct h1 hs => cases e
    | gone => cases e
  | _ => cases e
theorem VR.lookD {w : W} {l : List (Key × W)} (r : Rl K T ρ S H) (h : VR K T ρ H w x) (e : look S w = .dct l) : ∃ a vs, x = .ref a ∧ Rd H a (.dK vs) ∧ VRd K T ρ H l vs := by
  cases h with
  | dct _ h hs =>
    cases e
    exact ⟨_, _, rfl, h, hs⟩
  | @ref i v hi h =>
    unfold look at e
    have hi' : i < S.length := by rw [← r.len]; exact hi
    have o := r.at_ i _ _ (List.getElem?_eq_getElem hi) (List.getElem?_eq_getElem hi')
    simp only [List.getElem?_eq_getElem hi'] at e
    generalize q : S[i] = ob at o e
    generalize q2 : ρ[i] = xa at o
    cases o with
    | dct h1 hs =>
      cases e
      exact ⟨_, _, h _ (by rw [List.getElem?_eq_getElem hi, q2]), .inl h1, hs⟩
    | lst h1 hs => cases e
    | gone => cases e
  | _ => cases e
theorem VR.lookT {w : W} {l : List W} (h : VR K T ρ H w x) (e : look S w = .tup l) : ∃ a vs, x = .ref a ∧ SqT K H a vs ∧ VRs K T ρ H l vs := by
  cases h with
  | tup h hs =>
    cases e
    exact ⟨_, _, rfl, h, hs⟩
  | @ref i v hi h => rcases q : S[i]? with _ | (_|_|_) <;> simp [look, q] at e
  | _ => cases e
theorem look_arg {w : W} {l : List W} (e : look S w = .arg l) : w = .arg l := by
  cases w with
  | ref i => rcases q : S[i]? with _ | (_|_|_) <;> simp [look, q] at e
  | _ => exact e
theorem VR.arg_inv {l : List W} (h : VR K T ρ H (.arg l) x) : ∃ a vs, x = .ref a ∧ SqL K H a vs ∧ VRs K T ρ H l vs := by
  cases h with
  | arg h hs => exact ⟨_, _, rfl, h.elim (fun z => .inl z.2) .inr, hs⟩
theorem look_str {w : W} {s : Str} (e : look S w = .str s) : w = .str s := by
  cases w with
  | ref i => rcases q : S[i]? with _ | (_|_|_) <;> simp [look, q] at e
  | _ => exact e
/-- an owned list -/
theorem VR.refL {i : Nat} {l : List W} (r : Rl K T ρ S H) (h : VR K T ρ H (.ref i) x) (e : S[i]? = some (.lst l)) : ∃ a vs, x = .ref a ∧ ρ[i]? = some (some a) ∧ H a = some (.lst vs) ∧ VRs K T ρ H l vs := by
  cases h with
  | ref hi h =>
    have o := r.at_ i _ _ (List.getElem?_eq_getElem hi) e
    generalize q2 : ρ[i] = xa at o
    cases o with
    | lst h1 hs => exact ⟨_, _, h _ (by rw [List.getElem?_eq_getElem hi, q2]), by rw [List.getElem?_eq_getElem hi, q2], h1, hs⟩
theorem VR.refD {i : Nat} {l : List (Key × W)} (r : Rl K T ρ S H) (h : VR K T ρ H (.ref i) x) (e : S[i]? = some (.dct l)) : ∃ a vs, x = .ref a ∧ ρ[i]? = some (some a) ∧ H a = some (.dK vs) ∧ VRd K T ρ H l vs := by
  cases h with
  | ref hi h =>
    have o := r.at_ i _ _ (List.getElem?_eq_getElem hi) e
    generalize q2 : ρ[i] = xa at o
    cases o with
    | dct h1 hs => exact ⟨_, _, h _ (by rw [List.getElem?_eq_getElem hi, q2]), by rw [List.getElem?_eq_getElem hi, q2], h1, hs⟩
/-- a plain answer, nothing changed -/
theorem PR.here {α β : Type} {rel : Own → Hp → α → β → Prop} {Q : β → Hp → Prop} {a : α} {b : β} (r : Rl K T ρ S H) (h : PR K T ρ H rel E Q (.ok a S)) (v : rel ρ H a b) : Q b H := h ρ H b (Ext.refl _ _) r v
theorem no_has (r : Rl K T ρ S H) {p : Addr} (hp : H p = none) : ¬ ρ.has p := fun z => by
  rcases r.noT z with ⟨xs, q⟩ | ⟨xs, q⟩ <;> (rw [hp] at q; cases q)
/-- a new thing that nobody changes -/
theorem ext_new {p : Addr} {o : HO} (hp : H p = none) : Ext ρ H ρ (upd H p o) where
  len := Nat.le_refl _
  pt := fun _ _ h => .inl h
  new := fun j b hj h => by
    have := (List.getElem?_eq_some_iff.mp h).1
    omega
  keep := fun a o h _ => by rw [upd_ne (ne_of_none h hp)]; exact h
  there := fun a o h => ⟨o, by rw [upd_ne (ne_of_none h hp)]; exact h⟩
theorem rl_new {p : Addr} {o : HO} (r : Rl K T ρ S H) (hp : H p = none) : Rl K T ρ S (upd H p o) where
  len := r.len
  at_ := fun i x q h1 h2 => (r.at_ i x q h1 h2).mono r (ext_new hp) fun a u _ h => by rw [upd_ne (ne_of_none h hp)]; exact h
  inj := r.inj
  low := r.low
theorem PR.newL {l : List W} {vs : List V} {p : Addr} (r : Rl K T ρ S H) (h : PR K T ρ H (VR K T) E Q (.ok (.lst l) S)) (hp : H p = none) (hs : VRs K T ρ H l vs) : Q (.ref p) (upd H p (.lst vs)) :=
  h ρ _ _ (ext_new hp) (rl_new r hp) (.lst (no_has r hp) (.inl upd_same) (hs.mono r (ext_new hp)))
theorem PR.newT {l : List W} {vs : List V} {p : Addr} (r : Rl K T ρ S H) (h : PR K T ρ H (VR K T) E Q (.ok (.tup l) S)) (hp : H p = none) (hs : VRs K T ρ H l vs) : Q (.ref p) (upd H p (.tup vs)) :=
  h ρ _ _ (ext_new hp) (rl_new r hp) (.tup (.inl (.inl upd_same)) (hs.mono r (ext_new hp)))
theorem PR.newM {l : List W} {vs : List V} {p : Addr} (r : Rl K T ρ S H) (h : PR K T ρ H (VR K T) E Q (.ok (.ref S.length) (S ++ [.lst l]))) (hp : H p = none) (hs : VRs K T ρ H l vs) : Q (.ref p) (upd H p (.lst vs)) := by
  have e : Ext ρ H (ρ ++ [some p]) (upd H p (.lst vs)) := ext_push hp
  refine h _ _ _ e (rl_push r hp (.lst upd_same (hs.mono r e)) ?_) (.ref (by simp [r.len]) fun a q => ?_)
  · rw [← r.len]
    exact hs.lowAll
  · rw [List.getElem?_append_right (by rw [r.len]; exact Nat.le_refl _), r.len, Nat.sub_self] at q
    cases q
    rfl
end
/-! ### operators -/
section
variable {X : Cx}
theorem OpR.or {f : Value → Value → Sem Value} {r r' : R2} (h : OpR X f r) (h' : OpR X f r') : OpR X f (fun x y H Q => r x y H Q ∨ r' x y H Q) := fun pins s σ H x y v u Q I rx ry q => q.elim (h pins s σ H x y v u Q I rx ry) (h' pins s σ H x y v u Q I rx ry)
theorem OpR.imp {f : Value → Value → Sem Value} {r r' : R2} (h : OpR X f r) (g : ∀ x y H Q, r' x y H Q → r x y H Q) : OpR X f r' := fun pins s σ H x y v u Q I rx ry q => h pins s σ H x y v u Q I rx ry (g _ _ _ _ q)
theorem okw_some {o : Option W} {s : Sto} {ρ : Own} {H : Hp} {E : XK} {Q : VK} (h : PR K T ρ H (VR K T) E Q (okw o s)) : ∃ w, o = some w ∧ PR K T ρ H (VR K T) E Q (.ok w s) := by
  cases o with
  | none => exact h.elim
  | some w => exact ⟨w, rfl, h⟩
theorem okb_some {o : Option Bool} {s : Sto} {ρ : Own} {H : Hp} {E : XK} {Q : VK} (h : PR K T ρ H (VR K T) E Q (okb o s)) : ∃ w, o = some w ∧ PR K T ρ H (VR K T) E Q (.ok (.bl w) s) := by
  cases o with
  | none => exact h.elim
  | some w => exact ⟨w, rfl, h⟩
theorem lim_size {n : Nat} (h : n ≤ LIM) : n ≤ sizeLine := by
  have e := sizeLine_eq
  unfold LIM at h
  omega
theorem lim_lt {n : Nat} (h : n < LIM) : n < sizeLine := by
  have e := sizeLine_eq
  unfold LIM at h
  omega
/-- ints in, a plain value out -/
theorem opInt {op : Value → Value → Sem Value} {f : List W → Sto → R W} {C : Int → Int → Prop} {g : Int → Int → V} (h : OpR X op (rI C g))
    (hf : ∀ (a b : W) S, (∃ i j w, a = .int i ∧ b = .int j ∧ C i j ∧ f [a, b] S = .ok w S ∧ (∀ ρ H, VR K T ρ H w (g i j))) ∨ f [a, b] S = .stuck) : OpR X op (rP2 K T f) := OpR.imp h fun x y H Q ⟨ρ, S, wa, wb, E, r, va, vb, p⟩ => by
  rcases hf wa wb S with ⟨i, j, w, ea, eb, c, ew, hw⟩ | e
  · rw [ew] at p
    exact ⟨i, j, va.int_inv ea, vb.int_inv eb, c, PR.here r p (hw ρ H)⟩
  · rw [e] at p
    exact p.elim
theorem rI0_rI {g : Int → Int → V} : (rI0 g) = (rI (fun _ _ => True) g) := by
  funext x y H Q
  simp [rI0, rI]

theorem op_fdivA : OpR X (binaryOp .FloorDiv) (rI (fun _ j => j ≠ 0 ∧ j.natAbs.log2 < 9000) fun i j => .int (i.fdiv j)) := opI fun _ _ _ _ _ _ _ hc q => floordiv_int hc.1 q (.inl (PyProof.noPylong_of_log2 hc.2))
theorem bin_sub : OpR X (binaryOp .Sub) (rP2 K T pSub) := opInt (by have h := op_sub (X := X); rw [rI0_rI] at h; exact h) fun a b S => by
  cases a <;> cases b <;> first
    | exact .inr rfl
    | exact .inl ⟨_, _, _, rfl, rfl, trivial, rfl, fun _ _ => .int _⟩
theorem bin_mul : OpR X (binaryOp .Mult) (rP2 K T pMul) := opInt op_mulW fun a b S => by
  cases a <;> cases b <;> first
    | exact .inr rfl
    | (rename_i i j
       by_cases h : mulOk i j = true
       · refine .inl ⟨i, j, _, rfl, rfl, ?_, by simp [pMul, h], fun _ _ => .int _⟩
         have h2 := of_decide_eq_true h
         show i.natAbs.log2 + j.natAbs.log2 < 1000000
         omega
       · exact .inr (by simp [pMul, h]))
theorem bin_fdiv : OpR X (binaryOp .FloorDiv) (rP2 K T pFdiv) := opInt op_fdivA fun a b S => by
  cases a <;> cases b <;> first
    | exact .inr rfl
    | (rename_i i j
       by_cases h : divOk j = true
       · refine .inl ⟨i, j, _, rfl, rfl, ?_, by simp [pFdiv, h], fun _ _ => .int _⟩
         obtain ⟨h1, h2⟩ := Bool.and_eq_true_iff.mp h
         exact ⟨of_decide_eq_true h1, of_decide_eq_true h2⟩
       · exact .inr (by simp [pFdiv, h]))
theorem bin_mod : OpR X (binaryOp .Mod) (rP2 K T pMod) := opInt op_modN fun a b S => by
  cases a <;> cases b <;> first
    | exact .inr rfl
    | (rename_i i j
       by_cases h : j ≠ 0
       · exact .inl ⟨i, j, _, rfl, rfl, h, by simp [pMod, h], fun _ _ => .int _⟩
       · exact .inr (by simp at h; simp [pMod, h]))
theorem bin_pow : OpR X (binaryOp .Pow) (rP2 K T pPow) := opInt op_pow fun a b S => by
  cases a <;> cases b <;> first
    | exact .inr rfl
    | (rename_i i j
       by_cases h : 0 ≤ j ∧ j ≤ 1000 ∧ i.natAbs < 2 ^ 64
       · exact .inl ⟨i, j, _, rfl, rfl, ⟨h.1, by omega, h.2.2⟩, by simp only [pPow, if_pos h], fun _ _ => .int _⟩
       · exact .inr (by simp only [pPow, if_neg h]))

/-! ### data -/
theorem datas_len : ∀ {l : List W} {ds : List PyData}, W.datas l = some ds → l.length = ds.length
  | [], ds, h => by simp [W.datas] at h; subst h; rfl
  | w :: l, ds, h => by
    simp only [W.datas] at h
    split at h
    · rename_i d es h1 h2
      cases h
      simp [datas_len h2]
    · cases h
mutual
theorem data_lay : ∀ {w : W} {d : PyData}, w.data = some d → d.canLay0 = true
  | .non, d, h => by simp [W.data] at h; subst h; rfl
  | .bl b, d, h => by simp [W.data] at h; subst h; rfl
  | .int i, d, h => by simp [W.data] at h; subst h; rfl
  | .str i, d, h => by
    simp only [W.data] at h
    split at h
    · rename_i g
      cases h
      exact g
    · cases h
  | .tup l, d, h => by
    simp only [W.data, Option.map_eq_some_iff] at h
    obtain ⟨ds, h1, rfl⟩ := h
    simp only [PyData.canLay0]
    exact datas_lay h1
  | .lst l, d, h => by
    simp only [W.data, Option.map_eq_some_iff] at h
    obtain ⟨ds, h1, rfl⟩ := h
    simp only [PyData.canLay0]
    exact datas_lay h1
  | .dct _, d, h => by simp [W.data] at h
  | .exn _ _, d, h => by simp [W.data] at h
  | .ref _, d, h => by simp [W.data] at h
  | .fn _, d, h => by simp [W.data] at h
  | .cls _, d, h => by simp [W.data] at h
  | .ty _, d, h => by simp [W.data] at h
  | .arg _, d, h => by simp [W.data] at h
theorem datas_lay : ∀ {w : List W} {d : List PyData}, W.datas w = some d → PyData.canLayAll0 d = true
  | [], d, h => by simp [W.datas] at h; subst h; rfl
  | w :: l, d, h => by
    simp only [W.datas] at h
    split at h
    · rename_i d' es h1 h2
      cases h
      simp only [PyData.canLayAll0, data_lay h1, datas_lay h2, Bool.and_self]
    · cases h
end
section
variable {ρ : Own} {S : Sto} {H : Hp}
mutual
theorem VR.dp : ∀ {w : W} {v : V} {d : PyData}, VR K T ρ H w v → w.data = some d → Dp K H v d
  | _, _, d, .non, h => by simp [W.data] at h; subst h; exact .non
  | _, _, d, .bl b, h => by simp [W.data] at h; subst h; exact .bl b
  | _, _, d, .int i, h => by simp [W.data] at h; subst h; exact .int i
  | _, _, d, .str i, h => by
    simp only [W.data] at h
    split at h
    · cases h
      exact .str i
    · cases h
  | _, _, d, .tup g hs, h => by
    simp only [W.data, Option.map_eq_some_iff] at h
    obtain ⟨ds, h1, rfl⟩ := h
    exact .tup g (VRs.dp hs h1)
  | _, _, d, .lst _ g hs, h => by
    simp only [W.data, Option.map_eq_some_iff] at h
    obtain ⟨ds, h1, rfl⟩ := h
    exact .lst (.inl g) (VRs.dp hs h1)
  | _, _, d, .dct _ _ _, h => by simp [W.data] at h
  | _, _, d, .exn0 _ _, h => by simp [W.data] at h
  | _, _, d, .exn _ _ _ _ _, h => by simp [W.data] at h
  | _, _, d, .ref _ _, h => by simp [W.data] at h
  | _, _, d, .fn _, h => by simp [W.data] at h
  | _, _, d, .cls _, h => by simp [W.data] at h
  | _, _, d, .ty _, h => by simp [W.data] at h
  | _, _, d, .arg _ _, h => by simp [W.data] at h
theorem VRs.dp : ∀ {w : List W} {v : List V} {d : List PyData}, VRs K T ρ H w v → W.datas w = some d → DpAll K H v d
  | _, _, d, .nil, h => by simp [W.datas] at h; subst h; exact .nil
  | _, _, d, .cons g t, h => by
    simp only [W.datas] at h
    split at h
    · rename_i d' es h1 h2
      cases h
      exact .cons (VR.dp g h1) (VRs.dp t h2)
    · cases h
end
theorem VR.dpl {w : W} {v : V} {d : PyData} (r : Rl K T ρ S H) (h : VR K T ρ H w v) (e : (look S w).data = some d) : Dp K H v d := by
  cases w with
  | ref i =>
    rcases q : S[i]? with _ | (l | l | _)
    · simp [look, q, W.data] at e
    · have q2 : look S (.ref i) = .lst l := by simp [look, q]
      obtain ⟨a, vs, rfl, h1, hs⟩ := h.lookL r q2
      rw [q2] at e
      simp only [W.data, Option.map_eq_some_iff] at e
      obtain ⟨ds, h2, rfl⟩ := e
      exact .lst (.inl h1) (hs.dp h2)
    · simp [look, q, W.data] at e
    · simp [look, q, W.data] at e
  | _ => exact h.dp e
end
theorem weq_some {S : Sto} {a b : W} {c : Bool} (h : weq S a b = some c) : ∃ d e, (look S a).data = some d ∧ (look S b).data = some e ∧ (d.depth ≤ 64 ∨ e.depth ≤ 64) ∧ c = PyData.eqv d e := by
  unfold weq at h
  split at h
  · rename_i d e h1 h2
    split at h
    · rename_i hd
      cases h
      exact ⟨d, e, h1, h2, hd, rfl⟩
    · cases h
  · cases h
theorem cmp_eq (hu : X.A.units + 66 < cLine) (hK : X.K = K) : OpR X (compareOp .Eq) (rP2 K T pEq) := by
  subst hK
  intro pins s σ H x y v u Q I rx ry ⟨ρ, S, wa, wb, E, r, va, vb, p⟩
  obtain ⟨c, hc, p⟩ := okb_some (show PR _ T ρ H _ E Q (okb (weq S wa wb) S) from p)
  obtain ⟨d, e, h1, h2, hd, rfl⟩ := weq_some hc
  obtain ⟨as, r1⟩ := Dp.reads I d x v (va.dpl r h1) rx
  obtain ⟨bs, r2⟩ := Dp.reads I e y u (vb.dpl r h2) ry
  exact SeqAt.compareEq_reads r1 r2 (data_lay h1) (data_lay h2) (by omega) ⟨.bl _, H, I, rfl, PR.here r p (.bl _)⟩
theorem cmp_ne (hu : X.A.units + 66 < cLine) (hK : X.K = K) : OpR X (compareOp .NotEq) (rP2 K T pNe) := by
  subst hK
  intro pins s σ H x y v u Q I rx ry ⟨ρ, S, wa, wb, E, r, va, vb, p⟩
  obtain ⟨c, hc, p⟩ := okb_some (show PR _ T ρ H _ E Q (okb ((weq S wa wb).map (!·)) S) from p)
  rw [Option.map_eq_some_iff] at hc
  obtain ⟨c, hc, rfl⟩ := hc
  obtain ⟨d, e, h1, h2, hd, rfl⟩ := weq_some hc
  obtain ⟨as, r1⟩ := Dp.reads I d x v (va.dpl r h1) rx
  obtain ⟨bs, r2⟩ := Dp.reads I e y u (vb.dpl r h2) ry
  exact SeqAt.compareNe_reads r1 r2 (data_lay h1) (data_lay h2) (by omega) ⟨.bl _, H, I, rfl, PR.here r p (.bl _)⟩
theorem cmpI_some {f : Int → Int → Bool} {a b : W} {c : Bool} (h : cmpI f a b = some c) : ∃ i j, a = .int i ∧ b = .int j ∧ c = f i j := by
  cases a <;> cases b <;> simp [cmpI] at h
  exact ⟨_, _, rfl, rfl, h.symm⟩
theorem cmpInt {op : Value → Value → Sem Value} {f : Int → Int → Bool} (h : OpR X op (rI0 fun i j => .bl (f i j))) : OpR X op (rP2 K T fun ws S => match ws with | [a, b] => okb (cmpI f a b) S | _ => .stuck) := by
  refine OpR.imp h fun x y H Q ⟨ρ, S, wa, wb, E, r, va, vb, p⟩ => ?_
  obtain ⟨c, hc, p⟩ := okb_some (show PR _ T ρ H _ E Q (okb (cmpI f wa wb) S) from p)
  obtain ⟨i, j, rfl, rfl, rfl⟩ := cmpI_some hc
  exact ⟨i, j, va.int_inv rfl, vb.int_inv rfl, PR.here r p (.bl _)⟩
theorem rP2_congr {op : Value → Value → Sem Value} {f g : List W → Sto → R W} (h : OpR X op (rP2 K T f)) (e : ∀ a b S, g [a, b] S = f [a, b] S) : OpR X op (rP2 K T g) := OpR.imp h fun x y H Q ⟨ρ, S, wa, wb, E, r, va, vb, p⟩ => ⟨ρ, S, wa, wb, E, r, va, vb, by rw [← e]; exact p⟩
theorem cmp_le : OpR X (compareOp .LtE) (rP2 K T pLe) := rP2_congr (cmpInt op_le) fun _ _ _ => rfl
theorem cmp_gt : OpR X (compareOp .Gt) (rP2 K T pGt) := rP2_congr (cmpInt op_gt) fun _ _ _ => rfl
theorem cmp_ge : OpR X (compareOp .GtE) (rP2 K T pGe) := rP2_congr (cmpInt op_ge) fun _ _ _ => rfl
theorem cmp_lt : OpR X (compareOp .Lt) (rP2 K T pLt) := by
  intro pins s σ H x y v u Q I rx ry ⟨ρ, S, wa, wb, E, r, va, vb, p⟩
  by_cases h : ∃ a b, wa = .str a ∧ wb = .str b
  · obtain ⟨a, b, rfl, rfl⟩ := h
    exact op_lt_str pins s σ H x y v u Q I rx ry ⟨a, b, va.str_inv rfl, vb.str_inv rfl, PR.here r p (.bl _)⟩
  · have e : pLt [wa, wb] S = okb (cmpI (fun i j => decide (i < j)) wa wb) S := by
      cases wa <;> first
        | rfl
        | (cases wb <;> first
            | rfl
            | exact absurd ⟨_, _, rfl, rfl⟩ h)
    rw [e] at p
    exact cmpInt op_lt pins s σ H x y v u Q I rx ry ⟨ρ, S, wa, wb, E, r, va, vb, p⟩
/-! ### is -/
theorem isW_some {a b : W} {c : Bool} (h : isW a b = some c) : (b = .non ∧ ((a = .non ∧ c = true) ∨ (a ≠ .non ∧ (∀ i, a ≠ .ref i) ∧ c = false))) ∨ (∃ y, b = .bl y ∧ ((∃ x, a = .bl x ∧ c = (x == y)) ∨ ((∀ x, a ≠ .bl x) ∧ (∀ i, a ≠ .ref i) ∧ c = false))) := by
  cases b with
  | non => cases a <;> simp [isW] at h ⊢ <;> first | exact h | exact h.symm
  | bl y => cases a <;> simp [isW] at h ⊢ <;> first | exact h | exact h.symm
  | _ => simp [isW] at h
end
end
end BK

set_option maxRecDepth 100000
set_option maxHeartbeats 2000000
/-! B3b: more operations by values. -/
namespace BK
open PySem PySem.Spec PyProof.Rows L2
section
variable {K : PySem.W.Frag} {T : Adr} {X : Cx}
/-! ### + -/
theorem bin_add (hK : X.K = K) : OpR X (binaryOp .Add) (rP2 K T pAdd) := by
  subst hK
  intro pins s σ H x y v u Q I rx ry ⟨ρ, S, wa, wb, E, r, va, vb, p⟩
  by_cases h : ∃ i j, wa = .int i ∧ wb = .int j
  · obtain ⟨i, j, rfl, rfl⟩ := h
    exact op_add pins s σ H x y v u Q I rx ry ⟨i, j, va.int_inv rfl, vb.int_inv rfl, PR.here r p (.int _)⟩
  by_cases h2 : ∃ i j, wa = .str i ∧ wb = .str j
  · obtain ⟨i, j, rfl, rfl⟩ := h2
    simp only [pAdd] at p
    split at p
    · rename_i hz
      exact op_add_str pins s σ H x y v u Q I rx ry ⟨i, j, va.str_inv rfl, vb.str_inv rfl, lim_size hz, PR.here r p (.str _)⟩
    · exact p.elim
  have e : pAdd [wa, wb] S = okw (catW (look S wa) (look S wb)) S := by
    cases wa <;> first
      | rfl
      | (cases wb <;> first
          | rfl
          | exact absurd ⟨_, _, rfl, rfl⟩ h
          | exact absurd ⟨_, _, rfl, rfl⟩ h2)
  rw [e] at p
  obtain ⟨c, hc, p⟩ := okw_some p
  unfold catW at hc
  split at hc
  · rename_i l m e1 e2
    split at hc
    · rename_i hz
      cases hc
      obtain ⟨a, vs, rfl, ha, hs⟩ := va.lookL r e1
      obtain ⟨b, us, rfl, hb, ht⟩ := vb.lookL r e2
      cases rx
      cases ry
      have hl1 := hs.length
      have hl2 := ht.length
      obtain ⟨z, its, n, r1, g1⟩ := (show ObjOk X.prog X.w H s.heap a (.lst vs) from ha.ok I.hok)
      obtain ⟨z2, its2, n2, r2, g2⟩ := (show ObjOk X.prog X.w H s.heap b (.lst us) from hb.ok I.hok)
      have k1 := r1.length
      have k2 := r2.length
      have hz' := lim_size hz
      refine PySem.P.add_list g1 g2 ?_ (by rw [List.size_toArray, List.size_toArray]; omega)
      have ea : its.toArray ++ its2.toArray = (its ++ its2).toArray := by simp
      rw [ea]
      exact ⟨.ref _, _, I.lnew (t' := s.toks) (r1.append r2) (by rw [List.length_append]; omega), rfl, PR.newL r p I.fresh (hs.append ht)⟩
    · cases hc
  · rename_i l m e1 e2
    split at hc
    · rename_i hz
      obtain ⟨hz, n1, n2⟩ := hz
      cases hc
      obtain ⟨a, vs, rfl, ha, hs⟩ := va.lookT e1
      obtain ⟨b, us, rfl, hb, ht⟩ := vb.lookT e2
      have hl1 := hs.length
      have hl2 := ht.length
      refine op_catT pins s σ H _ _ v u Q I rx ry ⟨a, b, vs, us, rfl, rfl, ha, hb, fun z => n1 (List.length_eq_zero_iff.mp (by rw [hl1, z]; rfl)), by have := lim_size hz; omega, fun z => absurd (List.length_eq_zero_iff.mp (by rw [hl2, z]; rfl)) n2, fun _ q hq => PR.newT r p hq (hs.append ht)⟩
    · cases hc
  · cases hc
/-! ### is -/
section
variable {ρ : Own} {S : Sto} {H : Hp} {x : V}
theorem VR.non_iff {w : W} (h : VR K T ρ H w x) (n : ∀ i, w ≠ .ref i) : x = .non ↔ w = .non := by
  cases h with
  | ref _ _ => exact absurd rfl (n _)
  | _ => simp
theorem VR.not_bl {w : W} (h : VR K T ρ H w x) (n : ∀ i, w ≠ .ref i) (m : ∀ b, w ≠ .bl b) : ∀ b, x ≠ .bl b := by
  intro b
  cases h with
  | ref _ _ => exact absurd rfl (n _)
  | bl b => exact absurd rfl (m b)
  | _ => simp
end
theorem plain_bl {x : V} {v : Value} {b : Bool} (rx : RelV x v) (n : ∀ b, x ≠ .bl b) : plainIs v (.bool b) = true ∧ v ≠ .bool b := by
  cases x with
  | non => cases rx; exact ⟨rfl, fun z => nomatch z⟩
  | bl c => exact absurd rfl (n c)
  | int i => obtain ⟨t, rfl⟩ := rx; exact ⟨rfl, fun z => nomatch z⟩
  | str i => obtain ⟨t, rfl⟩ := rx; exact ⟨rfl, fun z => nomatch z⟩
  | byt i => obtain ⟨t, rfl⟩ := rx; exact ⟨rfl, fun z => nomatch z⟩
  | flt i => obtain ⟨t, rfl⟩ := rx; exact ⟨rfl, fun z => nomatch z⟩
  | ref i => cases rx; exact ⟨rfl, fun z => nomatch z⟩
  | ty i => cases rx; exact ⟨rfl, fun z => nomatch z⟩
theorem isW_eq {ρ : Own} {S : Sto} {H : Hp} {a b : W} {x y : V} {c : Bool} (va : VR K T ρ H a x) (vb : VR K T ρ H b y) (h : isW a b = some c) :
    (y = .non ∧ c = decide (x = .non)) ∨ ∃ k, y = .bl k ∧ ((∃ j, x = .bl j ∧ c = decide (j = k)) ∨ ((∀ b, x ≠ .bl b) ∧ c = false)) := by
  rcases isW_some h with ⟨rfl, h1⟩ | ⟨k, rfl, h1⟩
  · refine .inl ⟨vb.non_inv, ?_⟩
    rcases h1 with ⟨rfl, rfl⟩ | ⟨n, m, rfl⟩
    · rw [va.non_inv]; rfl
    · exact (decide_eq_false fun z => n ((va.non_iff m).mp z)).symm
  · refine .inr ⟨k, vb.bl_inv, ?_⟩
    rcases h1 with ⟨j, rfl, rfl⟩ | ⟨n, m, rfl⟩
    · exact .inl ⟨j, va.bl_inv, by cases j <;> cases k <;> rfl⟩
    · exact .inr ⟨va.not_bl m n, rfl⟩
theorem cmp_is : OpR X (compareOp .Is) (rP2 K T pIs_) := by
  intro pins s σ H x y v u Q I rx ry ⟨ρ, S, wa, wb, E, r, va, vb, p⟩
  obtain ⟨c, hc, p⟩ := okb_some (show PR _ T ρ H _ E Q (okb (isW wa wb) S) from p)
  have q := PR.here r p (.bl _)
  rcases isW_eq (S := S) va vb hc with ⟨rfl, rfl⟩ | ⟨k, rfl, ⟨j, rfl, rfl⟩ | ⟨n, rfl⟩⟩
  · exact op_isN pins s σ H x _ v u Q I rx ry ⟨rfl, q⟩
  · exact op_isBl pins s σ H _ _ v u Q I rx ry ⟨j, k, rfl, rfl, q⟩
  · cases (show u = Value.bool k from ry)
    obtain ⟨h1, h2⟩ := plain_bl (b := k) rx n
    exact wpAny_is_other h1 h2 ⟨.bl false, H, I, rfl, q⟩
theorem cmp_isnot : OpR X (compareOp .IsNot) (rP2 K T pIsnot) := by
  intro pins s σ H x y v u Q I rx ry ⟨ρ, S, wa, wb, E, r, va, vb, p⟩
  obtain ⟨c, hc, p⟩ := okb_some (show PR _ T ρ H _ E Q (okb ((isW wa wb).map (!·)) S) from p)
  rw [Option.map_eq_some_iff] at hc
  obtain ⟨c, hc, rfl⟩ := hc
  have q := PR.here r p (.bl _)
  rcases isW_eq (S := S) va vb hc with ⟨rfl, rfl⟩ | ⟨k, rfl, ⟨j, rfl, rfl⟩ | ⟨n, rfl⟩⟩
  · exact op_notN pins s σ H x _ v u Q I rx ry ⟨rfl, q⟩
  · exact op_notBl pins s σ H _ _ v u Q I rx ry ⟨j, k, rfl, rfl, q⟩
  · cases (show u = Value.bool k from ry)
    obtain ⟨h1, h2⟩ := plain_bl (b := k) rx n
    exact wpAny_isNot_other h1 h2 ⟨.bl true, H, I, rfl, q⟩
/-! ### in -/
theorem keyOf_kV {ρ : Own} {H : Hp} {w : W} {x : V} {k : Key} (h : VR K T ρ H w x) (e : keyOf w = some k) : x = kV k := by
  cases h <;> simp [keyOf] at e <;> (subst e; rfl)
theorem get_val {ρ : Own} {H : Hp} {k : Key} : ∀ {l : List (Key × W)} {vs : List (Key × V)}, VRd K T ρ H l vs → (getD' k l = none ∧ valV vs k = none) ∨ ∃ w v, getD' k l = some w ∧ valV vs k = some v ∧ VR K T ρ H w v
  | _, _, .nil => .inl ⟨rfl, rfl⟩
  | (a, w) :: l, _ :: _, .cons h t => by
    by_cases e : a = k
    · exact .inr ⟨_, _, by simp [getD', List.find?_cons, e], valV_pos (p := (a, _)) e, h⟩
    · have g := get_val (k := k) t
      rw [valV_neg (p := (a, _)) e]
      have e2 : getD' k ((a, w) :: l) = getD' k l := by simp [getD', List.find?_cons, e]
      rw [e2]
      exact g
/-- what in says, by where the thing is -/
theorem inW_at {ρ : Own} {S : Sto} {H : Hp} {a b : W} {x y : V} {c : Bool} (r : Rl K T ρ S H) (va : VR K T ρ H a x) (vb : VR K T ρ H b y) (h : inW S a b = some c) :
    (∃ d ds, Dp K H x d ∧ Dp K H y (.list ds) ∧ d.canLay0 = true ∧ PyData.canLayAll0 ds = true ∧ d.depth ≤ 64 ∧ c = (ds.any fun z => PyData.eqv z d)) ∨
    (∃ d ds, Dp K H x d ∧ Dp K H y (.tuple ds) ∧ d.canLay0 = true ∧ PyData.canLayAll0 ds = true ∧ d.depth ≤ 64 ∧ c = (ds.any fun z => PyData.eqv z d)) ∨
    (∃ p o, y = .ref p ∧ DGet H p x o ∧ c = o.isSome) ∨
    ∃ (k : Nat) (z : Str), x = .str ⟨#[k]⟩ ∧ y = .str z ∧ c = decide (k ∈ z.cps.toList) := by
  unfold inW at h
  split at h
  · rename_i l e
    split at h
    · rename_i d ds h1 h2
      split at h
      · rename_i hd
        cases h
        obtain ⟨p, vs, rfl, hp, hs⟩ := vb.lookL r e
        exact .inl ⟨d, ds, va.dpl r h1, .lst (.inl hp) (hs.dp h2), data_lay h1, datas_lay h2, hd, rfl⟩
      · cases h
    · cases h
  · rename_i l e
    split at h
    · rename_i d ds h1 h2
      split at h
      · rename_i hd
        cases h
        obtain ⟨p, vs, rfl, hp, hs⟩ := vb.lookT e
        exact .inr (.inl ⟨d, ds, va.dpl r h1, .tup hp (hs.dp h2), data_lay h1, datas_lay h2, hd, rfl⟩)
      · cases h
    · cases h
  · rename_i l e
    rw [Option.map_eq_some_iff] at h
    obtain ⟨k, hk, rfl⟩ := h
    obtain ⟨p, vs, rfl, hp, hs⟩ := vb.lookD r e
    refine .inr (.inr (.inl ⟨p, valV vs k, rfl, .inl ⟨vs, k, hp, keyOf_kV va hk, rfl⟩, ?_⟩))
    rcases get_val (k := k) hs with ⟨h1, h2⟩ | ⟨w, v, h1, h2, _⟩ <;> rw [h1, h2] <;> rfl
  · rename_i z e
    split at h
    · rename_i xx
      split at h
      · rename_i k hk
        cases h
        have ex : xx = ⟨#[k]⟩ := by
          obtain ⟨⟨l⟩⟩ := xx
          simp only at hk
          rw [hk]
        rw [look_str e] at vb
        exact .inr (.inr (.inr ⟨k, z, by rw [← ex]; exact va.str_inv rfl, vb.str_inv rfl, rfl⟩))
      · cases h
    · cases h
  · cases h
theorem cmp_in (hu : X.A.units + 66 < cLine) (hK : X.K = K) : OpR X (compareOp .In) (rP2 K T pIsin) := by
  subst hK
  intro pins s σ H x y v u Q I rx ry ⟨ρ, S, wa, wb, E, r, va, vb, p⟩
  obtain ⟨c, hc, p⟩ := okb_some (show PR _ T ρ H _ E Q (okb (inW S wa wb) S) from p)
  have q := fun s' => fun (I' : Inv X pins σ H s') => (⟨.bl c, H, I', rfl, PR.here r p (.bl _)⟩ : EP X pins σ Q (.bool c) s')
  rcases inW_at r va vb hc with ⟨d, ds, h1, h2, c1, c2, hd, rfl⟩ | ⟨d, ds, h1, h2, c1, c2, hd, rfl⟩ | ⟨a, o, rfl, g, rfl⟩ | ⟨k, z, rfl, rfl, rfl⟩
  · obtain ⟨as, r1⟩ := Dp.reads I d x v h1 rx
    obtain ⟨bs, r2⟩ := Dp.reads I _ y u h2 ry
    exact SeqAt.in_list_reads r2 r1 c2 c1 (by omega) (q s I)
  · obtain ⟨as, r1⟩ := Dp.reads I d x v h1 rx
    obtain ⟨bs, r2⟩ := Dp.reads I _ y u h2 ry
    exact SeqAt.in_tuple_reads r2 r1 c2 c1 (by omega) (q s I)
  · cases ry
    exact d_in (by omega) I g rx fun s' I' => q s' I'
  · exact op_in_sign pins s σ H _ _ v u Q I rx ry ⟨k, z, rfl, rfl, PR.here r p (.bl _)⟩
theorem cmp_notin (hu : X.A.units + 66 < cLine) (hK : X.K = K) : OpR X (compareOp .NotIn) (rP2 K T pNotin) := by
  subst hK
  intro pins s σ H x y v u Q I rx ry ⟨ρ, S, wa, wb, E, r, va, vb, p⟩
  obtain ⟨c, hc, p⟩ := okb_some (show PR _ T ρ H _ E Q (okb ((inW S wa wb).map (!·)) S) from p)
  rw [Option.map_eq_some_iff] at hc
  obtain ⟨c, hc, rfl⟩ := hc
  have q := fun s' => fun (I' : Inv X pins σ H s') => (⟨.bl (!c), H, I', rfl, PR.here r p (.bl _)⟩ : EP X pins σ Q (.bool (!c)) s')
  rcases inW_at r va vb hc with ⟨d, ds, h1, h2, c1, c2, hd, rfl⟩ | ⟨d, ds, h1, h2, c1, c2, hd, rfl⟩ | ⟨a, o, rfl, g, rfl⟩ | ⟨k, z, rfl, rfl, rfl⟩
  · obtain ⟨as, r1⟩ := Dp.reads I d x v h1 rx
    obtain ⟨bs, r2⟩ := Dp.reads I _ y u h2 ry
    exact SeqAt.notIn_list_reads r2 r1 c2 c1 (by omega) (q s I)
  · obtain ⟨as, r1⟩ := Dp.reads I d x v h1 rx
    obtain ⟨bs, r2⟩ := Dp.reads I _ y u h2 ry
    exact SeqAt.notIn_tuple_reads r2 r1 c2 c1 (by omega) (q s I)
  · cases ry
    exact d_notIn (by omega) I g rx fun s' I' => q s' I'
  · exact op_notIn_sign pins s σ H _ _ v u Q I rx ry ⟨k, z, rfl, rfl, PR.here r p (.bl _)⟩
theorem un_negW : UnR X (unaryOp .USub) (rP1 K T pNeg) := by
  intro pins s σ H x v Q I rx ⟨ρ, S, wa, E, r, va, p⟩
  cases wa with
  | int i => exact un_neg pins s σ H x v Q I rx ⟨i, va.int_inv rfl, PR.here r p (.int _)⟩
  | _ => exact p.elim
/-! ### built-ins -/
theorem VRs.one {ρ : Own} {H : Hp} {w : W} {xs : List V} (h : VRs K T ρ H [w] xs) : ∃ x, xs = [x] ∧ VR K T ρ H w x := by
  cases h with
  | cons h t => cases t; exact ⟨_, rfl, h⟩
theorem VRs.two {ρ : Own} {H : Hp} {w w' : W} {xs : List V} (h : VRs K T ρ H [w, w'] xs) : ∃ x y, xs = [x, y] ∧ VR K T ρ H w x ∧ VR K T ρ H w' y := by
  cases h with
  | cons h t =>
    obtain ⟨y, rfl, g⟩ := t.one
    exact ⟨_, _, rfl, h, g⟩
theorem VRs.none {ρ : Own} {H : Hp} {xs : List V} (h : VRs K T ρ H [] xs) : xs = [] := by cases h; rfl
theorem VRd.keys {ρ : Own} {H : Hp} : ∀ {l : List (Key × W)} {vs : List (Key × V)}, VRd K T ρ H l vs → VRs K T ρ H (keysW l) (vs.map fun kv => kV kv.1)
  | _, _, .nil => .nil
  | (.inl _, _) :: _, _ :: _, .cons _ t => .cons (.int _) (VRd.keys t)
  | (.inr _, _) :: _, _ :: _, .cons _ t => .cons (.str _) (VRd.keys t)
/-- len of a dict that is read -/
theorem len_dk : CallR X (.builtin "len") (fun xs H Q => ∃ a kvs, xs = [V.ref a] ∧ Rd H a (.dK kvs) ∧ Q (.int kvs.length) H) := by
  intro pins s σ H xs us Q I r h
  obtain ⟨a, kvs, rfl, ha, q⟩ := h
  obtain ⟨u, rfl, ru⟩ := vals1 r
  cases ru
  exact d_len I ha fun t s' I' => ⟨.int kvs.length, H, I', ⟨t, rfl⟩, q⟩
theorem fn_len (hc : X.calm = true) (hK : X.K = K) : CallR X (.builtin "len") (rPn K T pLen) := by
  subst hK
  intro pins s σ H xs us Q I rx ⟨ρ, S, ws, E, r, va, p⟩
  match ws, va, p with
  | [], va, p => exact p.elim
  | _ :: _ :: _, va, p => exact p.elim
  | [w], va, p =>
    obtain ⟨x, rfl, vx⟩ := va.one
    simp only [pLen] at p
    split at p
    · rename_i l e
      obtain ⟨a, vs, rfl, ha, hs⟩ := vx.lookL r e
      exact call_len pins s σ H _ us Q I rx ⟨_, vs.length, rfl, .inl ⟨vs, .inl ha, rfl⟩, by rw [← hs.length]; exact PR.here r p (.int _)⟩
    · rename_i l e
      obtain ⟨a, vs, rfl, ha, hs⟩ := vx.lookT e
      exact call_len pins s σ H _ us Q I rx ⟨_, vs.length, rfl, .inr ⟨vs, ha, rfl⟩, by rw [← hs.length]; exact PR.here r p (.int _)⟩
    · rename_i l e
      obtain ⟨a, vs, rfl, ha, hs⟩ := vx.lookD r e
      exact len_dk pins s σ H _ us Q I rx ⟨a, vs, rfl, ha, by rw [← hs.length]; exact PR.here r p (.int _)⟩
    · rename_i z e
      split at p
      · rename_i hz
        rw [look_str e] at vx
        exact call_len pins s σ H _ us Q I rx ⟨x, z.length, rfl, by rw [vx.str_inv rfl]; exact ⟨lim_size hz, rfl⟩, PR.here r p (.int _)⟩
      · exact p.elim
    · exact p.elim
theorem fn_list (hc : X.calm = true) (hK : X.K = K) : CallR X (.type "list") (rPn K T pList) := by
  subst hK
  intro pins s σ H xs us Q I rx ⟨ρ, S, ws, E, r, va, p⟩
  match ws, va, p with
  | [], va, p => exact p.elim
  | _ :: _ :: _, va, p => exact p.elim
  | [w], va, p =>
    obtain ⟨x, rfl, vx⟩ := va.one
    simp only [pList] at p
    split at p
    · rename_i l e
      obtain ⟨a, vs, rfl, ha, hs⟩ := vx.lookL r e
      exact call_list_of pins s σ H _ us Q I rx ⟨a, vs, rfl, .inl (.inl ha), fun q hq => PR.newL r p hq hs⟩
    · rename_i l e
      obtain ⟨a, vs, rfl, ha, hs⟩ := vx.lookT e
      exact call_list_of pins s σ H _ us Q I rx ⟨a, vs, rfl, .inr ha, fun q hq => PR.newL r p hq hs⟩
    · rename_i l e
      obtain ⟨a, vs, rfl, ha, hs⟩ := vx.lookD r e
      exact call_listD hc pins s σ H _ us Q I rx ⟨a, vs, rfl, ha, fun q hq => PR.newL r p hq hs.keys⟩
    · exact p.elim
theorem fn_mlist (hK : X.K = K) : CallR X (.type "list") (rPn K T pMlist) := by
  subst hK
  intro pins s σ H xs us Q I rx ⟨ρ, S, ws, E, r, va, p⟩
  match ws, va, p with
  | [], va, p => exact p.elim
  | _ :: _ :: _, va, p => exact p.elim
  | [w], va, p =>
    obtain ⟨x, rfl, vx⟩ := va.one
    simp only [pMlist] at p
    split at p
    · rename_i l e
      obtain ⟨a, vs, rfl, ha, hs⟩ := vx.lookL r e
      exact call_list_of pins s σ H _ us Q I rx ⟨a, vs, rfl, .inl (.inl ha), fun q hq => PR.newM r p hq hs⟩
    · rename_i l e
      rw [look_arg e] at vx
      obtain ⟨a, vs, rfl, ha, hs⟩ := vx.arg_inv
      exact call_list_of pins s σ H _ us Q I rx ⟨a, vs, rfl, .inl ha, fun q hq => PR.newM r p hq hs⟩
    · rename_i l e
      obtain ⟨a, vs, rfl, ha, hs⟩ := vx.lookT e
      exact call_list_of pins s σ H _ us Q I rx ⟨a, vs, rfl, .inr ha, fun q hq => PR.newM r p hq hs⟩
    · exact p.elim
theorem fn_tuple (hK : X.K = K) : CallR X (.type "tuple") (rPn K T pTuple) := by
  subst hK
  intro pins s σ H xs us Q I rx ⟨ρ, S, ws, E, r, va, p⟩
  match ws, va, p with
  | [], va, p => exact p.elim
  | _ :: _ :: _, va, p => exact p.elim
  | [w], va, p =>
    obtain ⟨x, rfl, vx⟩ := va.one
    simp only [pTuple] at p
    split at p
    · rename_i l e
      obtain ⟨a, vs, rfl, ha, hs⟩ := vx.lookL r e
      exact call_tuple_of pins s σ H _ us Q I rx ⟨a, vs, rfl, .inl ⟨.inl ha, fun q hq => PR.newT r p hq hs⟩⟩
    · rename_i l e
      obtain ⟨a, vs, rfl, ha, hs⟩ := vx.lookT e
      exact call_tuple_of pins s σ H _ us Q I rx ⟨a, vs, rfl, .inr ⟨ha, PR.here r p (.tup ha hs)⟩⟩
    · exact p.elim
theorem bools_vs {ρ : Own} {H : Hp} : ∀ {l : List W} {vs : List V} {bs : List Bool}, VRs K T ρ H l vs → bools l = some bs → vs = bs.map V.bl
  | _, _, bs, .nil, h => by simp [bools] at h; subst h; rfl
  | w :: l, _, bs, .cons g t, h => by
    cases w with
    | bl b =>
      simp only [bools, Option.map_eq_some_iff] at h
      obtain ⟨bs', h1, rfl⟩ := h
      rw [bools_vs t h1, g.bl_inv]
      rfl
    | _ => simp [bools] at h
theorem fn_all (hc : X.calm = true) (hK : X.K = K) : CallR X (.builtin "all") (rPn K T pAll) := by
  subst hK
  intro pins s σ H xs us Q I rx ⟨ρ, S, ws, E, r, va, p⟩
  match ws, va, p with
  | [], va, p => exact p.elim
  | _ :: _ :: _, va, p => exact p.elim
  | [w], va, p =>
    obtain ⟨x, rfl, vx⟩ := va.one
    simp only [pAll] at p
    split at p
    · rename_i l e
      obtain ⟨a, vs, rfl, ha, hs⟩ := vx.lookL r e
      obtain ⟨c, hc', p⟩ := okb_some p
      rw [Option.map_eq_some_iff] at hc'
      obtain ⟨bs, hb, rfl⟩ := hc'
      rw [bools_vs hs hb] at ha
      exact cr_all hc pins s σ H _ us Q I rx ⟨a, bs, rfl, .inl ha, PR.here r p (.bl _)⟩
    · exact p.elim
theorem fn_any (hc : X.calm = true) (hK : X.K = K) : CallR X (.builtin "any") (rPn K T pAny) := by
  subst hK
  intro pins s σ H xs us Q I rx ⟨ρ, S, ws, E, r, va, p⟩
  match ws, va, p with
  | [], va, p => exact p.elim
  | _ :: _ :: _, va, p => exact p.elim
  | [w], va, p =>
    obtain ⟨x, rfl, vx⟩ := va.one
    simp only [pAny] at p
    split at p
    · rename_i l e
      obtain ⟨a, vs, rfl, ha, hs⟩ := vx.lookL r e
      obtain ⟨c, hc', p⟩ := okb_some p
      rw [Option.map_eq_some_iff] at hc'
      obtain ⟨bs, hb, rfl⟩ := hc'
      rw [bools_vs hs hb] at ha
      exact cr_any hc pins s σ H _ us Q I rx ⟨a, bs, rfl, .inl ha, PR.here r p (.bl _)⟩
    · exact p.elim
theorem fn_int : CallR X (.type "int") (rPn K T pInt) := by
  intro pins s σ H xs us Q I rx ⟨ρ, S, ws, E, r, va, p⟩
  unfold pInt at p
  split at p
  · obtain ⟨x, rfl, vx⟩ := va.one
    exact call_int1 pins s σ H _ us Q I rx (.inl ⟨_, by rw [vx.int_inv rfl], PR.here r p (.int _)⟩)
  · exact p.elim
theorem fn_str : CallR X (.type "str") (rPn K T pStr) := by
  intro pins s σ H xs us Q I rx ⟨ρ, S, ws, E, r, va, p⟩
  unfold pStr at p
  split at p
  · split at p
    · rename_i hz
      obtain ⟨x, rfl, vx⟩ := va.one
      exact call_str_int pins s σ H _ us Q I rx ⟨_, by rw [vx.int_inv rfl], hz, PR.here r p (.str _)⟩
    · exact p.elim
  · exact p.elim
theorem fn_abs : CallR X (.builtin "abs") (rPn K T pAbs) := by
  intro pins s σ H xs us Q I rx ⟨ρ, S, ws, E, r, va, p⟩
  unfold pAbs at p
  split at p
  · obtain ⟨x, rfl, vx⟩ := va.one
    exact call_abs pins s σ H _ us Q I rx ⟨_, by rw [vx.int_inv rfl], PR.here r p (.int _)⟩
  · exact p.elim
theorem fn_max2 (hc : X.calm = true) : CallR X (.builtin "max") (rPn K T pMax2) := by
  intro pins s σ H xs us Q I rx ⟨ρ, S, ws, E, r, va, p⟩
  unfold pMax2 at p
  split at p
  · obtain ⟨x, y, rfl, vx, vy⟩ := va.two
    exact call_max2 hc pins s σ H _ us Q I rx ⟨_, _, by rw [vx.int_inv rfl, vy.int_inv rfl], PR.here r p (.int _)⟩
  · exact p.elim
/-! ### isinstance -/
/-- what the written part says of the classes -/
structure Facts (K : PySem.W.Frag) (T : Adr) (P : Pg) : Prop where
  ex : ∀ c d b, P.csub c d = some b → ExcC K (T.cls c) ∧ PySem.W.kitOne K (.ref (T.cls c)) (.ref (T.cls d)) = some b
  et : ∀ c u b, P.cty c u = some b → ExcC K (T.cls c) ∧ PySem.W.kitOne K (.ref (T.cls c)) (.type u) = some b
  fl : ∀ c f, P.cfl c f = true → ExcC K (T.cls c) ∧ PySem.W.findIn K (.ref (T.cls c)) f = some none
theorem kit_plain {t u : String} {b : Bool} (h : isTy t (.ty u) = some b) (ht : t ∈ ["NoneType", "bool", "int", "str", "tuple", "list", "dict"]) : PySem.W.kitOne K (.type t) (.type u) = some b := by
  unfold isTy at h
  simp only at h
  split at h
  · rename_i hu
    cases h
    have hu' : u ∈ plainTys := by simpa using hu
    have key : ∀ t ∈ ["NoneType", "bool", "int", "str", "tuple", "list", "dict"], ∀ u ∈ plainTys, kitB t u = some (t == u || (t == "bool" && u == "int")) := by decide +kernel
    exact kit_ty (key t ht u hu')
  · cases h
theorem tyName_x {ρ : Own} {S : Sto} {H : Hp} {w : W} {x : V} {t : String} (r : Rl K T ρ S H) (va : VR K T ρ H w x) (h : tyName (look S w) = some t) : TyX K H x (.type t) ∧ t ∈ ["NoneType", "bool", "int", "str", "tuple", "list", "dict"] := by
  cases e : look S w with
  | non =>
    rw [e] at h; cases h
    have : w = .non := by
      cases w with
      | ref i => rcases q : S[i]? with _ | (_|_|_) <;> simp [look, q] at e
      | _ => exact e
    subst this
    rw [va.non_inv]
    exact ⟨.base .non, by simp⟩
  | bl b =>
    rw [e] at h; cases h
    have : w = .bl b := by
      cases w with
      | ref i => rcases q : S[i]? with _ | (_|_|_) <;> simp [look, q] at e
      | _ => exact e
    subst this
    rw [va.bl_inv]
    exact ⟨.base (.bl b), by simp⟩
  | int b =>
    rw [e] at h; cases h
    have : w = .int b := by
      cases w with
      | ref i => rcases q : S[i]? with _ | (_|_|_) <;> simp [look, q] at e
      | _ => exact e
    rw [va.int_inv this]
    exact ⟨.base (.int b), by simp⟩
  | str b =>
    rw [e] at h; cases h
    rw [va.str_inv (look_str e)]
    exact ⟨.base (.str b), by simp⟩
  | tup l =>
    rw [e] at h; cases h
    obtain ⟨a, vs, rfl, ha, hs⟩ := va.lookT e
    refine ⟨?_, by simp⟩
    rcases ha with (ha | ⟨o, ha⟩) | ⟨o, its, n, h1, h2, h3, _⟩
    · exact .base (.tup ha)
    · exact .fTuple ha
    · exact .kTuple h1 h2
  | lst l =>
    rw [e] at h; cases h
    obtain ⟨a, vs, rfl, ha, hs⟩ := va.lookL r e
    refine ⟨?_, by simp⟩
    rcases ha with ha | ⟨o, ha⟩
    · exact .base (.lst ha)
    · exact .base (.frz ha)
  | dct l =>
    rw [e] at h; cases h
    obtain ⟨a, vs, rfl, ha, hs⟩ := va.lookD r e
    refine ⟨?_, by simp⟩
    rcases ha with ha | ⟨o, ha⟩
    · exact .base (.dK ha)
    · exact .fDict ha
  | _ => rw [e] at h; cases h
theorem look_exn {S : Sto} {w : W} {c : Nat} {l : List (Str × W)} (e : look S w = .exn c l) : w = .exn c l := by
  cases w with
  | ref i => rcases q : S[i]? with _ | (_|_|_) <;> simp [look, q] at e
  | _ => exact e
/-- the kit's facts of a value -/
theorem kit_any {pins : List (Addr × Obj)} {σ : L2.St} {H : Hp} {s : Shared} {ρ : Own} {S : Sto} {P : Pg} {w : W} {x : V} {v : Value} (F : Facts X.K T P) (I : Inv X pins σ H s) (r : Rl X.K T ρ S H) (va : VR X.K T ρ H w x) (rx : RelV x v) {t : W} {b : Bool} (h : isOne P (look S w) t = some b) :
    ∃ (tv : Value) (G : Heap → Prop), PySem.W.KitX X.K v tv G ∧ G s.heap ∧ v ≠ .builtin "__main__.__loader__#opaque" ∧
      ∀ (t' : W) (b' : Bool) (y : V) (u : Value), isOne P (look S w) t' = some b' → VR X.K T ρ H t' y → RelV y u → PySem.W.kitOne X.K tv u = some b' := by
  by_cases hx : ∃ c l, look S w = .exn c l
  · obtain ⟨c, l, e⟩ := hx
    have ew := look_exn e
    subst ew
    have hC : ExcC X.K (T.cls c) := by
      simp only [look, isOne] at h
      split at h
      · exact (F.ex _ _ _ h).1
      · exact (F.et _ _ _ h).1
      · cases h
    have hcl : (PySem.W.clsIn X.K (T.cls c)).isSome = true := by
      obtain ⟨cd, hc, _⟩ := PySem.W.any_some hC.hd
      rw [hc]; rfl
    have fin : ∀ (t' : W) (b' : Bool) (y : V) (u : Value), isOne P (look S (.exn c l)) t' = some b' → VR X.K T ρ H t' y → RelV y u → PySem.W.kitOne X.K (.ref (T.cls c)) u = some b' := fun t' b' y u h' vy ry => by
      simp only [look, isOne] at h'
      split at h'
      · cases vy
        cases ry
        exact (F.ex _ _ _ h').2
      · cases vy
        cases ry
        exact (F.et _ _ _ h').2
      · cases h'
    cases va with
    | @exn0 a _ n ha =>
      cases (show v = Value.ref a from rx)
      obtain ⟨t1, ho⟩ := exo_at I.hok ha
      exact ⟨_, _, PySem.W.kitx_exc (x := a) (od := none) hcl hC.hg hC.hk hC.hs hC.ha hC.hn hC.ht hC.hm, ⟨ho, rfl, rfl, trivial⟩, (fun z => nomatch z), fin⟩
    | @exn a d _ fs _ n m ha hd _ =>
      cases (show v = Value.ref a from rx)
      obtain ⟨t1, ho⟩ := exo_at I.hok ha
      obtain ⟨mA, hns, rel⟩ := exd_at I.hok hd
      obtain ⟨oD, _, _, hoD, _, _⟩ := hns.count (within_of rel)
      exact ⟨_, _, PySem.W.kitx_exc (x := a) (od := some oD) hcl hC.hg hC.hk hC.hs hC.ha hC.hn hC.ht hC.hm, ⟨ho, rfl, rfl, hoD⟩, (fun z => nomatch z), fin⟩
  · have e : ∀ t', isOne P (look S w) t' = match tyName (look S w) with | some n => isTy n t' | none => none := fun t' => by
      cases q : look S w with
      | exn c l => exact absurd ⟨c, l, q⟩ hx
      | _ => rfl
    rw [e] at h
    split at h
    · rename_i n hn
      obtain ⟨h1, h2⟩ := tyName_x r va hn
      obtain ⟨G, Z, g, nb⟩ := kit_of I rx h1
      refine ⟨_, G, Z, g, nb, fun t' b' y u h' vy ry => ?_⟩
      rw [e, hn] at h'
      cases t' with
      | ty m =>
        cases vy
        cases ry
        exact kit_plain h' h2
      | _ => simp [isTy] at h'
    · cases h
theorem isAny_kit {ρ : Own} {H : Hp} {P : Pg} {w : W} {tv : Value} : ∀ {l : List W} {vs : List V} {us : List Value} {b : Bool}, (∀ (t' : W) (b' : Bool) (y : V) (u : Value), isOne P w t' = some b' → VR K T ρ H t' y → RelV y u → PySem.W.kitOne K tv u = some b') →
    isAny P w l = some b → VRs K T ρ H l vs → Vals vs us → PySem.W.kitAny K tv us = some b
  | [], _, _, b, f, h, .nil, .nil => h
  | t :: l, _, _, b, f, h, .cons vy vt, .cons ry rt => by
    unfold isAny at h
    split at h
    · rename_i q
      cases h
      exact kitAny_cons (f _ _ _ _ q vy ry) (fun z => by cases z) fun _ => rfl
    · rename_i q
      exact kitAny_cons (f _ _ _ _ q vy ry) (fun _ => isAny_kit f h vt rt) fun z => by cases z
    · cases h
theorem fn_isi {P : Pg} (F : Facts K T P) (hK : X.K = K) : CallR X (.builtin "isinstance") (rPn K T (pIsi P)) := by
  subst hK
  intro pins s σ H xs us Q I rx ⟨ρ, S, ws, E, r, va, p⟩
  unfold pIsi at p
  split at p
  · rename_i w t
    obtain ⟨x, y, rfl, vx, vt⟩ := va.two
    obtain ⟨u1, u2, rfl, r1, r2⟩ := vals2 rx
    obtain ⟨c, hc, p⟩ := okb_some p
    have q := PR.here r p (.bl _)
    by_cases ht : ∃ l, t = .tup l
    · obtain ⟨l, rfl⟩ := ht
      have hc' : isAny P (look S w) l = some c := by
        cases l with
        | nil => cases hc
        | cons _ _ => exact hc
      cases vt with
      | @tup a vs _ hs hl =>
        cases (show u2 = Value.ref a from r2)
        obtain ⟨its, rv, ⟨o, h1, h2, n, h3⟩, hz⟩ := I.tuple hs
        cases l with
        | nil =>
          cases hc
        | cons t l =>
          cases hl with
          | cons v1 vl =>
            cases rv with
            | cons ra rl =>
              have h0 : ∃ b, isOne P (look S w) t = some b := by
                unfold isAny at hc'
                split at hc'
                · exact ⟨_, by assumption⟩
                · exact ⟨_, by assumption⟩
                · cases hc'
              obtain ⟨b, hb⟩ := h0
              obtain ⟨tv, G, Z, g, nb, f⟩ := kit_any F I r vx r1 hb
              obtain ⟨oc, od, dt, sl⟩ := o
              simp only at h2 h3
              subst h2 h3
              exact PySem.W.kia_tup Z I.kIn g h1 (isAny_kit f hc' (.cons v1 vl) (.cons ra rl)) nb fun tk => ⟨.bl c, H, I.tok tk, rfl, q⟩
    · have hc' : isOne P (look S w) t = some c := by
        cases t with
        | tup l => exact absurd ⟨l, rfl⟩ ht
        | _ => exact hc
      obtain ⟨tv, G, Z, g, nb, f⟩ := kit_any F I r vx r1 hc'
      exact PySem.W.kia_one Z I.kIn g (f _ _ _ _ hc' vt r2) nb fun tk => ⟨.bl c, H, I.tok tk, rfl, q⟩
  · exact p.elim
end
end BK

set_option maxRecDepth 100000
set_option maxHeartbeats 2000000
/-! B3c: places, slices, what changes a list or a dict. -/
namespace BK
open PySem PySem.Spec PyProof.Rows L2
section
variable {K : PySem.W.Frag} {T : Adr} {X : Cx}
theorem ixAt_eq : ixAt = ixN := rfl
theorem at_bind {ρ : Own} {H : Hp} {l : List W} {vs : List V} {i : Int} {w : W} (hs : VRs K T ρ H l vs) (h : (ixAt l.length i).bind (l[·]?) = some w) : ∃ v, atI vs i = some v ∧ VR K T ρ H w v := by
  unfold atI
  rw [← hs.length, ← ixAt_eq]
  cases e : ixAt l.length i with
  | none => rw [e] at h; cases h
  | some j =>
    rw [e] at h
    exact hs.get h
theorem ix_all (hu : X.A.units + 1 < cLine) (hK : X.K = K) : IxR X (rP2 K T pIdx) := by
  subst hK
  intro value slice pins s σ H x y v u Q I rx ry ⟨ρ, S, wa, wb, E, r, va, vb, p⟩ hs
  simp only [pIdx] at p
  split at p
  · rename_i l i e
    obtain ⟨w, hw, p⟩ := okw_some p
    obtain ⟨a, vs, rfl, ha, hl⟩ := va.lookL r e
    obtain ⟨z, hz, vz⟩ := at_bind hl hw
    exact ix_list value slice pins s σ H _ y v u Q I rx ry ⟨a, vs, i, z, rfl, vb.int_inv rfl, .inl ha, hz, PR.here r p vz⟩ hs
  · rename_i l i e
    obtain ⟨w, hw, p⟩ := okw_some p
    obtain ⟨a, vs, rfl, ha, hl⟩ := va.lookT e
    obtain ⟨z, hz, vz⟩ := at_bind hl hw
    exact ix_tup value slice pins s σ H _ y v u Q I rx ry ⟨a, vs, i, z, rfl, vb.int_inv rfl, ha, hz, PR.here r p vz⟩ hs
  · rename_i zz i e
    obtain ⟨w, hw, p⟩ := okw_some p
    split at hw
    · rename_i hz
      rw [Option.map_eq_some_iff] at hw
      obtain ⟨c, hc, rfl⟩ := hw
      rw [look_str e] at va
      exact ix_str value slice pins s σ H _ y v u Q I rx ry ⟨zz, i, c, va.str_inv rfl, vb.int_inv rfl, lim_size hz, hc, PR.here r p (.str _)⟩ hs
    · cases hw
  · rename_i l e
    obtain ⟨w, hw, p⟩ := okw_some p
    obtain ⟨a, vs, rfl, ha, hl⟩ := va.lookD r e
    rw [Option.bind_eq_some_iff] at hw
    obtain ⟨k, hk, hw⟩ := hw
    cases rx
    rcases get_val (k := k) hl with ⟨h1, h2⟩ | ⟨w', z, h1, h2, vz⟩
    · rw [h1] at hw; cases hw
    · rw [h1] at hw
      cases hw
      have g : DGet H a y (some z) := .inl ⟨vs, k, ha, keyOf_kV vb hk, h2.symm⟩
      exact tail_any (dict_typeIs I g) slot_dict_getitem.lookup (d_getItem hu I g ry fun w' s' I' r' => ⟨z, H, I', r', PR.here r p vz⟩) hs
  · exact p.elim
/-! ### slices -/
def rSl (K : PySem.W.Frag) (T : Adr) : V → Option Int → Option Int → Hp → VK → Prop := fun x lo hi H Q => ∃ ρ S wa wl wh E, Rl K T ρ S H ∧ VR K T ρ H wa x ∧ part wl = some lo ∧ part wh = some hi ∧ PR K T ρ H (VR K T) E Q (pSlice [wa, wl, wh] S)
theorem VRs.cut' {ρ : Own} {H : Hp} {l : List W} {vs : List V} (hs : VRs K T ρ H l vs) (lo hi : Option Int) : VRs K T ρ H (BK.cut l lo hi) (cutV vs lo hi) := by
  unfold BK.cut cutV
  rw [hs.length]
  exact (hs.drop _).take _
theorem sl_all (hK : X.K = K) : SlR X (rSl K T) := by
  subst hK
  intro pins s σ H x v vl vu lo hi sl Q I rx hs pl pu ⟨ρ, S, wa, wl, wh, E, r, va, h1, h2, p⟩
  simp only [pSlice, h1, h2] at p
  split at p
  · rename_i l e
    obtain ⟨a, vs, rfl, ha, hl⟩ := va.lookL r e
    exact sl_list pins s σ H _ v vl vu lo hi sl Q I rx hs pl pu ⟨a, vs, rfl, .inl ha, fun q hq => PR.newL r p hq (hl.cut' lo hi)⟩
  · rename_i l e
    split at p
    · exact p.elim
    · rename_i hz
      obtain ⟨a, vs, rfl, ha, hl⟩ := va.lookT e
      exact sl_tup pins s σ H _ v vl vu lo hi sl Q I rx hs pl pu ⟨a, vs, rfl, ha, by rw [← hl.length]; exact hz, fun q hq => PR.newT r p hq (hl.cut' lo hi)⟩
  · exact p.elim
/-! ### what changes -/
def rMt (K : PySem.W.Frag) (T : Adr) (f : List W → Sto → R W) : V → List V → Hp → VK → Prop := fun x xs H Q => ∃ ρ S w ws E, Rl K T ρ S H ∧ VR K T ρ H w x ∧ VRs K T ρ H ws xs ∧ PR K T ρ H (VR K T) E Q (f (w :: ws) S)
/-- a list is written -/
theorem PR.wrL {ρ : Own} {S : Sto} {H : Hp} {E : XK} {Q : VK} {i : Nat} {a : Addr} {l : List W} {vs : List V} {w : W} {v : V} (r : Rl K T ρ S H) (p : PR K T ρ H (VR K T) E Q (.ok w (S.set i (.lst l)))) (hi : ρ[i]? = some (some a)) (hl : W.lows i l = true) (hs : VRs K T ρ H l vs) (hw : VR K T ρ H w v) : Q v (upd H a (.lst vs)) :=
  p _ _ _ (ext_write hi) (rl_write r hi (.lst upd_same (hs.mono r (ext_write hi))) hl) (hw.mono r (ext_write hi))
theorem PR.wrD {ρ : Own} {S : Sto} {H : Hp} {E : XK} {Q : VK} {i : Nat} {a : Addr} {l : List (Key × W)} {vs : List (Key × V)} {w : W} {v : V} (r : Rl K T ρ S H) (p : PR K T ρ H (VR K T) E Q (.ok w (S.set i (.dct l)))) (hi : ρ[i]? = some (some a)) (hl : W.lowd i l = true) (hs : VRd K T ρ H l vs) (hw : VR K T ρ H w v) : Q v (upd H a (.dK vs)) :=
  p _ _ _ (ext_write hi) (rl_write r hi (.dct upd_same (hs.mono r (ext_write hi))) hl) (hw.mono r (ext_write hi))
theorem lows_of {ρ : Own} {S : Sto} {H : Hp} {i : Nat} {l : List W} (r : Rl K T ρ S H) (e : S[i]? = some (.lst l)) : W.lows i l = true := r.low i _ e
theorem lowd_of {ρ : Own} {S : Sto} {H : Hp} {i : Nat} {l : List (Key × W)} (r : Rl K T ρ S H) (e : S[i]? = some (.dct l)) : W.lowd i l = true := r.low i _ e
theorem m_append (hK : X.K = K) : MtM X "list.append" (rMt K T pAppend) := by
  subst hK
  intro pins s σ H x xs v us Q I rx rxs ⟨ρ, S, w, ws, E, r, va, vb, p⟩
  unfold pAppend at p
  split at p
  · rename_i _ S i y heq
    obtain ⟨rfl, rfl⟩ := List.cons.inj heq
    split at p
    · rename_i l e
      split at p
      · rename_i hz
        obtain ⟨a, vs, rfl, h1, h2, hs⟩ := va.refL r e
        obtain ⟨z, rfl, vz⟩ := vb.one
        have hl := hs.length
        have h3 := lim_lt hz.1
        exact mt_append pins s σ H _ _ v us Q I rx rxs ⟨a, vs, z, rfl, rfl, h2, by omega, PR.wrL r p h1 (lows_append (lows_of r e) (by simp [W.lows, hz.2])) (hs.append (.cons vz .nil)) .non⟩
      · exact p.elim
    · exact p.elim
  · exact p.elim
theorem m_extend (hK : X.K = K) : MtM X "list.extend" (rMt K T pExtend) := by
  subst hK
  intro pins s σ H x xs v us Q I rx rxs ⟨ρ, S, w, ws, E, r, va, vb, p⟩
  unfold pExtend at p
  split at p
  · rename_i _ S i y heq
    obtain ⟨rfl, rfl⟩ := List.cons.inj heq
    split at p
    · rename_i l m e e2
      split at p
      · rename_i hz
        obtain ⟨a, vs, rfl, h1, h2, hs⟩ := va.refL r e
        obtain ⟨z, rfl, vz⟩ := vb.one
        obtain ⟨b, ys, rfl, hb, hy⟩ := vz.lookL r e2
        have hl := hs.length
        have hm := hy.length
        have h3 := lim_size hz.1
        have q := PR.wrL r p h1 (lows_append (lows_of r e) hz.2) (hs.append hy) .non
        cases rx
        obtain ⟨u, rfl, ru⟩ := rxs.one
        cases ru
        obtain ⟨z1, its, n, r1, k1, g1⟩ := I.lstM h2
        obtain ⟨z2, its2, n2, r2, g2⟩ := (show ObjOk X.prog X.w H s.heap b (.lst ys) from hb.ok I.hok)
        have k2 := r2.length
        have hsz : its.toArray.size + its2.toArray.size ≤ sizeLine := by rw [List.size_toArray, List.size_toArray]; omega
        have hlong : ¬ (!its.toArray.isEmpty && Builtin.List.listTooLong (its.toArray.size + its2.toArray.size)) = true := by
          rw [notLongL hsz, Bool.and_false]
          exact Bool.false_ne_true
        refine call_meets F.slot_list_extend ⟨_, g1, rfl⟩ F.entry_list_extend (F.args_list_extend_2 _ _)
          (AutoSeq1.list_extend_list_list_0 a its.toArray n b its2.toArray n2 hlong (by rw [List.size_toArray]; omega) (by omega)) ⟨g1, g2, ?_⟩
        refine ⟨.non, _, I.lset (its' := its ++ its2) h2 g1 (by simp) (r1.append r2) ?_, rfl, q⟩
        rw [List.length_append]
        omega
      · exact p.elim
    · exact p.elim
  · exact p.elim
theorem m_pop (hK : X.K = K) : MtM X "list.pop" (rMt K T pPop) := by
  subst hK
  intro pins s σ H x xs v us Q I rx rxs ⟨ρ, S, w, ws, E, r, va, vb, p⟩
  unfold pPop at p
  split at p
  · rename_i _ S i heq
    obtain ⟨rfl, rfl⟩ := List.cons.inj heq
    split at p
    · rename_i l e
      split at p
      · rename_i y hy
        obtain ⟨a, vs, rfl, h1, h2, hs⟩ := va.refL r e
        cases vb
        rw [List.getLast?_eq_getElem?] at hy
        obtain ⟨z, hz, vz⟩ := hs.get hy
        rw [hs.length] at hz
        refine mt_pop pins s σ H _ _ v us Q I rx rxs ⟨a, vs, z, rfl, rfl, h2, hz, PR.wrL r p h1 ?_ hs.dropLast vz⟩
        exact lows_mem.mpr fun w hw => lows_mem.mp (lows_of r e) w (List.dropLast_subset _ hw)
      · exact p.elim
    · exact p.elim
  · exact p.elim
theorem m_popAt (hK : X.K = K) : MtM X "list.pop" (rMt K T pPopAt) := by
  subst hK
  intro pins s σ H x xs v us Q I rx rxs ⟨ρ, S, w, ws, E, r, va, vb, p⟩
  unfold pPopAt at p
  split at p
  · rename_i _ S i k heq
    obtain ⟨rfl, rfl⟩ := List.cons.inj heq
    split at p
    · rename_i l e
      split at p
      · rename_i j hj
        split at p
        · rename_i y hy
          obtain ⟨a, vs, rfl, h1, h2, hs⟩ := va.refL r e
          obtain ⟨kv, rfl, vk⟩ := vb.one
          cases vk
          obtain ⟨z, hz, vz⟩ := hs.get hy
          have hl := hs.length
          obtain ⟨s1, s2, s3, s4⟩ := ixN_seq (show ixN l.length k = some j from hj)
          have hlim : vs.length ≤ sizeLine := (I.lstM h2).1
          have h63 := line63
          refine mt_popAt pins s σ H _ _ v us Q I rx rxs ⟨a, vs, k, j, z, rfl, rfl, h2, by omega, by omega, by rw [← hl]; exact s1, hz, PR.wrL r p h1 ?_ (hs.erase j) vz⟩
          exact lows_mem.mpr fun w hw => lows_mem.mp (lows_of r e) w (List.mem_of_mem_eraseIdx hw)
        · exact p.elim
      · exact p.elim
    · exact p.elim
  · exact p.elim
theorem VRd.any {ρ : Own} {H : Hp} {k : Key} : ∀ {l : List (Key × W)} {vs : List (Key × V)}, VRd K T ρ H l vs → (l.any fun kv => decide (kv.1 = k)) = (vs.any fun kv => decide (kv.1 = k))
  | _, _, .nil => rfl
  | (a, _) :: l, _ :: _, .cons _ t => by
    rw [List.any_cons, List.any_cons, VRd.any t]
theorem VRd.app {ρ : Own} {H : Hp} : ∀ {a b : List (Key × W)} {x y : List (Key × V)}, VRd K T ρ H a x → VRd K T ρ H b y → VRd K T ρ H (a ++ b) (x ++ y)
  | _, _, _, _, .nil, h => h
  | _, _, _, _, .cons h t, g => .cons h (VRd.app t g)
theorem VRd.repl {ρ : Own} {H : Hp} {k : Key} {w : W} {v : V} (h : VR K T ρ H w v) : ∀ {l : List (Key × W)} {vs : List (Key × V)}, VRd K T ρ H l vs → VRd K T ρ H (l.map fun kv => if kv.1 = k then (kv.1, w) else kv) (vs.map fun kv => if kv.1 = k then (kv.1, v) else kv)
  | _, _, .nil => .nil
  | (a, x) :: l, (_, y) :: vs, .cons g t => by
    rw [List.map_cons, List.map_cons]
    by_cases e : a = k
    · simp only [e, if_true]
      exact .cons h (VRd.repl h t)
    · simp only [e, if_false]
      exact .cons g (VRd.repl h t)
theorem VRd.put {ρ : Own} {H : Hp} {k : Key} {w : W} {v : V} {l : List (Key × W)} {vs : List (Key × V)} (h : VR K T ρ H w v) (hs : VRd K T ρ H l vs) : VRd K T ρ H (putD' k w l) (putK vs k v) := by
  unfold putD' putK
  rw [hs.any]
  split
  · exact hs.repl h
  · exact hs.app (.cons h .nil)
theorem lowd_put {i : Nat} {k : Key} {w : W} {l : List (Key × W)} (h : w.low i = true) (hl : W.lowd i l = true) : W.lowd i (putD' k w l) = true := by
  rw [lowd_mem] at hl ⊢
  intro x hx
  unfold putD' at hx
  split at hx
  · obtain ⟨y, hy, e⟩ := List.mem_map.mp hx
    split at e
    · subst e; exact h
    · subst e; exact hl _ hy
  · rcases List.mem_append.mp hx with hx | hx
    · exact hl x hx
    · have : x = (k, w) := by simpa using hx
      subst this
      exact h
/-- o[i] = v -/
def rPut (K : PySem.W.Frag) (T : Adr) : TSet := fun o i v H Q => ∃ ρ S wo wi wv E, Rl K T ρ S H ∧ VR K T ρ H wo o ∧ VR K T ρ H wi i ∧ VR K T ρ H wv v ∧ PR K T ρ H (VR K T) E (fun _ H' => Q H') (pPut [wo, wi, wv] S)
theorem set_all (hu : X.A.units + 1 < cLine) (hK : X.K = K) : PSet X (rPut K T) := by
  subst hK
  intro pins s σ H o i v ov iv u Q I ro ri rv ⟨ρ, S, wo, wi, wv, E, r, vo, vi, vv, p⟩
  unfold pPut at p
  split at p
  · rename_i _ S n k x heq
    simp only [List.cons.injEq, and_true] at heq
    obtain ⟨rfl, rfl, rfl⟩ := heq
    split at p
    · rename_i l e
      split at p
      · rename_i k
        split at p
        · rename_i j hj
          split at p
          · rename_i hx
            obtain ⟨a, vs, rfl, h1, h2, hs⟩ := vo.refL r e
            cases vi
            refine set_list pins s σ H _ _ v ov iv u Q I ro ri rv ⟨a, vs, k, j, rfl, rfl, h2, by rw [← hs.length]; exact hj, PR.wrL r p h1 ?_ (hs.set vv j) .non⟩
            refine lows_mem.mpr fun w hw => ?_
            rcases List.mem_or_eq_of_mem_set hw with hw | hw
            · exact lows_mem.mp (lows_of r e) w hw
            · rw [hw]; exact hx
          · exact p.elim
        · exact p.elim
      · exact p.elim
    · rename_i l e
      split at p
      · rename_i k hk
        split at p
        · rename_i hx
          obtain ⟨a, vs, rfl, h1, h2, hs⟩ := vo.refD r e
          cases ro
          have hl := hs.length
          have h3 := lim_lt hx.1
          refine d_setItem (H' := upd H a (.dK (putK vs k v))) hu I (.inl ⟨vs, k, h2, keyOf_kV vi hk, by omega, rfl⟩) ri rv fun s' I' => ⟨_, I', ?_⟩
          exact PR.wrD r p h1 (lowd_put hx.2 (lowd_of r e)) (hs.put vv) .non
        · exact p.elim
      · exact p.elim
    · exact p.elim
  · exact p.elim
end
end BK

set_option maxRecDepth 100000
set_option maxHeartbeats 2000000
/-! B4a: readings by the machine. -/
namespace BK
open PySem PySem.Spec PyProof.Rows L2
section
variable {α β γ : Type}
theorem R.bind_assoc (r : R α) (f : α → Sto → R β) (g : β → Sto → R γ) : (r.bind f).bind g = r.bind fun a s => (f a s).bind g := by cases r <;> rfl
theorem R.ok_bind (a : α) (s : Sto) (f : α → Sto → R β) : (R.ok a s).bind f = f a s := rfl
theorem R.thn_bind (r : R α) (f : α → Sto → R β) (g : β → Sto → RS) : (r.bind f).thn g = r.thn fun a s => (f a s).thn g := by cases r <;> rfl
end
section
variable (K : PySem.W.Frag) (T : Adr) (P : Pg) (C : Nat → List W → Sto → R W) (d : Nat) (E : XK)
def tE (x : Ex) : TE := fun σ H Q => ∃ ρ S en, Rl K T ρ S H ∧ EnvR K T ρ H en σ ∧ PR K T ρ H (VR K T) E Q (ev P C d x en S)
def tT (x : Ex) : TT := fun σ H Q => ∃ ρ S en, Rl K T ρ S H ∧ EnvR K T ρ H en σ ∧ PR K T ρ H (fun _ _ a b => b = a) E Q ((ev P C d x en S).bind test)
def tAs (xs : List Ex) : TA := fun σ H Q => ∃ ρ S en, Rl K T ρ S H ∧ EnvR K T ρ H en σ ∧ PR K T ρ H (VRs K T) E Q (evs P C d xs en S)
end
section
variable {K : PySem.W.Frag} {T : Adr} {P : Pg} {C : Nat → List W → Sto → R W} {d : Nat} {E : XK} {X : Cx}
theorem tE.imp {x : Ex} {σ : L2.St} {H : Hp} {Q Q' : VK} (h : tE K T P C d E x σ H Q) (g : ∀ v H, Q v H → Q' v H) : tE K T P C d E x σ H Q' := by
  obtain ⟨ρ, S, en, r, n, p⟩ := h
  exact ⟨ρ, S, en, r, n, p.imp g fun _ _ _ z => z⟩
theorem tT.imp {x : Ex} {σ : L2.St} {H : Hp} {Q Q' : Bool → Hp → Prop} (h : tT K T P C d E x σ H Q) (g : ∀ v H, Q v H → Q' v H) : tT K T P C d E x σ H Q' := by
  obtain ⟨ρ, S, en, r, n, p⟩ := h
  exact ⟨ρ, S, en, r, n, p.imp g fun _ _ _ z => z⟩
theorem tAs.imp {x : List Ex} {σ : L2.St} {H : Hp} {Q Q' : List V → Hp → Prop} (h : tAs K T P C d E x σ H Q) (g : ∀ v H, Q v H → Q' v H) : tAs K T P C d E x σ H Q' := by
  obtain ⟨ρ, S, en, r, n, p⟩ := h
  exact ⟨ρ, S, en, r, n, p.imp g fun _ _ _ z => z⟩
section
variable {ρ : Own} {S : Sto} {H : Hp} {en : Env} {σ : L2.St} {γ δ : Type} {rel : Own → Hp → γ → δ → Prop} {Q : δ → Hp → Prop}
theorem PR.step {x : Ex} {f : W → Sto → R γ} (r : Rl K T ρ S H) (n : EnvR K T ρ H en σ) (h : PR K T ρ H rel E Q ((ev P C d x en S).bind f)) :
    tE K T P C d E x σ H (fun v H1 => ∃ ρ1 w s, Ext ρ H ρ1 H1 ∧ Rl K T ρ1 s H1 ∧ VR K T ρ1 H1 w v ∧ EnvR K T ρ1 H1 en σ ∧ PR K T ρ1 H1 rel E Q (f w s)) :=
  ⟨ρ, S, en, r, n, (PR.bind h).imp (fun b H1 ⟨ρ1, a, s, _, e, r1, v, p⟩ => ⟨ρ1, a, s, e, r1, v, n.mono r e, p⟩) fun _ _ _ z => z⟩
theorem PR.stepT {x : Ex} {f : Bool → Sto → R γ} (r : Rl K T ρ S H) (n : EnvR K T ρ H en σ) (h : PR K T ρ H rel E Q (((ev P C d x en S).bind test).bind f)) :
    tT K T P C d E x σ H (fun b H1 => ∃ ρ1 s, Ext ρ H ρ1 H1 ∧ Rl K T ρ1 s H1 ∧ EnvR K T ρ1 H1 en σ ∧ PR K T ρ1 H1 rel E Q (f b s)) :=
  ⟨ρ, S, en, r, n, (PR.bind h).imp (fun b H1 ⟨ρ1, a, s, _, e, r1, v, p⟩ => by subst v; exact ⟨ρ1, s, e, r1, n.mono r e, p⟩) fun _ _ _ z => z⟩
theorem PR.stepA {x : List Ex} {f : List W → Sto → R γ} (r : Rl K T ρ S H) (n : EnvR K T ρ H en σ) (h : PR K T ρ H rel E Q ((evs P C d x en S).bind f)) :
    tAs K T P C d E x σ H (fun v H1 => ∃ ρ1 w s, Ext ρ H ρ1 H1 ∧ Rl K T ρ1 s H1 ∧ VRs K T ρ1 H1 w v ∧ EnvR K T ρ1 H1 en σ ∧ PR K T ρ1 H1 rel E Q (f w s)) :=
  ⟨ρ, S, en, r, n, (PR.bind h).imp (fun b H1 ⟨ρ1, a, s, _, e, r1, v, p⟩ => ⟨ρ1, a, s, e, r1, v, n.mono r e, p⟩) fun _ _ _ z => z⟩
theorem PR.test {w : W} {s : Sto} {f : Bool → Sto → R γ} (h : PR K T ρ H rel E Q ((test w s).bind f)) : ∃ b, w = .bl b ∧ PR K T ρ H rel E Q (f b s) := by
  cases w with
  | bl b => exact ⟨b, rfl, h⟩
  | _ => exact h.elim
end
/-! ### by the number of parts -/
theorem two {p : Pr} {x y : Ex} {σ : L2.St} {H : Hp} {Q : VK} (h : tE K T P C d E (.pr p [x, y]) σ H Q) : tE K T P C d E x σ H fun v H1 => tE K T P C d E y σ H1 fun u H2 => rP2 K T (prim P p) v u H2 Q := by
  obtain ⟨ρ, S, en, r, n, h⟩ := h
  simp only [ev, evs, R.bind_assoc, R.ok_bind] at h
  refine tE.imp (PR.step r n h) fun v H1 ⟨ρ1, wa, s, e1, r1, va, n1, h1⟩ => ?_
  refine tE.imp (PR.step r1 n1 h1) fun u H2 ⟨ρ2, wb, s2, e2, r2, vb, n2, h2⟩ => ?_
  exact ⟨ρ2, s2, wa, wb, E, r2, va.mono r1 e2, vb, h2⟩
theorem one {p : Pr} {x : Ex} {σ : L2.St} {H : Hp} {Q : VK} (h : tE K T P C d E (.pr p [x]) σ H Q) : tE K T P C d E x σ H fun v H1 => rP1 K T (prim P p) v H1 Q := by
  obtain ⟨ρ, S, en, r, n, h⟩ := h
  simp only [ev, evs, R.bind_assoc, R.ok_bind] at h
  refine tE.imp (PR.step r n h) fun v H1 ⟨ρ1, wa, s, e1, r1, va, n1, h1⟩ => ?_
  exact ⟨ρ1, s, wa, E, r1, va, h1⟩
theorem many {p : Pr} {xs : List Ex} {σ : L2.St} {H : Hp} {Q : VK} (h : tE K T P C d E (.pr p xs) σ H Q) : tAs K T P C d E xs σ H fun v H1 => rPn K T (prim P p) v H1 Q := by
  obtain ⟨ρ, S, en, r, n, h⟩ := h
  simp only [ev] at h
  refine tAs.imp (PR.stepA r n h) fun v H1 ⟨ρ1, wa, s, e1, r1, va, n1, h1⟩ => ?_
  exact ⟨ρ1, s, wa, E, r1, va, h1⟩
theorem PEi {e : Expr} {t t' : TE} (h : PE X e t) (g : ∀ σ H Q, t' σ H Q → t σ H Q) : PE X e t' := ⟨fun pins s σ H Q I q => h.run pins s σ H Q I (g _ _ _ q)⟩
theorem PTi {e : Expr} {t t' : TT} (h : PT X e t) (g : ∀ σ H Q, t' σ H Q → t σ H Q) : PT X e t' := ⟨fun pins s σ H Q I q => h.run pins s σ H Q I (g _ _ _ q)⟩
theorem PWi {e : Expr} {t t' : TT} (h : PW X e t) (g : ∀ σ H Q, t' σ H Q → t σ H Q) : PW X e t' := ⟨fun wh pins s σ H Q I q => h.run wh pins s σ H Q I (g _ _ _ q)⟩
theorem PAi {e : List Expr} {t t' : TA} (h : PA X e t) (g : ∀ σ H Q, t' σ H Q → t σ H Q) : PA X e t' := ⟨fun pos pins s σ H Q I q => h.run pos pins s σ H Q I (g _ _ _ q)⟩
theorem PSi {e : Stmt} {t t' : TS} (h : PS X e t) (g : ∀ σ H Q, t' σ H Q → t σ H Q) : PS X e t' := ⟨fun pins s σ H Q I q => h.run pins s σ H Q I (g _ _ _ q)⟩
theorem PSsi {e : List Stmt} {t t' : TS} (h : PSs X e t) (g : ∀ σ H Q, t' σ H Q → t σ H Q) : PSs X e t' := ⟨fun pins s σ H Q I q => h.run pins s σ H Q I (g _ _ _ q)⟩
end
end BK

set_option maxRecDepth 100000
set_option maxHeartbeats 2000000
/-! B4b: the code against the text. -/
namespace BK
open PySem PySem.Spec PyProof.Rows L2
/-- names: the defs', the classes', the module's constants -/
structure Nm where
  FN : List Str
  CN : List Str
  CW : List (Str × W)
  KW : List (Nat × List Nat)
/-- a place of the text: its scope, the cells that may be written -/
structure Pl where
  sc : Scope
  so : Str → Bool
def binPr : Operator → Option Pr
  | .Add => some .add
  | .Sub => some .sub
  | .Mult => some .mul
  | .FloorDiv => some .fdiv
  | .Mod => some .mod
  | .Pow => some .pow
  | _ => none
def cmpPr : CmpOp → Option Pr
  | .Eq => some .eq
  | .NotEq => some .ne
  | .Lt => some .lt
  | .LtE => some .le
  | .Gt => some .gt
  | .GtE => some .ge
  | .Is => some .is_
  | .IsNot => some .isnot
  | .In => some .isin
  | .NotIn => some .notin
def bltFn : Pr → Option (Str × Value)
  | .len => some ("len", .builtin "len")
  | .list => some ("list", .type "list")
  | .mlist => some ("list", .type "list")
  | .tuple => some ("tuple", .type "tuple")
  | .all => some ("all", .builtin "all")
  | .any => some ("any", .builtin "any")
  | .int => some ("int", .type "int")
  | .str => some ("str", .type "str")
  | .abs => some ("abs", .builtin "abs")
  | .max2 => some ("max", .builtin "max")
  | .isi => some ("isinstance", .builtin "isinstance")
  | _ => none
def mthFn : Pr → Option Str
  | .append => some "append"
  | .extend => some "extend"
  | .pop => some "pop"
  | .popAt => some "pop"
  | _ => none
def bltNames : List Str := ["len", "list", "tuple", "all", "any", "int", "str", "abs", "max", "isinstance", "range", "enumerate", "zip", "bool", "dict", "ValueError", "sorted", "min", "sum", "KeyError", "IndexError", "TypeError"]
def tyNames : List String := ["int", "str", "list", "tuple", "bool", "dict", "ValueError", "KeyError", "IndexError", "TypeError"]
def glB (sc : Scope) (x : Str) : Bool := sc.names.lookup x == some .globalImplicit && !(x == ("__debug__" : Str))
def visB (sc : Scope) (x : Str) : Bool := match sc.names.lookup x with
  | some .local => true
  | some .cell => true
  | some .free => true
  | _ => false
def okName (x : Str) : Bool := !(x == ("__debug__" : Str)) && !(x == ("__classdict__" : Str))
def chkVar (N : List Str) (sc : Scope) (i : Nat) : Expr → Bool
  | .Name x _ => decide (N[i]? = some x) && (visB sc x && okName x)
  | _ => false
def chkLit (M : Nm) (sc : Scope) (w : W) : Expr → Bool
  | .Constant .none _ _ => (match w with | .non => true | _ => false)
  | .Constant (.bool b) _ _ => (match w with | .bl c => b == c | _ => false)
  | .Constant (.int b) _ _ => (match w with | .int c => decide (b = c) | _ => false)
  | .Constant (.str b) _ _ => (match w with | .str c => decide (b = c) | _ => false)
  | .Name x _ => glB sc x && (match w with
    | .fn i => decide (M.FN[i]? = some x)
    | .cls i => decide (M.CN[i]? = some x)
    | .ty t => decide (x = Str.ofString t) && tyNames.contains t
    | _ => false)
  | _ => false
def isSlice : Expr → Bool
  | .Slice .. => true
  | _ => false
/-- the parts that a form has by values -/
def parts (sc : Scope) (p : Pr) : Expr → Option (List Expr)
  | .Tuple l _ _ => if p = .tup then some l else none
  | .List l _ => if p = .lst ∨ p = .mlst then some l else none
  | .Dict [] [] _ => if p = .mdct then some [] else none
  | .BinOp a op b _ => if binPr op = some p then some [a, b] else none
  | .UnaryOp .USub a _ => if p = .neg then some [a] else none
  | .Compare a [op] [b] _ => if cmpPr op = some p ∧ behindInMarks op b = false then some [a, b] else none
  | .Subscript a b _ => if p = .idx ∧ isSlice b = false then some [a, b] else none
  | .Call (.Name f _) (a :: l) [] _ => if (bltFn p).map (·.1) = some f ∧ glB sc f = true then some (a :: l) else none
  | _ => none
def isNon : Ex → Bool
  | .lit .non => true
  | _ => false
def plainO : Expr → Bool
  | .Call .. => false
  | _ => true
/-- what holds throughout -/
structure Glo (K : PySem.W.Frag) (mg : Str → Option Value) (T : Adr) (P : Pg) (M : Nm) : Prop where
  fn : ∀ i x, M.FN[i]? = some x → mg x = some (.ref (T.fn i)) ∧ PySem.W.keepIn K (.ref (T.fn i)) = true
  cl : ∀ i x, M.CN[i]? = some x → mg x = some (.ref (T.cls i))
  bl : ∀ x, x ∈ bltNames → mg x = none
  facts : Facts K T P
/-- a def's promise by the machine -/
def spC (K : PySem.W.Frag) (T : Adr) (C : Nat → List W → Sto → R W) (f : Nat) : Sp := fun vs H Q E => ∃ ρ S ws, Rl K T ρ S H ∧ VRs K T ρ H ws vs ∧ PR K T ρ H (VR K T) E Q (C f ws S)
structure Th (prog : Program) (w : World) (K : PySem.W.Frag) (mg : Str → Option Value) (base : Heap) (CX : CXT) (T : Adr) (P : Pg) (M : Nm) (C : Nat → List W → Sto → R W) (d : Nat) : Prop where
  glo : Glo K mg T P M
  fns : ∀ f x, M.FN[f]? = some x → ∃ fd ps, FnOk prog w K mg base CX d (T.fn f) fd ps (spC K T C f) ∧ Binds K fd ps []
  cxF : ∀ st H s e s', ¬ CX st H s (fun _ _ _ => False) e s'
  kp : ∀ k x, M.CN[k]? = some x → PySem.W.keepIn K (.ref (T.cls k)) = true
  mkc : ∀ X : Cx, X.prog = prog → X.w = w → X.K = K → X.mg = mg → X.base = base → Room d X.A → ∀ k, CallR X (.ref (T.cls k)) (rPn K T (mkE P d k))
  mkk : ∀ X : Cx, X.prog = prog → X.w = w → X.K = K → X.mg = mg → X.base = base → Room d X.A → ∀ k ns (o : List Nat), P.cps k = some ns → (k, o) ∈ M.KW → ∀ (pins : List (Addr × Obj)) (s : Shared) (σ : L2.St) (H : Hp) (zs : List V) (us : List Value) (Q : VK), Inv X pins σ H s → Vals zs us →
    rPn K T (fun ws S => okR (byKw o ws) fun ws => mkE P d k ws S) zs H Q → wpAny (model X.prog X.w) X.A (PySem.call (.ref (T.cls k)) [] ((o.filterMap (ns[·]?)).zip us)) (EP X pins σ Q) X.xe s
/-- where the code runs -/
structure Go (prog : Program) (w : World) (K : PySem.W.Frag) (mg : Str → Option Value) (base : Heap) (CX : CXT) (d : Nat) (N : List Str) (s : Pl) (E : XK) (X : Cx) : Prop where
  hprog : X.prog = prog
  hw : X.w = w
  hK : X.K = K
  hmg : X.mg = mg
  hbase : X.base = base
  hN : X.N = N
  nd : N.Nodup
  sc : X.env.scope = s.sc
  so : ∀ x, s.so x = true → X.fn x = true
  calm : X.calm = true
  room : Room d X.A
  pas : Passes CX X E
  own : PassesOwn (model X.prog X.w) X.A X.env X.xe
/-- no star ahead -/
def NoStar (e : Expr) : Prop := ∀ (es : List Expr) (env : PySem.Env), starEach (e :: es) env = (false, eval e env) :: starEach es env
def isBoo : Expr → Bool
  | .BoolOp .. => true
  | _ => false
structure EOk (K : PySem.W.Frag) (T : Adr) (P : Pg) (C : Nat → List W → Sto → R W) (d : Nat) (E : XK) (X : Cx) (x : Ex) (e : Expr) : Prop where
  pe : PE X e (tE K T P C d E x)
  pt : PT X e (tT K T P C d E x)
  pw : isBoo e = true → PW X e (tT K T P C d E x)
  ns : NoStar e
section
variable {prog : Program} {w : World} {K : PySem.W.Frag} {mg : Str → Option Value} {base : Heap} {CX : CXT} {T : Adr} {P : Pg} {M : Nm} {C : Nat → List W → Sto → R W} {d : Nat} {N : List Str} {s : Pl} {E : XK} {X : Cx}
/-- a value that is a bool, as a test -/
theorem tB_of {x : Ex} {σ : L2.St} {H : Hp} {Q : Bool → Hp → Prop} (h : tT K T P C d E x σ H Q) : tB (tE K T P C d E x) σ H Q := by
  obtain ⟨ρ, S, en, r, n, p⟩ := h
  refine tE.imp (PR.step r n p) fun v H1 ⟨ρ1, w, s, e, r1, vw, n1, p1⟩ => ?_
  cases w with
  | bl b => exact ⟨b, vw.bl_inv, PR.here r1 p1 rfl⟩
  | _ => exact p1.elim
theorem tTest_of {x : Ex} {σ : L2.St} {H : Hp} {Q : Bool → Hp → Prop} (h : tT K T P C d E x σ H Q) : tTest (tE K T P C d E x) σ H Q := tB_of h
/-- an expression that is tested by its value -/
theorem EOk.val {x : Ex} {e : Expr} (pe : PE X e (tE K T P C d E x)) (ns : NoStar e) (hb : isBoo e = false) (he : ∀ env whole, isTrue e env whole = (do let v ← whole; standAt e.pos; holding [v] (truthy v))) : EOk K T P C d E X x e :=
  ⟨pe, PTi (pt_val pe fun wh => he _ wh) fun _ _ _ h => tB_of h, fun z => absurd (hb.symm.trans z) Bool.false_ne_true, ns⟩
theorem pa_of : ∀ {xs : List Ex} {es : List Expr}, Paired (EOk K T P C d E X) xs es → PA X es (tAs K T P C d E xs)
  | _, _, .nil => PAi pa_nil fun σ H Q ⟨ρ, S, en, r, n, p⟩ => PR.here r p .nil
  | _, _, .cons h t => PAi (pa_cons h.pe (pa_of t) (h.ns _ _)) fun σ H Q ⟨ρ, S, en, r, n, p⟩ => by
    simp only [evs] at p
    refine tE.imp (PR.step r n p) fun v H1 ⟨ρ1, wa, s, e1, r1, va, n1, h1⟩ => ?_
    refine tAs.imp (PR.stepA r1 n1 h1) fun u H2 ⟨ρ2, wb, s2, e2, r2, vb, n2, h2⟩ => ?_
    exact PR.here r2 h2 (.cons (va.mono r1 e2) vb)
theorem nostar_any {pos : Pos} {env : PySem.Env} : ∀ {xs : List Ex} {es : List Expr}, Paired (EOk K T P C d E X) xs es → (backTo pos (starEach es env)).any (·.1) = false
  | _, _, .nil => rfl
  | _, _, .cons h t => by
    rw [h.ns]
    show (false || (backTo pos (starEach _ env)).any (·.1)) = false
    rw [nostar_any t]
    rfl
theorem nostar_all {pos : Pos} {env : PySem.Env} : ∀ {xs : List Ex} {es : List Expr}, Paired (EOk K T P C d E X) xs es → (backTo pos (starEach es env)).all (fun x => !x.1) = true
  | _, _, .nil => rfl
  | _, _, .cons h t => by
    rw [h.ns]
    show (true && (backTo pos (starEach _ env)).all (fun x => !x.1)) = true
    rw [nostar_all t]
    rfl
theorem glB_ok (g : Go prog w K mg base CX d N s E X) {x : Str} (h : glB s.sc x = true) : Gl X x ∧ (x == ("__debug__" : Str)) = false := by
  unfold glB at h
  simp only [Bool.and_eq_true, Bool.not_eq_true'] at h
  refine ⟨?_, h.2⟩
  show X.env.scope.names.lookup x = _
  rw [g.sc]
  simpa using h.1
theorem visB_ok (g : Go prog w K mg base CX d N s E X) {x : Str} (h : visB s.sc x = true) : Vis X.env.scope x := by
  unfold visB at h
  unfold Vis
  rw [g.sc]
  split at h
  · rename_i e; exact .inl e
  · rename_i e; exact .inr (.inl e)
  · rename_i e; exact .inr (.inr e)
  · cases h
theorem var_pe (g : Go prog w K mg base CX d N s E X) {i : Nat} {e : Expr} (h : chkVar N s.sc i e = true) : PE X e (tVar i) ∧ NoStar e ∧ isBoo e = false ∧ ∀ env whole, isTrue e env whole = (do let v ← whole; standAt e.pos; holding [v] (truthy v)) := by
  unfold chkVar at h
  split at h
  · rename_i x pos
    simp only [Bool.and_eq_true, decide_eq_true_eq, okName, Bool.not_eq_true'] at h
    exact ⟨pe_var (by rw [g.hN]; exact h.1) (visB_ok g h.2.1) h.2.2.1 h.2.2.2, fun _ _ => rfl, rfl, fun _ _ => rfl⟩
  · cases h
theorem E_var (g : Go prog w K mg base CX d N s E X) {i : Nat} {e : Expr} (h : chkVar N s.sc i e = true) : EOk K T P C d E X (.var i) e := by
  obtain ⟨h1, h2, h3, h4⟩ := var_pe g h
  refine EOk.val (PEi h1 fun σ H Q ⟨ρ, S, en, r, n, p⟩ => ?_) h2 h3 h4
  simp only [ev] at p
  split at p
  · rename_i w hw
    obtain ⟨v, h5, h6⟩ := n.2 i w hw
    exact ⟨v, h5, PR.here r p h6⟩
  · exact p.elim
theorem E_frz (g : Go prog w K mg base CX d N s E X) {i : Nat} {e : Expr} (h : chkVar N s.sc i e = true) : EOk K T P C d E X (.frz i) e := by
  obtain ⟨h1, h2, h3, h4⟩ := var_pe g h
  refine EOk.val (PEi h1 fun σ H Q ⟨ρ, S, en, r, n, p⟩ => ?_) h2 h3 h4
  simp only [ev] at p
  split at p
  · rename_i j hw
    obtain ⟨v, h5, h6⟩ := n.2 i _ hw
    have no : ∀ a, ρ[j]? = some (some a) → ¬ Own.has (ρ.set j none) a := fun a hj ⟨k, q⟩ => by
      by_cases e : k = j
      · subst e
        have hk : k < ρ.length := (List.getElem?_eq_some_iff.mp hj).1
        rw [List.getElem?_set_self hk] at q
        cases q
      · rw [List.getElem?_set_ne (Ne.symm e)] at q
        exact e (r.inj k j a q hj)
    split at p
    · rename_i l hl
      obtain ⟨a, vs, rfl, h7, h8, hs⟩ := h6.refL r hl
      exact ⟨_, h5, p _ _ _ ext_gone (rl_gone r) (.lst (no a h7) (.inl h8) (hs.mono r ext_gone))⟩
    · rename_i l hl
      obtain ⟨a, vs, rfl, h7, h8, hs⟩ := h6.refD r hl
      exact ⟨_, h5, p _ _ _ ext_gone (rl_gone r) (.dct (no a h7) (.inl h8) (hs.mono r ext_gone))⟩
    · exact p.elim
  · exact p.elim
theorem E_const {w' : W} {v : V} {e : Expr} (h : PE X e (tC v)) (hv : ∀ ρ H, VR K T ρ H w' v) (ns : NoStar e) (hb : isBoo e = false) (he : ∀ env whole, isTrue e env whole = (do let v ← whole; standAt e.pos; holding [v] (truthy v))) : EOk K T P C d E X (.lit w') e :=
  EOk.val (PEi h fun σ H Q ⟨ρ, S, en, r, n, p⟩ => PR.here r p (hv ρ H)) ns hb he
theorem mem_bl {x : Str} (h : bltNames.contains x = true) : x ∈ bltNames := by simpa using h
theorem E_lit (th : Th prog w K mg base CX T P M C d) (g : Go prog w K mg base CX d N s E X) {w' : W} {e : Expr} (h : chkLit M s.sc w' e = true) : EOk K T P C d E X (.lit w') e := by
  unfold chkLit at h
  split at h
  · split at h
    · exact E_const pe_non (fun _ _ => .non) (fun _ _ => rfl) rfl (fun _ _ => rfl)
    · cases h
  · split at h
    · rename_i b _ _ _ c
      have e : b = c := by simpa using h
      subst e
      exact E_const pe_bl (fun _ _ => .bl _) (fun _ _ => rfl) rfl (fun _ _ => rfl)
    · cases h
  · split at h
    · have e := of_decide_eq_true h
      subst e
      exact E_const pe_int (fun _ _ => .int _) (fun _ _ => rfl) rfl (fun _ _ => rfl)
    · cases h
  · split at h
    · have e := of_decide_eq_true h
      subst e
      exact E_const pe_str (fun _ _ => .str _) (fun _ _ => rfl) rfl (fun _ _ => rfl)
    · cases h
  · simp only [Bool.and_eq_true] at h
    obtain ⟨hg, hd⟩ := glB_ok g h.1
    have h2 := h.2
    split at h2
    · exact E_const (pe_glob (v := .ref (T.fn _)) hg (by rw [g.hmg]; exact (th.glo.fn _ _ (of_decide_eq_true h2)).1) rfl hd) (fun _ _ => .fn _) (fun _ _ => rfl) rfl (fun _ _ => rfl)
    · exact E_const (pe_glob (v := .ref (T.cls _)) hg (by rw [g.hmg]; exact th.glo.cl _ _ (of_decide_eq_true h2)) rfl hd) (fun _ _ => .cls _) (fun _ _ => rfl) rfl (fun _ _ => rfl)
    · rename_i t
      simp only [Bool.and_eq_true, decide_eq_true_eq] at h2
      obtain ⟨rfl, ht⟩ := h2
      have ht' : t ∈ tyNames := by simpa using ht
      have key : ∀ t ∈ tyNames, Str.ofString t ∈ bltNames ∧ bootBuiltins (Str.ofString t) = some (.type t) ∧ Str.ofString t ≠ "__name__" := by
        intro t ht
        have := (show tyNames.all (fun t => bltNames.contains (Str.ofString t) && decide (bootBuiltins (Str.ofString t) = some (.type t)) && decide (Str.ofString t ≠ "__name__")) = true by decide +kernel)
        have := List.all_eq_true.mp this t ht
        simp only [Bool.and_eq_true, decide_eq_true_eq] at this
        exact ⟨mem_bl this.1.1, this.1.2, this.2⟩
      obtain ⟨k1, k2, k3⟩ := key t ht'
      exact E_const (pe_bltn (v := .ty t) hg (by rw [g.hmg]; exact th.glo.bl _ k1) k2 rfl k3 hd) (fun _ _ => .ty _) (fun _ _ => rfl) rfl (fun _ _ => rfl)
    · cases h2
  · cases h
end
end BK

set_option maxRecDepth 100000
set_option maxHeartbeats 2000000
/-! B4c: forms. -/
namespace BK
open PySem PySem.Spec PyProof.Rows L2
section
variable {prog : Program} {w : World} {K : PySem.W.Frag} {mg : Str → Option Value} {base : Heap} {CX : CXT} {T : Adr} {P : Pg} {M : Nm} {C : Nat → List W → Sto → R W} {d : Nat} {N : List Str} {s : Pl} {E : XK} {X : Cx}
theorem Go.un (g : Go prog w K mg base CX d N s E X) : X.A.units + 66 < cLine := by
  have := g.room.un
  omega
theorem bin_ok (g : Go prog w K mg base CX d N s E X) {op : Operator} {p : Pr} (h : binPr op = some p) : OpR X (binaryOp op) (rP2 K T (prim P p)) := by
  cases op <;> simp [binPr] at h <;> subst h
  · exact bin_add g.hK
  · exact bin_sub
  · exact bin_mul
  · exact bin_mod
  · exact bin_pow
  · exact bin_fdiv
theorem cmp_ok (g : Go prog w K mg base CX d N s E X) {op : CmpOp} {p : Pr} (h : cmpPr op = some p) : OpR X (compareOp op) (rP2 K T (prim P p)) := by
  have hu := g.un
  cases op <;> simp [cmpPr] at h <;> subst h
  · exact cmp_eq hu g.hK
  · exact cmp_ne hu g.hK
  · exact cmp_lt
  · exact cmp_le
  · exact cmp_gt
  · exact cmp_ge
  · exact cmp_is
  · exact cmp_isnot
  · exact cmp_in hu g.hK
  · exact cmp_notin hu g.hK
theorem blt_key (p : Pr) : (match bltFn p with | some q => bltNames.contains q.1 && (decide (bootBuiltins q.1 = some q.2) && decide (q.1 ≠ "__name__")) | none => true) = true := by cases p <;> decide +kernel
theorem blt_ok (th : Th prog w K mg base CX T P M C d) (g : Go prog w K mg base CX d N s E X) {p : Pr} {x : Str} {u : Value} (h : bltFn p = some (x, u)) : CallR X u (rPn K T (prim P p)) ∧ x ∈ bltNames ∧ bootBuiltins x = some u ∧ x ≠ "__name__" ∧ ((∃ i, u = .builtin i) ∨ ∃ i, u = .type i) := by
  have k := blt_key p
  rw [h] at k
  simp only [Bool.and_eq_true, decide_eq_true_eq] at k
  refine ⟨?_, mem_bl k.1, k.2.1, k.2.2, ?_⟩
  · cases p <;> simp [bltFn] at h <;> obtain ⟨rfl, rfl⟩ := h
    · exact fn_isi th.glo.facts g.hK
    · exact fn_len g.calm g.hK
    · exact fn_list g.calm g.hK
    · exact fn_mlist g.hK
    · exact fn_tuple g.hK
    · exact fn_all g.calm g.hK
    · exact fn_any g.calm g.hK
    · exact fn_str
    · exact fn_int
    · exact fn_abs
    · exact fn_max2 g.calm
  · cases p <;> simp [bltFn] at h <;> obtain ⟨rfl, rfl⟩ := h <;> first
      | exact .inl ⟨_, rfl⟩
      | exact .inr ⟨_, rfl⟩
theorem p2_inv {xs : List Ex} {a b : Expr} (h : Paired (EOk K T P C d E X) xs [a, b]) : ∃ x y, xs = [x, y] ∧ EOk K T P C d E X x a ∧ EOk K T P C d E X y b := by
  cases h with
  | cons h t =>
    cases t with
    | cons h' t' =>
      cases t'
      exact ⟨_, _, rfl, h, h'⟩
theorem p1_inv {xs : List Ex} {a : Expr} (h : Paired (EOk K T P C d E X) xs [a]) : ∃ x, xs = [x] ∧ EOk K T P C d E X x a := by
  cases h with
  | cons h t =>
    cases t
    exact ⟨_, rfl, h⟩
theorem p3_inv {xs : List Ex} {a b c : Expr} (h : Paired (EOk K T P C d E X) xs [a, b, c]) : ∃ x y z, xs = [x, y, z] ∧ EOk K T P C d E X x a ∧ EOk K T P C d E X y b ∧ EOk K T P C d E X z c := by
  cases h with
  | cons h t =>
    obtain ⟨y, z, rfl, h2, h3⟩ := p2_inv t
    exact ⟨_, _, _, rfl, h, h2, h3⟩
theorem lits_len {ρ : Own} {H : Hp} {ws : List W} {vs : List V} (h : VRs K T ρ H ws vs) (hz : ws.length ≤ LIM) : vs.length ≤ sizeLine := by
  have := h.length
  have := lim_size hz
  omega
theorem ix_plain {b : Expr} (h : isSlice b = false) : PlainIx b := fun o i => by
  cases b <;> first
    | rfl
    | (simp [isSlice] at h)
theorem pr_ok (th : Th prog w K mg base CX T P M C d) (g : Go prog w K mg base CX d N s E X) {p : Pr} {e : Expr} {l : List Expr} {xs : List Ex} (h : parts s.sc p e = some l) (hx : Paired (EOk K T P C d E X) xs l) : EOk K T P C d E X (.pr p xs) e := by
  have hu := g.un
  unfold parts at h
  split at h
  · split at h
    · rename_i hp; cases h; subst hp
      refine EOk.val (PEi (pe_tup (pa_of hx)) fun σ H Q q => tAs.imp (many q) fun vs H1 ⟨ρ, S, ws, E', r, va, pp⟩ => ?_) (fun _ _ => rfl) rfl (fun _ _ => rfl)
      simp only [prim, pTup] at pp
      split at pp
      · rename_i hz
        exact ⟨lits_len va hz, fun q hq => PR.newT r pp hq va⟩
      · exact pp.elim
    · cases h
  · split at h
    · rename_i hp; cases h
      refine EOk.val (PEi (pe_lst (pa_of hx)) fun σ H Q q => tAs.imp (many q) fun vs H1 ⟨ρ, S, ws, E', r, va, pp⟩ => ?_) (fun _ _ => rfl) rfl (fun _ _ => rfl)
      rcases hp with hp | hp
      · subst hp
        simp only [prim, pLst] at pp
        split at pp
        · rename_i hz
          exact ⟨lits_len va hz, fun q hq => PR.newL r pp hq va⟩
        · exact pp.elim
      · subst hp
        simp only [prim, pMlst] at pp
        split at pp
        · rename_i hz
          exact ⟨lits_len va hz, fun q hq => PR.newM r pp hq va⟩
        · exact pp.elim
    · cases h
  · split at h
    · rename_i hp; cases h; subst hp
      cases hx
      refine EOk.val (PEi pe_dnewK fun σ H Q q => ?_) (fun _ _ => rfl) rfl (fun _ _ => rfl)
      obtain ⟨ρ, S, en, r, n, pp⟩ := q
      simp only [ev, evs, R.ok_bind, prim, pMdct] at pp
      intro q hq
      have e : Ext ρ H (ρ ++ [some q]) (upd H q (.dK [])) := ext_push hq
      refine pp _ _ _ e (rl_push r hq (.dct upd_same .nil) rfl) (.ref (by simp [r.len]) fun a z => ?_)
      rw [List.getElem?_append_right (by rw [r.len]; exact Nat.le_refl _), r.len, Nat.sub_self] at z
      cases z
      rfl
    · cases h
  · split at h
    · rename_i hp; cases h
      obtain ⟨x, y, rfl, h1, h2⟩ := p2_inv hx
      exact EOk.val (PEi (pe_op (bin_ok g hp) h1.pe h2.pe) fun σ H Q q => two q) (fun _ _ => rfl) rfl (fun _ _ => rfl)
    · cases h
  · split at h
    · rename_i hp; cases h; subst hp
      obtain ⟨x, rfl, h1⟩ := p1_inv hx
      exact EOk.val (PEi (pe_un un_negW h1.pe) fun σ H Q q => one q) (fun _ _ => rfl) rfl (fun _ _ => rfl)
    · cases h
  · split at h
    · rename_i hp; cases h
      obtain ⟨x, y, rfl, h1, h2⟩ := p2_inv hx
      exact ⟨PEi (pe_cmpR (cmp_ok g hp.1) h1.pe h2.pe hp.2) fun σ H Q q => two q, PTi (pt_cmpR (cmp_ok g hp.1) h1.pe h2.pe hp.2) fun σ H Q q => two (tTest_of q), fun z => absurd z (by simp [isBoo]), fun _ _ => rfl⟩
    · cases h
  · split at h
    · rename_i hp; cases h
      obtain ⟨rfl, hp⟩ := hp
      obtain ⟨x, y, rfl, h1, h2⟩ := p2_inv hx
      exact EOk.val (PEi (pe_ix (ix_all (by omega) g.hK) h1.pe h2.pe (ix_plain hp)) fun σ H Q q => two q) (fun _ _ => rfl) rfl (fun _ _ => rfl)
    · cases h
  · split at h
    · rename_i hp; cases h
      obtain ⟨hp, hg⟩ := hp
      obtain ⟨⟨f', u⟩, hb, rfl⟩ := Option.map_eq_some_iff.mp hp
      obtain ⟨k1, k2, k3, k4, k5⟩ := blt_ok th g hb
      obtain ⟨g1, g2⟩ := glB_ok g hg
      cases hx with
      | cons h1 ht =>
        rcases k5 with ⟨i, rfl⟩ | ⟨i, rfl⟩
        · exact EOk.val (PEi (pe_callB k1 g1 (by rw [g.hmg]; exact th.glo.bl _ k2) k3 (pa_of (.cons h1 ht)) k4 g2 (h1.ns _ _) (nostar_any ht)) fun σ H Q q => many q) (fun _ _ => rfl) rfl (fun _ _ => rfl)
        · exact EOk.val (PEi (pe_callTy k1 g1 (by rw [g.hmg]; exact th.glo.bl _ k2) k3 (pa_of (.cons h1 ht)) k4 g2 (h1.ns _ _) (nostar_any ht)) fun σ H Q q => many q) (fun _ _ => rfl) rfl (fun _ _ => rfl)
    · cases h
  · cases h
end
end BK

set_option maxRecDepth 100000
set_option maxHeartbeats 2000000
/-! B4d: more forms. -/
namespace BK
open PySem PySem.Spec PyProof.Rows L2
section
variable {prog : Program} {w : World} {K : PySem.W.Frag} {mg : Str → Option Value} {base : Heap} {CX : CXT} {T : Adr} {P : Pg} {M : Nm} {C : Nat → List W → Sto → R W} {d : Nat} {N : List Str} {s : Pl} {E : XK} {X : Cx}
def tPartA (te : TE) : TO := fun σ H Q => te σ H fun x H1 => (x = .non ∧ Q none H1) ∨ ∃ i, x = .int i ∧ Q (some i) H1
theorem po_any {e : Expr} {te : TE} (h : PE X e te) : PO X (some e) (tPartA te) := by
  refine ⟨fun pins s σ H Q I hw => ?_⟩
  rw [evalPart_some]
  refine thn (h.run pins s σ H _ I hw) fun u s1 ⟨x, H1, I1, r1, q1⟩ => ?_
  rcases q1 with ⟨rfl, q⟩ | ⟨i, rfl, q⟩
  · cases r1
    exact ⟨none, H1, I1, .none, q⟩
  · obtain ⟨t, rfl⟩ := r1
    exact ⟨some i, H1, I1, .int i t, q⟩
theorem isNon_eq {y : Ex} (h : isNon y = true) : y = .lit .non := by
  unfold isNon at h
  split at h
  · rfl
  · cases h
theorem po_of {y : Ex} {o : Option Expr} (h : (o = none ∧ y = .lit .non) ∨ ∃ l, o = some l ∧ EOk K T P C d E X y l) : PO X o (tPartA (tE K T P C d E y)) := by
  rcases h with ⟨rfl, rfl⟩ | ⟨l, rfl, h⟩
  · refine ⟨fun pins s σ H Q I ⟨ρ, S, en, r, n, p⟩ => ?_⟩
    rcases PR.here r p .non with ⟨_, q⟩ | ⟨i, z, _⟩
    · exact po_none.run pins s σ H Q I q
    · cases z
  · exact po_any h.pe
theorem part_V {ρ : Own} {H : Hp} {wl : W} {v : V} (h : VR K T ρ H wl v) {lo : Option Int} (e : part wl = some lo) : (v = .non ∧ lo = none) ∨ ∃ i, v = .int i ∧ lo = some i := by
  cases h <;> simp [part] at e
  · exact .inl ⟨rfl, e.symm⟩
  · exact .inr ⟨_, rfl, e.symm⟩
theorem okl_some {α γ δ : Type} {o : Option α} {s : Sto} {f : α → Sto → R γ} {ρ : Own} {H : Hp} {rel : Own → Hp → γ → δ → Prop} {Q : δ → Hp → Prop} (h : PR K T ρ H rel E Q ((okl o s).bind f)) : ∃ a, o = some a ∧ PR K T ρ H rel E Q (f a s) := by
  cases o with
  | none => exact h.elim
  | some a => exact ⟨a, rfl, h⟩
theorem E_slc (g : Go prog w K mg base CX d N s E X) {x y z : Ex} {a : Expr} {lo hi : Option Expr} {q pos : Pos} (h1 : EOk K T P C d E X x a) (h2 : (lo = none ∧ y = .lit .non) ∨ ∃ l, lo = some l ∧ EOk K T P C d E X y l) (h3 : (hi = none ∧ z = .lit .non) ∨ ∃ l, hi = some l ∧ EOk K T P C d E X z l) :
    EOk K T P C d E X (.slc x y z) (.Subscript a (.Slice lo hi none q) pos) := by
  refine EOk.val (PEi (pe_slice (sl_all (T := T) g.hK) h1.pe (po_of h2) (po_of h3)) fun σ H Q ⟨ρ, S, en, r, n, p⟩ => ?_) (fun _ _ => rfl) rfl (fun _ _ => rfl)
  simp only [ev, R.bind_assoc] at p
  refine tE.imp (PR.step r n p) fun v H1 ⟨ρ1, wa, s1, e1, r1, va, n1, p1⟩ => ?_
  refine tE.imp (PR.step r1 n1 p1) fun v2 H2 ⟨ρ2, wl, s2, e2, r2, vl, n2, p2⟩ => ?_
  obtain ⟨lo', hlo, p2⟩ := okl_some p2
  have fin : tPartA (tE K T P C d E z) σ H2 fun u H3 => rSl K T v lo' u H3 Q := by
    refine tE.imp (PR.step r2 n2 p2) fun v3 H3 ⟨ρ3, wh, s3, e3, r3, vh, n3, p3⟩ => ?_
    have hh : ∃ hi, part wh = some hi := by
      cases hp : part wh with
      | some hi => exact ⟨hi, rfl⟩
      | none =>
        simp only [pSlice, hlo, hp] at p3
        exact p3.elim
    obtain ⟨hi', hh⟩ := hh
    have fin : rSl K T v lo' hi' H3 Q := ⟨ρ3, s3, wa, wl, wh, E, r3, (va.mono r1 e2).mono r2 e3, hlo, hh, p3⟩
    rcases part_V vh hh with ⟨rfl, rfl⟩ | ⟨i, rfl, rfl⟩
    · exact .inl ⟨rfl, fin⟩
    · exact .inr ⟨i, rfl, fin⟩
  rcases part_V vl hlo with ⟨rfl, rfl⟩ | ⟨i, rfl, rfl⟩
  · exact .inl ⟨rfl, fin⟩
  · exact .inr ⟨i, rfl, fin⟩
/-! ### and, or, not, if -/
theorem bl_of {ρ : Own} {H : Hp} {b : Bool} {v : V} (h : VR K T ρ H (.bl b) v) : v = .bl b := h.bl_inv
theorem E_not {x : Ex} {a : Expr} {pos : Pos} (h : EOk K T P C d E X x a) : EOk K T P C d E X (.not x) (.UnaryOp .Not a pos) := by
  refine ⟨PEi (pe_not h.pe) fun σ H Q ⟨ρ, S, en, r, n, p⟩ => ?_, PTi (pt_not h.pt) fun σ H Q ⟨ρ, S, en, r, n, p⟩ => ?_, fun z => absurd z (by simp [isBoo]), fun _ _ => rfl⟩
  · simp only [ev] at p
    refine tE.imp (PR.step r n p) fun v H1 ⟨ρ1, wa, s1, e1, r1, va, n1, p1⟩ => ?_
    obtain ⟨b, rfl, p2⟩ := PR.test p1
    exact ⟨b, va.bl_inv, PR.here r1 p2 (.bl _)⟩
  · simp only [ev, R.bind_assoc, R.ok_bind, test] at p
    rw [← R.bind_assoc] at p
    refine tT.imp (PR.stepT r n p) fun b H1 ⟨ρ1, s1, e1, r1, n1, p1⟩ => ?_
    exact PR.here r1 p1 rfl
theorem E_and {x y : Ex} {a b : Expr} {rest : List Expr} {pos : Pos} (h : EOk K T P C d E X x a) (h2 : EOk K T P C d E X y (if rest.isEmpty then b else .BoolOp .And (b :: rest) pos)) : EOk K T P C d E X (.and x y) (.BoolOp .And (a :: b :: rest) pos) := by
  have pe2 : PE X (.BoolOp .And (b :: rest) pos) (tE K T P C d E y) := by
    cases rest with
    | nil => exact pe_one h2.pe
    | cons c r => exact h2.pe
  have pw2 : PW X (.BoolOp .And (b :: rest) pos) (tT K T P C d E y) := by
    cases rest with
    | nil => exact pw_and1 h2.pt
    | cons c r => exact h2.pw rfl
  have pw : PW X (.BoolOp .And (a :: b :: rest) pos) (tT K T P C d E (.and x y)) := PWi (pw_and h.pt pw2) fun σ H Q ⟨ρ, S, en, r, n, p⟩ => by
    simp only [ev, R.bind_assoc] at p
    rw [← R.bind_assoc] at p
    refine tT.imp (PR.stepT r n p) fun b H1 ⟨ρ1, s1, e1, r1, n1, p1⟩ => ?_
    cases b with
    | true => exact ⟨ρ1, s1, en, r1, n1, p1⟩
    | false => exact PR.here r1 p1 rfl
  refine ⟨PEi (pe_and h.pe pe2) fun σ H Q ⟨ρ, S, en, r, n, p⟩ => ?_, pw.pt, fun _ => pw, fun _ _ => rfl⟩
  simp only [ev] at p
  refine tE.imp (PR.step r n p) fun v H1 ⟨ρ1, wa, s1, e1, r1, va, n1, p1⟩ => ?_
  obtain ⟨b, rfl, p2⟩ := PR.test p1
  refine ⟨b, va.bl_inv, ?_⟩
  cases b with
  | true => exact ⟨ρ1, s1, en, r1, n1, p2⟩
  | false => exact PR.here r1 p2 (.bl _)
theorem E_or {x y : Ex} {a b : Expr} {rest : List Expr} {pos : Pos} (h : EOk K T P C d E X x a) (h2 : EOk K T P C d E X y (if rest.isEmpty then b else .BoolOp .Or (b :: rest) pos)) : EOk K T P C d E X (.or x y) (.BoolOp .Or (a :: b :: rest) pos) := by
  have pe2 : PE X (.BoolOp .Or (b :: rest) pos) (tE K T P C d E y) := by
    cases rest with
    | nil => exact pe_one h2.pe
    | cons c r => exact h2.pe
  have pw2 : PW X (.BoolOp .Or (b :: rest) pos) (tT K T P C d E y) := by
    cases rest with
    | nil => exact pw_or1 h2.pt
    | cons c r => exact h2.pw rfl
  have pw : PW X (.BoolOp .Or (a :: b :: rest) pos) (tT K T P C d E (.or x y)) := PWi (pw_or h.pt pw2) fun σ H Q ⟨ρ, S, en, r, n, p⟩ => by
    simp only [ev, R.bind_assoc] at p
    rw [← R.bind_assoc] at p
    refine tT.imp (PR.stepT r n p) fun b H1 ⟨ρ1, s1, e1, r1, n1, p1⟩ => ?_
    cases b with
    | false => exact ⟨ρ1, s1, en, r1, n1, p1⟩
    | true => exact PR.here r1 p1 rfl
  refine ⟨PEi (pe_or h.pe pe2) fun σ H Q ⟨ρ, S, en, r, n, p⟩ => ?_, pw.pt, fun _ => pw, fun _ _ => rfl⟩
  simp only [ev] at p
  refine tE.imp (PR.step r n p) fun v H1 ⟨ρ1, wa, s1, e1, r1, va, n1, p1⟩ => ?_
  obtain ⟨b, rfl, p2⟩ := PR.test p1
  refine ⟨b, va.bl_inv, ?_⟩
  cases b with
  | false => exact ⟨ρ1, s1, en, r1, n1, p2⟩
  | true => exact PR.here r1 p2 (.bl _)
theorem E_ifx {t x y : Ex} {c a b : Expr} {pos : Pos} (h : EOk K T P C d E X t c) (h1 : EOk K T P C d E X x a) (h2 : EOk K T P C d E X y b) : EOk K T P C d E X (.ifx t x y) (.IfExp c a b pos) := by
  have key : ∀ {γ δ : Type} {rel : Own → Hp → γ → δ → Prop} {Q : δ → Hp → Prop} {f : W → Sto → R γ} {σ : L2.St} {H : Hp} {ρ : Own} {S : Sto} {en : Env}, Rl K T ρ S H → EnvR K T ρ H en σ → PR K T ρ H rel E Q ((ev P C d (.ifx t x y) en S).bind f) →
      tT K T P C d E t σ H fun b H1 => ∃ ρ1 s1, Ext ρ H ρ1 H1 ∧ Rl K T ρ1 s1 H1 ∧ EnvR K T ρ1 H1 en σ ∧ PR K T ρ1 H1 rel E Q ((ev P C d (if b = true then x else y) en s1).bind f) := fun r n p => by
    simp only [ev, R.bind_assoc] at p
    rw [← R.bind_assoc] at p
    refine tT.imp (PR.stepT r n p) fun b H1 ⟨ρ1, s1, e1, r1, n1, p1⟩ => ?_
    cases b with
    | true => exact ⟨ρ1, s1, e1, r1, n1, p1⟩
    | false => exact ⟨ρ1, s1, e1, r1, n1, p1⟩
  refine ⟨PEi (pe_ifExp h.pt h1.pe h2.pe) fun σ H Q ⟨ρ, S, en, r, n, p⟩ => ?_, ⟨fun pins s σ H Q I ⟨ρ, S, en, r, n, p⟩ => ?_⟩, fun z => absurd z (by simp [isBoo]), fun _ _ => rfl⟩
  · have e : ∀ r : R W, r.bind (fun a s => R.ok a s) = r := fun r => by cases r <;> rfl
    rw [← e (ev P C d _ en S)] at p
    refine tT.imp (key r n p) fun b H1 ⟨ρ1, s1, e1, r1, n1, p1⟩ => ?_
    rw [e] at p1
    cases b with
    | true => exact ⟨ρ1, s1, en, r1, n1, p1⟩
    | false => exact ⟨ρ1, s1, en, r1, n1, p1⟩
  · have e : ∀ env whole, isTrue (.IfExp c a b pos) env whole = (do if ← isTrue c env (eval c env) then isTrue a env (eval a env) else isTrue b env (eval b env)) := fun _ _ => rfl
    rw [e]
    refine wpAny_bind (thn (h.pt.run pins s σ H _ I (key r n p)) fun k s' ⟨H1, I1, ρ1, s1, e1, r1, n1, p1⟩ => ?_)
    cases k with
    | true => exact h1.pt.run pins s' σ H1 Q I1 ⟨ρ1, s1, en, r1, n1, p1⟩
    | false => exact h2.pt.run pins s' σ H1 Q I1 ⟨ρ1, s1, en, r1, n1, p1⟩
/-! ### calls, methods -/
theorem E_call (th : Th prog w K mg base CX T P M C d) (g : Go prog w K mg base CX d N s E X) {f : Nat} {xs : List Ex} {x : Str} {l : List Expr} {p pos : Pos} (hf : M.FN[f]? = some x) (hg : glB s.sc x = true) (hx : Paired (EOk K T P C d E X) xs l) : EOk K T P C d E X (.call f xs) (.Call (.Name x p) l [] pos) := by
  obtain ⟨fd, ps, F, B⟩ := th.fns f x hf
  obtain ⟨g1, g2⟩ := glB_ok g hg
  obtain ⟨m1, m2⟩ := th.glo.fn f x hf
  have F' : FnOk X.prog X.w X.K X.mg X.base CX d (T.fn f) fd ps (spC K T C f) := by
    rw [g.hprog, g.hw, g.hK, g.hmg, g.hbase]
    exact F
  have rd : ∀ σ H Q, tE K T P C d E (.call f xs) σ H Q → tCall (spC K T C f) [] E (tAs K T P C d E xs) σ H Q := fun σ H Q ⟨ρ, S, en, r, n, p⟩ => by
    simp only [ev] at p
    refine tAs.imp (PR.stepA r n p) fun vs H1 ⟨ρ1, ws, s1, e1, r1, va, n1, p1⟩ => ?_
    rw [List.append_nil]
    exact ⟨ρ1, s1, ws, r1, va, p1⟩
  have hm : X.mg x = some (.ref (T.fn f)) := by rw [g.hmg]; exact m1
  have hk : PySem.W.keepIn X.K (.ref (T.fn f)) = true := by rw [g.hK]; exact m2
  have hB : Binds X.K fd ps [] := by rw [g.hK]; exact B
  cases hx with
  | nil =>
    refine EOk.val (PEi (pe_call0 F' g.room g1 hm hk hB .nil g.pas g2) fun σ H Q q => ?_) (fun _ _ => rfl) rfl (fun _ _ => rfl)
    have q2 := rd σ H Q q
    obtain ⟨ρ, S, en, r, n, p⟩ := q2
    exact PR.here r p .nil
  | cons h1 ht => exact EOk.val (PEi (pe_call F' g.room g1 hm hk hB .nil g.pas (pa_of (.cons h1 ht)) g2 (h1.ns _ _) (nostar_any ht)) rd) (fun _ _ => rfl) rfl (fun _ _ => rfl)
theorem base_plain {o : Expr} (h : plainO o = true) (m : Str) (env : PySem.Env) : attributeBase o m env (eval o env) = eval o env := by
  cases o <;> first
    | rfl
    | (simp [plainO] at h)
theorem E_mth (g : Go prog w K mg base CX d N s E X) {p : Pr} {o : Ex} {xs : List Ex} {oe : Expr} {m : Str} {l : List Expr} {apos pos : Pos} (hp : mthFn p = some m) (hl : (apos.endLine == pos.line) = true) (hz : l.length < 20) (hb : plainO oe = true) (ho : EOk K T P C d E X o oe) (hx : Paired (EOk K T P C d E X) xs l) :
    EOk K T P C d E X (.mth p o xs) (.Call (.Attribute oe m apos) l [] pos) := by
  have hM : ∃ id, Slot "list" m id ∧ typeOf (.builtin id) = pure (.type "method_descriptor") ∧ MtM X id (rMt K T (prim P p)) ∧ ∀ s w, recv p s w = recv.lstAt s w := by
    cases p <;> simp [mthFn] at hp <;> subst hp
    · exact ⟨_, PySem.F.slot_list_append, PySem.F.type_list_append, m_append g.hK, fun _ _ => rfl⟩
    · exact ⟨_, PySem.F.slot_list_extend, PySem.F.type_list_extend, m_extend g.hK, fun _ _ => rfl⟩
    · exact ⟨_, PySem.F.slot_list_pop, PySem.F.type_list_pop, m_pop g.hK, fun _ _ => rfl⟩
    · exact ⟨_, PySem.F.slot_list_pop, PySem.F.type_list_pop, m_popAt g.hK, fun _ _ => rfl⟩
  obtain ⟨id, slot, hty, hm, hrec⟩ := hM
  have rd : ∀ σ H Q, tE K T P C d E (.mth p o xs) σ H Q → tBM X.K "list" (rMt K T (prim P p)) (tE K T P C d E o) (tAs K T P C d E xs) σ H Q := fun σ H Q ⟨ρ, S, en, r, n, q⟩ => by
    simp only [ev] at q
    refine tE.imp (PR.step r n q) fun v H1 ⟨ρ1, wo, s1, e1, r1, vo, n1, q1⟩ => ?_
    split at q1
    · rename_i hr
      rw [hrec] at hr
      have hi : ∃ i ws, wo = .ref i ∧ s1[i]? = some (.lst ws) := by
        unfold recv.lstAt at hr
        split at hr
        · split at hr
          · exact ⟨_, _, rfl, by assumption⟩
          · cases hr
        · cases hr
      obtain ⟨i, ws0, rfl, hi⟩ := hi
      obtain ⟨a, vs, rfl, h3, h4, hs⟩ := vo.refL r1 hi
      refine ⟨.inl ⟨rfl, vs, .inl (.inl h4)⟩, ?_⟩
      refine tAs.imp (PR.stepA r1 n1 q1) fun us H2 ⟨ρ2, ws, s2, e2, r2, va, n2, q2⟩ => ?_
      exact ⟨ρ2, s2, .ref i, ws, E, r2, vo.mono r1 e2, va, q2⟩
    · exact q1.elim
  cases hx with
  | nil =>
    refine EOk.val (PEi (pe_bm0 PySem.F.plainAttrs_list slot hty hm ho.pe (base_plain hb _ _) hl) fun σ H Q q => ?_) (fun _ _ => rfl) rfl (fun _ _ => rfl)
    refine tE.imp (rd σ H Q q) fun v H1 ⟨h1, ρ, S, en, r, n, p⟩ => ⟨h1, PR.here r p .nil⟩
  | cons h1 ht =>
    refine EOk.val (PEi (pe_bm PySem.F.plainAttrs_list slot hty hm ho.pe (pa_of (.cons h1 ht)) (base_plain hb _ _) ?_ hl (h1.ns _ _) (nostar_any ht)) rd) (fun _ _ => rfl) rfl (fun _ _ => rfl)
    rw [nostar_all (.cons h1 ht)]
    show (true && true && decide (_ < 30)) = true
    rw [Bool.and_self, Bool.true_and]
    refine decide_eq_true ?_
    show _ + 0 + 0 < 30
    omega
theorem VRd.drop {ρ : Own} {H : Hp} {k : Key} : ∀ {l : List (Key × W)} {vs : List (Key × V)}, VRd K T ρ H l vs → VRd K T ρ H (dropD' k l) (dropK vs k)
  | _, _, .nil => .nil
  | (a, w) :: l, (_, v) :: vs, .cons h t => by
    have ih := VRd.drop (k := k) t
    unfold dropD' dropK at ih ⊢
    by_cases e : a = k
    · simp only [List.filter_cons, e, ne_eq, not_true, decide_false, Bool.false_eq_true, if_false]
      exact ih
    · simp only [List.filter_cons, e, ne_eq, not_false_eq_true, decide_true, if_true]
      exact .cons h ih
theorem lowd_drop {i : Nat} {k : Key} {l : List (Key × W)} (h : W.lowd i l = true) : W.lowd i (dropD' k l) = true :=
  lowd_mem.mpr fun w hw => lowd_mem.mp h w (List.mem_filter.mp hw).1
/-- d.pop(k) -/
theorem E_mthD (g : Go prog w K mg base CX d N s E X) {o k : Ex} {oe ke : Expr} {apos pos : Pos} (hl : (apos.endLine == pos.line) = true) (hb : plainO oe = true) (ho : EOk K T P C d E X o oe) (hk : EOk K T P C d E X k ke) : EOk K T P C d E X (.mth .popD o [k]) (.Call (.Attribute oe "pop" apos) [ke] [] pos) := by
  have st : starEach [ke] X.env = [(false, eval ke X.env)] := hk.ns [] X.env
  have m1 : M1 X oe "pop" apos ke pos := ⟨base_plain hb _ _, by rw [st]; rfl, hl, by rw [st]; rfl⟩
  refine EOk.val (PEi (pe_dpop1 ho.pe hk.pe m1) fun σ H Q ⟨ρ, S, en, r, n, q⟩ => ?_) (fun _ _ => rfl) rfl (fun _ _ => rfl)
  simp only [ev] at q
  refine tE.imp (PR.step r n q) fun v H1 ⟨ρ1, wo, s1, e1, r1, vo, n1, q1⟩ => ?_
  split at q1
  · rename_i hr
    have hi : ∃ i ws, wo = .ref i ∧ s1[i]? = some (.dct ws) := by
      simp only [recv] at hr
      split at hr
      · split at hr
        · exact ⟨_, _, rfl, by assumption⟩
        · cases hr
      · cases hr
    obtain ⟨i, ws0, rfl, hi⟩ := hi
    obtain ⟨a, vs, rfl, h3, h4, hs⟩ := vo.refD r1 hi
    refine ⟨a, rfl, .inl ⟨vs, .inl h4⟩, ?_⟩
    simp only [evs, R.bind_assoc, R.ok_bind] at q1
    refine tE.imp (PR.step r1 n1 q1) fun u H2 ⟨ρ2, wk, s2, e2, r2, vk, n2, q2⟩ => ?_
    have q2 : PR K T ρ2 H2 (VR K T) E Q (pPopD [.ref i, wk] s2) := q2
    simp only [pPopD] at q2
    split at q2
    · rename_i l k2 e3 e4
      split at q2
      · rename_i y hy
        obtain ⟨a2, vs2, ea, h5, h6, hs2⟩ := (vo.mono r1 e2).refD r2 e3
        cases ea
        rcases get_val (k := k2) hs2 with ⟨g1, g2⟩ | ⟨w', z, g1, g2, vz⟩
        · rw [g1] at hy; cases hy
        · rw [g1] at hy
          cases hy
          exact ⟨vs2, k2, z, h6, keyOf_kV vk e4, g2, PR.wrD r2 q2 h5 (lowd_drop (lowd_of r2 e3)) hs2.drop vz⟩
      · exact q2.elim
    · exact q2.elim
  · exact q1.elim
/-- with what is changed lent -/
theorem E_brw {x : Ex} {l : List Nat} {e : Expr} (h : EOk K T P C d E X x e) (hb : isBoo e = false) (he : ∀ env whole, isTrue e env whole = (do let v ← whole; standAt e.pos; holding [v] (truthy v))) : EOk K T P C d E X (.brw l x) e := by
  refine EOk.val (PEi h.pe fun σ H Q ⟨ρ, S, en, r, n, p⟩ => ?_) h.ns hb he
  simp only [ev] at p
  have e0 : Ext ρ H (List.replicate ρ.length none) H := {
    len := by simp
    pt := fun i x q => .inr (by rw [List.getElem?_replicate]; rw [if_pos (List.getElem?_eq_some_iff.mp q).1])
    new := fun i a hi q => by
      rw [List.getElem?_replicate] at q
      split at q <;> cases q
    keep := fun a o q _ => q
    there := fun a o q => ⟨o, q⟩ }
  have no : ∀ a, ¬ Own.has (List.replicate ρ.length none) a := fun a ⟨i, q⟩ => by
    rw [List.getElem?_replicate] at q
    split at q <;> cases q
  have r0 : Rl K T (List.replicate ρ.length none) (S.map fun _ => .gone) H := {
    len := by simp [r.len]
    at_ := fun i x o h1 h2 => by
      rw [List.getElem?_replicate] at h1
      rw [List.getElem?_map] at h2
      split at h1
      · cases h1
        obtain ⟨_, _, rfl⟩ := Option.map_eq_some_iff.mp h2
        exact .gone
      · cases h1
    inj := fun i j a h1 _ => absurd ⟨i, h1⟩ (no a)
    low := fun i o h => by
      rw [List.getElem?_map] at h
      obtain ⟨_, _, rfl⟩ := Option.map_eq_some_iff.mp h
      rfl }
  have n0 : EnvR K T (List.replicate ρ.length none) H (en.map (Option.map (look S))) σ := by
    refine ⟨by rw [List.length_map]; exact n.1, fun i w' hw => ?_⟩
    rw [List.getElem?_map] at hw
    obtain ⟨o, ho, hw⟩ := Option.map_eq_some_iff.mp hw
    obtain ⟨w0, rfl, rfl⟩ := Option.map_eq_some_iff.mp hw
    obtain ⟨v, h1, h2⟩ := n.2 i w0 ho
    refine ⟨v, h1, ?_⟩
    by_cases hl : ∃ ws, look S w0 = .lst ws
    · obtain ⟨ws, hl⟩ := hl
      obtain ⟨a, vs, rfl, ha, hs⟩ := h2.lookL r hl
      rw [hl]
      exact .lst (no a) ha (hs.mono r e0)
    by_cases hd : ∃ ws, look S w0 = .dct ws
    · obtain ⟨ws, hd⟩ := hd
      obtain ⟨a, vs, rfl, ha, hs⟩ := h2.lookD r hd
      rw [hd]
      exact .dct (no a) ha (hs.mono r e0)
    have : look S w0 = w0 := by
      cases w0 with
      | ref i =>
        rcases q : S[i]? with _ | (_|_|_)
        · simp [look, q]
        · exact absurd ⟨_, by simp only [look, q]; rfl⟩ hl
        · exact absurd ⟨_, by simp only [look, q]; rfl⟩ hd
        · simp [look, q]
      | _ => rfl
    rw [this]
    exact h2.mono r e0
  refine ⟨_, _, _, r0, n0, ?_⟩
  split at p
  · rename_i w' s' hw
    rw [hw]
    split at p
    · rename_i hz
      obtain ⟨hp, hlen⟩ := hz
      intro ρ' H' b e' r' v'
      have e2 : Ext ρ H ρ H' := {
        len := Nat.le_refl _
        pt := fun i x q => .inl q
        new := fun i a hi q => by
          have := (List.getElem?_eq_some_iff.mp q).1
          omega
        keep := fun a o q _ => e'.keep a o q (no a)
        there := fun a o q => e'.there a o q }
      have r2 : Rl K T ρ S H' := {
        len := r.len
        at_ := fun i x o h1 h2 => (r.at_ i x o h1 h2).mono r e2 fun a u _ q => e'.keep a u q (no a)
        inj := r.inj
        low := r.low }
      refine p ρ H' b e2 r2 ?_
      cases w' <;> simp [plain] at hp <;> cases v' <;> constructor
    · exact p.elim
  · exact p.elim
end
end BK

set_option maxRecDepth 100000
set_option maxHeartbeats 2000000
/-! B4e: what is walked; targets. -/
namespace BK
open PySem PySem.Spec PyProof.Rows L2
/-- J yields the values l, whatever comes between -/
def ItOk (K : PySem.W.Frag) (T : Adr) (l : List W) (J : L2.It) (ρ : Own) (H : Hp) : Prop := ∀ (ρ' : Own) (H' : Hp), Ext ρ H ρ' H' →
  (∀ i, i < l.length → J.go i H' ∧ ∀ x H'', J.yld i H' x H'' → ∀ S', Rl K T ρ' S' H' → Ext ρ' H' ρ' H'' ∧ Rl K T ρ' S' H'' ∧ ∃ w, l[i]? = some w ∧ VR K T ρ' H'' w x) ∧ ∀ i, l.length ≤ i → J.stop i H'
section
variable {K : PySem.W.Frag} {T : Adr} {ρ : Own} {S : Sto} {H : Hp}
theorem VRs.at {l : List W} {vs : List V} (h : VRs K T ρ H l vs) {i : Nat} {v : V} (e : vs[i]? = some v) : ∃ w, l[i]? = some w ∧ VR K T ρ H w v := by
  have hi : i < l.length := by rw [h.length]; exact (List.getElem?_eq_some_iff.mp e).1
  obtain ⟨v', h1, h2⟩ := h.get (List.getElem?_eq_getElem hi)
  rw [e] at h1
  cases h1
  exact ⟨_, List.getElem?_eq_getElem hi, h2⟩
theorem itok_list {a : Addr} {l : List W} {vs : List V} (r : Rl K T ρ S H) (n : ¬ ρ.has a) (h : Rd H a (.lst vs)) (hs : VRs K T ρ H l vs) : ItOk K T l (Itl K a) ρ H := fun ρ' H' e => by
  have h' := (e.rd n h).1
  have hs' := hs.mono r e
  refine ⟨fun i hi => ⟨⟨vs, vs[i]'(by rw [← hs.length]; exact hi), .inl h', List.getElem?_eq_getElem _⟩, fun x H'' y S' r' => ?_⟩, fun i hi => ⟨vs, .inl h', by rw [← hs.length]; exact hi⟩⟩
  obtain ⟨rfl, y⟩ := y
  obtain ⟨w, h1, h2⟩ := hs'.at (y vs (.inl h'))
  exact ⟨Ext.refl _ _, r', w, h1, h2⟩
theorem itok_tup {a : Addr} {l : List W} {vs : List V} (r : Rl K T ρ S H) (h : SqT K H a vs) (hs : VRs K T ρ H l vs) : ItOk K T l (Itt K a) ρ H := fun ρ' H' e => by
  have h' := e.sqT r h
  have hs' := hs.mono r e
  refine ⟨fun i hi => ⟨⟨vs, vs[i]'(by rw [← hs.length]; exact hi), h', List.getElem?_eq_getElem _⟩, fun x H'' y S' r' => ?_⟩, fun i hi => ⟨vs, h', by rw [← hs.length]; exact hi⟩⟩
  obtain ⟨rfl, y⟩ := y
  obtain ⟨w, h1, h2⟩ := hs'.at (y vs h')
  exact ⟨Ext.refl _ _, r', w, h1, h2⟩
theorem itok_str {z : Str} : ItOk K T (z.cps.toList.map fun c => W.str ⟨#[c]⟩) (Its z) ρ H := fun ρ' H' e => by
  have hl : (z.cps.toList.map fun c => W.str ⟨#[c]⟩).length = z.cps.size := by simp
  rw [hl]
  refine ⟨fun i hi => ⟨hi, fun x H'' y S' r' => ?_⟩, fun i hi => hi⟩
  obtain ⟨rfl, c, hc, rfl⟩ := y
  exact ⟨Ext.refl _ _, r', _, by rw [List.getElem?_map, Array.getElem?_toList, hc]; rfl, .str _⟩
theorem itok_range {a b : Int} : ItOk K T (rangeW a b) (Itr a (b - a).toNat) ρ H := fun ρ' H' e => by
  have hl : (rangeW a b).length = (b - a).toNat := by simp [rangeW]
  refine ⟨fun i hi => ⟨by rw [hl] at hi; exact hi, fun x H'' y S' r' => ?_⟩, fun i hi => by rw [hl] at hi; exact hi⟩
  obtain ⟨rfl, rfl⟩ := y
  rw [hl] at hi
  refine ⟨Ext.refl _ _, r', _, ?_, .int _⟩
  unfold rangeW
  rw [List.getElem?_map, List.getElem?_range hi]
  rfl
theorem keysW_at {l : List (Key × W)} {i : Nat} {k : Key} {w : W} (h : l[i]? = some (k, w)) : ∃ u, (keysW l)[i]? = some u ∧ VR K T ρ H u (kV k) := by
  cases k with
  | inl j => exact ⟨.int j, by unfold keysW; rw [List.getElem?_map, h]; rfl, .int _⟩
  | inr x => exact ⟨.str x, by unfold keysW; rw [List.getElem?_map, h]; rfl, .str _⟩
theorem VRd.at : ∀ {l : List (Key × W)} {vs : List (Key × V)} {i : Nat} {k : Key} {v : V}, VRd K T ρ H l vs → vs[i]? = some (k, v) → ∃ w, l[i]? = some (k, w)
  | _, _, _, _, _, .nil, h => by simp at h
  | _, _, 0, _, _, .cons _ _, h => by
    simp at h
    obtain ⟨rfl, rfl⟩ := h
    exact ⟨_, rfl⟩
  | _, _, i + 1, _, _, .cons _ t, h => by
    obtain ⟨w, h1⟩ := t.at (i := i) (by simpa using h)
    exact ⟨w, by simpa using h1⟩
theorem itok_keys {d : Addr} {o : Obj} {l : List (Key × W)} {kvs : List (Key × V)} (n : ¬ ρ.has d) (h : H d = some (.frz o (.dK kvs))) (hs : VRd K T ρ H l kvs) : ItOk K T (keysW l) (Itk d o kvs) ρ H := fun ρ' H' e => by
  have h' := e.keep _ _ h n
  have hl : (keysW l).length = kvs.length := by rw [← hs.length]; simp [keysW]
  refine ⟨fun i hi => ⟨⟨h', by rw [← hl]; exact hi⟩, fun x H'' y S' r' => ?_⟩, fun i hi => ⟨h', by rw [← hl]; exact hi⟩⟩
  obtain ⟨rfl, k, v, hk, rfl⟩ := y
  obtain ⟨w, hw⟩ := hs.at hk
  obtain ⟨u, h1, h2⟩ := keysW_at (K := K) (T := T) (ρ := ρ') (H := H'') hw
  exact ⟨Ext.refl _ _, r', u, h1, h2⟩
theorem enumW_at : ∀ {l : List W} {n i : Nat} {w : W}, l[i]? = some w → (enumW n l)[i]? = some (.tup [.int ((n + i : Nat) : Int), w])
  | [], _, _, _, h => by simp at h
  | x :: l, n, 0, w, h => by
    simp at h
    subst h
    rfl
  | x :: l, n, i + 1, w, h => by
    have := enumW_at (l := l) (n := n + 1) (i := i) (w := w) (by simpa using h)
    rw [show n + 1 + i = n + (i + 1) by omega] at this
    simpa [enumW] using this
theorem enumW_len : ∀ {l : List W} {n : Nat}, (enumW n l).length = l.length
  | [], _ => rfl
  | _ :: l, n => by simp [enumW, enumW_len (l := l)]
theorem itok_enum {a : Addr} {l : List W} {vs : List V} (r : Rl K T ρ S H) (n : ¬ ρ.has a) (h : Rd H a (.lst vs)) (hs : VRs K T ρ H l vs) : ItOk K T (enumW 0 l) (Ite K a) ρ H := fun ρ' H' e => by
  have h' := (e.rd n h).1
  have hs' := hs.mono r e
  refine ⟨fun i hi => ?_, fun i hi => ⟨vs, .inl h', by rw [← hs.length, ← enumW_len (n := 0)]; exact hi⟩⟩
  rw [enumW_len] at hi
  refine ⟨⟨vs, vs[i]'(by rw [← hs.length]; exact hi), .inl h', List.getElem?_eq_getElem _⟩, fun x H'' y S' r' => ?_⟩
  obtain ⟨p, x', rfl, hp, rfl, y⟩ := y
  obtain ⟨w, h1, h2⟩ := hs'.at (y vs (.inl h'))
  refine ⟨ext_new hp, rl_new r' hp, _, enumW_at h1, .tup (.inl (.inl upd_same)) (.cons ?_ (.cons (h2.mono r' (ext_new hp)) .nil))⟩
  rw [Nat.zero_add]
  exact .int _
theorem itok_zip {a b : Addr} {l m : List W} {vs us : List V} (r : Rl K T ρ S H) (n1 : ¬ ρ.has a) (n2 : ¬ ρ.has b) (h1 : Rd H a (.lst vs)) (h2 : Rd H b (.lst us)) (hs : VRs K T ρ H l vs) (ht : VRs K T ρ H m us) (he : l.length = m.length) :
    ItOk K T ((l.zip m).map fun p => .tup [p.1, p.2]) (Itz K a b) ρ H := fun ρ' H' e => by
  have g1 := (e.rd n1 h1).1
  have g2 := (e.rd n2 h2).1
  have hs' := hs.mono r e
  have ht' := ht.mono r e
  have l1 := hs.length
  have l2 := ht.length
  have hl : ((l.zip m).map fun p => W.tup [p.1, p.2]).length = l.length := by simp; omega
  refine ⟨fun i hi => ?_, fun i hi => ⟨vs, us, .inl g1, .inl g2, .inl (by rw [← l1, ← hl]; exact hi)⟩⟩
  rw [hl] at hi
  refine ⟨⟨vs, us, vs[i]'(by omega), us[i]'(by omega), .inl g1, .inl g2, List.getElem?_eq_getElem _, List.getElem?_eq_getElem _⟩, fun x H'' y S' r' => ?_⟩
  obtain ⟨p, x', y', rfl, hp, rfl, y1, y2⟩ := y
  obtain ⟨w1, k1, k2⟩ := hs'.at (y1 vs (.inl g1))
  obtain ⟨w2, k3, k4⟩ := ht'.at (y2 us (.inl g2))
  refine ⟨ext_new hp, rl_new r' hp, .tup [w1, w2], ?_, .tup (.inl (.inl upd_same)) (.cons (k2.mono r' (ext_new hp)) (.cons (k4.mono r' (ext_new hp)) .nil))⟩
  rw [List.getElem?_map, List.getElem?_zip_eq_some.mpr (show l[i]? = some (w1, w2).1 ∧ m[i]? = some (w1, w2).2 from ⟨k1, k3⟩)]
  rfl
theorem itok_zipT {a b : Addr} {l m : List W} {vs us : List V} (r : Rl K T ρ S H) (h1 : SqT K H a vs) (h2 : SqT K H b us) (hs : VRs K T ρ H l vs) (ht : VRs K T ρ H m us) (he : l.length = m.length) :
    ItOk K T ((l.zip m).map fun p => .tup [p.1, p.2]) (RZ.ItzT K a b) ρ H := fun ρ' H' e => by
  have g1 := e.sqT r h1
  have g2 := e.sqT r h2
  have hs' := hs.mono r e
  have ht' := ht.mono r e
  have l1 := hs.length
  have l2 := ht.length
  have hl : ((l.zip m).map fun p => W.tup [p.1, p.2]).length = l.length := by simp; omega
  refine ⟨fun i hi => ?_, fun i hi => ⟨vs, us, g1, g2, .inl (by rw [← l1, ← hl]; exact hi)⟩⟩
  rw [hl] at hi
  refine ⟨⟨vs, us, vs[i]'(by omega), us[i]'(by omega), g1, g2, List.getElem?_eq_getElem _, List.getElem?_eq_getElem _⟩, fun x H'' y S' r' => ?_⟩
  obtain ⟨p, x', y', rfl, hp, rfl, y1, y2⟩ := y
  obtain ⟨w1, k1, k2⟩ := hs'.at (y1 vs g1)
  obtain ⟨w2, k3, k4⟩ := ht'.at (y2 us g2)
  refine ⟨ext_new hp, rl_new r' hp, .tup [w1, w2], ?_, .tup (.inl (.inl upd_same)) (.cons (k2.mono r' (ext_new hp)) (.cons (k4.mono r' (ext_new hp)) .nil))⟩
  rw [List.getElem?_map, List.getElem?_zip_eq_some.mpr (show l[i]? = some (w1, w2).1 ∧ m[i]? = some (w1, w2).2 from ⟨k1, k3⟩)]
  rfl
end
/-- over whatever may be walked -/
def iAny (K : PySem.W.Frag) (te : TE) : TI := fun σ H R => te σ H fun x H1 => (∃ a xs, x = .ref a ∧ SqL K H1 a xs ∧ R (Itl K a) H1) ∨ (∃ a xs, x = .ref a ∧ SqT K H1 a xs ∧ R (Itt K a) H1) ∨ (∃ z, x = .str z ∧ R (Its z) H1) ∨
  ∃ d o kvs, x = .ref d ∧ H1 d = some (.frz o (.dK kvs)) ∧ R (Itk d o kvs) H1
theorem pi_any {X : Cx} {tg e : Expr} {te : TE} (he : PE X e te) : PI X tg e (iAny X.K te) := by
  refine ⟨fun pins s σ H R I h => ?_⟩
  refine thn (he.run pins s σ H _ I h) fun v s1 ⟨x, H1, I1, r1, q1⟩ => ?_
  rcases q1 with ⟨a, xs, rfl, hq, q⟩ | ⟨a, xs, rfl, hq, q⟩ | ⟨z, rfl, q⟩ | ⟨d, o, kvs, rfl, hd, q⟩
  · cases r1
    obtain ⟨its, rv, p, hz⟩ := I1.list hq
    refine wpAny_pyIter_list p.isList ?_
    refine ⟨s1.heap.objs.size, [s1.heap.objs.size], _, _, H1, rfl, I1.kept (t' := s1.toks) fun b o e => Heap.get?_push_of_some _ e, turn_list a _, ⟨_, Heap.get?_push_size _ rfl, rfl, rfl⟩, fun b hb => ?_, q⟩
    have e : b = s1.heap.objs.size := by simpa using hb
    subst e
    exact I1.fpOk (Nat.le_refl _) (I1.hok.fresh (Nat.le_refl _))
  · cases r1
    obtain ⟨its, rv, p, hz⟩ := I1.tuple hq
    refine wpAny_pyIter_tuple (show s1.heap.IsTuple a its.toArray from p) ?_
    refine ⟨s1.heap.objs.size, [s1.heap.objs.size], _, _, H1, rfl, I1.kept (t' := s1.toks) fun b o e => Heap.get?_push_of_some _ e, turn_tuple a _, ⟨_, Heap.get?_push_size _ rfl, rfl, rfl⟩, fun b hb => ?_, q⟩
    have e : b = s1.heap.objs.size := by simpa using hb
    subst e
    exact I1.fpOk (Nat.le_refl _) (I1.hok.fresh (Nat.le_refl _))
  · obtain ⟨t, rfl⟩ := r1
    cases ha : z.cps.all (· < 128)
    · exact wpAny_pyIter_wide ha (pi_one (tk := s1.toks) I1 _ (turn_str _ z t "str_iterator" (.inr rfl)) ⟨_, Heap.get?_push_size _ rfl, rfl, rfl⟩ q)
    · exact wpAny_pyIter_ascii ha (pi_one (tk := s1.toks) I1 _ (turn_str _ z t "str_ascii_iterator" (.inl rfl)) ⟨_, Heap.get?_push_size _ rfl, rfl, rfl⟩ q)
  · obtain rfl : v = Value.ref d := r1
    obtain ⟨hs, hgd, hx, es, ep, vs, hdt, hsz, kv, hm⟩ := I1.frzK hd
    refine iter_keys hs hgd hx hdt (pi_one (tk := s1.toks) I1 _ (turn_keys _ hdt) ⟨_, Heap.get?_push_size _ rfl, rfl, ?_⟩ q)
    rw [hsz] <;> rfl
/-- a dict that is walked is locked -/
def kOk : It → L2.St → Hp → Prop
  | .keys i, σ, H => ∀ d, σ[i]? = some (some (.ref d)) → ∃ o kvs, H d = some (.frz o (.dK kvs))
  | _, _, _ => True
section
variable (K : PySem.W.Frag) (T : Adr) (P : Pg) (C : Nat → List W → Sto → R W) (d : Nat) (E : XK)
def tI (it : It) : TI := fun σ H R => ∃ ρ S en, Rl K T ρ S H ∧ EnvR K T ρ H en σ ∧ kOk it σ H ∧ PR K T ρ H (fun ρ1 H1 l J => ItOk K T l J ρ1 H1) E R (evI P C d it en S)
end
section
variable {prog : Program} {w : World} {K : PySem.W.Frag} {mg : Str → Option Value} {base : Heap} {CX : CXT} {T : Adr} {P : Pg} {M : Nm} {C : Nat → List W → Sto → R W} {d : Nat} {N : List Str} {s : Pl} {E : XK} {X : Cx} {tg : Expr}
theorem PIi {e : Expr} {t t' : TI} (h : PI X tg e t) (g : ∀ σ H Q, t' σ H Q → t σ H Q) : PI X tg e t' := ⟨fun pins s σ H Q I q => h.run pins s σ H Q I (g _ _ _ q)⟩
theorem I_seq (g : Go prog w K mg base CX d N s E X) {x : Ex} {e : Expr} (h : EOk K T P C d E X x e) : PI X tg e (tI K T P C d E (.seq x)) := by
  refine PIi (pi_any h.pe) fun σ H Rk ⟨ρ, S, en, r, n, _, p⟩ => ?_
  rw [g.hK]
  simp only [evI] at p
  refine tE.imp (PR.step r n p) fun v H1 ⟨ρ1, wa, s1, e1, r1, va, n1, p1⟩ => ?_
  cases hl : still wa with
  | none => rw [hl] at p1; exact p1.elim
  | some l =>
    rw [hl] at p1
    have q := fun J (z : ItOk K T l J ρ1 H1) => PR.here r1 p1 z
    cases va with
    | str z =>
      simp only [still, Option.some.injEq] at hl
      subst hl
      exact .inr (.inr (.inl ⟨z, rfl, q _ itok_str⟩))
    | tup hs hv =>
      simp only [still, Option.some.injEq] at hl
      subst hl
      exact .inr (.inl ⟨_, _, rfl, hs, q _ (itok_tup r1 hs hv)⟩)
    | lst hn hs hv =>
      simp only [still, Option.some.injEq] at hl
      subst hl
      exact .inl ⟨_, _, rfl, .inl hs, q _ (itok_list r1 hn hs hv)⟩
    | _ => simp [still] at hl
theorem I_keys (g : Go prog w K mg base CX d N s E X) {i : Nat} {e : Expr} (h : chkVar N s.sc i e = true) : PI X tg e (tI K T P C d E (.keys i)) := by
  obtain ⟨h1, _⟩ := var_pe g h
  refine PIi (pi_any h1) fun σ H R ⟨ρ, S, en, r, n, k, p⟩ => ?_
  simp only [evI] at p
  split at p
  · rename_i l hw
    obtain ⟨v, h5, h6⟩ := n.2 i _ hw
    cases h6 with
    | @dct a kvs _ hn hr hs =>
      obtain ⟨o, kvs', hf⟩ := k a h5
      have : kvs' = kvs := by
        rcases hr with hr | ⟨o', hr⟩
        · rw [hf] at hr; cases hr
        · rw [hf] at hr; cases hr; rfl
      subst this
      exact ⟨_, h5, .inr (.inr (.inr ⟨a, o, _, rfl, hf, PR.here r p (itok_keys hn hf hs)⟩))⟩
  · exact p.elim
theorem smallI_ok {i : Int} (h : smallI i = true) : -(2 ^ 62) ≤ i ∧ i < 2 ^ 62 := by
  unfold smallI at h
  simpa using h
theorem I_range1 (th : Th prog w K mg base CX T P M C d) (g : Go prog w K mg base CX d N s E X) {x : Ex} {e : Expr} {p pos : Pos} (hg : glB s.sc "range" = true) (h : EOk K T P C d E X x e) : PI X tg (.Call (.Name "range" p) [e] [] pos) (tI K T P C d E (.range [x])) := by
  obtain ⟨g1, g2⟩ := glB_ok g hg
  refine PIi (pi_range1 g1 (by rw [g.hmg]; exact th.glo.bl _ (by simp [bltNames])) (pa_cons h.pe pa_nil (h.ns _ _)) (h.ns _ _)) fun σ H Rk ⟨ρ, S, en, r, n, _, p⟩ => ?_
  simp only [evI, evs, R.bind_assoc, R.ok_bind] at p
  refine tE.imp (PR.step r n p) fun v H1 ⟨ρ1, wa, s1, e1, r1, va, n1, p1⟩ => ?_
  cases wa with
  | int b =>
    simp only [ranged] at p1
    split at p1
    · rename_i hb
      obtain ⟨b1, b2⟩ := smallI_ok hb
      refine ⟨b, by rw [va.int_inv rfl], b1, b2, ?_⟩
      have z := PR.here r1 p1 (itok_range (a := 0) (b := b))
      rw [Int.sub_zero] at z
      exact z
    · exact p1.elim
  | _ => exact p1.elim
theorem I_range2 (th : Th prog w K mg base CX T P M C d) (g : Go prog w K mg base CX d N s E X) {x y : Ex} {e e' : Expr} {p pos : Pos} (hg : glB s.sc "range" = true) (h : EOk K T P C d E X x e) (h' : EOk K T P C d E X y e') : PI X tg (.Call (.Name "range" p) [e, e'] [] pos) (tI K T P C d E (.range [x, y])) := by
  obtain ⟨g1, g2⟩ := glB_ok g hg
  refine PIi (pi_range2 g1 (by rw [g.hmg]; exact th.glo.bl _ (by simp [bltNames])) (pa_cons h.pe (pa_cons h'.pe pa_nil (h'.ns _ _)) (h.ns _ _)) (by rw [h.ns, h'.ns]; rfl) (h'.ns _ _)) fun σ H Rk ⟨ρ, S, en, r, n, _, p⟩ => ?_
  simp only [evI, evs, R.bind_assoc, R.ok_bind] at p
  refine tE.imp (PR.step r n p) fun v H1 ⟨ρ1, wa, s1, e1, r1, va, n1, p1⟩ => ?_
  refine tE.imp (PR.step r1 n1 p1) fun v2 H2 ⟨ρ2, wb, s2, e2, r2, vb, n2, p2⟩ => ?_
  cases wa with
  | int a =>
    cases wb with
    | int b =>
      simp only [ranged] at p2
      split at p2
      · rename_i hb
        obtain ⟨ha, hb⟩ := Bool.and_eq_true_iff.mp hb
        obtain ⟨a1, a2⟩ := smallI_ok ha
        obtain ⟨b1, b2⟩ := smallI_ok hb
        exact ⟨a, b, by rw [va.int_inv rfl, vb.int_inv rfl], ⟨a1, a2, b1, b2⟩, PR.here r2 p2 (itok_range (a := a) (b := b))⟩
      · exact p2.elim
    | _ => exact p2.elim
  | _ => exact p2.elim
theorem I_enum (th : Th prog w K mg base CX T P M C d) (g : Go prog w K mg base CX d N s E X) {x : Ex} {e : Expr} {elts : List Expr} {kk : Nat} {tpos p pos : Pos} (hg : glB s.sc "enumerate" = true) (h : EOk K T P C d E X x e) :
    PI X (.Tuple elts kk tpos) (.Call (.Name "enumerate" p) [e] [] pos) (tI K T P C d E (.enum x)) := by
  obtain ⟨g1, g2⟩ := glB_ok g hg
  refine PIi (pi_enum g1 (by rw [g.hmg]; exact th.glo.bl _ (by simp [bltNames])) (pa_cons h.pe pa_nil (h.ns _ _)) (h.ns _ _)) fun σ H Rk ⟨ρ, S, en, r, n, _, p⟩ => ?_
  rw [g.hK]
  simp only [evI] at p
  refine tE.imp (PR.step r n p) fun v H1 ⟨ρ1, wa, s1, e1, r1, va, n1, p1⟩ => ?_
  cases va with
  | lst hn hs hv => exact ⟨_, _, rfl, .inl hs, PR.here r1 p1 (itok_enum r1 hn hs hv)⟩
  | _ => exact p1.elim
theorem I_zip (th : Th prog w K mg base CX T P M C d) (g : Go prog w K mg base CX d N s E X) {x y : Ex} {e e' : Expr} {elts : List Expr} {kk : Nat} {tpos p pos : Pos} (hg : glB s.sc "zip" = true) (h : EOk K T P C d E X x e) (h' : EOk K T P C d E X y e') :
    PI X (.Tuple elts kk tpos) (.Call (.Name "zip" p) [e, e'] [] pos) (tI K T P C d E (.zip [x, y])) := by
  obtain ⟨g1, g2⟩ := glB_ok g hg
  refine PIi (RZ.pi_zipA g1 (by rw [g.hmg]; exact th.glo.bl _ (by simp [bltNames])) (pa_cons h.pe (pa_cons h'.pe pa_nil (h'.ns _ _)) (h.ns _ _)) (h.ns _ _) (by rw [h'.ns]; rfl)) fun σ H Rk ⟨ρ, S, en, r, n, _, p⟩ => ?_
  rw [g.hK]
  simp only [evI, evs, R.bind_assoc, R.ok_bind] at p
  refine tE.imp (PR.step r n p) fun v H1 ⟨ρ1, wa, s1, e1, r1, va, n1, p1⟩ => ?_
  refine tE.imp (PR.step r1 n1 p1) fun v2 H2 ⟨ρ2, wb, s2, e2, r2, vb, n2, p2⟩ => ?_
  have va := va.mono r1 e2
  cases hz : zipped [wa, wb] with
  | none => rw [hz] at p2; exact p2.elim
  | some l =>
    rw [hz] at p2
    unfold zipped at hz
    split at hz
    · rename_i l m heq
      simp only [List.cons.injEq, and_true] at heq
      obtain ⟨rfl, rfl⟩ := heq
      split at hz
      · rename_i he
        cases hz
        cases va with
        | lst hn hs hv =>
          cases vb with
          | lst hn' hs' hv' => exact ⟨_, _, _, _, rfl, .inl ⟨.inl hs, .inl hs', PR.here r2 p2 (itok_zip r2 hn hn' hs hs' hv hv' he)⟩⟩
      · cases hz
    · rename_i l m heq
      simp only [List.cons.injEq, and_true] at heq
      obtain ⟨rfl, rfl⟩ := heq
      split at hz
      · rename_i he
        cases hz
        cases va with
        | tup hs hv =>
          cases vb with
          | tup hs' hv' => exact ⟨_, _, _, _, rfl, .inr ⟨hs, hs', PR.here r2 p2 (itok_zipT r2 hs hs' hv hv' he)⟩⟩
      · cases hz
    · cases hz
/-! ### targets -/
end
end BK

set_option maxRecDepth 100000
set_option maxHeartbeats 2000000
/-! B4f: targets, comprehensions. -/
namespace BK
open PySem PySem.Spec PyProof.Rows L2
mutual
def slotsT : Tg → List Nat
  | .nm i => [i]
  | .tp l => slotsTs l
def slotsTs : List Tg → List Nat
  | [] => []
  | t :: l => slotsT t ++ slotsTs l
end
def locB (s : Pl) (x : Str) : Bool := match s.sc.names.lookup x with
  | some .local => true
  | some .cell => s.so x
  | _ => false
mutual
def chkTg (N : List Str) (s : Pl) : Tg → Expr → Bool
  | .nm i, e => (match e with
    | .Name x _ => decide (N[i]? = some x) && locB s x
    | _ => false)
  | .tp l, e => (match e with
    | .Tuple es _ _ => chkTgs N s l es
    | _ => false)
def chkTgs (N : List Str) (s : Pl) : List Tg → List Expr → Bool
  | [], [] => true
  | t :: l, e :: es => chkTg N s t e && chkTgs N s l es
  | _, _ => false
end
section
variable (K : PySem.W.Frag) (T : Adr)
def tG (tg : Tg) : TG := fun v σ H Q => ∃ ρ S w en en', Rl K T ρ S H ∧ EnvR K T ρ H en σ ∧ VR K T ρ H w v ∧ tgSet tg w en = some en' ∧ ∀ σ', EnvR K T ρ H en' σ' → (∀ j, j ∉ slotsT tg → σ'[j]? = σ[j]?) → σ'.length = σ.length → Q σ' H
def tGs (tg : List Tg) : TGs := fun v σ H Q => ∃ ρ S w en en', Rl K T ρ S H ∧ EnvR K T ρ H en σ ∧ VRs K T ρ H w v ∧ tgSet.tgSets tg w en = some en' ∧ ∀ σ', EnvR K T ρ H en' σ' → (∀ j, j ∉ slotsTs tg → σ'[j]? = σ[j]?) → σ'.length = σ.length → Q σ' H
end
theorem PGi {X : Cx} {e : Expr} {t t' : TG} (h : PG X e t) (g : ∀ v σ H Q, t' v σ H Q → t v σ H Q) : PG X e t' := ⟨fun pins s σ H v u Q I r q => h.run pins s σ H v u Q I r (g _ _ _ _ q)⟩
theorem PGsi {X : Cx} {e : List Expr} {t t' : TGs} (h : PGs X e t) (g : ∀ v σ H Q, t' v σ H Q → t v σ H Q) : PGs X e t' := ⟨fun pins s σ H v u Q I r q => h.run pins s σ H v u Q I r (g _ _ _ _ q)⟩
section
variable {prog : Program} {w : World} {K : PySem.W.Frag} {mg : Str → Option Value} {base : Heap} {CX : CXT} {T : Adr} {P : Pg} {M : Nm} {C : Nat → List W → Sto → R W} {d : Nat} {N : List Str} {s : Pl} {E : XK} {X : Cx}
theorem EnvR.set {ρ : Own} {H : Hp} {en : Env} {σ : L2.St} {w : W} {v : V} (n : EnvR K T ρ H en σ) (h : VR K T ρ H w v) (i : Nat) : EnvR K T ρ H (en.set i (some w)) (σ.set i (some v)) := by
  refine ⟨by simp [n.1], fun j w' hw => ?_⟩
  by_cases e : j = i
  · subst e
    have hj : j < en.length := by
      have := (List.getElem?_eq_some_iff.mp hw).1
      simpa using this
    rw [List.getElem?_set_self hj] at hw
    cases hw
    exact ⟨v, List.getElem?_set_self (by rw [← n.1]; exact hj), h⟩
  · rw [List.getElem?_set_ne (Ne.symm e)] at hw ⊢
    exact n.2 j w' hw
theorem locB_ok (g : Go prog w K mg base CX d N s E X) {x : Str} (h : locB s x = true) : Loc X.env.scope x ∧ (X.fn x = true ∨ X.env.scope.names.lookup x = some .local) := by
  unfold locB at h
  rw [L2.Loc, g.sc]
  split at h
  · rename_i e; exact ⟨.inl e, .inr e⟩
  · rename_i e; exact ⟨.inr e, .inl (g.so x h)⟩
  · cases h
mutual
theorem pg_ok (g : Go prog w K mg base CX d N s E X) : ∀ (tg : Tg) (e : Expr), chkTg N s tg e = true → PG X e (tG K T tg) ∧ (∀ es env, assignEach (e :: es) env = (false, assign e env) :: assignEach es env)
  | .nm i, e, h => by
    unfold chkTg at h
    split at h
    · rename_i x pos
      simp only [Bool.and_eq_true, decide_eq_true_eq] at h
      obtain ⟨h1, h2⟩ := locB_ok g h.2
      refine ⟨PGi (pg_name (by rw [g.hN]; exact g.nd) (by rw [g.hN]; exact h.1) h1 h2) fun v σ H Q ⟨ρ, S, w', en, en', r, n, vw, ht, q⟩ => ?_, fun _ _ => rfl⟩
      simp only [tgSet, Option.some.injEq] at ht
      subst ht
      exact q _ (n.set vw i) (fun j hj => List.getElem?_set_ne (fun z => hj (by simp [slotsT, z]))) (by simp)
    · cases h
  | .tp l, e, h => by
    unfold chkTg at h
    split at h
    · rename_i es k pos
      obtain ⟨h1, h2, h3⟩ := pgs_ok g l es h
      refine ⟨PGi (pg_tup g.calm h1 h2 h3) fun v σ H Q ⟨ρ, S, w', en, en', r, n, vw, ht, q⟩ => ?_, fun _ _ => rfl⟩
      cases vw with
      | @tup a vs ws hs hv =>
        rw [g.hK]
        refine ⟨a, vs, rfl, hs, ?_, ρ, S, ws, en, en', r, n, hv, ht, q⟩
        have key : ∀ {l : List Tg} {ws : List W} {en en' : Env}, tgSet.tgSets l ws en = some en' → ws.length = l.length := by
          intro l
          induction l with
          | nil => intro ws en en' h; cases ws <;> simp [tgSet.tgSets] at h ⊢
          | cons t l ih =>
            intro ws en en' h
            cases ws with
            | nil => simp [tgSet.tgSets] at h
            | cons w ws =>
              simp only [tgSet.tgSets, Option.bind_eq_some_iff] at h
              obtain ⟨e2, _, h⟩ := h
              simp [ih h]
        have key2 : ∀ {l : List Tg} {es : List Expr}, chkTgs N s l es = true → l.length = es.length := by
          intro l
          induction l with
          | nil => intro es h; cases es <;> simp [chkTgs] at h ⊢
          | cons t l ih =>
            intro es h
            cases es with
            | nil => simp [chkTgs] at h
            | cons e es =>
              simp only [chkTgs, Bool.and_eq_true] at h
              simp [ih h.2]
        rw [← hv.length, key (show tgSet.tgSets l ws en = some en' from ht)]
        exact key2 h
      | _ => simp [tgSet] at ht
    · cases h
theorem pgs_ok (g : Go prog w K mg base CX d N s E X) : ∀ (tg : List Tg) (es : List Expr), chkTgs N s tg es = true → PGs X es (tGs K T tg) ∧ (assignEach es X.env).length = es.length ∧ (assignEach es X.env).findIdx? (·.1) = none
  | [], [], _ => ⟨PGsi pgs_nil fun v σ H Q ⟨ρ, S, w', en, en', r, n, vw, ht, q⟩ => by
      cases w' with
      | nil =>
        cases vw
        simp only [tgSet.tgSets, Option.some.injEq] at ht
        subst ht
        exact ⟨rfl, q σ n (fun _ _ => rfl) rfl⟩
      | cons _ _ => simp [tgSet.tgSets] at ht, rfl, rfl⟩
  | [], _ :: _, h => by simp [chkTgs] at h
  | _ :: _, [], h => by simp [chkTgs] at h
  | t :: l, e :: es, h => by
    simp only [chkTgs, Bool.and_eq_true] at h
    obtain ⟨h1, h2⟩ := pg_ok g t e h.1
    obtain ⟨h3, h4, h5⟩ := pgs_ok g l es h.2
    refine ⟨PGsi (pgs_cons h1 h3 (by rw [h2]; rfl)) fun v σ H Q ⟨ρ, S, w', en, en', r, n, vw, ht, q⟩ => ?_, by rw [h2]; simp [h4], by rw [h2, List.findIdx?_cons]; simp [h5]⟩
    cases vw with
    | nil => simp [tgSet.tgSets] at ht
    | @cons w0 v0 ws vs hw hws =>
      simp only [tgSet.tgSets, Option.bind_eq_some_iff] at ht
      obtain ⟨e2, ht1, ht2⟩ := ht
      refine ⟨_, _, rfl, ρ, S, w0, en, e2, r, n, hw, ht1, fun σ' n' f' l' => ?_⟩
      exact ⟨ρ, S, ws, e2, en', r, n', hws, ht2, fun σ2 n2 f2 l2 => q σ2 n2 (fun j hj => by
        simp only [slotsTs, List.mem_append, not_or] at hj
        rw [f2 j hj.2, f' j hj.1]) (l2.trans l')⟩
end
/-! ### comprehensions -/
theorem wipe_get {σ : L2.St} : ∀ {vs : List Nat} {i : Nat}, i < σ.length → (wipe σ vs)[i]? = if i ∈ vs then some none else σ[i]?
  | [], i, h => by simp [wipe]
  | v :: vs, i, h => by
    unfold wipe
    by_cases e : i = v
    · subst e
      rw [List.getElem?_set_self (by rw [wipe_length]; exact h)]
      simp
    · rw [List.getElem?_set_ne (Ne.symm e), wipe_get h]
      simp [e]
theorem wipe_again {σ σ' : L2.St} {vs : List Nat} (hl : σ'.length = σ.length) (h : ∀ j, j ∉ vs → σ'[j]? = (wipe σ vs)[j]?) : wipe σ' vs = wipe σ vs := by
  refine List.ext_getElem? fun i => ?_
  by_cases hi : i < σ.length
  · rw [wipe_get (by omega)]
    split
    · rename_i hv
      rw [wipe_get hi, if_pos hv]
    · rename_i hv
      exact h i hv
  · rw [List.getElem?_eq_none (by rw [wipe_length]; omega), List.getElem?_eq_none (by rw [wipe_length]; omega)]
theorem EnvR.wipe {ρ : Own} {H : Hp} {en : Env} {σ : L2.St} (n : EnvR K T ρ H en σ) : ∀ vs : List Nat, EnvR K T ρ H (wipeE en vs) (L2.wipe σ vs)
  | [] => n
  | v :: vs => by
    have ih := EnvR.wipe n vs
    refine ⟨by simp [wipeE, L2.wipe, ih.1], fun j w' hw => ?_⟩
    unfold wipeE at hw
    unfold L2.wipe
    by_cases e : j = v
    · subst e
      have hj : j < (wipeE en vs).length := by
        have := (List.getElem?_eq_some_iff.mp hw).1
        simpa using this
      rw [List.getElem?_set_self hj] at hw
      cases hw
    · rw [List.getElem?_set_ne (Ne.symm e)] at hw ⊢
      exact ih.2 j w' hw
def EF : XK := fun _ _ _ => False
/-- a clause's test, or none -/
def tTo (K : PySem.W.Frag) (T : Adr) (P : Pg) (C : Nat → List W → Sto → R W) (d : Nat) : Option Ex → TT
  | none => tYes
  | some t => tT K T P C d EF t
theorem PR.stepI {ρ : Own} {S : Sto} {H : Hp} {en : Env} {σ : L2.St} {γ δ : Type} {rel : Own → Hp → γ → δ → Prop} {Q : δ → Hp → Prop} {it : It} {f : List W → Sto → R γ} (r : Rl K T ρ S H) (n : EnvR K T ρ H en σ) (k : kOk it σ H) (h : PR K T ρ H rel E Q ((evI P C d it en S).bind f)) :
    tI K T P C d E it σ H (fun J H1 => ∃ ρ1 l s, Ext ρ H ρ1 H1 ∧ Rl K T ρ1 s H1 ∧ ItOk K T l J ρ1 H1 ∧ EnvR K T ρ1 H1 en σ ∧ PR K T ρ1 H1 rel E Q (f l s)) :=
  ⟨ρ, S, en, r, n, k, (PR.bind h).imp (fun b H1 ⟨ρ1, a, s, _, e, r1, v, p⟩ => ⟨ρ1, a, s, e, r1, v, n.mono r e, p⟩) fun _ _ _ z => z⟩
/-- the number n still stands for D -/
theorem at_D {ρ2 ρ' : Own} {H2 H' : Hp} {n : Nat} {D a : Addr} (e : Ext ρ2 H2 ρ' H') (h : ρ2[n]? = some (some D)) (h' : ρ'[n]? = some (some a)) : a = D := by
  rcases e.pt n _ h with z | z
  · rw [z] at h'
    cases h'
    rfl
  · rw [z] at h'
    cases h'
theorem comp_rd {m : Bool} {elt : Ex} {own : List Nat} {tg : Tg} {it : It} {cond : Option Ex} {σ : L2.St} {H : Hp} {Q : VK} (ho : ∀ j ∈ slotsT tg, j ∈ own) (k : kOk it σ H) (h : tE K T P C d E (.comp m elt own tg it cond) σ H Q) :
    tLc (tI K T P C d E it) (tG K T tg) (tTo K T P C d cond) (tE K T P C d EF elt) own σ H Q := by
  obtain ⟨ρ, S, en, r, n, p⟩ := h
  simp only [ev] at p
  obtain ⟨ρ', S', en', r', n', k', p'⟩ := PR.stepI (σ := σ) r n k p
  refine ⟨ρ', S', en', r', n', k', p'.imp (fun J H1 q D hD => ?_) fun _ _ _ z => z⟩
  obtain ⟨ρ1, l, s1, e1, r1, hJ, n1, p1⟩ := q
  have e12 : Ext ρ1 H1 (ρ1 ++ [some D]) (upd H1 D (.lst [])) := ext_push hD
  have r2 : Rl K T (ρ1 ++ [some D]) (s1 ++ [.lst []]) (upd H1 D (.lst [])) := rl_push r1 hD (.lst upd_same .nil) rfl
  have hDn : (ρ1 ++ [some D])[s1.length]? = some (some D) := by
    rw [← r1.len, List.getElem?_append_right (Nat.le_refl _), Nat.sub_self]
    rfl
  refine ⟨fun i mm Hc => mm = l.length - i ∧ i ≤ l.length ∧ ∃ ρc Sc, Ext (ρ1 ++ [some D]) (upd H1 D (.lst [])) ρc Hc ∧ Rl K T ρc Sc Hc ∧
    PR K T ρ1 H1 (VR K T) E Q ((compL (evC P C d cond) (ev P C d elt) tg (wipeE en own) s1.length (l.drop i) Sc).bind fun _ s' => made m s1.length s'), ⟨l.length, by simp, Nat.zero_le _, _, _, Ext.refl _ _, r2, p1⟩, ?_⟩
  rintro i mm Hc ⟨rfl, hi, ρc, Sc, ec, rc, pc⟩
  have e1c := e12.trans ec
  by_cases hlt : i < l.length
  · obtain ⟨go, yl⟩ := (hJ ρc Hc e1c).1 i hlt
    rw [List.drop_eq_getElem_cons hlt] at pc
    simp only [compL] at pc
    split at pc
    · exact pc.elim
    · rename_i en2 hen2
      refine .inr ⟨go, fun H' => i + 1 ≤ l.length ∧ ∃ ρc Sc, Ext (ρ1 ++ [some D]) (upd H1 D (.lst [])) ρc H' ∧ Rl K T ρc Sc H' ∧
        PR K T ρ1 H1 (VR K T) E Q ((compL (evC P C d cond) (ev P C d elt) tg (wipeE en own) s1.length (l.drop (i + 1)) Sc).bind fun _ s' => made m s1.length s'), fun H' q => ⟨l.length - (i + 1), by omega, rfl, q.1, q.2⟩, fun x H' y => ?_⟩
      obtain ⟨ex, rx, w', hw', vx⟩ := yl x H' y Sc rc
      have ew : l[i] = w' := by
        rw [List.getElem?_eq_getElem hlt] at hw'
        exact Option.some.inj hw'
      have ecx := ec.trans ex
      refine ⟨ρc, Sc, w', wipeE en own, en2, rx, ((n1.mono r1 e1c).mono rc ex).wipe own, vx, by rw [← ew]; exact hen2, fun σ2 n2 f2 l2 => ⟨wipe_again (by rw [l2, wipe_length]) fun j hj => f2 j fun z => hj (ho j z), ?_⟩⟩
      -- the test
      have go3 : ∀ b ρ3 s3 H3, evC P C d cond en2 Sc = .ok b s3 → Ext ρc H' ρ3 H3 → Rl K T ρ3 s3 H3 → EnvR K T ρ3 H3 en2 σ2 → (if b = true then tE K T P C d EF elt σ2 H3 fun y H4 => ∃ acc, H4 D = some (.lst acc) ∧ acc.length < sizeLine ∧ (fun H' => i + 1 ≤ l.length ∧ ∃ ρc Sc, Ext (ρ1 ++ [some D]) (upd H1 D (.lst [])) ρc H' ∧ Rl K T ρc Sc H' ∧
        PR K T ρ1 H1 (VR K T) E Q ((compL (evC P C d cond) (ev P C d elt) tg (wipeE en own) s1.length (l.drop (i + 1)) Sc).bind fun _ s' => made m s1.length s')) (upd H4 D (.lst (acc ++ [y]))) else (fun H' => i + 1 ≤ l.length ∧ ∃ ρc Sc, Ext (ρ1 ++ [some D]) (upd H1 D (.lst [])) ρc H' ∧ Rl K T ρc Sc H' ∧
        PR K T ρ1 H1 (VR K T) E Q ((compL (evC P C d cond) (ev P C d elt) tg (wipeE en own) s1.length (l.drop (i + 1)) Sc).bind fun _ s' => made m s1.length s')) H3) := by
        intro b ρ3 s3 H3 hb e3 r3 n3
        rw [hb] at pc
        cases b with
        | false => exact ⟨hlt, ρ3, s3, ecx.trans e3, r3, pc⟩
        | true =>
          refine ⟨ρ3, s3, en2, r3, n3, ?_⟩
          simp only at pc
          cases hx : ev P C d elt en2 s3 with
          | exc c ll s4 => rw [hx] at pc; exact pc.elim
          | stuck => rw [hx] at pc; exact pc.elim
          | ok z s4 =>
            rw [hx] at pc
            simp only at pc
            intro ρ4 H4 yv e4 r4 vy
            have e24 := (ecx.trans e3).trans e4
            split at pc
            · rename_i acc hacc
              split at pc
              · rename_i hz
                have hn4 : s1.length < ρ4.length := by
                  rw [r4.len]
                  exact (List.getElem?_eq_some_iff.mp hacc).1
                have oo := r4.at_ s1.length _ _ (List.getElem?_eq_getElem hn4) hacc
                generalize hq : ρ4[s1.length] = xa at oo
                cases oo with
                | @lst a vs _ hH hs =>
                  have hra : ρ4[s1.length]? = some (some a) := by rw [List.getElem?_eq_getElem hn4, hq]
                  have ea := at_D e24 hDn hra
                  subst ea
                  have hl := hs.length
                  have h3 := lim_lt hz.1
                  refine ⟨vs, hH, by omega, hlt, ρ4, _, e24.trans (ext_write hra), rl_write r4 hra (.lst upd_same ((hs.append (.cons vy .nil)).mono r4 (ext_write hra))) (lows_append (lows_of r4 hacc) (by simp [W.lows, hz.2])), pc⟩
              · exact pc.elim
            · exact pc.elim
      have n2c : EnvR K T ρc H' en2 σ2 := n2
      cases cond with
      | none => exact go3 true ρc Sc H' rfl (Ext.refl _ _) rx n2c
      | some t =>
        refine ⟨ρc, Sc, en2, rx, n2c, ?_⟩
        cases hb : (ev P C d t en2 Sc).bind test with
        | exc c ll s4 =>
          have hb' : evC P C d (some t) en2 Sc = .exc c ll s4 := hb
          rw [hb'] at pc
          exact pc.elim
        | stuck =>
          have hb' : evC P C d (some t) en2 Sc = .stuck := hb
          rw [hb'] at pc
          exact pc.elim
        | ok b s3 =>
          intro ρ3 H3 b' e3 r3 eb
          subst eb
          exact go3 _ ρ3 s3 H3 hb e3 r3 (n2c.mono rx e3)
  · have ei : i = l.length := by omega
    subst ei
    refine .inl ⟨(hJ ρc Hc e1c).2 _ (Nat.le_refl _), ?_⟩
    rw [List.drop_length] at pc
    have pc : PR K T ρ1 H1 (VR K T) E Q (made m s1.length Sc) := pc
    unfold made at pc
    split at pc
    · refine pc ρc Hc _ e1c rc (.ref ?_ fun a h => by rw [at_D ec hDn h])
      have := ec.len
      rw [List.length_append, r1.len, List.length_singleton] at this
      omega
    · split at pc
      · rename_i hlen
        have hn : s1.length < ρc.length := by rw [rc.len]; omega
        have noD : ∀ a, ρc[s1.length]? = some (some a) → ¬ Own.has (ρc.take s1.length) a := fun a ha ⟨j, hj⟩ => by
          rw [List.getElem?_take] at hj
          split at hj
          · rename_i hlt
            have := rc.inj j s1.length a hj ha
            omega
          · cases hj
        split at pc
        · rename_i acc hacc
          have oo := rc.at_ s1.length _ _ (List.getElem?_eq_getElem hn) hacc
          generalize hq : ρc[s1.length] = xa at oo
          cases oo with
          | @lst a vs _ hH hs =>
            have hra : ρc[s1.length]? = some (some a) := by rw [List.getElem?_eq_getElem hn, hq]
            have ea := at_D ec hDn hra
            subst ea
            exact pc _ _ _ (ext_cut e1c r1.len.symm) (rl_cut rc) (.lst (noD _ hra) (.inl hH) (hs.cut _ (lows_of rc hacc)))
        · rename_i acc hacc
          have oo := rc.at_ s1.length _ _ (List.getElem?_eq_getElem hn) hacc
          generalize hq : ρc[s1.length] = xa at oo
          cases oo with
          | @dct a vs _ hH hs =>
            have hra : ρc[s1.length]? = some (some a) := by rw [List.getElem?_eq_getElem hn, hq]
            have ea := at_D ec hDn hra
            subst ea
            exact pc _ _ _ (ext_cut e1c r1.len.symm) (rl_cut rc) (.dct (noD _ hra) (.inl hH) (hs.cut _ (lowd_of rc hacc)))
        · exact pc.elim
      · exact pc.elim
end
end BK

set_option maxRecDepth 100000
set_option maxHeartbeats 2000000
/-! B4g: comprehensions as values, fields, dicts that are written, classes that are called. -/
namespace BK
open PySem PySem.Spec PyProof.Rows L2
def blkB (N : List Str) (sc scope : Scope) (own : List Nat) : Bool :=
  (scope.kind == .function) && (scope.names.all (fun y => scope.names.lookup y.1 == some y.2) && (own.all (fun i => (N[i]?).isSome) &&
    (scope.names.all (fun y => !(y.2 == .free) || (sc.names.lookup y.1 == some .cell || sc.names.lookup y.1 == some .free)) &&
      scope.names.all (fun y => !(y.2 == .local || y.2 == .cell) || ((own.filterMap (N[·]?)).contains y.1 || !N.contains y.1)))))
section
variable {prog : Program} {w : World} {K : PySem.W.Frag} {mg : Str → Option Value} {base : Heap} {CX : CXT} {T : Adr} {P : Pg} {M : Nm} {C : Nat → List W → Sto → R W} {d : Nat} {N : List Str} {s : Pl} {E : XK} {X : Cx}
def ownP (N : List Str) (own : List Nat) : List (Str × Nat) := own.map fun i => ((N[i]?).getD "", i)
theorem blkB_ok {sc scope : Scope} {own : List Nat} (h : blkB N sc scope own = true) : BlkOk N sc scope (ownP N own) := by
  unfold blkB at h
  simp only [Bool.and_eq_true] at h
  obtain ⟨h1, h2, h3, h4, h5⟩ := h
  refine ⟨by simpa using h1, fun y hy => by simpa using List.all_eq_true.mp h2 y hy, fun p hp => ?_, fun y hy hf => ?_, fun y hy hf => ?_⟩
  · obtain ⟨i, hi, rfl⟩ := List.mem_map.mp hp
    have := List.all_eq_true.mp h3 i hi
    obtain ⟨x, hx⟩ := Option.isSome_iff_exists.mp this
    simp [hx]
  · have := List.all_eq_true.mp h4 y hy
    simpa [hf] using this
  · have := List.all_eq_true.mp h5 y hy
    have hb : (y.2 == NameKind.local || y.2 == NameKind.cell) = true := by rcases hf with q | q <;> simp [q]
    rw [hb] at this
    simp only [Bool.not_true, Bool.false_or, Bool.or_eq_true, Bool.not_eq_true', List.contains_eq_mem, decide_eq_true_eq, decide_eq_false_iff_not] at this
    rcases this with q | q
    · obtain ⟨i, hi, e⟩ := List.mem_filterMap.mp q
      exact .inl (List.mem_map.mpr ⟨(y.1, i), List.mem_map.mpr ⟨i, hi, by rw [e]; rfl⟩, rfl⟩)
    · exact .inr q
theorem ownP_snd (own : List Nat) : (ownP N own).map (·.2) = own := by simp [ownP, Function.comp_def]
/-- the place in a block -/
def blkPl (scope : Scope) (s : Pl) : Pl := ⟨relS scope s.sc, fun x => scope.names.lookup x == some .cell⟩
theorem go_blk (th : Th prog w K mg base CX T P M C d) (g : Go prog w K mg base CX d N s E X) (scope : Scope) (sh : Shared) (H : Hp) (cl : List (Str × Addr)) (A : Addr) (fp : List Addr) : Go prog w K mg base CX d N (blkPl scope s) EF (X.blk sh H scope (compEnvC scope cl A X.env) fp) where
  hprog := g.hprog
  hw := g.hw
  hK := g.hK
  hmg := g.hmg
  hbase := g.hbase
  hN := g.hN
  nd := g.nd
  sc := by
    show relS scope X.env.scope = relS scope s.sc
    rw [g.sc]
  so := fun x h => h
  calm := g.calm
  room := g.room
  pas := fun pins σ H s e s' _ h => th.cxF _ _ _ _ _ h
  own := PassesOwn.never
theorem PE.or {e : Expr} {t t' : TE} (h : PE X e t) (h' : PE X e t') : PE X e (fun σ H Q => t σ H Q ∨ t' σ H Q) := ⟨fun pins s σ H Q I q => q.elim (h.run pins s σ H Q I) (h'.run pins s σ H Q I)⟩
theorem PS.or {e : Stmt} {t t' : TS} (h : PS X e t) (h' : PS X e t') : PS X e (fun σ H Q => t σ H Q ∨ t' σ H Q) := ⟨fun pins s σ H Q I q => q.elim (h.run pins s σ H Q I) (h'.run pins s σ H Q I)⟩
theorem compL_noexc {cond : Env → Sto → R Bool} {elt : Env → Sto → R W} {tg : Tg} {e0 : Env} {n : Nat} : ∀ {l : List W} {s : Sto} {c : Nat} {fs : List (Str × W)} {s' : Sto}, compL cond elt tg e0 n l s ≠ .exc c fs s'
  | [], _, _, _, _, h => by cases h
  | w :: l, s, c, fs, s', h => by
    simp only [compL] at h
    split at h
    · cases h
    · split at h
      · split at h
        · split at h
          · split at h
            · exact compL_noexc h
            · cases h
          · cases h
        · cases h
      · exact compL_noexc h
      · cases h
theorem made_noexc {m : Bool} {n : Nat} {s : Sto} {c : Nat} {fs : List (Str × W)} {s' : Sto} : made m n s ≠ .exc c fs s' := fun h => by
  unfold made at h
  split at h
  · cases h
  · split at h
    · split at h <;> cases h
    · cases h
/-- an answer under a lock -/
theorem PR.lock {ρ : Own} {H : Hp} {r : R W} {Q : VK} {dd : Addr} {kvs : List (Key × V)} {od : Obj} (p : PR K T ρ H (VR K T) E Q r) (no : ∀ c l s, r ≠ .exc c l s) (h : H dd = some (.dK kvs)) (n : ¬ ρ.has dd) :
    PR K T ρ (upd H dd (.frz od (.dK kvs))) (VR K T) E (fun v H' => H' dd = some (.frz od (.dK kvs)) ∧ Q v (upd H' dd (.dK kvs))) r := by
  cases r with
  | stuck => exact p
  | exc c l s => exact absurd rfl (no c l s)
  | ok a s =>
    intro ρ' H' b e r' v
    have hf : H' dd = some (.frz od (.dK kvs)) := e.keep _ _ upd_same n
    have n' : ¬ ρ'.has dd := e.has upd_same n
    refine ⟨hf, p ρ' _ b (e.unlock h n) (r'.lk (lk_free hf) fun a o ha hq => ?_) (v.lk (lk_free hf))⟩
    rw [upd_ne (show a ≠ dd from fun z => n' (by rw [← z]; exact ha))]
    exact hq
theorem EnvR.lk {ρ : Own} {H H' : Hp} {en : Env} {σ : L2.St} (n : EnvR K T ρ H en σ) (k : Lk H H') : EnvR K T ρ H' en σ := ⟨n.1, fun i w h => by
  obtain ⟨v, h1, h2⟩ := n.2 i w h
  exact ⟨v, h1, h2.lk k⟩⟩
theorem comp_lock {m : Bool} {elt : Ex} {own : List Nat} {tg : Tg} {i : Nat} {cond : Option Ex} {σ : L2.St} {H : Hp} {Q : VK} (ho : ∀ j ∈ slotsT tg, j ∈ own) (h : tE K T P C d E (.comp m elt own tg (.keys i) cond) σ H Q) :
    tLc (tI K T P C d E (.keys i)) (tG K T tg) (tTo K T P C d cond) (tE K T P C d EF elt) own σ H Q ∨ tLockE (tLc (tI K T P C d E (.keys i)) (tG K T tg) (tTo K T P C d cond) (tE K T P C d EF elt) own) σ H Q := by
  obtain ⟨ρ, S, en, r, n, p⟩ := id h
  have p0 := p
  simp only [ev, evI] at p
  split at p
  · rename_i l hw
    obtain ⟨v, h5, h6⟩ := n.2 i _ hw
    cases h6 with
    | @dct a kvs _ hn hr hs =>
      rcases hr with hr | ⟨o, hr⟩
      · refine .inr ⟨a, .dK kvs, hr, trivial, fun od => ?_⟩
        refine comp_rd ho (fun d' hd' => ?_) ⟨ρ, S, en, r.lk (lk_lock hr) fun a' o ha hq => ?_, n.lk (lk_lock hr), PR.lock p0 (fun c fs s he => ?_) hr hn⟩
        · rw [h5] at hd'
          cases hd'
          exact ⟨od, kvs, upd_same⟩
        · rw [upd_ne (show a' ≠ a from fun z => hn (by rw [← z]; exact ha))]
          exact hq
        · simp only [ev, evI, hw, R.ok_bind] at he
          cases hc : compL (evC P C d cond) (ev P C d elt) tg (wipeE en own) S.length (keysW l) (S ++ [.lst []]) with
          | ok a s => rw [hc] at he; exact made_noexc he
          | exc c fs s => exact compL_noexc hc
          | stuck => rw [hc] at he; cases he
      · refine .inl (comp_rd ho (fun d' hd' => ?_) h)
        rw [h5] at hd'
        cases hd'
        exact ⟨o, kvs, hr⟩
  · exact p.elim
/-- both ways of reading one -/
def tCo (K : PySem.W.Frag) (T : Adr) (P : Pg) (C : Nat → List W → Sto → R W) (d : Nat) (E : XK) (elt : Ex) (own : List Nat) (tg : Tg) (it : It) (cond : Option Ex) : TE := tLc (tI K T P C d E it) (tG K T tg) (tTo K T P C d cond) (tE K T P C d EF elt) own
theorem comp_any {m : Bool} {elt : Ex} {own : List Nat} {tg : Tg} {it : It} {cond : Option Ex} {σ : L2.St} {H : Hp} {Q : VK} (ho : ∀ j ∈ slotsT tg, j ∈ own) (h : tE K T P C d E (.comp m elt own tg it cond) σ H Q) :
    tCo K T P C d E elt own tg it cond σ H Q ∨ tLockE (tCo K T P C d E elt own tg it cond) σ H Q := by
  cases it with
  | keys i => exact comp_lock ho h
  | _ => exact .inl (comp_rd ho trivial h)
theorem pts_of {cond : Option Ex} {ifs : List Expr} (h : (cond = none ∧ ifs = []) ∨ ∃ t c, cond = some t ∧ ifs = [c] ∧ EOk K T P C d EF X t c) : PTs X ifs (tTo K T P C d cond) := by
  rcases h with ⟨rfl, rfl⟩ | ⟨t, c, rfl, rfl, h⟩
  · exact pts_nil
  · exact pts_one h.pt
theorem E_comp (th : Th prog w K mg base CX T P M C d) (g : Go prog w K mg base CX d N s E X) {m : Bool} {elt : Ex} {own : List Nat} {tg : Tg} {it : It} {cond : Option Ex} {ee te ie : Expr} {ifs : List Expr} {scope : Scope} {pos : Pos} (hb : blkB N s.sc scope own = true) (ho : ∀ j ∈ slotsT tg, j ∈ own)
    (hi : PI X te ie (tI K T P C d E it)) (hs : ∀ env x, foldedSetIterable ie env x = pure x) (ht : chkTg N (blkPl scope s) tg te = true)
    (he : ∀ X', Go prog w K mg base CX d N (blkPl scope s) EF X' → EOk K T P C d EF X' elt ee) (hc : ∀ X', Go prog w K mg base CX d N (blkPl scope s) EF X' → (cond = none ∧ ifs = []) ∨ ∃ t c, cond = some t ∧ ifs = [c] ∧ EOk K T P C d EF X' t c) :
    EOk K T P C d E X (.comp m elt own tg it cond) (.ListComp ee [⟨te, ie, ifs, 0⟩] scope pos) := by
  have ok : BlkOk X.N X.env.scope scope (ownP N own) := by
    rw [g.hN, g.sc]
    exact blkB_ok hb
  have base : PE X (.ListComp ee [⟨te, ie, ifs, 0⟩] scope pos) (tCo K T P C d E elt own tg it cond) := by
    have := pe_lc (pos := pos) g.calm (by rw [g.hN]; exact g.nd) hi ok (fun sh H A cl fp => (pg_ok (T := T) (go_blk th g scope sh H cl A fp) tg te ht).1) (fun sh H A cl fp => pts_of (hc _ (go_blk th g scope sh H cl A fp))) (fun sh H A cl fp => (he _ (go_blk th g scope sh H cl A fp)).pe) (hs _)
    rw [ownP_snd] at this
    exact this
  exact EOk.val (PEi (PE.or base (pe_lock base)) fun σ H Q q => comp_any ho q) (fun _ _ => rfl) rfl (fun _ _ => rfl)
/-- name = [..] on one line -/
theorem S_comp (th : Th prog w K mg base CX T P M C d) (g : Go prog w K mg base CX d N s E X) {i : Nat} {y : Str} {m : Bool} {elt : Ex} {own : List Nat} {tg : Tg} {it : It} {cond : Option Ex} {ee te ie : Expr} {ifs : List Expr} {scope : Scope} {pos py spos : Pos} (hb : blkB N s.sc scope own = true) (ho : ∀ j ∈ slotsT tg, j ∈ own)
    (hi : PI X te ie (tI K T P C d E it)) (hs : ∀ env x, foldedSetIterable ie env x = pure x) (ht : chkTg N (blkPl scope s) tg te = true)
    (he : ∀ X', Go prog w K mg base CX d N (blkPl scope s) EF X' → EOk K T P C d EF X' elt ee) (hc : ∀ X', Go prog w K mg base CX d N (blkPl scope s) EF X' → (cond = none ∧ ifs = []) ∨ ∃ t c, cond = some t ∧ ifs = [c] ∧ EOk K T P C d EF X' t c)
    (hy : N[i]? = some y) (hyl : s.sc.names.lookup y = some .local) (hsw : swapsWith (.ListComp ee [⟨te, ie, ifs, 0⟩] scope pos) (some (.Name y py)) spos.line X.env = pure true) :
    PS X (.Assign [.Name y py] (.ListComp ee [⟨te, ie, ifs, 0⟩] scope pos) spos) (fun D σ H => tAsg (tCo K T P C d E elt own tg it cond) (gName i) D σ H ∨ tLock (tAsg (tCo K T P C d E elt own tg it cond) (gName i)) D σ H) := by
  have ok : BlkOk X.N X.env.scope scope (ownP N own) := by
    rw [g.hN, g.sc]
    exact blkB_ok hb
  have base : PS X (.Assign [.Name y py] (.ListComp ee [⟨te, ie, ifs, 0⟩] scope pos) spos) (tAsg (tCo K T P C d E elt own tg it cond) (gName i)) := by
    have := ps_setLc (i := i) (pos := pos) (py := py) (spos := spos) (y := y) g.calm (by rw [g.hN]; exact g.nd) (by rw [g.hN]; exact hy) (by rw [g.sc]; exact hyl) hsw hi ok (fun sh H A cl fp => (pg_ok (T := T) (go_blk th g scope sh H cl A fp) tg te ht).1) (fun sh H A cl fp => pts_of (hc _ (go_blk th g scope sh H cl A fp))) (fun sh H A cl fp => (he _ (go_blk th g scope sh H cl A fp)).pe) (hs _)
    rw [ownP_snd] at this
    exact this
  exact PS.or base (ps_lock base)
/-! ### a field -/
theorem E_fld (th : Th prog w K mg base CX T P M C d) (g : Go prog w K mg base CX d N s E X) {x : Ex} {f : Str} {o : Expr} {pos : Pos} (hb : plainO o = true) (h : EOk K T P C d E X x o) : EOk K T P C d E X (.fld x f) (.Attribute o f pos) := by
  refine EOk.val ⟨fun pins s σ H Q I ⟨ρ, S, en, r, n, p⟩ => ?_⟩ (fun _ _ => rfl) rfl (fun _ _ => rfl)
  simp only [ev] at p
  refine attr_of (base_plain hb _ _) (thn (h.pe.run pins s σ H _ I (PR.step r n p)) fun u s1 ⟨v, H1, I1, rv, ρ1, wa, s2, e1, r1, va, n1, p1⟩ => ?_)
  cases wa with
  | exn c l =>
    simp only at p1
    split at p1
    · rename_i hf
      obtain ⟨wv, hl, p2⟩ := okw_some p1
      obtain ⟨hC, hno⟩ := th.glo.facts.fl c f hf
      cases va with
      | exn0 _ _ => cases hl
      | @exn a dd _ fs _ na nd ha hd hfs =>
        obtain ⟨vv, h1, h2⟩ := hfs.look hl
        obtain rfl : u = Value.ref a := rv
        obtain ⟨t1, ho⟩ := exo_at I1.hok ha
        obtain ⟨mA, hns, hr⟩ := exd_at I1.hok hd
        obtain ⟨od, hod, hlk⟩ := lookIn_ns hns
        obtain ⟨u2, hu, ru⟩ := RelO.some_of (v := vv) (o := mA f) (by rw [← h1]; exact hr f)
        have J : PySem.W.InstAt s1.heap a { cls := .ref (T.cls c), dict := some dd, data := .fields #[.ref t1, .none, .none, .none, .bool false, .none] } (T.cls c) (some od) := ⟨ho, rfl, rfl, hod⟩
        rw [← g.hK] at hC hno
        exact HandSPX.exc_get I1.kIn J hC.hg hC.hk hC.hs (PySem.W.findObj_own hC.hd hno rfl (by rw [hlk, hu])) (handed_of ru) ⟨vv, H1, I1.tok _, ru, PR.here r1 p2 h2⟩
    · exact p1.elim
  | _ => exact p1.elim
/-! ### classes -/
theorem E_mk (th : Th prog w K mg base CX T P M C d) (g : Go prog w K mg base CX d N s E X) {k : Nat} {xs : List Ex} {x : Str} {l : List Expr} {p pos : Pos} (hf : M.CN[k]? = some x) (hg : glB s.sc x = true) (hx : Paired (EOk K T P C d E X) xs l) : EOk K T P C d E X (.mk k xs) (.Call (.Name x p) l [] pos) := by
  obtain ⟨g1, g2⟩ := glB_ok g hg
  have hm : X.mg x = some (.ref (T.cls k)) := by rw [g.hmg]; exact th.glo.cl k x hf
  have hk : PySem.W.keepIn X.K (.ref (T.cls k)) = true := by rw [g.hK]; exact th.kp k x hf
  have hc := th.mkc X g.hprog g.hw g.hK g.hmg g.hbase g.room k
  refine EOk.val ⟨fun pins s σ H Q I ⟨ρ, S, en, r, n, q⟩ => ?_⟩ (fun _ _ => rfl) rfl (fun _ _ => rfl)
  simp only [ev] at q
  refine wpAny_Call_Name_kw (ld_glob I g1 hm ?_ g2)
  cases hx with
  | nil =>
    have q' := PR.stepA (P := P) (C := C) (d := d) (x := []) r n q
    obtain ⟨ρ', S', en', r', n', p'⟩ := q'
    obtain ⟨ρ1, ws, s1, e1, r1, va, n1, p1⟩ := PR.here r' p' .nil
    exact PySem.W.callWith_K0 I.kIn hk (hc pins s σ H [] [] Q I .nil ⟨ρ1, s1, ws, E, r1, va, p1⟩)
  | cons h1 ht =>
    refine PySem.W.callWith_K (h₀ := X.base) I.ok.mod.kin hk (thn ((pa_of (.cons h1 ht)).run pos pins s σ H _ I (PR.stepA r n q)) fun us s1 ⟨vs, H1, I1, rv, ρ1, ws, s2, e1, r1, va, n1, p1⟩ => ⟨I1.kIn, ?_⟩) (h1.ns _ _) (nostar_any ht)
    exact hc pins s1 σ H1 vs us Q I1 rv ⟨ρ1, s2, ws, E, r1, va, p1⟩
theorem pk_of : ∀ {xs : List Ex} {kws : List Keyword}, Paired (EOk K T P C d E X) xs (kws.map fun k => k.value) → PK X kws (tAs K T P C d E xs)
  | _, [], .nil => by
    refine ⟨fun pos pins s σ H Q I ⟨ρ, S, en, r, n, p⟩ => pk_nil.run pos pins s σ H Q I (PR.here r p .nil)⟩
  | _, ⟨nm, e, kpos⟩ :: kws, .cons h t => by
    have := pk_cons (nm := nm) (kpos := kpos) h.pe (pk_of t)
    refine ⟨fun pos pins s σ H Q I ⟨ρ, S, en, r, n, p⟩ => this.run pos pins s σ H Q I ?_⟩
    simp only [evs] at p
    refine tE.imp (PR.step r n p) fun v H1 ⟨ρ1, wa, s, e1, r1, va, n1, h1⟩ => ?_
    refine tAs.imp (PR.stepA r1 n1 h1) fun u H2 ⟨ρ2, wb, s2, e2, r2, vb, n2, h2⟩ => ?_
    exact PR.here r2 h2 (.cons (va.mono r1 e2) vb)
theorem kw_names {kws : List Keyword} {ks : List Str} {env : PySem.Env} {pos : Pos} (h : kws.map (fun k => k.arg) = ks.map some) : (backToKw pos (keywordEach kws env)).all (·.1.isSome) = true ∧ (backToKw pos (keywordEach kws env)).filterMap (·.1) = ks ∧ (backToKw pos (keywordEach kws env)).any (·.1.isNone) = false := by
  induction kws generalizing ks with
  | nil =>
    cases ks with
    | nil => exact ⟨rfl, rfl, rfl⟩
    | cons _ _ => simp at h
  | cons k kws ih =>
    obtain ⟨nm, e, kp⟩ := k
    cases ks with
    | nil => simp at h
    | cons x ks =>
      simp only [List.map_cons, List.cons.injEq] at h
      obtain ⟨rfl, h⟩ := h
      obtain ⟨h1, h2, h3⟩ := ih h
      refine ⟨?_, ?_, ?_⟩
      · show (true && (backToKw pos (keywordEach kws env)).all (·.1.isSome)) = true
        rw [h1]; rfl
      · show x :: (backToKw pos (keywordEach kws env)).filterMap (·.1) = _
        rw [h2]
      · show (false || (backToKw pos (keywordEach kws env)).any (·.1.isNone)) = false
        rw [h3]; rfl
theorem E_mkk (th : Th prog w K mg base CX T P M C d) (g : Go prog w K mg base CX d N s E X) {k : Nat} {o : List Nat} {xs : List Ex} {x : Str} {ns : List Str} {kws : List Keyword} {p pos : Pos} (hf : M.CN[k]? = some x) (hn : P.cps k = some ns) (hko : (k, o) ∈ M.KW) (hkw : kws.map (fun k => k.arg) = (o.filterMap (ns[·]?)).map some) (hg : glB s.sc x = true)
    (hx : Paired (EOk K T P C d E X) xs (kws.map fun k => k.value)) : EOk K T P C d E X (.mkk k o xs) (.Call (.Name x p) [] kws pos) := by
  obtain ⟨g1, g2⟩ := glB_ok g hg
  have hm : X.mg x = some (.ref (T.cls k)) := by rw [g.hmg]; exact th.glo.cl k x hf
  have hk : PySem.W.keepIn X.K (.ref (T.cls k)) = true := by rw [g.hK]; exact th.kp k x hf
  have hc := th.mkk X g.hprog g.hw g.hK g.hmg g.hbase g.room k ns o hn hko
  refine EOk.val ⟨fun pins s σ H Q I ⟨ρ, S, en, r, n, q⟩ => ?_⟩ (fun _ _ => rfl) rfl (fun _ _ => rfl)
  simp only [ev] at q
  refine wpAny_Call_Name_kw (ld_glob I g1 hm ?_ g2)
  obtain ⟨k1, k2, k3⟩ := kw_names (env := X.env) (pos := pos) hkw
  refine PySem.W.callWith_KW0 (h₀ := X.base) I.ok.mod.kin hk k1 (thn ((pk_of hx).run pos pins s σ H _ I (PR.stepA r n q)) fun us s1 ⟨vs, H1, I1, rv, ρ1, ws, s2, e1, r1, va, n1, p1⟩ => ⟨I1.kIn, ?_⟩) (by rw [k3]; rfl)
  rw [k2]
  exact hc pins s1 σ H1 vs us Q I1 rv ⟨ρ1, s2, ws, E, r1, va, p1⟩
end
end BK

set_option maxRecDepth 100000
set_option maxHeartbeats 4000000
/-! B4h: all expressions. -/
namespace BK
open PySem PySem.Spec PyProof.Rows L2
def dictParts : List (Option Expr) → List Expr → Option (List Expr)
  | [], [] => some []
  | some k :: ks, v :: vs => (dictParts ks vs).map fun l => k :: v :: l
  | _, _ => none
def popB (p : Pr) (m : Str) (l : List Expr) : Bool := decide (p = .popD) && (decide (m = "pop") && decide (l.length = 1))
def isTup : Expr → Bool
  | .Tuple .. => true
  | _ => false
def isSet : Expr → Bool
  | .Set .. => true
  | _ => false
def isCall : Expr → Bool
  | .Call .. => true
  | _ => false
section
variable (M : Nm) (N : List Str) (CP : Nat → Option (List Str))
mutual
def chk : Ex → Pl → Expr → Bool
  | .var i, s, e => chkVar N s.sc i e
  | .lit w, s, e => chkLit M s.sc w e
  | .frz i, s, e => chkVar N s.sc i e
  | .brw _ a, s, e => isCall e && chk a s e
  | .pr p es, s, e => (match parts s.sc p e with
    | some l => chks es s l
    | none => false)
  | .slc x y z, s, e => (match e with
    | .Subscript a (.Slice lo hi none _) _ => chk x s a && ((match lo with
      | none => isNon y
      | some l => chk y s l) && (match hi with
      | none => isNon z
      | some l => chk z s l))
    | _ => false)
  | .and a b, s, e => (match e with
    | .BoolOp .And (x :: y :: z) pos => chk a s x && chk b s (if z.isEmpty then y else .BoolOp .And (y :: z) pos)
    | _ => false)
  | .or a b, s, e => (match e with
    | .BoolOp .Or (x :: y :: z) pos => chk a s x && chk b s (if z.isEmpty then y else .BoolOp .Or (y :: z) pos)
    | _ => false)
  | .not a, s, e => (match e with
    | .UnaryOp .Not x _ => chk a s x
    | _ => false)
  | .ifx t a b, s, e => (match e with
    | .IfExp x y z _ => chk t s x && (chk a s y && chk b s z)
    | _ => false)
  | .call f es, s, e => (match e with
    | .Call (.Name x _) l [] _ => decide (M.FN[f]? = some x) && (glB s.sc x && chks es s l)
    | _ => false)
  | .mk k es, s, e => (match e with
    | .Call (.Name x _) l [] _ => decide (M.CN[k]? = some x) && (glB s.sc x && chks es s l)
    | _ => false)
  | .mkk k o es, s, e => (match e with
    | .Call (.Name x _) [] kws _ => decide (M.CN[k]? = some x ∧ (k, o) ∈ M.KW) && ((match CP k with
      | some ns => decide (kws.map (fun k => k.arg) = (o.filterMap (ns[·]?)).map some)
      | none => false) && (glB s.sc x && chks es s (kws.map fun k => k.value)))
    | _ => false)
  | .fld a f, s, e => (match e with
    | .Attribute o g _ => decide (f = g) && (plainO o && chk a s o)
    | _ => false)
  | .mth p o es, s, e => (match e with
    | .Call (.Attribute oe m apos) l [] cpos => (decide (mthFn p = some m) || popB p m l) && (apos.endLine == cpos.line && (decide (l.length < 20) && (plainO oe && (chk o s oe && chks es s l))))
    | _ => false)
  | .chn p q x y z, s, e => (match e with
    | .Compare a [op, op'] [b, c] _ => decide (cmpPr op = some p ∧ cmpPr op' = some q) && (!lastMarks [op, op'] [b, c] && (chk x s a && (chk y s b && chk z s c)))
    | _ => false)
  | .disp _ es, s, e => (match e with
    | .Dict keys values _ => decide (keys ≠ [] ∧ keys.length ≤ 15) && (match dictParts keys values with
      | some l => chks es s l
      | none => false)
    | _ => false)
  | .comp _ elt own tg it cond, s, e => (match e with
    | .ListComp ee [⟨te, ie, ifs, a⟩] scope _ => decide (a = 0) && (blkB N s.sc scope own && ((slotsT tg).all own.contains && (chkTg N (blkPl scope s) tg te && (chkI it s te ie && (chk elt (blkPl scope s) ee && chkC cond (blkPl scope s) ifs)))))
    | _ => false)
  | _, _, _ => false
def chkI : It → Pl → Expr → Expr → Bool
  | .seq x, s, _, ie => !isSet ie && chk x s ie
  | .keys i, s, _, ie => chkVar N s.sc i ie
  | .range xs, s, _, ie => (match ie with
    | .Call (.Name x _) l [] _ => decide (x = "range") && (glB s.sc "range" && (decide (l.length = 1 ∨ l.length = 2) && chks xs s l))
    | _ => false)
  | .enum x, s, te, ie => isTup te && (match ie with
    | .Call (.Name y _) [a] [] _ => decide (y = "enumerate") && (glB s.sc "enumerate" && chk x s a)
    | _ => false)
  | .zip xs, s, te, ie => isTup te && (match ie with
    | .Call (.Name y _) [a, b] [] _ => decide (y = "zip") && (glB s.sc "zip" && chks xs s [a, b])
    | _ => false)
def chkC : Option Ex → Pl → List Expr → Bool
  | none, _, l => l.isEmpty
  | some t, s, l => (match l with
    | [c] => chk t s c
    | _ => false)
def chks : List Ex → Pl → List Expr → Bool
  | [], _, l => l.isEmpty
  | x :: xs, s, l => (match l with
    | e :: es => chk x s e && chks xs s es
    | _ => false)
end
end
section
variable {prog : Program} {w : World} {K : PySem.W.Frag} {mg : Str → Option Value} {base : Heap} {CX : CXT} {T : Adr} {P : Pg} {M : Nm} {C : Nat → List W → Sto → R W} {d : Nat} {N : List Str} {s : Pl} {E : XK} {X : Cx}
theorem PR.bl {ρ : Own} {H : Hp} {γ δ : Type} {rel : Own → Hp → γ → δ → Prop} {Q : δ → Hp → Prop} {r : R W} {f : Bool → Sto → R γ} (h : PR K T ρ H rel E Q (r.bind fun w s => (BK.test w s).bind f)) :
    PR K T ρ H (VR K T) E (fun v H1 => ∃ b, v = .bl b ∧ ∃ ρ1 s, Ext ρ H ρ1 H1 ∧ Rl K T ρ1 s H1 ∧ PR K T ρ1 H1 rel E Q (f b s)) r :=
  (PR.bind h).imp (fun v H1 ⟨ρ1, a, s, _, e, r1, va, p⟩ => by
    obtain ⟨b, rfl, p⟩ := PR.test p
    exact ⟨b, va.bl_inv, ρ1, s, e, r1, p⟩) fun _ _ _ z => z
theorem PR.ret {ρ : Own} {H : Hp} {α β : Type} {rel : Own → Hp → α → β → Prop} {Q : β → Hp → Prop} {r : R α} (h : PR K T ρ H rel E Q r) : PR K T ρ H rel E Q (r.bind fun a s => R.ok a s) := by
  cases r <;> exact h
theorem E_chn (g : Go prog w K mg base CX d N s E X) {p q : Pr} {x y z : Ex} {op op' : CmpOp} {a b c : Expr} {pos : Pos} (hp : cmpPr op = some p) (hq : cmpPr op' = some q) (hm : lastMarks [op, op'] [b, c] = false) (h1 : EOk K T P C d E X x a) (h2 : EOk K T P C d E X y b) (h3 : EOk K T P C d E X z c) :
    EOk K T P C d E X (.chn p q x y z) (.Compare a [op, op'] [b, c] pos) := by
  have rd : ∀ σ H Q, tE K T P C d E (.chn p q x y z) σ H Q → tChain (rP2 K T (prim P p)) (rP2 K T (prim P q)) (tE K T P C d E x) (tE K T P C d E y) (tE K T P C d E z) σ H Q := fun σ H Q ⟨ρ, S, en, r, n, pp⟩ => by
    simp only [ev] at pp
    refine tE.imp (PR.step r n pp) fun v H1 ⟨ρ1, wa, s1, e1, r1, va, n1, p1⟩ => ?_
    refine tE.imp (PR.step r1 n1 p1) fun u H2 ⟨ρ2, wb, s2, e2, r2, vb, n2, p2⟩ => ?_
    refine ⟨ρ2, s2, wa, wb, E, r2, va.mono r1 e2, vb, (PR.bl p2).imp (fun t H3 ⟨k, ek, ρ3, s3, e3, r3, p3⟩ => ⟨k, ek, ?_⟩) fun _ _ _ z => z⟩
    cases k with
    | false => exact PR.here r3 p3 (.bl _)
    | true =>
      refine tE.imp (PR.step r3 (n2.mono r2 e3) p3) fun dd H4 ⟨ρ4, wd, s4, e4, r4, vd, n4, p4⟩ => ?_
      exact ⟨ρ4, s4, wb, wd, E, r4, (vb.mono r2 e3).mono r3 e4, vd, p4⟩
  exact ⟨PEi (pe_chain (cmp_ok g hp) (cmp_ok g hq) h1.pe h2.pe h3.pe hm) rd, PTi (pt_chain (cmp_ok g hp) (cmp_ok g hq) h1.pe h2.pe h3.pe hm) fun σ H Q h => rd σ H _ (tTest_of h), fun z => absurd z (by simp [isBoo]), fun _ _ => rfl⟩
/-! ### a dict that is written -/
def trsOf (K : PySem.W.Frag) (T : Adr) (P : Pg) (C : Nat → List W → Sto → R W) (d : Nat) (E : XK) : List Ex → List (TE × TE)
  | x :: y :: l => (tE K T P C d E x, tE K T P C d E y) :: trsOf K T P C d E l
  | _ => []
def flat (ps : List (V × V)) : List V := ps.flatMap fun p => [p.1, p.2]
theorem pps_ok {pos : Pos} : ∀ {keys : List (Option Expr)} {values : List Expr} {xs : List Ex} {l : List Expr}, dictParts keys values = some l → Paired (EOk K T P C d E X) xs l →
    PPs X pos keys values (trsOf K T P C d E xs) ∧ keys.all (·.isSome) = true ∧ keys.length = values.length ∧ xs.length = 2 * keys.length
  | [], [], xs, l, h, hx => by
    simp only [dictParts, Option.some.injEq] at h
    subst h
    cases hx
    exact ⟨pps_nil, rfl, rfl, rfl⟩
  | some k :: ks, v :: vs, xs, l, h, hx => by
    simp only [dictParts, Option.map_eq_some_iff] at h
    obtain ⟨l', h1, rfl⟩ := h
    cases hx with
    | cons hk ht =>
      cases ht with
      | cons hv ht =>
        obtain ⟨h2, h3, h4, h5⟩ := pps_ok h1 ht
        exact ⟨pps_cons hk.pe hv.pe h2, by simpa using h3, by simp [h4], by simp [h5]; omega⟩
  | [], _ :: _, _, _, h, _ => by simp [dictParts] at h
  | none :: _, _, _, _, h, _ => by simp [dictParts] at h
  | some _ :: _, [], _, _, h, _ => by simp [dictParts] at h
theorem tPairs_imp : ∀ {l : List Ex} {σ : L2.St} {H : Hp} {Q Q' : List (V × V) → Hp → Prop}, tPairs (trsOf K T P C d E l) σ H Q → (∀ ps H, Q ps H → Q' ps H) → tPairs (trsOf K T P C d E l) σ H Q'
  | [], _, _, _, _, h, g => g _ _ h
  | [_], _, _, _, _, h, g => g _ _ h
  | x :: y :: l, _, _, _, _, h, g => tE.imp h fun v H1 h1 => tE.imp h1 fun u H2 h2 => tPairs_imp h2 fun ps H3 h3 => g _ _ h3
theorem pairs_of {en : Env} {σ : L2.St} {γ δ : Type} {rel : Own → Hp → γ → δ → Prop} {Q : δ → Hp → Prop} : ∀ (n : Nat) {xs : List Ex} {f : List W → Sto → R γ} {ρ : Own} {S : Sto} {H : Hp}, xs.length = 2 * n → Rl K T ρ S H → EnvR K T ρ H en σ → PR K T ρ H rel E Q ((evs P C d xs en S).bind f) →
    tPairs (trsOf K T P C d E xs) σ H fun ps H2 => ps.length = n ∧ ∃ ρ2 ws s, Ext ρ H ρ2 H2 ∧ Rl K T ρ2 s H2 ∧ VRs K T ρ2 H2 ws (flat ps) ∧ PR K T ρ2 H2 rel E Q (f ws s)
  | 0, xs, f, ρ, S, H, hl, r, n, p => by
    cases xs with
    | nil => exact ⟨rfl, ρ, [], S, Ext.refl _ _, r, .nil, p⟩
    | cons _ _ => simp at hl
  | k + 1, xs, f, ρ, S, H, hl, r, n, p => by
    match xs, hl, p with
    | [], hl, _ => simp at hl
    | [_], hl, _ => simp at hl; omega
    | x :: y :: l, hl, p =>
      simp only [evs, R.bind_assoc, R.ok_bind] at p
      refine tE.imp (PR.step r n p) fun v H1 ⟨ρ1, wa, s1, e1, r1, va, n1, p1⟩ => ?_
      refine tE.imp (PR.step r1 n1 p1) fun u H2 ⟨ρ2, wb, s2, e2, r2, vb, n2, p2⟩ => ?_
      have ih := pairs_of k (xs := l) (f := fun ws s => f (wa :: wb :: ws) s) (by simp at hl; omega) r2 n2 p2
      exact tPairs_imp ih fun ps H3 ⟨hk, ρ3, ws, s3, e3, r3, vs, p3⟩ => ⟨by simp [hk], ρ3, wa :: wb :: ws, s3, (e1.trans e2).trans e3, r3, .cons ((va.mono r1 e2).mono r2 e3) (.cons (vb.mono r2 e3) vs), p3⟩
theorem disp_of {ρ : Own} {H : Hp} : ∀ {ps : List (V × V)} {ws : List W} {acc l : List (Key × W)} {acc' : List (Key × V)}, VRs K T ρ H ws (flat ps) → disp ws acc = some l → VRd K T ρ H acc acc' →
    ∃ kvs : List (Key × V), ps = kvs.map (fun kv => (kV kv.1, kv.2)) ∧ VRd K T ρ H l (mergeK acc' kvs)
  | [], ws, acc, l, acc', h, e, va => by
    cases h
    simp only [disp, Option.some.injEq] at e
    subst e
    exact ⟨[], rfl, va⟩
  | (k, v) :: ps, ws, acc, l, acc', h, e, va => by
    have h : VRs K T ρ H ws (k :: v :: flat ps) := h
    cases h with
    | cons hk ht =>
      cases ht with
      | cons hv ht =>
        simp only [disp, Option.bind_eq_some_iff] at e
        obtain ⟨kk, e1, e2⟩ := e
        obtain ⟨kvs, rfl, hl⟩ := disp_of ht e2 (va.put hv (k := kk))
        exact ⟨(kk, v) :: kvs, by rw [List.map_cons, keyOf_kV hk e1], hl⟩
theorem lowd_disp {i : Nat} : ∀ (n : Nat) {ws : List W} {acc l : List (Key × W)}, ws.length ≤ n → disp ws acc = some l → W.lows i ws = true → W.lowd i acc = true → W.lowd i l = true
  | n, [], acc, l, _, e, h, ha => by
    simp only [disp, Option.some.injEq] at e
    subst e
    exact ha
  | n, [_], acc, l, _, e, h, ha => by simp [disp] at e
  | 0, _ :: _ :: _, _, _, hl, _, _, _ => by simp at hl
  | n + 1, k :: w :: ws, acc, l, hl, e, h, ha => by
    simp only [disp, Option.bind_eq_some_iff] at e
    obtain ⟨kk, e1, e2⟩ := e
    simp only [W.lows, Bool.and_eq_true] at h
    exact lowd_disp n (by simp at hl; omega) e2 h.2.2 (lowd_put h.2.1 ha)
theorem E_disp {m : Bool} {xs : List Ex} {keys : List (Option Expr)} {values l : List Expr} {pos : Pos} (hk : keys ≠ [] ∧ keys.length ≤ 15) (hl : dictParts keys values = some l) (hx : Paired (EOk K T P C d E X) xs l) : EOk K T P C d E X (.disp m xs) (.Dict keys values pos) := by
  obtain ⟨h1, h2, h3, h4⟩ := pps_ok (pos := pos) hl hx
  refine EOk.val (PEi (pe_disp h1 h2 h3 hk.1 hk.2) fun σ H Q ⟨ρ, S, en, r, n, p⟩ D hD => ?_) (fun _ _ => rfl) rfl (fun _ _ => rfl)
  simp only [ev] at p
  have e1 : Ext ρ H (ρ ++ [some D]) (upd H D (.dK [])) := ext_push hD
  have r1 : Rl K T (ρ ++ [some D]) (S ++ [.dct []]) (upd H D (.dK [])) := rl_push r hD (.dct upd_same .nil) rfl
  have hDn : (ρ ++ [some D])[S.length]? = some (some D) := by
    rw [← r.len, List.getElem?_append_right (Nat.le_refl _), Nat.sub_self]
    rfl
  have pb := PR.bind (rel1 := VRs K T) (p.later e1)
  have pb' := PR.ret pb
  refine tPairs_imp (pairs_of keys.length h4 r1 (n.mono r e1) pb') fun ps H2 ⟨hps, ρ', ws', s', e', r', vs', pw⟩ => ?_
  obtain ⟨ρ2, ws, s2, he, e2, r2, vs, _⟩ := PR.here r' pw vs'
  rw [he] at p
  have p2 : PR K T ρ H (VR K T) E Q (match disp ws [], s2[S.length]? with
    | some l, some (.dct []) => if xs.length ≤ 30 ∧ W.lows S.length ws = true then made m S.length (s2.set S.length (.dct l)) else .stuck
    | _, _ => .stuck) := p
  have e12 := e1.trans e2
  split at p2
  · rename_i l' hd hs2
    split at p2
    · rename_i hz
      have hn2 : S.length < ρ2.length := by
        rw [r2.len]
        exact (List.getElem?_eq_some_iff.mp hs2).1
      have oo := r2.at_ S.length _ _ (List.getElem?_eq_getElem hn2) hs2
      generalize hq : ρ2[S.length] = xa at oo
      cases oo with
      | @dct a vs0 _ hH hs =>
        have hra : ρ2[S.length]? = some (some a) := by rw [List.getElem?_eq_getElem hn2, hq]
        have ea := at_D e2 hDn hra
        subst ea
        cases hs
        refine ⟨hH, ?_⟩
        obtain ⟨kvs, rfl, hkv⟩ := disp_of vs hd .nil
        have h15 : kvs.length ≤ 15 := by
          have := hk.2
          simp at hps
          omega
        refine ⟨kvs, rfl, h15, ?_⟩
        have ew : Ext ρ2 H2 ρ2 (upd H2 a (.dK (mergeK [] kvs))) := ext_write hra
        have low := lowd_disp (i := S.length) ws.length (Nat.le_refl _) hd hz.2 rfl
        have rw' : Rl K T ρ2 (s2.set S.length (.dct l')) (upd H2 a (.dK (mergeK [] kvs))) := rl_write r2 hra (.dct upd_same (hkv.mono r2 ew)) low
        unfold made at p2
        split at p2
        · refine p2 _ _ _ (e12.trans ew) rw' (.ref hn2 fun b hb => ?_)
          rw [hra] at hb
          cases hb
          rfl
        · split at p2
          · rename_i hlen
            have hg : (s2.set S.length (.dct l'))[S.length]? = some (.dct l') := List.getElem?_set_self (by rw [← r2.len]; exact hn2)
            rw [hg] at p2
            have noD : ¬ Own.has (ρ2.take S.length) a := fun ⟨j, hj⟩ => by
              rw [List.getElem?_take] at hj
              split at hj
              · rename_i hlt
                have := r2.inj j S.length a hj hra
                omega
              · cases hj
            exact p2 _ _ _ (ext_cut (e12.trans ew) r.len.symm) (rl_cut rw') (.dct noD (.inl upd_same) ((hkv.mono r2 ew).cut _ low))
          · exact p2.elim
    · exact p2.elim
  · exact p2.elim
/-! ### all of it -/
theorem I_noset {ie : Expr} (h : isSet ie = false) (env : PySem.Env) (x : Value) : foldedSetIterable ie env x = pure x := by
  cases ie <;> first
    | rfl
    | (simp [isSet] at h)
theorem tup_of {te : Expr} (h : isTup te = true) : ∃ elts kk p, te = .Tuple elts kk p := by
  cases te <;> simp [isTup] at h
  exact ⟨_, _, _, rfl⟩
mutual
theorem ev_ok (th : Th prog w K mg base CX T P M C d) : ∀ (x : Ex) (s : Pl) (e : Expr), chk M N P.cps x s e = true → ∀ (E : XK) (X : Cx), Go prog w K mg base CX d N s E X → EOk K T P C d E X x e
  | .var i, s, e, h, E, X, g => E_var g (by simpa [chk] using h)
  | .lit w', s, e, h, E, X, g => E_lit th g (by simpa [chk] using h)
  | .frz i, s, e, h, E, X, g => E_frz g (by simpa [chk] using h)
  | .brw l a, s, e, h, E, X, g => by
    simp only [chk, Bool.and_eq_true] at h
    have h1 := ev_ok th a s e h.2 E X g
    cases e <;> simp [isCall] at h
    exact E_brw h1 rfl fun _ _ => rfl
  | .pr p es, s, e, h, E, X, g => by
    simp only [chk] at h
    split at h
    · rename_i l hl
      exact pr_ok th g hl (evs_ok th es s l h E X g)
    · cases h
  | .slc x y z, s, e, h, E, X, g => by
    simp only [chk] at h
    split at h
    · rename_i a lo hi _ _
      simp only [Bool.and_eq_true] at h
      refine E_slc g (ev_ok th x s a h.1 E X g) ?_ ?_
      · cases lo with
        | none => exact .inl ⟨rfl, isNon_eq h.2.1⟩
        | some l => exact .inr ⟨l, rfl, ev_ok th y s l h.2.1 E X g⟩
      · cases hi with
        | none => exact .inl ⟨rfl, isNon_eq h.2.2⟩
        | some l => exact .inr ⟨l, rfl, ev_ok th z s l h.2.2 E X g⟩
    · cases h
  | .and a b, s, e, h, E, X, g => by
    simp only [chk] at h
    split at h
    · rename_i x y z pos
      simp only [Bool.and_eq_true] at h
      exact E_and (ev_ok th a s x h.1 E X g) (ev_ok th b s _ h.2 E X g)
    · cases h
  | .or a b, s, e, h, E, X, g => by
    simp only [chk] at h
    split at h
    · rename_i x y z pos
      simp only [Bool.and_eq_true] at h
      exact E_or (ev_ok th a s x h.1 E X g) (ev_ok th b s _ h.2 E X g)
    · cases h
  | .not a, s, e, h, E, X, g => by
    simp only [chk] at h
    split at h
    · exact E_not (ev_ok th a s _ h E X g)
    · cases h
  | .ifx t a b, s, e, h, E, X, g => by
    simp only [chk] at h
    split at h
    · simp only [Bool.and_eq_true] at h
      exact E_ifx (ev_ok th t s _ h.1 E X g) (ev_ok th a s _ h.2.1 E X g) (ev_ok th b s _ h.2.2 E X g)
    · cases h
  | .call f es, s, e, h, E, X, g => by
    simp only [chk] at h
    split at h
    · simp only [Bool.and_eq_true, decide_eq_true_eq] at h
      exact E_call th g h.1 h.2.1 (evs_ok th es s _ h.2.2 E X g)
    · cases h
  | .mk k es, s, e, h, E, X, g => by
    simp only [chk] at h
    split at h
    · simp only [Bool.and_eq_true, decide_eq_true_eq] at h
      exact E_mk th g h.1 h.2.1 (evs_ok th es s _ h.2.2 E X g)
    · cases h
  | .mkk k o es, s, e, h, E, X, g => by
    simp only [chk] at h
    split at h
    · simp only [Bool.and_eq_true, decide_eq_true_eq] at h
      obtain ⟨h1, h2, h3, h4⟩ := h
      split at h2
      · rename_i ns hns
        exact E_mkk th g h1.1 hns h1.2 (of_decide_eq_true h2) h3 (evs_ok th es s _ h4 E X g)
      · cases h2
    · cases h
  | .fld a f, s, e, h, E, X, g => by
    simp only [chk] at h
    split at h
    · simp only [Bool.and_eq_true, decide_eq_true_eq] at h
      obtain ⟨rfl, h2, h3⟩ := h
      exact E_fld th g h2 (ev_ok th a s _ h3 E X g)
    · cases h
  | .mth p o es, s, e, h, E, X, g => by
    simp only [chk] at h
    split at h
    · simp only [Bool.and_eq_true, decide_eq_true_eq] at h
      obtain ⟨h1, h2, h3, h4, h5, h6⟩ := h
      have ho := ev_ok th o s _ h5 E X g
      have hs := evs_ok th es s _ h6 E X g
      simp only [Bool.or_eq_true, decide_eq_true_eq, popB, Bool.and_eq_true] at h1
      rcases h1 with h1 | ⟨hp1, hp2, hp3⟩
      · exact E_mth g h1 h2 h3 h4 ho hs
      · subst hp1 hp2
        cases hs with
        | nil => simp at hp3
        | cons k1 kt =>
          cases kt with
          | nil => exact E_mthD g h2 h4 ho k1
          | cons _ _ => simp at hp3
    · cases h
  | .chn p q x y z, s, e, h, E, X, g => by
    simp only [chk] at h
    split at h
    · simp only [Bool.and_eq_true, decide_eq_true_eq, Bool.not_eq_true'] at h
      obtain ⟨h1, h2, h3, h4, h5⟩ := h
      exact E_chn g h1.1 h1.2 h2 (ev_ok th x s _ h3 E X g) (ev_ok th y s _ h4 E X g) (ev_ok th z s _ h5 E X g)
    · cases h
  | .disp m es, s, e, h, E, X, g => by
    simp only [chk] at h
    split at h
    · simp only [Bool.and_eq_true, decide_eq_true_eq] at h
      obtain ⟨h1, h2⟩ := h
      split at h2
      · rename_i l hl
        exact E_disp h1 hl (evs_ok th es s _ h2 E X g)
      · cases h2
    · cases h
  | .comp m elt own tg it cond, s, e, h, E, X, g => by
    simp only [chk] at h
    split at h
    · rename_i ee te ie ifs a scope pos
      simp only [Bool.and_eq_true, decide_eq_true_eq] at h
      obtain ⟨rfl, h1, h2, h3, h4, h5, h6⟩ := h
      obtain ⟨hi, hs⟩ := evI_ok th it s te ie h4 E X g
      exact E_comp th g h1 (fun j hj => by simpa using List.all_eq_true.mp h2 j hj) hi hs h3 (fun X' g' => ev_ok th elt _ _ h5 EF X' g') (fun X' g' => evC_ok th cond _ _ h6 EF X' g')
    · cases h
  | .dcomp .., _, _, h, _, _, _ => by simp [chk] at h
  | .callv .., _, _, h, _, _, _ => by simp [chk] at h
  | .callk .., _, _, h, _, _, _ => by simp [chk] at h
theorem evI_ok (th : Th prog w K mg base CX T P M C d) : ∀ (it : It) (s : Pl) (te ie : Expr), chkI M N P.cps it s te ie = true → ∀ (E : XK) (X : Cx), Go prog w K mg base CX d N s E X → PI X te ie (tI K T P C d E it) ∧ ∀ env x, foldedSetIterable ie env x = pure x
  | .seq x, s, te, ie, h, E, X, g => by
    simp only [chkI, Bool.and_eq_true, Bool.not_eq_true'] at h
    exact ⟨I_seq g (ev_ok th x s ie h.2 E X g), I_noset h.1⟩
  | .keys i, s, te, ie, h, E, X, g => by
    simp only [chkI] at h
    refine ⟨I_keys g h, ?_⟩
    unfold chkVar at h
    split at h
    · exact fun _ _ => rfl
    · cases h
  | .range xs, s, te, ie, h, E, X, g => by
    simp only [chkI] at h
    split at h
    · simp only [Bool.and_eq_true, decide_eq_true_eq] at h
      obtain ⟨rfl, h1, h2, h3⟩ := h
      have hx := evs_ok th xs s _ h3 E X g
      rename_i l _
      match l, hx, h2 with
      | [a], hx, _ =>
        obtain ⟨x, rfl, h1'⟩ := p1_inv hx
        exact ⟨I_range1 th g h1 h1', fun _ _ => rfl⟩
      | [a, b], hx, _ =>
        obtain ⟨x, y, rfl, h1', h2'⟩ := p2_inv hx
        exact ⟨I_range2 th g h1 h1' h2', fun _ _ => rfl⟩
      | [], _, h2 => simp at h2
      | _ :: _ :: _ :: _, _, h2 => simp at h2
    · cases h
  | .enum x, s, te, ie, h, E, X, g => by
    simp only [chkI, Bool.and_eq_true] at h
    obtain ⟨ht, h⟩ := h
    obtain ⟨elts, kk, tp, rfl⟩ := tup_of ht
    split at h
    · simp only [Bool.and_eq_true, decide_eq_true_eq] at h
      obtain ⟨rfl, h1, h2⟩ := h
      exact ⟨I_enum th g h1 (ev_ok th x s _ h2 E X g), fun _ _ => rfl⟩
    · cases h
  | .zip xs, s, te, ie, h, E, X, g => by
    simp only [chkI, Bool.and_eq_true] at h
    obtain ⟨ht, h⟩ := h
    obtain ⟨elts, kk, tp, rfl⟩ := tup_of ht
    split at h
    · simp only [Bool.and_eq_true, decide_eq_true_eq] at h
      obtain ⟨rfl, h1, h2⟩ := h
      obtain ⟨x, y, rfl, h1', h2'⟩ := p2_inv (evs_ok th xs s _ h2 E X g)
      exact ⟨I_zip th g h1 h1' h2', fun _ _ => rfl⟩
    · cases h
theorem evC_ok (th : Th prog w K mg base CX T P M C d) : ∀ (o : Option Ex) (s : Pl) (l : List Expr), chkC M N P.cps o s l = true → ∀ (E : XK) (X : Cx), Go prog w K mg base CX d N s E X → (o = none ∧ l = []) ∨ ∃ t c, o = some t ∧ l = [c] ∧ EOk K T P C d E X t c
  | none, s, l, h, E, X, g => by
    simp only [chkC] at h
    exact .inl ⟨rfl, by simpa using h⟩
  | some t, s, l, h, E, X, g => by
    simp only [chkC] at h
    split at h
    · exact .inr ⟨t, _, rfl, rfl, ev_ok th t s _ h E X g⟩
    · cases h
theorem evs_ok (th : Th prog w K mg base CX T P M C d) : ∀ (xs : List Ex) (s : Pl) (l : List Expr), chks M N P.cps xs s l = true → ∀ (E : XK) (X : Cx), Go prog w K mg base CX d N s E X → Paired (EOk K T P C d E X) xs l
  | [], s, l, h, E, X, g => by
    simp only [chks] at h
    have : l = [] := by simpa using h
    subst this
    exact .nil
  | x :: xs, s, l, h, E, X, g => by
    simp only [chks] at h
    split at h
    · simp only [Bool.and_eq_true] at h
      exact .cons (ev_ok th x s _ h.1 E X g) (evs_ok th xs s _ h.2 E X g)
    · cases h
end
end
end BK

set_option maxRecDepth 100000
set_option maxHeartbeats 4000000
/-! B5: statements. -/
namespace BK
open PySem PySem.Spec PyProof.Rows L2
def isComp : Expr → Bool
  | .ListComp .. => true
  | .SetComp .. => true
  | .DictComp .. => true
  | _ => false
def tupBoth (t e : Expr) : Bool := match t, e with
  | .Tuple .., .Tuple .. => true
  | .List .., .Tuple .. => true
  | _, _ => false
def notKeys : It → Bool
  | .keys _ => false
  | _ => true
/-- name = [..] where the name is the value's own place -/
def swapB (s : Pl) (tg e : Expr) : Bool := match tg, e with
  | .Name y py, .ListComp _ _ scope pos => (s.sc.kind == .function) && (s.sc.names.lookup y == some .local && (py.line == pos.line && !(scope.names.any fun x => x.1 == y && (x.2 == .local || x.2 == .cell))))
  | _, _ => false
def isCo : Ex → Bool
  | .comp .. => true
  | _ => false
def isStar : Expr → Bool
  | .Starred .. => true
  | _ => false
/-- two plain local names for two values -/
def parB (N : List Str) (s : Pl) (i j : Nat) (x y : Str) (px py : Pos) (a b : Expr) : Bool :=
  decide (N[i]? = some x) && (decide (N[j]? = some y) && (decide (i ≠ j) && ((s.sc.kind == .function) && ((s.sc.names.lookup x == some .local) && ((s.sc.names.lookup y == some .local) && ((x != y) && ((py.line == px.line) && (!isStar a && (!isStar b && (!(constantsAlone 8 a && constantsAlone 8 b) && !(foldedForSure 8 a && foldedForSure 8 b)))))))))))
theorem swap2 {N : List Str} {s : Pl} {i j : Nat} {x y : Str} {px py pt pt2 : Pos} {k k2} {a b : Expr} {env : PySem.Env} (h : parB N s i j x y px py a b = true) (hsc : env.scope = s.sc) :
    swappedStores [.Tuple [.Name x px, .Name y py] k pt] (.Tuple [a, b] k2 pt2) env = pure (some [x, y]) := by
  simp only [parB, Bool.and_eq_true, decide_eq_true_eq, beq_iff_eq, Bool.not_eq_true'] at h
  obtain ⟨h1, h2, h3, h4, h5, h6, h7, h8, h9, h10, h11, h12⟩ := h
  have e1 : env.kindOf x = some .local := by
    unfold PySem.Env.kindOf
    rw [hsc]
    simp [h5]
  have e2 : env.kindOf y = some .local := by
    unfold PySem.Env.kindOf
    rw [hsc]
    simp [h6]
  have e3 : env.blockKind = .function := by
    unfold PySem.Env.blockKind
    rw [hsc]
    rw [h4]; rfl
  have hxy : (x == y) = false := by simpa using h7
  have hp : (Expr.Name x px).pos = px := rfl
  have hyx : ¬ y = x := fun e => by subst e; simp at hxy
  have hc : ([a, b].all (constantsAlone 8)) = false := by simpa using h11
  have hf : ([a, b].all (foldedForSure 8)) = false := by simpa using h12
  have er : [x, y].eraseDups = [x, y] := by
    simp [List.eraseDups_cons, hyx]
  simp only [swappedStores, e1, e2, e3, List.length_cons, List.length_nil, List.any_cons, List.any_nil, hp, hc, hf, h8]
  simp [hp, e1, e2, h8, er]
  intro h
  exfalso
  rcases h with h | h
  · clear h11 h12 hc hf h10
    cases a <;> first | (simp at h; done) | (simp [isStar] at h9; done)
  · clear h11 h12 hc hf h9
    cases b <;> first | (simp at h; done) | (simp [isStar] at h10; done)
section
variable (M : Nm) (N : List Str) (CP : Nat → Option (List Str))
mutual
def chkS : St → Pl → Stmt → Bool
  | .set t a, s, st => (match st with
    | .Assign [tg] e _ => chkTg N s t tg && (chk M N CP a s e && ((!isComp e && !tupBoth tg e) || (isCo a && swapB s tg e)))
    | _ => false)
  | .put o i v, s, st => (match st with
    | .Assign [.Subscript oe ie _] ve _ => !isSlice ie && (!isComp ve && (chk M N CP o s oe && (chk M N CP i s ie && chk M N CP v s ve)))
    | _ => false)
  | .ex a, s, st => (match st with
    | .Expr e _ => !isComp e && chk M N CP a s e
    | _ => false)
  | .ret a, s, st => (match st with
    | .Return (some e) _ => chk M N CP a s e
    | .Return none _ => isNon a
    | _ => false)
  | .ite t a b, s, st => (match st with
    | .If c x y _ => chk M N CP t s c && (chkSs a s x && chkSs b s y)
    | _ => false)
  | .whl t b, s, st => (match st with
    | .While c x [] _ => chk M N CP t s c && chkSs b s x
    | _ => false)
  | .for_ t it b, s, st => (match st with
    | .For te ie x [] _ => notKeys it && (chkTg N s t te && (chkI M N CP it s te ie && chkSs b s x))
    | _ => false)
  | .fort t it b, s, st => (match st with
    | .For te ie x [] _ => notKeys it && (chkTg N s t te && (chkI M N CP it s te ie && chkSs b s x))
    | _ => false)
  | .par l es, s, st => (match l, es, st with
    | [i, j], [a, b], .Assign [.Tuple [.Name x px, .Name y py] _ _] (.Tuple [ea, eb] _ _) _ => parB N s i j x y px py ea eb && (chk M N CP a s ea && chk M N CP b s eb)
    | _, _, _ => false)
  | .brk, _, st => (match st with
    | .Break _ => true
    | _ => false)
  | .cnt, _, st => (match st with
    | .Continue _ => true
    | _ => false)
  | _, _, _ => false
def chkSs : List St → Pl → List Stmt → Bool
  | [], _, l => l.isEmpty
  | a :: as, s, l => (match l with
    | x :: xs => chkS a s x && chkSs as s xs
    | _ => false)
end
end
/-- an outcome, as the ends want it -/
def PRS (K : PySem.W.Frag) (T : Adr) (ρ : Own) (H : Hp) (D : Ends) (E : XK) : RS → Prop
  | .nx en s => ∀ ρ' H' σ', Ext ρ H ρ' H' → Rl K T ρ' s H' → EnvR K T ρ' H' en σ' → D.nx σ' H'
  | .ct en s => ∀ ρ' H' σ', Ext ρ H ρ' H' → Rl K T ρ' s H' → EnvR K T ρ' H' en σ' → D.ct σ' H'
  | .bk en s => ∀ ρ' H' σ', Ext ρ H ρ' H' → Rl K T ρ' s H' → EnvR K T ρ' H' en σ' → D.bk σ' H'
  | .rt w s => ∀ ρ' H' v, Ext ρ H ρ' H' → Rl K T ρ' s H' → VR K T ρ' H' w v → D.rt v H'
  | .exc c l s => ∀ ρ' H' d fs, Ext ρ H ρ' H' → Rl K T ρ' s H' → H' d = some (.xd fs) → VRf K T ρ' H' l fs → E (.ref (T.cls c)) (some d) H'
  | .stuck => False
section
variable {K : PySem.W.Frag} {T : Adr} {ρ ρ1 : Own} {H H1 : Hp} {D : Ends} {E : XK}
theorem PRS.later {r : RS} (h : PRS K T ρ H D E r) (e : Ext ρ H ρ1 H1) : PRS K T ρ1 H1 D E r := by
  cases r with
  | nx en s => exact fun ρ' H' σ' e' => h ρ' H' σ' (e.trans e')
  | ct en s => exact fun ρ' H' σ' e' => h ρ' H' σ' (e.trans e')
  | bk en s => exact fun ρ' H' σ' e' => h ρ' H' σ' (e.trans e')
  | rt w s => exact fun ρ' H' v e' => h ρ' H' v (e.trans e')
  | exc c l s => exact fun ρ' H' d fs e' => h ρ' H' d fs (e.trans e')
  | stuck => exact h
theorem PRS.bind {α β : Type} {rel1 : Own → Hp → α → β → Prop} {r : R α} {f : α → Sto → RS} (h : PRS K T ρ H D E (r.thn f)) :
    PR K T ρ H rel1 E (fun b H1 => ∃ ρ1 a s, r = .ok a s ∧ Ext ρ H ρ1 H1 ∧ Rl K T ρ1 s H1 ∧ rel1 ρ1 H1 a b ∧ PRS K T ρ1 H1 D E (f a s)) r := by
  cases r with
  | ok a s => exact fun ρ' H' b e' r' v => ⟨ρ', a, s, rfl, e', r', v, PRS.later (r := f a s) h e'⟩
  | exc c l s => exact h
  | stuck => exact h
end
section
variable (K : PySem.W.Frag) (T : Adr) (P : Pg) (C : Nat → List W → Sto → R W) (d L : Nat) (E : XK)
def tS (x : St) : TS := fun D σ H => ∃ ρ S en, Rl K T ρ S H ∧ EnvR K T ρ H en σ ∧ PRS K T ρ H D E (exe P C d L x en S)
def tSs (x : List St) : TS := fun D σ H => ∃ ρ S en, Rl K T ρ S H ∧ EnvR K T ρ H en σ ∧ PRS K T ρ H D E (exes P C d L x en S)
end
section
variable {prog : Program} {w : World} {K : PySem.W.Frag} {mg : Str → Option Value} {base : Heap} {CX : CXT} {T : Adr} {P : Pg} {M : Nm} {C : Nat → List W → Sto → R W} {d L : Nat} {N : List Str} {s : Pl} {E : XK} {X : Cx}
theorem PRS.step {ρ : Own} {S : Sto} {H : Hp} {en : Env} {σ : L2.St} {D : Ends} {x : Ex} {f : W → Sto → RS} (r : Rl K T ρ S H) (n : EnvR K T ρ H en σ) (h : PRS K T ρ H D E ((ev P C d x en S).thn f)) :
    tE K T P C d E x σ H (fun v H1 => ∃ ρ1 w s, Ext ρ H ρ1 H1 ∧ Rl K T ρ1 s H1 ∧ VR K T ρ1 H1 w v ∧ EnvR K T ρ1 H1 en σ ∧ PRS K T ρ1 H1 D E (f w s)) :=
  ⟨ρ, S, en, r, n, (PRS.bind h).imp (fun b H1 ⟨ρ1, a, s, _, e, r1, v, p⟩ => ⟨ρ1, a, s, e, r1, v, n.mono r e, p⟩) fun _ _ _ z => z⟩
theorem PRS.stepT {ρ : Own} {S : Sto} {H : Hp} {en : Env} {σ : L2.St} {D : Ends} {x : Ex} {f : Bool → Sto → RS} (r : Rl K T ρ S H) (n : EnvR K T ρ H en σ) (h : PRS K T ρ H D E (((ev P C d x en S).bind BK.test).thn f)) :
    tT K T P C d E x σ H (fun b H1 => ∃ ρ1 s, Ext ρ H ρ1 H1 ∧ Rl K T ρ1 s H1 ∧ EnvR K T ρ1 H1 en σ ∧ PRS K T ρ1 H1 D E (f b s)) :=
  ⟨ρ, S, en, r, n, (PRS.bind h).imp (fun b H1 ⟨ρ1, a, s, _, e, r1, v, p⟩ => by subst v; exact ⟨ρ1, s, e, r1, n.mono r e, p⟩) fun _ _ _ z => z⟩
theorem noswap {e : Expr} (h : isComp e = false) (t : Option Expr) (n : Nat) (env : PySem.Env) : swapsWith e t n env = pure false := by
  cases e <;> first
    | rfl
    | (simp [isComp] at h)
theorem noswap1 {e : Expr} (h : isComp e = false) (t : Expr) (n : Nat) (env : PySem.Env) : swapsWithSole [t] e n env = pure false := noswap h _ _ _
theorem nostores {tg e : Expr} (h : tupBoth tg e = false) (env : PySem.Env) : swappedStores [tg] e env = pure none := by
  cases tg <;> cases e <;> first
    | rfl
    | (simp [tupBoth] at h)
theorem S_set (g : Go prog w K mg base CX d N s E X) {t : Tg} {a : Ex} {tg e : Expr} {pos : Pos} (ht : chkTg N s t tg = true) (h : EOk K T P C d E X a e) (h1 : isComp e = false) (h2 : tupBoth tg e = false) : PS X (.Assign [tg] e pos) (tS K T P C d L E (.set t a)) := by
  obtain ⟨p1, p2⟩ := pg_ok (T := T) g t tg ht
  refine PSi (ps_asg h.pe p1 (noswap1 h1 _ _ _) (nostores h2 _) (by rw [p2]; rfl)) fun D σ H ⟨ρ, S, en, r, n, p⟩ => ?_
  simp only [exe] at p
  refine tE.imp (PRS.step r n p) fun v H1 ⟨ρ1, wa, s1, e1, r1, va, n1, q1⟩ => ?_
  cases hen : tgSet t wa en with
  | none => rw [hen] at q1; exact q1.elim
  | some en' =>
    rw [hen] at q1
    exact ⟨ρ1, s1, wa, en, en', r1, n1, va, hen, fun σ' n' _ _ => q1 ρ1 H1 σ' (Ext.refl _ _) r1 n'⟩
theorem S_par (g : Go prog w K mg base CX d N s E X) {i j : Nat} {x y : Str} {px py pt pt2 pos : Pos} {k k2} {a b : Ex} {ea eb : Expr} (h : parB N s i j x y px py ea eb = true) (ha : EOk K T P C d E X a ea) (hb : EOk K T P C d E X b eb) :
    PS X (.Assign [.Tuple [.Name x px, .Name y py] k pt] (.Tuple [ea, eb] k2 pt2) pos) (tS K T P C d L E (.par [i, j] [a, b])) := by
  have h' := h
  simp only [parB, Bool.and_eq_true, decide_eq_true_eq, beq_iff_eq, Bool.not_eq_true'] at h'
  obtain ⟨h1, h2, h3, h4, h5, h6, _⟩ := h'
  refine PSi (ps_par (i := i) (j := j) g.calm (by rw [g.hN]; exact g.nd) (by rw [g.hN]; exact h1) (by rw [g.hN]; exact h2) h3 (by rw [g.sc]; exact h5) (by rw [g.sc]; exact h6) (pa_of (.cons ha (.cons hb .nil))) (swap2 h g.sc)) fun D σ H ⟨ρ, S, en, r, n, p⟩ => ?_
  simp only [exe] at p
  refine ⟨ρ, S, en, r, n, (PRS.bind (rel1 := VRs K T) p).imp (fun vs H1 ⟨ρ1, ws, s1, _, e1, r1, v1, p1⟩ => ?_) fun _ _ _ z => z⟩
  have n1 := n.mono r e1
  match ws, vs, v1, p1 with
  | [wa, wb], [va, vb], .cons q1 (.cons q2 .nil), p1 =>
    simp only [setAll] at p1
    exact ⟨va, vb, rfl, p1 ρ1 H1 _ (Ext.refl _ _) r1 ((n1.set q1 i).set q2 j)⟩
  | [], _, _, p1 => exact p1.elim
  | [_], _, _, p1 => exact p1.elim
  | _ :: _ :: _ :: _, _, _, p1 => exact p1.elim
theorem put_ha {oe ie : Expr} {pos : Pos} (hs : isSlice ie = false) (v : Value) (env : PySem.Env) : assign (.Subscript oe ie pos) env v = (do
      let ov ← holding [v] (eval oe env)
      let iv ← holding [v, ov] (eval ie env)
      standAt pos
      holding [v, ov, iv] (setItem ov iv v)
      release [v, ov, iv] []) := by
  cases ie <;> first
    | rfl
    | (simp [isSlice] at hs)
theorem S_put (g : Go prog w K mg base CX d N s E X) {o i v : Ex} {oe ie ve : Expr} {p1 pos : Pos} (hs : isSlice ie = false) (hc : isComp ve = false) (ho : EOk K T P C d E X o oe) (hi : EOk K T P C d E X i ie) (hv : EOk K T P C d E X v ve) :
    PS X (.Assign [.Subscript oe ie p1] ve pos) (tS K T P C d L E (.put o i v)) := by
  have hu := g.un
  refine PSi (ps_asg hv.pe (pg_sub ho.pe hi.pe (set_all (T := T) (by omega) g.hK) (fun v => put_ha hs v X.env)) (noswap1 hc _ _ _) (by rfl) (by rfl)) fun D σ H ⟨ρ, S, en, r, n, p⟩ => ?_
  simp only [exe] at p
  refine tE.imp (PRS.step r n p) fun x H1 ⟨ρ1, wv, s1, e1, r1, vv, n1, q1⟩ => ?_
  refine tE.imp (PRS.step r1 n1 q1) fun y H2 ⟨ρ2, wo, s2, e2, r2, vo, n2, q2⟩ => ?_
  refine tE.imp (PRS.step r2 n2 q2) fun z H3 ⟨ρ3, wi, s3, e3, r3, vi, n3, q3⟩ => ?_
  refine ⟨ρ3, s3, wo, wi, wv, E, r3, vo.mono r2 e3, vi, (vv.mono r1 e2).mono r2 e3, (PRS.bind q3).imp (fun b H4 ⟨ρ4, a, s4, _, e4, r4, _, q4⟩ => ?_) fun _ _ _ z => z⟩
  exact q4 ρ4 H4 σ (Ext.refl _ _) r4 (n3.mono r3 e4)
theorem S_ex {a : Ex} {e : Expr} {pos : Pos} (hc : isComp e = false) (h : EOk K T P C d E X a e) : PS X (.Expr e pos) (tS K T P C d L E (.ex a)) := by
  refine PSi (ps_expr h.pe (noswap hc _ _ _)) fun D σ H ⟨ρ, S, en, r, n, p⟩ => ?_
  simp only [exe] at p
  exact tE.imp (PRS.step r n p) fun x H1 ⟨ρ1, wv, s1, e1, r1, vv, n1, q1⟩ => q1 ρ1 H1 σ (Ext.refl _ _) r1 n1
theorem S_ret {a : Ex} {e : Expr} {pos : Pos} (h : EOk K T P C d E X a e) : PS X (.Return (some e) pos) (tS K T P C d L E (.ret a)) := by
  refine PSi (ps_ret h.pe) fun D σ H ⟨ρ, S, en, r, n, p⟩ => ?_
  simp only [exe] at p
  exact tE.imp (PRS.step r n p) fun x H1 ⟨ρ1, wv, s1, e1, r1, vv, n1, q1⟩ => q1 ρ1 H1 x (Ext.refl _ _) r1 vv
theorem S_retN {pos : Pos} : PS X (.Return none pos) (tS K T P C d L E (.ret (.lit .non))) := PSi ps_retN fun D σ H ⟨ρ, S, en, r, n, p⟩ => p ρ H .non (Ext.refl _ _) r .non
theorem S_ite {t : Ex} {a b : List St} {c : Expr} {x y : List Stmt} {pos : Pos} (h : EOk K T P C d E X t c) (h1 : PSs X x (tSs K T P C d L E a)) (h2 : PSs X y (tSs K T P C d L E b)) : PS X (.If c x y pos) (tS K T P C d L E (.ite t a b)) := by
  refine PSi (ps_if h.pt h1 h2) fun D σ H ⟨ρ, S, en, r, n, p⟩ => ?_
  simp only [exe] at p
  refine tT.imp (PRS.stepT r n p) fun b H1 ⟨ρ1, s1, e1, r1, n1, q1⟩ => ?_
  cases b with
  | true => exact ⟨ρ1, s1, en, r1, n1, q1⟩
  | false => exact ⟨ρ1, s1, en, r1, n1, q1⟩
/-- a loop's turn -/
theorem PRS.turn {ρ : Own} {H : Hp} {D : Ends} {r : RS} {k : Env → Sto → RS} {Nn : L2.St → Hp → Prop} {ρ1 : Own} {H1 : Hp} (h : PRS K T ρ H D E (match r with
      | .nx e s => k e s
      | .ct e s => k e s
      | .bk e s => .nx e s
      | r => r)) (e : Ext ρ H ρ1 H1) (hN : ∀ en s ρ' H' σ', PRS K T ρ H D E (k en s) → Ext ρ1 H1 ρ' H' → Rl K T ρ' s H' → EnvR K T ρ' H' en σ' → Nn σ' H') : PRS K T ρ1 H1 { D with nx := Nn, ct := Nn, bk := D.nx } E r := by
  cases r with
  | nx en s => exact fun ρ' H' σ' e' r' n' => hN en s ρ' H' σ' h e' r' n'
  | ct en s => exact fun ρ' H' σ' e' r' n' => hN en s ρ' H' σ' h e' r' n'
  | bk en s => exact fun ρ' H' σ' e' => h ρ' H' σ' (e.trans e')
  | rt w s => exact fun ρ' H' v e' => h ρ' H' v (e.trans e')
  | exc c l s => exact fun ρ' H' d fs e' => h ρ' H' d fs (e.trans e')
  | stuck => exact h
theorem PRS.stepT0 {ρ0 ρ : Own} {S : Sto} {H0 H : Hp} {en : Env} {σ : L2.St} {D : Ends} {x : Ex} {f : Bool → Sto → RS} (e0 : Ext ρ0 H0 ρ H) (r : Rl K T ρ S H) (n : EnvR K T ρ H en σ) (h : PRS K T ρ0 H0 D E (((ev P C d x en S).bind BK.test).thn f)) :
    tT K T P C d E x σ H (fun b H1 => ∃ ρ1 s, Ext ρ H ρ1 H1 ∧ Rl K T ρ1 s H1 ∧ EnvR K T ρ1 H1 en σ ∧ PRS K T ρ0 H0 D E (f b s)) := by
  refine ⟨ρ, S, en, r, n, ?_⟩
  cases q : (ev P C d x en S).bind BK.test with
  | ok b s =>
    rw [q] at h
    intro ρ' H' b' e' r' eb
    subst eb
    exact ⟨ρ', s, e', r', n.mono r e', h⟩
  | exc c l s =>
    rw [q] at h
    exact fun ρ' H' d fs e' => h ρ' H' d fs (e0.trans e')
  | stuck =>
    rw [q] at h
    exact h
theorem S_whl (g : Go prog w K mg base CX d N s E X) {t : Ex} {b : List St} {c : Expr} {x : List Stmt} {pos : Pos} (h : EOk K T P C d E X t c) (h1 : PSs X x (tSs K T P C d L E b)) : PS X (.While c x [] pos) (tS K T P C d L E (.whl t b)) := by
  refine PSi (ps_while g.own h.pt h1) fun D σ H ⟨ρ, S, en, r, n, p⟩ => ?_
  simp only [exe] at p
  refine ⟨fun m σ' H' => ∃ ρ' S' en', Ext ρ H ρ' H' ∧ Rl K T ρ' S' H' ∧ EnvR K T ρ' H' en' σ' ∧ PRS K T ρ H D E (whlL (fun e s => (ev P C d t e s).bind BK.test) (fun e s => exes P C d L b e s) m en' S'), ⟨L, ρ, S, en, Ext.refl _ _, r, n, p⟩, ?_⟩
  rintro m σ1 H1 ⟨ρ1, S1, en1, e1, r1, n1, p1⟩
  cases m with
  | zero => exact p1.elim
  | succ m =>
    simp only [whlL] at p1
    refine tT.imp (PRS.stepT0 e1 r1 n1 p1) fun q H2 ⟨ρ2, s2, e2, r2, n2, p2⟩ => ?_
    cases q with
    | false => exact p2 ρ2 H2 σ1 (e1.trans e2) r2 n2
    | true =>
      refine ⟨_, fun σ' H' q => ⟨m, Nat.lt_succ_self _, q⟩, ρ2, s2, en1, r2, n2, PRS.turn (k := fun e s => whlL (fun e s => (ev P C d t e s).bind BK.test) (fun e s => exes P C d L b e s) m e s) p2 (e1.trans e2) fun en3 s3 ρ3 H3 σ3 q3 e3 r3 n3 => ?_⟩
      exact ⟨ρ3, s3, en3, (e1.trans e2).trans e3, r3, n3, q3⟩
theorem PRS.stepI {ρ : Own} {S : Sto} {H : Hp} {en : Env} {σ : L2.St} {D : Ends} {it : It} {f : List W → Sto → RS} (r : Rl K T ρ S H) (n : EnvR K T ρ H en σ) (k : kOk it σ H) (h : PRS K T ρ H D E ((evI P C d it en S).thn f)) :
    tI K T P C d E it σ H (fun J H1 => ∃ ρ1 l s, Ext ρ H ρ1 H1 ∧ Rl K T ρ1 s H1 ∧ ItOk K T l J ρ1 H1 ∧ EnvR K T ρ1 H1 en σ ∧ PRS K T ρ1 H1 D E (f l s)) :=
  ⟨ρ, S, en, r, n, k, (PRS.bind h).imp (fun b H1 ⟨ρ1, a, s, _, e, r1, v, p⟩ => ⟨ρ1, a, s, e, r1, v, n.mono r e, p⟩) fun _ _ _ z => z⟩
theorem S_for (g : Go prog w K mg base CX d N s E X) {t : Tg} {it : It} {b : List St} {te ie : Expr} {x : List Stmt} {pos : Pos} (hk : notKeys it = true) (ht : chkTg N s t te = true) (hi : PI X te ie (tI K T P C d E it)) (hs : ∀ env x, foldedSetIterable ie env x = pure x) (h1 : PSs X x (tSs K T P C d L E b)) :
    PS X (.For te ie x [] pos) (tS K T P C d L E (.for_ t it b)) := by
  refine PSi (ps_for g.own g.calm hi (pg_ok (T := T) g t te ht).1 h1 (hs _)) fun D σ H ⟨ρ, S, en, r, n, p⟩ => ?_
  simp only [exe] at p
  have k : kOk it σ H := by
    cases it with
    | keys i => simp [notKeys] at hk
    | _ => trivial
  obtain ⟨ρ', S', en', r', n', k', p'⟩ := PRS.stepI (σ := σ) r n k p
  refine ⟨ρ', S', en', r', n', k', p'.imp (fun J H1 q => ?_) fun _ _ _ z => z⟩
  obtain ⟨ρ1, l, s1, e1, r1, hJ, n1, p1⟩ := q
  refine ⟨fun i m σ' H' => m = l.length - i ∧ i ≤ l.length ∧ ∃ ρc Sc enc, Ext ρ1 H1 ρc H' ∧ Rl K T ρc Sc H' ∧ EnvR K T ρc H' enc σ' ∧ PRS K T ρ1 H1 D E (forL (fun e s => exes P C d L b e s) t (l.drop i) enc Sc), ⟨l.length, by simp, Nat.zero_le _, ρ1, s1, en, Ext.refl _ _, r1, n1, p1⟩, ?_⟩
  rintro i m σc Hc ⟨rfl, hi, ρc, Sc, enc, ec, rc, nc, pc⟩
  by_cases hlt : i < l.length
  · obtain ⟨go, yl⟩ := (hJ ρc Hc ec).1 i hlt
    rw [List.drop_eq_getElem_cons hlt] at pc
    simp only [forL] at pc
    split at pc
    · exact pc.elim
    · rename_i en2 hen2
      refine .inr ⟨go, fun σ' H' => i + 1 ≤ l.length ∧ ∃ ρc Sc enc, Ext ρ1 H1 ρc H' ∧ Rl K T ρc Sc H' ∧ EnvR K T ρc H' enc σ' ∧ PRS K T ρ1 H1 D E (forL (fun e s => exes P C d L b e s) t (l.drop (i + 1)) enc Sc), fun σ' H' q => ⟨l.length - (i + 1), by omega, rfl, q.1, q.2⟩, fun x H' y => ?_⟩
      obtain ⟨ex, rx, w', hw', vx⟩ := yl x H' y Sc rc
      have ew : l[i] = w' := by
        rw [List.getElem?_eq_getElem hlt] at hw'
        exact Option.some.inj hw'
      refine ⟨ρc, Sc, w', enc, en2, rx, nc.mono rc ex, vx, by rw [← ew]; exact hen2, fun σ2 n2 _ _ => ?_⟩
      refine ⟨ρc, Sc, en2, rx, n2, PRS.turn (k := fun e s => forL (fun e s => exes P C d L b e s) t (l.drop (i + 1)) e s) pc (ec.trans ex) fun en3 s3 ρ3 H3 σ3 q3 e3 r3 n3 => ?_⟩
      exact ⟨hlt, ρ3, s3, en3, (ec.trans ex).trans e3, r3, n3, q3⟩
  · have ei : i = l.length := by omega
    subst ei
    rw [List.drop_length] at pc
    exact .inl ⟨(hJ ρc Hc ec).2 _ (Nat.le_refl _), pc ρc Hc σc ec rc nc⟩
theorem EnvR.trim {ρ : Own} {H : Hp} {en : Env} {σ : L2.St} {n : Nat} (h : EnvR K T ρ H en σ) : EnvR K T (ρ.take n) H (trimE n en) σ := by
  refine ⟨by unfold trimE; rw [List.length_map]; exact h.1, fun i w' hw => ?_⟩
  unfold trimE at hw
  rw [List.getElem?_map] at hw
  obtain ⟨o, ho, hw⟩ := Option.map_eq_some_iff.mp hw
  cases o with
  | none => cases hw
  | some w0 =>
    simp only at hw
    split at hw
    · rename_i hl
      cases hw
      obtain ⟨v, h1, h2⟩ := h.2 i w' ho
      exact ⟨v, h1, h2.cut _ hl⟩
    · cases hw
theorem S_fort (g : Go prog w K mg base CX d N s E X) {t : Tg} {it : It} {b : List St} {te ie : Expr} {x : List Stmt} {pos : Pos} (hk : notKeys it = true) (ht : chkTg N s t te = true) (hi : PI X te ie (tI K T P C d E it)) (hs : ∀ env x, foldedSetIterable ie env x = pure x) (h1 : PSs X x (tSs K T P C d L E b)) :
    PS X (.For te ie x [] pos) (tS K T P C d L E (.fort t it b)) := by
  refine PSi (ps_for g.own g.calm hi (pg_ok (T := T) g t te ht).1 h1 (hs _)) fun D σ H ⟨ρ, S, en, r, n, p⟩ => ?_
  simp only [exe] at p
  have k : kOk it σ H := by
    cases it with
    | keys i => simp [notKeys] at hk
    | _ => trivial
  obtain ⟨ρ', S', en', r', n', k', p'⟩ := PRS.stepI (σ := σ) r n k p
  refine ⟨ρ', S', en', r', n', k', p'.imp (fun J H1 q => ?_) fun _ _ _ z => z⟩
  obtain ⟨ρ1, l, s1, e1, r1, hJ, n1, p1⟩ := q
  refine ⟨fun i m σ' H' => m = l.length - i ∧ i ≤ l.length ∧ ∃ ρc Sc enc, Ext ρ1 H1 ρc H' ∧ Rl K T ρc Sc H' ∧ EnvR K T ρc H' enc σ' ∧ PRS K T ρ1 H1 D E (forT (fun e s => exes P C d L b e s) t s1.length (l.drop i) enc Sc), ⟨l.length, by simp, Nat.zero_le _, ρ1, s1, en, Ext.refl _ _, r1, n1, p1⟩, ?_⟩
  rintro i m σc Hc ⟨rfl, hi, ρc, Sc, enc, ec, rc, nc, pc⟩
  by_cases hlt : i < l.length
  · obtain ⟨go, yl⟩ := (hJ ρc Hc ec).1 i hlt
    rw [List.drop_eq_getElem_cons hlt] at pc
    simp only [forT] at pc
    split at pc
    · exact pc.elim
    · rename_i en2 hen2
      refine .inr ⟨go, fun σ' H' => i + 1 ≤ l.length ∧ ∃ ρc Sc enc, Ext ρ1 H1 ρc H' ∧ Rl K T ρc Sc H' ∧ EnvR K T ρc H' enc σ' ∧ PRS K T ρ1 H1 D E (forT (fun e s => exes P C d L b e s) t s1.length (l.drop (i + 1)) enc Sc), fun σ' H' q => ⟨l.length - (i + 1), by omega, rfl, q.1, q.2⟩, fun x H' y => ?_⟩
      obtain ⟨ex, rx, w', hw', vx⟩ := yl x H' y Sc rc
      have ew : l[i] = w' := by
        rw [List.getElem?_eq_getElem hlt] at hw'
        exact Option.some.inj hw'
      refine ⟨ρc, Sc, w', enc, en2, rx, nc.mono rc ex, vx, by rw [← ew]; exact hen2, fun σ2 n2 _ _ => ?_⟩
      refine ⟨ρc, Sc, en2, rx, n2, PRS.turn (k := fun e s => forT (fun e s => exes P C d L b e s) t s1.length (l.drop (i + 1)) (trimE s1.length e) (s.take s1.length)) pc (ec.trans ex) fun en3 s3 ρ3 H3 σ3 q3 e3 r3 n3 => ?_⟩
      exact ⟨hlt, _, _, _, ext_cut ((ec.trans ex).trans e3) r1.len.symm, rl_cut r3, n3.trim, q3⟩
  · have ei : i = l.length := by omega
    subst ei
    rw [List.drop_length] at pc
    exact .inl ⟨(hJ ρc Hc ec).2 _ (Nat.le_refl _), pc ρc Hc σc ec rc nc⟩
theorem tCo_imp {elt : Ex} {own : List Nat} {tg : Tg} {it : It} {cond : Option Ex} {σ : L2.St} {H : Hp} {Q Q' : VK} (h : tCo K T P C d E elt own tg it cond σ H Q) (gg : ∀ v H, Q v H → Q' v H) : tCo K T P C d E elt own tg it cond σ H Q' := by
  obtain ⟨ρ, S, en, r, n, k, p⟩ := h
  refine ⟨ρ, S, en, r, n, k, p.imp (fun J H1 q D hD => ?_) fun _ _ _ z => z⟩
  obtain ⟨W, w0, step⟩ := q D hD
  exact ⟨W, w0, fun i m H hw => (step i m H hw).imp (fun z => ⟨z.1, gg _ _ z.2⟩) id⟩
/-- name = [..] -/
theorem S_setc {m : Bool} {elt : Ex} {own : List Nat} {tg : Tg} {it : It} {cond : Option Ex} {te e : Expr} {spos : Pos} {i : Nat} (hown : ∀ j ∈ slotsT tg, j ∈ own)
    (base : PS X (.Assign [te] e spos) (fun D σ H => tAsg (tCo K T P C d E elt own tg it cond) (gName i) D σ H ∨ tLock (tAsg (tCo K T P C d E elt own tg it cond) (gName i)) D σ H)) : PS X (.Assign [te] e spos) (tS K T P C d L E (.set (.nm i) (.comp m elt own tg it cond))) := by
  refine PSi base fun D σ H ⟨ρ, S, en, r, n, p⟩ => ?_
  simp only [exe] at p
  have q := PRS.step r n p
  rcases comp_any hown q with q | q
  · refine .inl ?_
    show tCo K T P C d E elt own tg it cond σ H fun x H1 => D.nx (σ.set i (some x)) H1
    refine tCo_imp q fun v H1 ⟨ρ1, wa, s1, e1, r1, va, n1, q1⟩ => ?_
    exact q1 ρ1 H1 _ (Ext.refl _ _) r1 (n1.set va i)
  · obtain ⟨dd, u, hd, mu, q⟩ := q
    refine .inr ⟨dd, u, hd, mu, fun od => ?_⟩
    show tCo K T P C d E elt own tg it cond σ _ fun x H1 => H1 dd = some (.frz od u) ∧ D.nx (σ.set i (some x)) (upd H1 dd u)
    refine tCo_imp (q od) fun v H1 ⟨hf, ρ1, wa, s1, e1, r1, va, n1, q1⟩ => ⟨hf, ?_⟩
    exact q1 ρ1 _ _ (Ext.refl _ _) r1 (n1.set va i)
theorem ss_cons {a : St} {as : List St} {x : Stmt} {xs : List Stmt} (h : PS X x (tS K T P C d L E a)) (t : PSs X xs (tSs K T P C d L E as)) : PSs X (x :: xs) (tSs K T P C d L E (a :: as)) := by
  refine PSsi (pss_cons h t) fun D σ H ⟨ρ, S, en, r, n, p⟩ => ⟨ρ, S, en, r, n, ?_⟩
  simp only [exes] at p
  cases q : exe P C d L a en S with
  | nx en' s' =>
    rw [q] at p
    exact fun ρ' H' σ' e' r' n' => ⟨ρ', s', en', r', n', PRS.later (r := exes P C d L as en' s') p e'⟩
  | _ =>
    rw [q] at p
    exact p
theorem swapB_ok (g : Go prog w K mg base CX d N s E X) {tg e : Expr} (h : swapB s tg e = true) (pos : Pos) : ∃ y py, tg = .Name y py ∧ s.sc.names.lookup y = some .local ∧ swapsWith e (some (.Name y py)) pos.line X.env = pure true := by
  unfold swapB at h
  split at h
  · rename_i y py ee gs scope p
    simp only [Bool.and_eq_true, beq_iff_eq] at h
    obtain ⟨h1, h2, h3, h4⟩ := h
    refine ⟨y, py, rfl, h2, ?_⟩
    have k1 : X.env.scope.kind = .function := by rw [g.sc]; exact h1
    have hb : (X.env.blockKind == .function) = true := by
      unfold Env.blockKind
      rw [k1]
      rfl
    have k2 : (X.env.kindOf y == some .local) = true := by
      unfold Env.kindOf
      rw [g.sc, h2]
      rfl
    show (pure (X.env.blockKind == .function && X.env.kindOf y == some .local && py.line == (Expr.ListComp ee gs scope p).pos.line && !(scope.names.any fun x => x.1 == y && (x.2 == .local || x.2 == .cell))) : Sem Bool) = pure true
    rw [hb, k2, h4]
    have : (py.line == (Expr.ListComp ee gs scope p).pos.line) = true := by
      rw [beq_iff_eq]
      exact h3
    rw [this]
    rfl
  · cases h
mutual
theorem st_ok (th : Th prog w K mg base CX T P M C d) (L : Nat) : ∀ (x : St) (s : Pl) (st : Stmt), chkS M N P.cps x s st = true → ∀ (E : XK) (X : Cx), Go prog w K mg base CX d N s E X → PS X st (tS K T P C d L E x)
  | .set t a, s, st, h, E, X, g => by
    simp only [chkS] at h
    split at h
    · rename_i tg e pos
      simp only [Bool.and_eq_true, Bool.or_eq_true, Bool.not_eq_true'] at h
      obtain ⟨h1, h2, h3 | h3⟩ := h
      · exact S_set g h1 (ev_ok th a s e h2 E X g) h3.1 h3.2
      · obtain ⟨y, py, rfl, hy, hsw⟩ := swapB_ok g h3.2 pos
        cases a with
        | comp m elt own tg it cond =>
          cases t with
          | tp l => simp [chkTg] at h1
          | nm i =>
            simp only [chkTg, Bool.and_eq_true, decide_eq_true_eq] at h1
            simp only [chk] at h2
            split at h2
            · rename_i ee te ie ifs a scope pos2
              simp only [Bool.and_eq_true, decide_eq_true_eq] at h2
              obtain ⟨rfl, k1, k2, k3, k4, k5, k6⟩ := h2
              obtain ⟨hi, hs⟩ := evI_ok th it s te ie k4 E X g
              have hown : ∀ j ∈ slotsT tg, j ∈ own := fun j hj => by simpa using List.all_eq_true.mp k2 j hj
              exact S_setc hown (S_comp (m := m) th g k1 hown hi hs k3 (fun X' g' => ev_ok th elt _ _ k5 EF X' g') (fun X' g' => evC_ok th cond _ _ k6 EF X' g') h1.1 hy hsw)
            · cases h2
        | _ => simp [isCo] at h3
    · cases h
  | .put o i v, s, st, h, E, X, g => by
    simp only [chkS] at h
    split at h
    · simp only [Bool.and_eq_true, Bool.not_eq_true'] at h
      obtain ⟨h1, h2, h3, h4, h5⟩ := h
      exact S_put g h1 h2 (ev_ok th o s _ h3 E X g) (ev_ok th i s _ h4 E X g) (ev_ok th v s _ h5 E X g)
    · cases h
  | .ex a, s, st, h, E, X, g => by
    simp only [chkS] at h
    split at h
    · simp only [Bool.and_eq_true, Bool.not_eq_true'] at h
      exact S_ex h.1 (ev_ok th a s _ h.2 E X g)
    · cases h
  | .ret a, s, st, h, E, X, g => by
    simp only [chkS] at h
    split at h
    · exact S_ret (ev_ok th a s _ h E X g)
    · rw [isNon_eq h]
      exact S_retN
    · cases h
  | .ite t a b, s, st, h, E, X, g => by
    simp only [chkS] at h
    split at h
    · simp only [Bool.and_eq_true] at h
      exact S_ite (ev_ok th t s _ h.1 E X g) (ss_ok th L a s _ h.2.1 E X g) (ss_ok th L b s _ h.2.2 E X g)
    · cases h
  | .whl t b, s, st, h, E, X, g => by
    simp only [chkS] at h
    split at h
    · simp only [Bool.and_eq_true] at h
      exact S_whl g (ev_ok th t s _ h.1 E X g) (ss_ok th L b s _ h.2 E X g)
    · cases h
  | .for_ t it b, s, st, h, E, X, g => by
    simp only [chkS] at h
    split at h
    · simp only [Bool.and_eq_true] at h
      obtain ⟨h1, h2, h3, h4⟩ := h
      obtain ⟨hi, hs⟩ := evI_ok th it s _ _ h3 E X g
      exact S_for g h1 h2 hi hs (ss_ok th L b s _ h4 E X g)
    · cases h
  | .fort t it b, s, st, h, E, X, g => by
    simp only [chkS] at h
    split at h
    · simp only [Bool.and_eq_true] at h
      obtain ⟨h1, h2, h3, h4⟩ := h
      obtain ⟨hi, hs⟩ := evI_ok th it s _ _ h3 E X g
      exact S_fort g h1 h2 hi hs (ss_ok th L b s _ h4 E X g)
    · cases h
  | .brk, s, st, h, E, X, g => by
    simp only [chkS] at h
    split at h
    · exact PSi ps_break fun D σ H ⟨ρ, S, en, r, n, p⟩ => p ρ H σ (Ext.refl _ _) r n
    · cases h
  | .cnt, s, st, h, E, X, g => by
    simp only [chkS] at h
    split at h
    · exact PSi ps_continue fun D σ H ⟨ρ, S, en, r, n, p⟩ => p ρ H σ (Ext.refl _ _) r n
    · cases h
  | .raise .., _, _, h, _, _, _ => by simp [chkS] at h
  | .par l es, s, st, h, E, X, g => by
    simp only [chkS] at h
    split at h
    · simp only [Bool.and_eq_true] at h
      exact S_par g h.1 (ev_ok th _ s _ h.2.1 E X g) (ev_ok th _ s _ h.2.2 E X g)
    · cases h
  | .try_ .., _, _, h, _, _, _ => by simp [chkS] at h
theorem ss_ok (th : Th prog w K mg base CX T P M C d) (L : Nat) : ∀ (x : List St) (s : Pl) (st : List Stmt), chkSs M N P.cps x s st = true → ∀ (E : XK) (X : Cx), Go prog w K mg base CX d N s E X → PSs X st (tSs K T P C d L E x)
  | [], s, st, h, E, X, g => by
    simp only [chkSs] at h
    have : st = [] := by simpa using h
    subst this
    exact PSsi pss_nil fun D σ H ⟨ρ, S, en, r, n, p⟩ => p ρ H σ (Ext.refl _ _) r n
  | a :: as, s, st, h, E, X, g => by
    simp only [chkSs] at h
    split at h
    · simp only [Bool.and_eq_true] at h
      exact ss_cons (st_ok th L a s _ h.1 E X g) (ss_ok th L as s _ h.2 E X g)
    · cases h
end
end
end BK

set_option maxRecDepth 100000
set_option maxHeartbeats 4000000
/-! B6a: an own exception class with its own __init__, called with keywords too. -/
namespace PySem
namespace BKX
open PySem.W PySem.Calls PyProof.Rows PySem.HandSPX
section
variable {M : Model} {A : Around} {E : Value → Shared → Prop} {h : Heap} {g : Array GenState} {d : Drawn} {t : Nat} {os : OsState}
variable {nm q : Str} {C N : Addr} {bs bm bmB : List Value} {hdct : Bool} {sn : List Str} {sub : List Value} {ab : Bool} {col : Option Bool} {dd : Option Addr} {k0 k1 k2 k3 k5 : Option Value} {B newId initId : String}
theorem check_newK (F : ExcBaseFacts B newId initId bmB) (hT : ∀ X : String, bm.contains (.type X) = bmB.contains (.type X)) {rest : List Value} {kw : List (Str × Value)} {Q : Unit → Shared → Prop}
    (hC : h.get? C = some (excClassObj nm q C N bs bm hdct sn sub ab col dd k0 k1 k2 k3 k5 newId)) (hq : Q () ⟨h, g, d, t, os⟩) : wpAny M A (checkBuiltinCall newId ⟨.ref C :: rest, kw⟩) Q E ⟨h, g, d, t, os⟩ := by
  have hcont : (Value.ref C :: bm).contains (.type B) = true := by rw [List.contains_cons, hT, F.hasB, Bool.or_true]
  have hstar := F.noStar
  simp only [checkBuiltinCall, F.newKind, F.newSplit, F.newRow]
  repeat (first | refine wpAny_loadPart_at hC ?_ | (refine wpAny_isSubtype_exc hC ?_; rw [hcont]) | refine wpAny_staticBase_exc hC ?_ | refine wpAny_madeBy_exc hC ?_ | simp only [bne_self_eq_false, Bool.false_eq_true, if_false] | wp_step)
  exact hq
end
section
variable {prog : Program} {w : World} {A : Around} {E : Value → Shared → Prop} {R : Result → Shared → Prop} {h : Heap} {g : Array GenState} {d : Drawn} {t : Nat} {os : OsState}
variable {nm q : Str} {C N : Addr} {bs bm bmB : List Value} {hdct : Bool} {sn : List Str} {sub : List Value} {ab : Bool} {col : Option Bool} {dd : Option Addr} {k0 k1 k2 k3 k5 : Option Value} {B newId initId : String}
theorem new_K (F : ExcBaseFacts B newId initId bmB) (hT : ∀ X : String, bm.contains (.type X) = bmB.contains (.type X)) {rest : List Value} {kw : List (Str × Value)}
    (hC : h.get? C = some (excClassObj nm q C N bs bm hdct sn sub ab col dd k0 k1 k2 k3 k5 newId))
    (hq : R (.ok (.ret (.ref (h.objs.size + 1)))) ⟨(h.push { cls := .type "tuple", data := .seq rest.toArray }).push
      { cls := .ref C, data := .fields #[.ref h.objs.size, .none, .none, .none, .bool false, .none] }, g, d, t, os⟩) (hrest : rest.length ≤ sizeLine) :
    codeAny (model prog w) A (.builtin newId ⟨.ref C :: rest, kw⟩) R ⟨h, g, d, t, os⟩ := by
  have hends := F.ends
  have hcB : (Value.ref C :: bm).contains (.type B) = true := by rw [List.contains_cons, hT, F.hasB, Bool.or_true]
  have hcA : (Value.ref C :: bm).contains (.type "AttributeError") = false := by rw [List.contains_cons, hT, F.noAttr]; rfl
  have hcN : (Value.ref C :: bm).contains (.type "NameError") = false := by rw [List.contains_cons, hT, F.noName]; rfl
  refine codeAny_builtinAt F.entry ?_
  unfold Builtin.«BaseException.__new__»
  refine wpAt_bind ?_
  show wpAt _ _ _ (stack >>= _) _ _ _
  refine wpAt_bind (wpAt_stack fun p below => wpAt_of_wpAny ?_)
  wp_walk
  refine wpAt_of_wpAny ?_
  rw [F.owner]
  repeat (first | with_reducible refine wpAny_madeHere_exc F.canon hC ?_ | with_reducible refine wpAny_loadPart_at hC ?_ | (with_reducible refine wpAny_isSubtype_exc hC ?_; first | rw [hcB] | rw [hcA] | rw [hcN]) | wp_step)
  show R _ _
  rw [Heap.size_push]
  exact hq
theorem type_callK (F : ExcBaseFacts B newId initId bmB) (hT : ∀ X : String, bm.contains (.type X) = bmB.contains (.type X)) {rest : List Value} {kw : List (Str × Value)} {fI : Addr} {Q : Fin → Shared → Prop}
    (hC : h.get? C = some (excClassObj nm q C N bs bm hdct sn sub ab col dd k0 k1 k2 k3 k5 newId))
    (hi : W.Looks (model prog w) h (typeLookup (.ref C) "__init__") (some (.ref fI))) (hb : ∀ self, W.Looks (model prog w) h (bindSpecial (.ref fI) self) (.ref fI, [self])) (hrest : rest.length ≤ sizeLine)
    (hq : codeAny (model prog w) A (.call (.ref fI) ⟨.ref (h.objs.size + 1) :: rest, kw⟩)
      (fun r s' => match r with | .ok (.ret v) => v = .none ∧ Q (.done (.ret (.ref (h.objs.size + 1)))) s' | .ok _ => False | .error e => E e s')
      ⟨(h.push (W.kdv_tup rest)).push (excO C h.objs.size), g, d, t, os⟩) :
    wpAny (model prog w) A (Builtin.«type.__call__» ⟨.ref C :: rest, kw⟩) Q E ⟨h, g, d, t, os⟩ := by
  repeat (first | with_reducible refine wpAny_loadPart_at hC ?_ | with_reducible refine wpAny_madeBy_exc hC ?_ | wp_step)
  refine codeAny_call_builtin_code (Code.quiet_builtin _ F.quiet) (check_newK F hT hC ?_)
  refine new_K F hT hC ?_ hrest
  show wpAny _ _ _ _ _ _
  have k : ∀ b o, h.get? b = some o → ((h.push (W.kdv_tup rest)).push (excO C h.objs.size)).get? b = some o := fun b o e => Heap.get?_push_of_some _ (Heap.get?_push_of_some _ e)
  have hC₁ := k _ _ hC
  have hget : ((h.push (W.kdv_tup rest)).push (excO C h.objs.size)).get? (h.objs.size + 1) = some (excO C h.objs.size) := by heap_get
  have hcC : (Value.ref C :: bm).contains (.ref C) = true := by simp
  have i1 := hi.keeps k
  have b1 := (hb (.ref (h.objs.size + 1))).keeps k
  unfold isInstance
  repeat (first | with_reducible refine wpAny_loadPart_at hget ?_ | (with_reducible refine wpAny_isSubtype_exc hC₁ ?_; rw [hcC]) | wp_step)
  show wpAny _ _ (typeLookup (.ref C) _) _ _ _
  refine i1.at ?_
  refine wpAny_holding (wpAny_bind (b1.at ?_))
  refine wpAny_bind (wpAny_call (codeAny_mono hq fun r s' z => ?_))
  rcases r with e | (v | _ | _ | _) <;> first | exact z | exact z.elim | skip
  obtain ⟨rfl, z⟩ := z
  first
    | exact wpAny_pure (wpAny_pure z)
    | (wp_walk; exact z)
theorem call_K (F : ExcBaseFacts B newId initId bmB) (hT : ∀ X : String, bm.contains (.type X) = bmB.contains (.type X)) {rest : List Value} {kw : List (Str × Value)} {fI : Addr}
    (hC : h.get? C = some (excClassObj nm q C N bs bm hdct sn sub ab col dd k0 k1 k2 k3 k5 newId))
    (hi : W.Looks (model prog w) h (typeLookup (.ref C) "__init__") (some (.ref fI))) (hb : ∀ self, W.Looks (model prog w) h (bindSpecial (.ref fI) self) (.ref fI, [self])) (hrest : rest.length ≤ sizeLine)
    (hq : codeAny (model prog w) (A.under (.builtin "type.__call__" ⟨.ref C :: rest, kw⟩)) (.call (.ref fI) ⟨.ref (h.objs.size + 1) :: rest, kw⟩) (W.InitBack (h.objs.size + 1) R)
      ⟨(h.push (W.kdv_tup rest)).push (excO C h.objs.size), g, d, t, os⟩) :
    codeAny (model prog w) A (.call (.ref C) ⟨rest, kw⟩) R ⟨h, g, d, t, os⟩ := by
  have f1 := tc_lookup
  have f2 := tc_bind (.ref C)
  have hTy : (⟨h, g, d, t, os⟩ : Shared).TypeIs (.ref C) "type" := ⟨_, hC, rfl⟩
  refine codeAny_of_tree ?_
  show wpAny _ _ (callAny (.ref C) _) _ _ _
  repeat (any_goals (first | assumption | with_reducible refine wpAny_loadPart_at hC ?_ | wp_step))
  refine ⟨rfl, ?_⟩
  refine codeAny_call_builtin_at (Code.quiet_builtin _ (by decide +kernel)) entry_typeCall (wpAny_check_type_call_sub hC (type_callK F hT hC hi hb hrest ?_))
  refine codeAny_mono hq fun r s' z => ?_
  rcases r with e | (v | _ | _ | _) <;> exact z
end
end BKX
end PySem

set_option maxRecDepth 100000
set_option maxHeartbeats 4000000
/-! B6b: exceptions made as values. -/
namespace BK
open PySem PySem.Spec PyProof.Rows L2
/-- the body of an __init__ that keeps its parameters -/
def initB (sc : Scope) (N : List Str) : Nat → List Str → List Stmt → Bool
  | _, [], l => l.isEmpty
  | i, n :: ns, l => (match l with
    | .Assign [.Attribute (.Name s0 _) f _] (.Name x _) _ :: r => decide (N[0]? = some s0) && (visB sc s0 && (okName s0 && (decide (f = n) && (decide (N[i]? = some x) && (visB sc x && (okName x && initB sc N (i + 1) ns r))))))
    | _ => false)
def tIn (K : PySem.W.Frag) : Nat → List Str → TS
  | _, [] => tNext
  | i, n :: ns => tSeq (tOst K n (tVar 0) (tVar i)) (tIn K (i + 1) ns)
section
variable {X : Cx} {C a : Addr}
theorem vis_of {sc : Scope} {x : Str} (h : visB sc x = true) : Vis sc x := by
  unfold visB at h
  unfold Vis
  split at h
  · rename_i e; exact .inl e
  · rename_i e; exact .inr (.inl e)
  · rename_i e; exact .inr (.inr e)
  · cases h
theorem init_pss : ∀ {ns : List Str} {i : Nat} {l : List Stmt}, initB X.env.scope X.N i ns l = true → PSs X l (tIn X.K i ns)
  | [], i, l, h => by
    simp only [initB] at h
    have : l = [] := by simpa using h
    subst this
    exact pss_nil
  | n :: ns, i, l, h => by
    simp only [initB] at h
    split at h
    · rename_i s0 _ f _ x _ _ r
      simp only [Bool.and_eq_true, decide_eq_true_eq, okName, Bool.not_eq_true'] at h
      obtain ⟨h1, h2, h3, rfl, h5, h6, h7, h8⟩ := h
      exact pss_cons (ps_ost (pe_var h1 (vis_of h2) h3.1 h3.2) (pe_var h5 (vis_of h6) h7.1 h7.2) rfl) (init_pss h8)
    · cases h
theorem in_rest (O : OexC X.K C) {dx : Addr} (hda : dx ≠ a) : ∀ {ns : List Str} {ys : List V} {i : Nat} {σ : L2.St} {H : Hp} {D : Ends} {fs0 : List (Str × V)}, ns.length = ys.length → (∀ j y, ys[j]? = some y → σ[i + j]? = some (some y)) → σ[0]? = some (some (.ref a)) →
    H a = some (exo a C (some dx)) → H dx = some (exd dx fs0) → fs0.length + ns.length ≤ 900 → (∀ n ∈ ns, PySem.W.findIn X.K (.ref C) n = some none) →
    (∀ H', (∀ b, b ≠ dx → H' b = H b) → H' dx = some (exd dx ((ns.zip ys).reverse ++ fs0)) → D.nx σ H') → tIn X.K i ns D σ H
  | [], [], i, σ, H, D, fs0, _, _, _, ha, hd, _, _, q => q H (fun _ _ => rfl) (by simpa using hd)
  | [], _ :: _, _, _, _, _, _, h, _, _, _, _, _, _, _ => by simp at h
  | _ :: _, [], _, _, _, _, _, h, _, _, _, _, _, _, _ => by simp at h
  | n :: ns, y :: ys, i, σ, H, D, fs0, hl, hy, h0, ha, hd, hz, hn, q => by
    refine ⟨y, hy 0 y rfl, _, h0, a, C, rfl, O, hn n (by simp), .inr ⟨dx, fs0, ha, hd, by simp at hz; omega, ?_⟩⟩
    refine in_rest O hda (ys := ys) (by simpa using hl) (fun j z hj => ?_) h0 (by rw [upd_ne (Ne.symm hda)]; exact ha) upd_same (by simp at hz ⊢; omega) (fun m hm => hn m (List.mem_cons_of_mem _ hm)) fun H' h1 h2 => ?_
    · have := hy (j + 1) z (by simpa using hj)
      rw [show i + (j + 1) = i + 1 + j by omega] at this
      exact this
    · refine q H' (fun b hb => by rw [h1 b hb, upd_ne hb]) ?_
      rw [h2]
      simp
theorem in_all (O : OexC X.K C) {ns : List Str} {ys : List V} {i : Nat} {σ : L2.St} {H : Hp} {D : Ends} (hne : ns ≠ []) (hl : ns.length = ys.length) (hy : ∀ j y, ys[j]? = some y → σ[i + j]? = some (some y)) (h0 : σ[0]? = some (some (.ref a))) (ha : H a = some (exo a C none)) (hz : ns.length ≤ 800) (hn : ∀ n ∈ ns, PySem.W.findIn X.K (.ref C) n = some none)
    (q : ∀ H' dx, H dx = none → dx ≠ a → (∀ b, b ≠ dx → b ≠ a → H' b = H b) → H' a = some (exo a C (some dx)) → H' dx = some (exd dx (ns.zip ys).reverse) → D.nx σ H') : tIn X.K i ns D σ H := by
  cases ns with
  | nil => exact absurd rfl hne
  | cons n ns =>
    cases ys with
    | nil => simp at hl
    | cons y ys =>
      refine ⟨y, hy 0 y rfl, _, h0, a, C, rfl, O, hn n (by simp), .inl ⟨ha, fun dx hdx hda => ?_⟩⟩
      refine in_rest O hda (ys := ys) (by simpa using hl) (fun j z hj => ?_) h0 upd_same (by rw [upd_ne hda]; exact upd_same) (by simp at hz ⊢; omega) (fun m hm => hn m (List.mem_cons_of_mem _ hm)) fun H' h1 h2 => ?_
      · have := hy (j + 1) z (by simpa using hj)
        rw [show i + (j + 1) = i + 1 + j by omega] at this
        exact this
      · refine q H' dx hdx hda (fun b hb hba => by rw [h1 b hb, upd_ne hba, upd_ne hb]) (by rw [h1 a (Ne.symm hda), upd_same]) ?_
        rw [h2]
        simp
end
/-- what such an __init__ promises -/
def spIn (C : Addr) (ns : List Str) : Sp := fun vs H Q _ => ∃ (a : Addr) (ys : List V), vs = .ref a :: ys ∧ ns.length = ys.length ∧ H a = some (exo a C none) ∧
  ∀ H' dx, H dx = none → dx ≠ a → (∀ b, b ≠ dx → b ≠ a → H' b = H b) → H' a = some (exo a C (some dx)) → H' dx = some (exd dx (ns.zip ys).reverse) → Q .non H'
section
variable {prog : Program} {w : World} {K : PySem.W.Frag} {mg : Str → Option Value} {base : Heap}
theorem start_at {N : List Str} {vs : List V} {i : Nat} {v : V} (h : vs[i]? = some v) : (L2.start N vs)[i]? = some (some v) := by
  unfold L2.start
  have hi := (List.getElem?_eq_some_iff.mp h).1
  rw [List.getElem?_append_left (by simpa using hi), List.getElem?_map, h]
  rfl
theorem init_ok {CX : CXT} {C f : Addr} {fd : FuncData} {x qual : Str} {params : Arguments} {body : List Stmt} {scope : Scope} {N ns : List Str} (F : FunD K x qual params body scope [] [] f fd) (S : FnScope N N scope) (O : OexC K C) (hne : ns ≠ []) (hl : N.length = ns.length + 1) (hz : ns.length ≤ 800)
    (hb : initB scope N 1 ns body = true) (hn : ∀ n ∈ ns, PySem.W.findIn K (.ref C) n = some none) (k : Nat) : FnOk prog w K mg base CX (k + 1) f fd N (spIn C ns) := by
  refine F.ok S (fun vs H Q E h => ?_) fun cdv A outer s H vs Q E hr h => ⟨tIn K 1 ns, init_pss hb, ?_⟩
  · obtain ⟨a, ys, rfl, h1, _⟩ := h
    simp
    omega
  · obtain ⟨a, ys, rfl, h1, ha, q⟩ := h
    exact in_all (X := cxOf CX prog w K mg base N qual scope f cdv A outer s H E) O hne h1 (fun j y hj => by rw [Nat.add_comm]; exact start_at (by simpa using hj)) (start_at rfl) ha hz hn fun H' dx h2 h3 h4 h5 h6 => q H' dx h2 h3 h4 h5 h6
/-- such a class is called -/
theorem mk_run {CX : CXT} {X : Cx} {C fI : Addr} {k : Nat} {fd : FuncData} {N ns : List Str} (O : OexC X.K C) (iC : PySem.W.findIn X.K (.ref C) "__init__" = some (some (.ref fI))) (tI : PySem.W.typeIn X.K (.ref fI) = some (.type "function"))
    (F1 : FnOk X.prog X.w X.K X.mg X.base CX k fI fd N (spIn C ns)) (hr : Room (k + 1) X.A) (hx : Passes CX X (fun _ _ _ => False)) {pins : List (Addr × Obj)} {σ : L2.St} {H : Hp} {s : Shared} {Q : VK} {us vals : List Value} {kw : List (Str × Value)} {zs : List V}
    (I : Inv X pins σ H s) (hb : ∀ (s : Shared) (self : Value), X.K.In s.heap → BindsTo s fd ⟨self :: us, kw⟩ (N.zip (self :: vals))) (r : Vals zs vals) (hl : ns.length = zs.length) (hus : us.length ≤ sizeLine)
    (q : ∀ a dx H', H a = none → H dx = none → dx ≠ a → (∀ b, b ≠ dx → b ≠ a → H' b = H b) → H' a = some (exo a C (some dx)) → H' dx = some (exd dx (ns.zip zs).reverse) → Q (.ref a) H') : wpAny (model X.prog X.w) X.A (PySem.call (.ref C) us kw) (EP X pins σ Q) X.xe s := by
  obtain ⟨nm, qq, N', bs, bm, sn, sub, ab, col, dd, k0, k1, k2, k3, k5, hC, hbm⟩ := O.cls
  obtain ⟨hp, g, dr, tk, os⟩ := s
  have hsz : hp.objs.size ≤ hp.objs.size + 1 := Nat.le_succ _
  have hn : H (hp.objs.size + 1) = none := I.hok.fresh hsz
  have kk : ∀ b o, hp.get? b = some o → ((hp.push (PySem.W.kdv_tup us)).push (PySem.HandSPX.excO C hp.objs.size)).get? b = some o := fun b o e => Heap.get?_push_of_some _ (Heap.get?_push_of_some _ e)
  have hget : ((hp.push (PySem.W.kdv_tup us)).push (PySem.HandSPX.excO C hp.objs.size)).get? (hp.objs.size + 1) = some (PySem.HandSPX.excO C hp.objs.size) := by heap_get
  have I2 : Inv X pins σ (upd H (hp.objs.size + 1) (exo (hp.objs.size + 1) C none)) ⟨(hp.push (PySem.W.kdv_tup us)).push (PySem.HandSPX.excO C hp.objs.size), g, dr, tk, os⟩ :=
    I.laid (t' := tk) (a := hp.objs.size + 1) (o := exo (hp.objs.size + 1) C none) (h' := (hp.push (PySem.W.kdv_tup us)).push (PySem.HandSPX.excO C hp.objs.size)) kk hsz (exo_ok hget)
  have r2 : Vals (V.ref (hp.objs.size + 1) :: zs) (Value.ref (hp.objs.size + 1) :: vals) := .cons rfl r
  have hq : spIn C ns (V.ref (hp.objs.size + 1) :: zs) (upd H (hp.objs.size + 1) (exo (hp.objs.size + 1) C none)) (fun v H2 => v = .non ∧ Q (.ref (hp.objs.size + 1)) H2) (fun _ _ _ => False) := by
    refine ⟨_, zs, rfl, hl, upd_same, fun H' dx h1 h2 h3 h4 h5 => ⟨rfl, ?_⟩⟩
    rw [upd_ne h2] at h1
    exact q _ dx H' hn h1 h2 (fun b hb hba => by rw [h3 b hb hba, upd_ne hba]) h4 h5
  refine wpAny_call (PySem.BKX.call_K PySem.F.excBase_ValueError (fun Y => PySem.HandSPX.refsVE_contains Y bm hbm) (I.kIn _ _ hC) (PySem.W.looks_findIn I.kIn iC) (fun self => PySem.W.bind_fn I.kIn self tI) hus
    (codeAny_mono (F1.run _ X.stack _ _ ⟨Value.ref (hp.objs.size + 1) :: us, kw⟩ (Value.ref (hp.objs.size + 1) :: vals) _ _ (fun _ _ _ => False) (hr.make C us kw) (I2.env0.make C us kw) (hb _ _ I2.kIn) r2 hq) fun r s' hq' => ?_))
  cases r with
  | error er => exact hx pins σ _ _ er s' I2 hq'
  | ok fl =>
    cases fl with
    | ret u =>
      obtain ⟨v, H2, I3, rv, ev, q3⟩ := I2.after hq'
      subst ev
      exact ⟨rv, ⟨.ref (hp.objs.size + 1), H2, I3, rfl, q3⟩⟩
    | next => exact False.elim hq'
    | brk => exact False.elim hq'
    | cont => exact False.elim hq'
/-- a class without own __init__ is called -/
theorem mk_run0 {X : Cx} {C : Addr} (h : PySem.W.excIn X.K C [.type "ValueError", .type "Exception", .type "BaseException", .type "object"] "ValueError.__new__" = true) {pins : List (Addr × Obj)} {σ : L2.St} {H : Hp} {s : Shared} {Q : VK} {us : List Value} (I : Inv X pins σ H s) (hus : us.length ≤ sizeLine)
    (q : ∀ a, H a = none → Q (.ref a) (upd H a (exo a C none))) : wpAny (model X.prog X.w) X.A (PySem.call (.ref C) us) (EP X pins σ Q) X.xe s := by
  obtain ⟨bm, N, nm, qn, bs, hdct, sn, sub, ab, col, dd, k0, k1, k2, k3, k5, mN, hC, hN, hni, TT⟩ := exc_obj I.kIn h
  obtain ⟨hp, g, dr, tk, os⟩ := s
  refine wpAny_call_exc_subT PySem.F.excBase_ValueError TT hC hN hni (fun h' e hm => ?_) hus
  obtain ⟨t, he, ht, _⟩ := hm.there
  have hn : H e = none := I.hok.gone hm.new
  have hee : h'.get? e = some ({ cls := .ref C, dict := none, data := .fields #[.ref t, .none, .none, .none, .bool false, .none] } : Obj) := he
  by_cases hsz : hp.objs.size ≤ e
  · exact ⟨.ref e, _, I.laid (t' := tk) (a := e) (o := exo e C none) hm.keeps hsz (exo_ok hee), rfl, q e hn⟩
  · -- a place below the size that was free
    have U : Un X.fs [] H (upd H e (exo e C none)) hp h' := {
      keep := fun b o z n _ _ => hm.keeps b o z
      slot := fun b o z n _ _ => ⟨o.slots, hm.keeps b o z⟩
      free := fun b o z n _ => by
        rw [upd_ne fun y => ?_]
        · exact n
        · rw [y, hm.new] at z
          cases z
      there := fun b o z _ => ⟨o, hm.keeps b o z⟩
      tups := fun b xs z => by rw [upd_ne (ne_of_none z hn)]; exact z
      frzs := fun b o u z => by rw [upd_ne (ne_of_none z hn)]; exact z
      tbls := fun b ps z => ⟨#[], by rw [upd_ne (ne_of_none z hn), z]; simp⟩ }
    refine ⟨.ref e, _, I.un (t' := tk) U fun b o z => ?_, rfl, q e hn⟩
    by_cases hb : b = e
    · subst hb
      rw [upd_same] at z
      cases z
      exact exo_ok hee
    · rw [upd_ne hb] at z
      exact (I.hok b o z).stay (fun c v _ y => hm.keeps c v y) (fun c y => by rw [upd_ne (ne_of_none y hn)]; exact y) fun c xs y => by rw [upd_ne (ne_of_none y hn)]; exact y
end
end BK

set_option maxRecDepth 100000
set_option maxHeartbeats 4000000
/-! B6c: all defs keep what the machine tells. -/
namespace BK
open PySem PySem.Spec PyProof.Rows L2
def VEm : List Value := [.type "ValueError", .type "Exception", .type "BaseException", .type "object"]
def permV {α : Type} (o : List Nat) (ws : List α) : List α := (List.range o.length).filterMap fun i => (o.findIdx? (· == i)).bind (ws[·]?)
def FnFact (K : PySem.W.Frag) (T : Adr) (P : Pg) (M : Nm) (f : Nat) (x : Str) : Prop := ∃ (fd : FuncData) (qual : Str) (params : Arguments) (body : List Stmt) (scope : Scope) (N ps : List Str) (Df : Def),
  FunD K x qual params body scope [] [] (T.fn f) fd ∧ FnScope N ps scope ∧ Binds K fd ps [] ∧ P.defs f = some Df ∧ Df.n = ps.length ∧ Df.slots = N.length ∧ chkSs M N P.cps Df.code ⟨scope, fun _ => true⟩ body = true
def ClFact (K : PySem.W.Frag) (T : Adr) (M : Nm) (k : Nat) (ns : List Str) : Prop := (ns = [] ∧ PySem.W.excIn K (T.cls k) VEm "ValueError.__new__" = true) ∨
  (ns ≠ [] ∧ ns.length ≤ 800 ∧ OexC K (T.cls k) ∧ ∃ (fI : Addr) (fd : FuncData) (x qual : Str) (params : Arguments) (body : List Stmt) (scope : Scope) (N : List Str), PySem.W.findIn K (.ref (T.cls k)) "__init__" = some (some (.ref fI)) ∧ PySem.W.typeIn K (.ref fI) = some (.type "function") ∧
    FunD K x qual params body scope [] [] fI fd ∧ FnScope N N scope ∧ N.length = ns.length + 1 ∧ initB scope N 1 ns body = true ∧ (∀ n ∈ ns, PySem.W.findIn K (.ref (T.cls k)) n = some none) ∧
    (∀ (s : Shared) (self : Value) (us : List Value), K.In s.heap → us.length = ns.length → BindsTo s fd ⟨self :: us, []⟩ (N.zip (self :: us))) ∧
    ∀ o, (k, o) ∈ M.KW → o.length = ns.length ∧ ∀ (s : Shared) (self : Value) (ws : List Value), K.In s.heap → ws.length = o.length → BindsTo s fd ⟨[self], (o.filterMap (ns[·]?)).zip ws⟩ (N.zip (self :: permV o ws)))
section
variable {prog : Program} {w : World} {K : PySem.W.Frag} {mg : Str → Option Value} {base : Heap} {T : Adr} {P : Pg} {M : Nm} {L : Nat}
theorem EnvR.start {ρ : Own} {H : Hp} {N : List Str} {ws : List W} {vs : List V} {Df : Def} (h : VRs K T ρ H ws vs) (hs : Df.slots = N.length) : EnvR K T ρ H (BK.start Df ws) (L2.start N vs) := by
  have hl := h.length
  refine ⟨by unfold BK.start L2.start; simp [hs, hl], fun i w' hw => ?_⟩
  unfold BK.start at hw
  by_cases hi : i < ws.length
  · rw [List.getElem?_append_left (by simpa using hi), List.getElem?_map] at hw
    obtain ⟨w0, h1, h2⟩ := Option.map_eq_some_iff.mp hw
    cases h2
    obtain ⟨v, h3, h4⟩ := h.get h1
    exact ⟨v, start_at h3, h4⟩
  · rw [List.getElem?_append_right (by simpa using hi), List.getElem?_replicate] at hw
    split at hw <;> cases hw
/-- what a def's end hands on -/
theorem PRS.fin {ρ : Own} {H : Hp} {E : XK} {Q : VK} {c : Bool} {n : Nat} {r : RS} (hn : n = ρ.length) (h : PR K T ρ H (VR K T) E Q (fin c n r)) : PRS K T ρ H { nx := fun _ H' => Q .non H', rt := Q } E r := by
  cases r with
  | nx en s =>
    intro ρ' H' σ' e' r' n'
    cases c with
    | false => exact h ρ' H' .non e' r' .non
    | true => exact h _ H' .non (ext_cut e' hn) (rl_cut r') .non
  | rt w s =>
    intro ρ' H' v e' r' vw
    cases c with
    | false => exact h ρ' H' v e' r' vw
    | true =>
      simp only [BK.fin, if_true] at h
      split at h
      · rename_i hl
        exact h _ H' v (ext_cut e' hn) (rl_cut r') (vw.cut _ hl)
      · exact h.elim
  | exc k l s =>
    intro ρ' H' d fs e' r' hd vf
    cases c with
    | false => exact h ρ' H' d fs e' r' hd vf
    | true =>
      simp only [BK.fin, if_true] at h
      split at h
      · rename_i hl
        exact h _ H' d fs (ext_cut e' hn) (rl_cut r') hd (vf.cut _ hl)
      · exact h.elim
  | bk en s => exact h.elim
  | ct en s => exact h.elim
  | stuck => exact h.elim
theorem sp_len {d f : Nat} {Df : Def} (hf : P.defs f = some Df) {vs : List V} {H : Hp} {Q : VK} {E : XK} (h : spC K T (call P L d) f vs H Q E) : vs.length = Df.n := by
  obtain ⟨ρ, S, ws, r, vw, p⟩ := h
  cases d with
  | zero => exact p.elim
  | succ d =>
    simp only [call, hf] at p
    split at p
    · rename_i hl
      rw [← vw.length]
      exact hl
    · exact p.elim
theorem fn_step {d f : Nat} {x qual : Str} {params : Arguments} {body : List Stmt} {scope : Scope} {N ps : List Str} {Df : Def} {fd : FuncData} (th : Th prog w K mg base CX0 T P M (call P L d) d) (F : FunD K x qual params body scope [] [] (T.fn f) fd) (S : FnScope N ps scope) (hf : P.defs f = some Df) (hn : Df.n = ps.length)
    (hs : Df.slots = N.length) (hc : chkSs M N P.cps Df.code ⟨scope, fun _ => true⟩ body = true) : FnOk prog w K mg base CX0 (d + 1) (T.fn f) fd ps (spC K T (call P L (d + 1)) f) := by
  refine F.ok S (fun vs H Q E h => (sp_len hf h).trans hn) fun cdv A outer s H vs Q E hr h => ⟨_, PSs.nox (ss_ok th L Df.code ⟨scope, fun _ => true⟩ body hc E _ ?_), ?_⟩
  · exact {
      hprog := rfl
      hw := rfl
      hK := rfl
      hmg := rfl
      hbase := rfl
      hN := rfl
      nd := S.nd
      sc := rfl
      so := fun _ _ => rfl
      calm := rfl
      room := hr
      pas := fun _ _ _ _ _ _ _ z => z.elim
      own := PassesOwn.never }
  · obtain ⟨ρ, S0, ws, r, vw, p⟩ := h
    simp only [call, hf] at p
    split at p
    · exact ⟨ρ, S0, _, r, EnvR.start vw hs, PRS.fin r.len.symm p⟩
    · exact p.elim
theorem byKw_perm {o : List Nat} {ws l : List W} (h : byKw o ws = some l) {ρ : Own} {H : Hp} {zs : List V} (hz : VRs K T ρ H ws zs) : VRs K T ρ H l (permV o zs) ∧ l.length = o.length ∧ ws.length = o.length := by
  unfold byKw at h
  have hlen : ws.length = o.length := by
    by_cases q : ws.length = o.length
    · exact q
    · rw [if_neg q] at h
      cases h
  rw [if_pos hlen] at h
  unfold permV
  have key : ∀ (is : List Nat) (l : List W), is.mapM (fun i => (o.findIdx? (· == i)).bind (ws[·]?)) = some l → VRs K T ρ H l (is.filterMap fun i => (o.findIdx? (· == i)).bind (zs[·]?)) ∧ l.length = is.length := by
    intro is
    induction is with
    | nil =>
      intro l h
      simp at h
      subst h
      exact ⟨.nil, rfl⟩
    | cons i is ih =>
      intro l h
      rw [List.mapM_cons] at h
      simp only [Option.pure_def, Option.bind_eq_bind, Option.bind_eq_some_iff, Option.some.injEq] at h
      obtain ⟨w0, ⟨j, h1, h2⟩, l', h3, rfl⟩ := h
      obtain ⟨v, h4, h5⟩ := hz.get h2
      obtain ⟨h6, h7⟩ := ih l' h3
      have : (o.findIdx? (· == i)).bind (zs[·]?) = some v := by rw [h1]; exact h4
      rw [show List.filterMap (fun i => (o.findIdx? (· == i)).bind (zs[·]?)) (i :: is) = v :: List.filterMap (fun i => (o.findIdx? (· == i)).bind (zs[·]?)) is from List.filterMap_cons_some this]
      exact ⟨.cons h5 h6, by simp [h7]⟩
  obtain ⟨h1, h2⟩ := key _ _ h
  exact ⟨h1, by simpa using h2, hlen⟩
theorem perm_vals {o : List Nat} {zs : List V} {us : List Value} (h : Vals zs us) : Vals (permV o zs) (permV o us) := by
  unfold permV
  generalize List.range o.length = is
  induction is with
  | nil => exact .nil
  | cons i is ih =>
    cases q : o.findIdx? (· == i) with
    | none =>
      rw [List.filterMap_cons_none (by rw [q]; rfl), List.filterMap_cons_none (by rw [q]; rfl)]
      exact ih
    | some j =>
      cases hz : zs[j]? with
      | none =>
        have hu := Vals.none_of h hz
        rw [List.filterMap_cons_none (by rw [q]; exact hz), List.filterMap_cons_none (by rw [q]; exact hu)]
        exact ih
      | some z =>
        obtain ⟨u, hu, ru⟩ := h.get hz
        rw [List.filterMap_cons_some (b := z) (by rw [q]; exact hz), List.filterMap_cons_some (b := u) (by rw [q]; exact hu)]
        exact .cons ru ih
theorem VRf.zip {ρ : Own} {H : Hp} : ∀ {ns : List Str} {ws : List W} {zs : List V}, VRs K T ρ H ws zs → VRf K T ρ H (ns.zip ws) (ns.zip zs)
  | [], _, _, _ => .nil
  | _ :: _, _, _, .nil => .nil
  | _ :: _, _, _, .cons h t => .cons h (VRf.zip t)
theorem VRf.app {ρ : Own} {H : Hp} : ∀ {a b : List (Str × W)} {x y : List (Str × V)}, VRf K T ρ H a x → VRf K T ρ H b y → VRf K T ρ H (a ++ b) (x ++ y)
  | _, _, _, _, .nil, h => h
  | _, _, _, _, .cons h t, g => .cons h (VRf.app t g)
theorem VRf.rev {ρ : Own} {H : Hp} : ∀ {a : List (Str × W)} {x : List (Str × V)}, VRf K T ρ H a x → VRf K T ρ H a.reverse x.reverse
  | _, _, .nil => .nil
  | (_, _) :: _, _ :: _, .cons h t => by
    rw [List.reverse_cons, List.reverse_cons]
    exact (VRf.rev t).app (.cons h .nil)
/-- the machine's made exception stands for the one that was made -/
theorem made_ok {ρ : Own} {S : Sto} {H H' : Hp} {Q : VK} {E : XK} {k : Nat} {ns : List Str} {ws : List W} {zs : List V} {a dx : Addr} (r : Rl K T ρ S H) (hw : VRs K T ρ H ws zs) (p : PR K T ρ H (VR K T) E Q (.ok (.exn k (ns.zip ws).reverse) S)) (ha : H a = none) (hd : H dx = none)
    (hk : ∀ b, b ≠ dx → b ≠ a → H' b = H b) (h1 : H' a = some (exo a (T.cls k) (some dx))) (h2 : H' dx = some (exd dx (ns.zip zs).reverse)) : Q (.ref a) H' := by
  have kk : ∀ b o, H b = some o → H' b = some o := fun b o q => by
    rw [hk b (fun z => by rw [z, hd] at q; cases q) (fun z => by rw [z, ha] at q; cases q)]
    exact q
  have e : Ext ρ H ρ H' := {
    len := Nat.le_refl _
    pt := fun _ _ q => .inl q
    new := fun i b hi q => by
      have := (List.getElem?_eq_some_iff.mp q).1
      omega
    keep := fun b o q _ => kk b o q
    there := fun b o q => ⟨o, kk b o q⟩ }
  have r' : Rl K T ρ S H' := {
    len := r.len
    at_ := fun i x o q1 q2 => (r.at_ i x o q1 q2).mono r e fun b u _ q => kk b u q
    inj := r.inj
    low := r.low }
  exact p ρ H' _ e r' (.exn (no_has r ha) (no_has r hd) h1 h2 (VRf.zip (hw.mono r e)).rev)
theorem made_ok0 {ρ : Own} {S : Sto} {H : Hp} {Q : VK} {E : XK} {k : Nat} {a : Addr} (r : Rl K T ρ S H) (p : PR K T ρ H (VR K T) E Q (.ok (.exn k []) S)) (ha : H a = none) : Q (.ref a) (upd H a (exo a (T.cls k) none)) :=
  p ρ _ _ (ext_new ha) (rl_new r ha) (.exn0 (no_has r ha) upd_same)
theorem mk_all {X : Cx} {d : Nat} (hK : X.K = K) (hr : Room d X.A) (hCl : ∀ k ns, P.cps k = some ns → ClFact K T M k ns) (k : Nat) : CallR X (.ref (T.cls k)) (rPn K T (mkE P d k)) := by
  subst hK
  intro pins s σ H xs us Q I rx ⟨ρ, S, ws, E, r, va, p⟩
  simp only [mkE] at p
  split at p
  · rename_i ns hns
    split at p
    · rename_i hz
      obtain ⟨h3, hl⟩ := hz
      have hl2 := va.length
      have hl3 := rx.length
      rcases hCl k ns hns with ⟨rfl, hx⟩ | ⟨hne, h8, O, fI, fd, x, qual, params, body, scope, N, iC, tI, F, Sc, hN, hb, hn, hp, _⟩
      · refine mk_run0 hx I (by rw [← hl3, ← hl2, ← hl]; exact Nat.zero_le _) fun a ha => ?_
        exact made_ok0 r p ha
      · refine mk_run (CX := CX0) (k := 1) O iC tI (init_ok F Sc O hne hN h8 hb hn 0) (hr.mono (by omega)) pass0 (vals := us) (zs := xs) I (fun s self hs => hp s self us hs (by omega)) rx (by omega) (by rw [sizeLine_eq]; omega) fun a dx H' ha hd hda hk h1 h2 => ?_
        exact made_ok r va p ha hd hk h1 h2
    · exact p.elim
  · exact p.elim
theorem mkk_all {X : Cx} {d : Nat} (hK : X.K = K) (hr : Room d X.A) (hCl : ∀ k ns, P.cps k = some ns → ClFact K T M k ns) (k : Nat) (ns : List Str) (o : List Nat) (hns : P.cps k = some ns) (hko : (k, o) ∈ M.KW) (pins : List (Addr × Obj)) (s : Shared) (σ : L2.St) (H : Hp) (zs : List V) (us : List Value) (Q : VK)
    (I : Inv X pins σ H s) (rx : Vals zs us) (h : rPn K T (fun ws S => okR (byKw o ws) fun ws => mkE P d k ws S) zs H Q) : wpAny (model X.prog X.w) X.A (PySem.call (.ref (T.cls k)) [] ((o.filterMap (ns[·]?)).zip us)) (EP X pins σ Q) X.xe s := by
  subst hK
  obtain ⟨ρ, S, ws, E, r, va, p⟩ := h
  simp only at p
  cases hb0 : byKw o ws with
  | none =>
    rw [hb0] at p
    exact p.elim
  | some l =>
    rw [hb0] at p
    obtain ⟨vl, hll, hws⟩ := byKw_perm hb0 va
    simp only [okR, mkE, hns] at p
    split at p
    · rename_i hz
      obtain ⟨h3, hl⟩ := hz
      have hl2 := va.length
      have hl3 := rx.length
      have hl4 := vl.length
      rcases hCl k ns hns with ⟨rfl, hx⟩ | ⟨hne, h8, O, fI, fd, x, qual, params, body, scope, N, iC, tI, F, Sc, hN, hb, hn, _, hp⟩
      · -- no parameters: nothing is bound
        have ho : o = [] := List.length_eq_zero_iff.mp (by rw [← hll, ← hl]; rfl)
        subst ho
        have e : (([] : List Nat).filterMap (([] : List Str)[·]?)).zip us = [] := rfl
        rw [e]
        refine mk_run0 hx I (by rw [sizeLine_eq]; simp) fun a ha => made_ok0 r p ha
      · obtain ⟨hol, hp⟩ := hp o hko
        refine mk_run (CX := CX0) (k := 1) O iC tI (init_ok F Sc O hne hN h8 hb hn 0) (hr.mono (by omega)) pass0 (vals := permV o us) (zs := permV o zs) I (fun s self hs => hp s self us hs (by omega)) (perm_vals rx) (by omega) (by rw [sizeLine_eq]; simp) fun a dx H' ha hd hda hk h1 h2 => ?_
        exact made_ok r vl p ha hd hk h1 h2
    · exact p.elim
/-- a def that keeps what the machine tells of it, as soon as all do so one level below -/
def FnOwn (prog : Program) (w : World) (K : PySem.W.Frag) (mg : Str → Option Value) (base : Heap) (T : Adr) (P : Pg) (M : Nm) (L : Nat) (f : Nat) : Prop := ∃ (fd : FuncData) (ps : List Str) (Df : Def), P.defs f = some Df ∧ Df.n = ps.length ∧ Binds K fd ps [] ∧
  ∀ d, Th prog w K mg base CX0 T P M (call P L d) d → FnOk prog w K mg base CX0 (d + 1) (T.fn f) fd ps (spC K T (call P L (d + 1)) f)
theorem FnFact.own {f : Nat} {x : Str} (h : FnFact K T P M f x) : FnOwn prog w K mg base T P M L f := by
  obtain ⟨fd, qual, params, body, scope, N, ps, Df, F, S, B, h1, h2, h3, h4⟩ := h
  exact ⟨fd, ps, Df, h1, h2, B, fun d th => fn_step th F S h1 h2 h3 h4⟩
/-- THE RULE: the machine's calls are what the defs do -/
theorem th_own (G : Glo K mg T P M) (hF : ∀ f x, M.FN[f]? = some x → FnOwn prog w K mg base T P M L f) (hCl : ∀ k ns, P.cps k = some ns → ClFact K T M k ns) (hkp : ∀ k x, M.CN[k]? = some x → PySem.W.keepIn K (.ref (T.cls k)) = true) : ∀ d, Th prog w K mg base CX0 T P M (call P L d) d
  | 0 => {
      glo := G
      fns := fun f x hx => by
        obtain ⟨fd, ps, Df, h1, h2, B, _⟩ := hF f x hx
        exact ⟨fd, ps, ⟨fun vs H Q E h => (sp_len h1 h).trans h2, fun A outer s H args us vs Q E _ _ _ _ h => by
          obtain ⟨ρ, S, ws, r, vw, p⟩ := h
          exact p.elim⟩, B⟩
      cxF := fun _ _ _ _ _ z => z
      kp := hkp
      mkc := fun X _ _ hK _ _ hr k => mk_all hK hr hCl k
      mkk := fun X _ _ hK _ _ hr k ns o h1 h2 => mkk_all hK hr hCl k ns o h1 h2 }
  | d + 1 => {
      glo := G
      fns := fun f x hx => by
        obtain ⟨fd, ps, Df, h1, h2, B, go⟩ := hF f x hx
        exact ⟨fd, ps, go d (th_own G hF hCl hkp d), B⟩
      cxF := fun _ _ _ _ _ z => z
      kp := hkp
      mkc := fun X _ _ hK _ _ hr k => mk_all hK hr hCl k
      mkk := fun X _ _ hK _ _ hr k ns o h1 h2 => mkk_all hK hr hCl k ns o h1 h2 }
theorem th_all (G : Glo K mg T P M) (hF : ∀ f x, M.FN[f]? = some x → FnFact K T P M f x) (hCl : ∀ k ns, P.cps k = some ns → ClFact K T M k ns) (hkp : ∀ k x, M.CN[k]? = some x → PySem.W.keepIn K (.ref (T.cls k)) = true) (d : Nat) : Th prog w K mg base CX0 T P M (call P L d) d :=
  th_own G (fun f x hx => (hF f x hx).own) hCl hkp d
end
end BK

set_option maxRecDepth 100000
set_option maxHeartbeats 4000000
/-! B7: what a look at the written part tells of the classes. -/
namespace BK
open PySem PySem.Spec PyProof.Rows L2
/-- the tables of a law -/
structure Tb where
  FN : List Str
  CN : List Str
  CP : List (List Str)
  SUP : List (List Nat)
  KW : List (Nat × List Nat)
  defs : List Def
  need : Nat → Nat → Bool
def errTys : List String := ["KeyError", "IndexError", "TypeError"]
def Tb.pg (t : Tb) : Pg where
  defs := fun i => t.defs[i]?
  csub := fun c d => if (decide (c < t.CN.length) && (decide (d < t.CN.length) && t.need c d)) = true then some ((t.SUP.getD c []).contains d) else none
  cty := fun c u => if (decide (c < t.CN.length) && u == "ValueError") = true then some true else if (decide (c < t.CN.length) && (t.need c 1000 && errTys.contains u)) = true then some false else none
  cps := fun c => if c < t.CN.length then t.CP[c]? else none
  cfl := fun c f => decide (c < t.CN.length) && (t.CP.getD c []).contains f
def Tb.nm (t : Tb) : Nm := ⟨t.FN, t.CN, [], t.KW⟩
def adr (t : Tb) (K : PySem.W.Frag) : Adr := ⟨fun i => He.ga K (t.FN.getD i ""), fun i => He.ga K (t.CN.getD i "")⟩
def excB (K : PySem.W.Frag) (D : Addr) : Bool :=
  decide (PySem.W.findIn K (.ref D) "__getattribute__" = some (some (.builtin "BaseException.__getattribute__"))) && (decide (PySem.W.findIn K (.ref D) "__getattr__" = some none) && (decide (PySem.W.subIn K (.ref D) (.type "BaseException") = some true) && (PySem.W.hasDictIn K D &&
    (decide (PySem.W.findIn K (.ref D) "__class__" = some (some (.builtin "object.__class__"))) && (decide (PySem.W.specialIn K (.builtin "object.__class__") "__get__" = some (some (.builtin "getset_descriptor.__get__"))) && (decide (PySem.W.takesIn K (.builtin "object.__class__") = some true) && decide (PySem.W.mroIn K D (.type "object") = some true)))))))
theorem excB_ok {K : PySem.W.Frag} {D : Addr} (h : excB K D = true) : ExcC K D := by
  unfold excB at h
  simp only [Bool.and_eq_true, decide_eq_true_eq] at h
  obtain ⟨h1, h2, h3, h4, h5, h6, h7, h8⟩ := h
  exact ⟨h1, h2, h3, h4, h5, h6, h7, h8⟩
def oexO (C : Addr) : Obj → Bool
  | ⟨.type c, _, .cls cd, sl⟩ => decide (c = "type") && (cd.hasDict && (!cd.hasDel && ((match cd.mro with
    | .ref C' :: bm => decide (C' = C) && PySem.HandSPX.refsVE bm
    | _ => false) && (match sl.toList with
    | [_, _, _, _, some (.builtin n), _] => decide (n = "ValueError.__new__")
    | _ => false))))
  | _ => false
def oexB (K : PySem.W.Frag) (C : Addr) : Bool := (match K.lookup C with
  | some o => oexO C o
  | none => false) && (decide (PySem.W.findIn K (.ref C) "__setattr__" = some (some (.builtin "object.__setattr__"))) && (decide (PySem.W.subIn K (.ref C) (.type "BaseException") = some true) && (decide (PySem.W.typeIn K (.ref C) = some (.type "type")) && PySem.W.keepIn K (.ref C))))
theorem oexO_ok {C : Addr} {o : Obj} (h : oexO C o = true) : ∃ nm q N bs bm sn sub ab col dd k0 k1 k2 k3 k5, o = excClassObj nm q C N bs bm true sn sub ab col dd k0 k1 k2 k3 k5 "ValueError.__new__" ∧ PySem.HandSPX.refsVE bm = true := by
  obtain ⟨oc, od, dt, sl⟩ := o
  unfold oexO at h
  split at h
  · rename_i c dd cd sl' heq
    simp only [Obj.mk.injEq] at heq
    obtain ⟨rfl, rfl, rfl, rfl⟩ := heq
    simp only [Bool.and_eq_true, decide_eq_true_eq, Bool.not_eq_true'] at h
    obtain ⟨rfl, h1, h2, h3, h4⟩ := h
    obtain ⟨nm, bs, mro, ns, qn, hd, sn, sub, ab, col, del⟩ := cd
    simp only at h1 h2 h3
    subst h1 h2
    cases mro with
    | nil => cases h3
    | cons v bm =>
      cases v with
      | ref C' =>
        simp only [Bool.and_eq_true, decide_eq_true_eq] at h3
        obtain ⟨rfl, h3⟩ := h3
        split at h4
        · rename_i k0 k1 k2 k3 n k5 hs
          have hn := of_decide_eq_true h4
          subst hn
          obtain ⟨l⟩ := sl
          simp only at hs
          subst hs
          exact ⟨nm, qn, ns, bs, bm, sn, sub, ab, col, od, k0, k1, k2, k3, k5, rfl, h3⟩
        · cases h4
      | _ => cases h3
  · cases h
theorem oexB_ok {K : PySem.W.Frag} {C : Addr} (h : oexB K C = true) : OexC K C := by
  unfold oexB at h
  simp only [Bool.and_eq_true, decide_eq_true_eq] at h
  obtain ⟨h1, h2, h3, h4, h5⟩ := h
  split at h1
  · rename_i o ho
    obtain ⟨nm, q, N, bs, bm, sn, sub, ab, col, dd, k0, k1, k2, k3, k5, rfl, hb⟩ := oexO_ok h1
    exact ⟨⟨nm, q, N, bs, bm, sn, sub, ab, col, dd, k0, k1, k2, k3, k5, ho, hb⟩, h2, h3, h4, h5⟩
  · cases h1
/-- one class with its fields -/
def clsB (K : PySem.W.Frag) (C : Addr) (ns : List Str) : Bool := PySem.W.keepIn K (.ref C) && (excB K C && (ns.all (fun n => decide (PySem.W.findIn K (.ref C) n = some none)) && (if ns.isEmpty then PySem.W.excIn K C VEm "ValueError.__new__" else
  decide (ns.length ≤ 800) && (oexB K C && (decide (PySem.W.findIn K (.ref C) "__init__" = some (some (.ref (He.ma K C "__init__")))) && decide (PySem.W.typeIn K (.ref (He.ma K C "__init__")) = some (.type "function")))))))
def Tb.one (t : Tb) (K : PySem.W.Frag) (c : Nat) : Bool := clsB K ((adr t K).cls c) (t.CP.getD c []) && (decide (PySem.W.kitOne K (.ref ((adr t K).cls c)) (.type "ValueError") = some true) && ((!t.need c 1000 || errTys.all fun u => decide (PySem.W.kitOne K (.ref ((adr t K).cls c)) (.type u) = some false)) &&
  (List.range t.CN.length).all fun d => !t.need c d || decide (PySem.W.kitOne K (.ref ((adr t K).cls c)) (.ref ((adr t K).cls d)) = some ((t.SUP.getD c []).contains d))))
def Tb.ex (t : Tb) (K : PySem.W.Frag) : Bool := (List.range t.CN.length).all (t.one K)
section
variable {t : Tb} {K : PySem.W.Frag}
theorem ex_one (h : t.ex K = true) {c : Nat} (hc : c < t.CN.length) : clsB K ((adr t K).cls c) (t.CP.getD c []) = true ∧ PySem.W.kitOne K (.ref ((adr t K).cls c)) (.type "ValueError") = some true ∧ ∀ d, d < t.CN.length → t.need c d = true → PySem.W.kitOne K (.ref ((adr t K).cls c)) (.ref ((adr t K).cls d)) = some ((t.SUP.getD c []).contains d) := by
  have := List.all_eq_true.mp h c (List.mem_range.mpr hc)
  simp only [Tb.one, Bool.and_eq_true, decide_eq_true_eq] at this
  refine ⟨this.1, this.2.1, fun d hd hn => ?_⟩
  have h2 := List.all_eq_true.mp this.2.2.2 d (List.mem_range.mpr hd)
  rw [hn] at h2
  simpa using h2
theorem ex_cls (h : t.ex K = true) {c : Nat} (hc : c < t.CN.length) : clsB K ((adr t K).cls c) (t.CP.getD c []) = true ∧ PySem.W.kitOne K (.ref ((adr t K).cls c)) (.type "ValueError") = some true :=
  ⟨(ex_one h hc).1, (ex_one h hc).2.1⟩
theorem ex_ty (h : t.ex K = true) {c : Nat} (hc : c < t.CN.length) (hn : t.need c 1000 = true) {u : String} (hu : errTys.contains u = true) : PySem.W.kitOne K (.ref ((adr t K).cls c)) (.type u) = some false := by
  have := List.all_eq_true.mp h c (List.mem_range.mpr hc)
  simp only [Tb.one, Bool.and_eq_true] at this
  have h2 := this.2.2.1
  rw [hn] at h2
  simp only [Bool.not_true, Bool.false_or] at h2
  exact of_decide_eq_true (List.all_eq_true.mp h2 u (by simpa using hu))
theorem cls_exc {C : Addr} {ns : List Str} (h : clsB K C ns = true) : ExcC K C := by
  unfold clsB at h
  simp only [Bool.and_eq_true] at h
  exact excB_ok h.2.1
theorem cls_fl {C : Addr} {ns : List Str} (h : clsB K C ns = true) : ∀ n ∈ ns, PySem.W.findIn K (.ref C) n = some none := by
  unfold clsB at h
  simp only [Bool.and_eq_true] at h
  exact fun n hn => of_decide_eq_true (List.all_eq_true.mp h.2.2.1 n hn)
theorem facts_of (h : t.ex K = true) : Facts K (adr t K) t.pg where
  ex := fun c d b hb => by
    simp only [Tb.pg] at hb
    split at hb
    · rename_i hc
      simp only [Bool.and_eq_true, decide_eq_true_eq] at hc
      cases hb
      exact ⟨cls_exc (ex_cls h hc.1).1, (ex_one h hc.1).2.2 d hc.2.1 hc.2.2⟩
    · cases hb
  et := fun c u b hb => by
    simp only [Tb.pg] at hb
    split at hb
    · rename_i hc
      simp only [Bool.and_eq_true, decide_eq_true_eq, beq_iff_eq] at hc
      cases hb
      obtain ⟨hc, rfl⟩ := hc
      exact ⟨cls_exc (ex_cls h hc).1, (ex_cls h hc).2⟩
    · split at hb
      · rename_i hc
        simp only [Bool.and_eq_true, decide_eq_true_eq] at hc
        cases hb
        exact ⟨cls_exc (ex_cls h hc.1).1, ex_ty h hc.1 hc.2.1 hc.2.2⟩
      · cases hb
  fl := fun c f hb => by
    simp only [Tb.pg, Bool.and_eq_true, decide_eq_true_eq] at hb
    obtain ⟨hc, hf⟩ := hb
    have := (ex_cls h hc).1
    exact ⟨cls_exc this, cls_fl this f (by simpa using hf)⟩
theorem kp_of (h : t.ex K = true) (k : Nat) (x : Str) (hx : t.CN[k]? = some x) : PySem.W.keepIn K (.ref ((adr t K).cls k)) = true := by
  have hc := (List.getElem?_eq_some_iff.mp hx).1
  have := (ex_cls h hc).1
  unfold clsB at this
  simp only [Bool.and_eq_true] at this
  exact this.1
/-- the text's part of a class with own __init__ -/
def InitT (K : PySem.W.Frag) (t : Tb) (k : Nat) (ns : List Str) : Prop := ∃ (fd : FuncData) (x qual : Str) (params : Arguments) (body : List Stmt) (scope : Scope) (N : List Str), FunD K x qual params body scope [] [] (He.ma K ((adr t K).cls k) "__init__") fd ∧ FnScope N N scope ∧ N.length = ns.length + 1 ∧ initB scope N 1 ns body = true ∧
    (∀ (s : Shared) (self : Value) (us : List Value), K.In s.heap → us.length = ns.length → BindsTo s fd ⟨self :: us, []⟩ (N.zip (self :: us))) ∧
    ∀ o, (k, o) ∈ t.KW → o.length = ns.length ∧ ∀ (s : Shared) (self : Value) (ws : List Value), K.In s.heap → ws.length = o.length → BindsTo s fd ⟨[self], (o.filterMap (ns[·]?)).zip ws⟩ (N.zip (self :: permV o ws))
theorem cl_of (h : t.ex K = true) (hI : ∀ k ns, k < t.CN.length → t.CP[k]? = some ns → ns ≠ [] → InitT K t k ns) (k : Nat) (ns : List Str) (hk : t.pg.cps k = some ns) : ClFact K (adr t K) t.nm k ns := by
  simp only [Tb.pg] at hk
  split at hk
  · rename_i hc
    have hcl := (ex_cls h hc).1
    have e : t.CP.getD k [] = ns := by rw [List.getD_eq_getElem?_getD, hk]; rfl
    rw [e] at hcl
    have hfl := cls_fl hcl
    unfold clsB at hcl
    simp only [Bool.and_eq_true] at hcl
    obtain ⟨_, _, _, hcl⟩ := hcl
    cases ns with
    | nil => exact .inl ⟨rfl, hcl⟩
    | cons n ns =>
      simp only [List.isEmpty_cons, Bool.false_eq_true, if_false, Bool.and_eq_true, decide_eq_true_eq] at hcl
      obtain ⟨h8, ho, h1, h2⟩ := hcl
      obtain ⟨fd, x, qual, params, body, scope, N, F, S, hN, hb, hp, hkw⟩ := hI k _ hc hk (by simp)
      exact .inr ⟨by simp, h8, oexB_ok ho, _, fd, x, qual, params, body, scope, N, h1, h2, F, S, hN, hb, hfl, hp, hkw⟩
  · cases hk
/-- binding by keywords alone, no defaults -/
theorem binds_kw {x qual : Str} {params : Arguments} {body : List Stmt} {scope : Scope} {kws : List (Str × V)} {f : Addr} {fd : FuncData} (F : FunD K x qual params body scope [] kws f fd) {args : Args} {binds : List (Str × Value)}
    (h : ∀ (kV doc pm : Value) (an : Option Addr) (cdv ct : Value), bindArgs (PySem.W.fnOf x qual params body scope .none kV doc pm an cdv ct) args = pure binds) (s : Shared) : BindsTo s fd args binds := by
  obtain ⟨oc, od, dV, kV, doc, pm, an, cdv, ct, osl, rfl, lk, hcd, hD, hK⟩ := F.ex
  rcases hD with ⟨_, rfl⟩ | ⟨e, _⟩
  · exact .of_eq (h kV doc pm an cdv ct)
  · exact absurd rfl e
theorem glo_of {mg : Str → Option Value} {base : Heap} (h : t.ex K = true) (hK : K.In base) (hg : base.Ns mainGlobals mg) (hf : ∀ x ∈ t.FN, (He.Fa.glo x).ok K = true ∧ PySem.W.keepIn K (.ref (He.ga K x)) = true) (hc : ∀ x ∈ t.CN, (He.Fa.glo x).ok K = true) (hb : ∀ x ∈ bltNames, (He.Fa.free x).ok K = true) : Glo K mg (adr t K) t.pg t.nm where
  fn := fun i x hx => by
    have hm := List.mem_of_getElem? hx
    have e : t.FN.getD i "" = x := by rw [List.getD_eq_getElem?_getD, show t.FN[i]? = some x from hx]; rfl
    refine ⟨?_, ?_⟩
    · show mg x = some (.ref (He.ga K (t.FN.getD i "")))
      rw [e]
      exact He.glo_ok hK hg (hf x hm).1
    · show PySem.W.keepIn K (.ref (He.ga K (t.FN.getD i ""))) = true
      rw [e]
      exact (hf x hm).2
  cl := fun i x hx => by
    have hm := List.mem_of_getElem? hx
    have e : t.CN.getD i "" = x := by rw [List.getD_eq_getElem?_getD, show t.CN[i]? = some x from hx]; rfl
    show mg x = some (.ref (He.ga K (t.CN.getD i "")))
    rw [e]
    exact He.glo_ok hK hg (hc x hm)
  bl := fun x hx => He.free_ok hK hg (hb x hx)
  facts := facts_of h
end
end BK

set_option maxRecDepth 100000
set_option maxHeartbeats 4000000
/-! B8: a look put together from several. -/
namespace BK
open PySem PySem.W PySem.Calls PyProof.Rows
theorem obs_app {n : Nat} {fa1 fa2 : List He.Fa} {fn1 fn2 : List He.DefD} {ex1 ex2 : Frag → Bool} {w : World} {g : Addr → Option Obj} (h1 : He.obsX n fa1 fn1 [] [] ex1 g = He.valX fn1 [] w) (h2 : He.obsX n fa2 fn2 [] [] ex2 g = He.valX fn2 [] w) :
    He.obsX n (fa1 ++ fa2) (fn1 ++ fn2) [] [] (fun K => ex1 K && ex2 K) g = He.valX (fn1 ++ fn2) [] w := by
  have a1 : ((fa1.all fun f => f.ok (He.frT g (He.asD g n))) && fn1.all fun d => d.ok (He.frT g (He.asD g n))) = true := congrArg (fun z : He.AlX => z.1.1.1) h1
  have a2 : ((fa2.all fun f => f.ok (He.frT g (He.asD g n))) && fn2.all fun d => d.ok (He.frT g (He.asD g n))) = true := congrArg (fun z : He.AlX => z.1.1.1) h2
  have b1 : fn1.map (fun d => He.fnW (He.frT g (He.asD g n)) d.at_) = fn1.map He.DefD.val := congrArg (fun z : He.AlX => z.1.1.2) h1
  have b2 : fn2.map (fun d => He.fnW (He.frT g (He.asD g n)) d.at_) = fn2.map He.DefD.val := congrArg (fun z : He.AlX => z.1.1.2) h2
  have c1 : (ex1 (He.frT g (He.asD g n)) && true) = true := congrArg (fun z : He.AlX => z.2) h1
  have c2 : (ex2 (He.frT g (He.asD g n)) && true) = true := congrArg (fun z : He.AlX => z.2) h2
  obtain ⟨a11, a12⟩ := Bool.and_eq_true_iff.mp a1
  obtain ⟨a21, a22⟩ := Bool.and_eq_true_iff.mp a2
  rw [Bool.and_true] at c1 c2
  have key : ∀ (x1 x2 y : Bool) (l1 l2 : List He.FnW), x1 = true → x2 = true → y = true → l1 = l2 → (((((x1 && x2), l1), ([] : List (Option (List (Option (Str × Int)))))), y) : He.AlX) = (((true, l2), []), true) := by
    intro x1 x2 y l1 l2 h1 h2 h3 h4
    subst h1 h2 h3 h4
    rfl
  refine key _ _ _ _ _ ?_ ?_ ?_ ?_
  · rw [List.all_append, a11, a21]; rfl
  · rw [List.all_append, a12, a22]; rfl
  · show (ex1 (He.frT g (He.asD g n)) && ex2 (He.frT g (He.asD g n)) && true) = true
    rw [c1, c2]; rfl
  · rw [List.map_append, List.map_append, b1, b2]
theorem run_app {r : OpenRow} {q : Program} {n M : Nat} {loose : List PySem.Str} {fa1 fa2 : List He.Fa} {fn1 fn2 : List He.DefD} {ex1 ex2 : Frag → Bool} {w : World} (h1 : HandSHeadRun.RunEq r q (He.hookX n fa1 fn1 [] [] ex1) (fun s => He.obsX n fa1 fn1 [] [] ex1 (HandSHeadRun.getT s)) M loose w)
    (h2 : HandSHeadRun.RunEq r q (He.hookX n fa2 fn2 [] [] ex2) (fun s => He.obsX n fa2 fn2 [] [] ex2 (HandSHeadRun.getT s)) M loose w) :
    HandSHeadRun.RunEq r q (He.hookX n (fa1 ++ fa2) (fn1 ++ fn2) [] [] fun K => ex1 K && ex2 K) (fun s => He.obsX n (fa1 ++ fa2) (fn1 ++ fn2) [] [] (fun K => ex1 K && ex2 K) (HandSHeadRun.getT s)) M loose w := by
  intro os
  have e1 := h1 os
  have e2 := h2 os
  obtain ⟨s, hs, k1⟩ := Option.map_eq_some_iff.mp e1
  obtain ⟨s', hs', k2⟩ := Option.map_eq_some_iff.mp e2
  rw [hs] at hs'
  cases hs'
  refine Option.map_eq_some_iff.mpr ⟨s, hs, ?_⟩
  have i1 := Prod.mk.inj k1
  have i2 := Prod.mk.inj k2
  have j1 := Prod.mk.inj i1.2
  have j2 := Prod.mk.inj i2.2
  have z := obs_app j1.2 j2.2
  exact Prod.ext i1.1 (Prod.ext j1.1 z)
end BK

set_option maxRecDepth 100000
set_option maxHeartbeats 4000000
/-! B8b: a look beside the bare run. -/
namespace BK
open PySem PySem.W PySem.Calls PyProof.Rows
/-- what the run's last state looks like, seen by itself -/
def Seen (r : OpenRow) (H : Hook) (ob : SharedT → H.α) (M : Nat) (w : World) : Prop := ∀ os : OsState, (HandSHeadRun.endF (HandSHeadRun.stepQ (HandSHeadRun.denQ HandSHeadRun.tabQ) r.prog w) M r.prog w os).map ob = some (H.val w)
theorem run_of {r : OpenRow} {q : Program} {M : Nat} {loose : List PySem.Str} {w : World} {H : Hook} {ob : SharedT → H.α} (h0 : HandSHeadRun.RunEq r q Hook.none (fun _ => ()) M loose w) (h1 : Seen r H ob M w) : HandSHeadRun.RunEq r q H ob M loose w := by
  intro os
  obtain ⟨s, hs, k1⟩ := Option.map_eq_some_iff.mp (h0 os)
  have h2 := h1 os
  obtain ⟨s', hs', k2⟩ := Option.map_eq_some_iff.mp h2
  rw [hs] at hs'
  cases hs'
  refine Option.map_eq_some_iff.mpr ⟨s, hs, ?_⟩
  have i1 := Prod.mk.inj k1
  have i2 := Prod.mk.inj i1.2
  exact Prod.ext i1.1 (Prod.ext i2.1 k2)
end BK

set_option maxRecDepth 100000
set_option maxHeartbeats 0
namespace K95
open PySem PySem.Spec PyProof.Rows L2 BK
def top (i : Nat) : Stmt := PySem.Challenge.pw_sameproof_k95_errors_of_what_is_asked.main.body.getD i (.Pass ⟨0, 0, 0, 0⟩)
def c_law_start : Def := ⟨1, 1, [.ret (.pr .mlst [.pr .mlist [.var 0], .lit (.int (0)), .lit (.int (0)), .lit (.int (29))])], false⟩
def c_law_pick : Def := ⟨2, 5, [.put (.var 0) (.lit (.int (2))) (.pr .add [.pr .idx [.var 0, .lit (.int (2))], .lit (.int (1))]), .whl (.and (.pr .eq [.pr .idx [.var 0, .lit (.int (1))], .lit (.int (0))]) (.pr .ne [.pr .idx [.var 0, .lit (.int (0))], .pr .lst []])) [.set (.nm 3) (.pr .abs [.mth .popAt (.pr .idx [.var 0, .lit (.int (0))]) [.lit (.int (0))]]), .put (.var 0) (.lit (.int (3))) (.pr .mod [.pr .int [.pr .add [.pr .add [.pr .mul [.pr .idx [.var 0, .lit (.int (3))], .lit (.int (6151))], .var 3], .lit (.int (5))]], .lit (.int (2147483647))]), .put (.var 0) (.lit (.int (1))) (.ifx (.pr .ge [.var 3, .pr .pow [.lit (.int (10)), .lit (.int (18))]]) (.var 3) (.lit (.int (0))))], .ite (.pr .gt [.pr .idx [.var 0, .lit (.int (1))], .lit (.int (0))]) [.set (.nm 4) (.pr .mod [.pr .int [.pr .idx [.var 0, .lit (.int (1))]], .var 1]), .put (.var 0) (.lit (.int (1))) (.pr .fdiv [.pr .idx [.var 0, .lit (.int (1))], .var 1]), .ret (.var 4)] [], .set (.nm 2) (.pr .mod [.pr .int [.pr .pow [.pr .add [.pr .add [.pr .idx [.var 0, .lit (.int (3))], .pr .mul [.lit (.int (7907)), .pr .idx [.var 0, .lit (.int (2))]]], .lit (.int (104723))], .lit (.int (5))]], .lit (.int (2147483629))]), .ret (.pr .mod [.pr .mod [.pr .int [.pr .pow [.pr .add [.pr .add [.pr .mul [.var 2, .lit (.int (48271))], .pr .mul [.lit (.int (30011)), .pr .idx [.var 0, .lit (.int (2))]]], .lit (.int (31))], .lit (.int (3))]], .lit (.int (1000000007))], .var 1])], true⟩
def c_law_between : Def := ⟨3, 3, [.ret (.pr .add [.var 1, .call 1 [.var 0, .pr .add [.pr .max2 [.pr .sub [.var 2, .var 1], .lit (.int (0))], .lit (.int (1))]]])], true⟩
def c_law_same : Def := ⟨2, 5, [.ite (.pr .isi [.var 1, .pr .tup [.lit (.ty "list"), .lit (.ty "tuple")]]) [.ite (.or (.pr .ne [.pr .isi [.var 0, .lit (.ty "list")], .pr .isi [.var 1, .lit (.ty "list")]]) (.pr .ne [.pr .isi [.var 0, .lit (.ty "tuple")], .pr .isi [.var 1, .lit (.ty "tuple")]])) [.ret (.lit (.bl false))] [], .ret (.and (.pr .eq [.pr .len [.var 0], .pr .len [.var 1]]) (.pr .all [.comp false (.call 3 [.var 3, .var 4]) [3, 4] (.tp [.nm 3, .nm 4]) (.zip [.var 0, .var 1]) none]))] [], .ite (.pr .isi [.var 1, .lit (.ty "dict")]) [.ite (.or (.not (.pr .isi [.var 0, .lit (.ty "dict")])) (.not (.call 3 [.pr .list [.var 0], .pr .list [.var 1]]))) [.ret (.lit (.bl false))] [], .ret (.pr .all [.comp false (.call 3 [.pr .idx [.var 0, .var 2], .pr .idx [.var 1, .var 2]]) [2] (.nm 2) (.keys 1) none])] [], .ite (.pr .is_ [.var 1, .lit (.non)]) [.ret (.pr .is_ [.var 0, .lit (.non)])] [], .ite (.pr .isi [.var 1, .lit (.ty "bool")]) [.ret (.and (.pr .isi [.var 0, .lit (.ty "bool")]) (.pr .eq [.var 0, .var 1]))] [], .ite (.pr .isi [.var 1, .lit (.ty "int")]) [.ret (.and (.pr .isi [.var 0, .lit (.ty "int")]) (.and (.not (.pr .isi [.var 0, .lit (.ty "bool")])) (.pr .eq [.var 0, .var 1])))] [], .ret (.and (.pr .isi [.var 0, .lit (.ty "str")]) (.pr .eq [.var 0, .var 1]))], true⟩
def c_law_kinds_of : Def := ⟨1, 3, [.set (.nm 1) (.pr .mlst [.pr .isi [.var 0, .lit (.cls 12)], .pr .isi [.var 0, .lit (.cls 13)], .pr .isi [.var 0, .lit (.cls 14)], .pr .isi [.var 0, .lit (.cls 15)]]), .ex (.mth .extend (.var 1) [.pr .lst [.pr .isi [.var 0, .lit (.cls 16)], .pr .isi [.var 0, .lit (.cls 17)], .pr .isi [.var 0, .lit (.cls 18)], .pr .isi [.var 0, .lit (.cls 19)]]]), .ex (.mth .extend (.var 1) [.pr .lst [.pr .isi [.var 0, .lit (.cls 20)], .pr .isi [.var 0, .lit (.cls 21)]]]), .ret (.comp false (.var 2) [2] (.nm 2) (.range [.lit (.int (10))]) (some (.pr .idx [.var 1, .var 2])))], true⟩
def c_law_others : Def := ⟨1, 2, [.set (.nm 1) (.pr .mlst [.mk 1 [.var 0], .mk 2 [.var 0], .mk 3 [.var 0, .var 0], .mk 4 [.var 0], .mk 5 [.var 0], .mk 6 [.var 0], .mk 7 [.var 0], .mk 8 [.var 0]]), .ex (.mth .extend (.var 1) [.pr .lst [.mk 9 [.var 0], .mk 10 [.var 0], .mk 11 [.var 0], .mk 22 [.var 0, .var 0], .mk 23 [.var 0], .mk 24 [.var 0], .mk 25 [.var 0], .mk 26 [.var 0]]]), .ex (.mth .extend (.var 1) [.pr .lst [.mk 27 [.var 0], .mk 28 [.var 0], .mk 29 [.var 0], .mk 30 [.var 0], .mk 31 [.var 0], .mk 32 [.var 0], .mk 33 [.var 0], .mk 34 [.var 0]]]), .ex (.mth .extend (.var 1) [.pr .lst [.mk 35 [.var 0], .mk 36 [.var 0], .mk 37 [.var 0], .mk 38 [.var 0], .mk 39 [.var 0], .mk 40 [.var 0], .mk 41 [.var 0], .mk 42 [.var 0]]]), .ex (.mth .extend (.var 1) [.pr .lst [.mk 43 [.var 0], .mk 44 [.var 0], .mk 45 [.var 0]]]), .ret (.frz 1)], true⟩
def c_law_is_other : Def := ⟨1, 2, [.set (.nm 1) (.pr .mlst [.pr .isi [.var 0, .pr .tup [.lit (.cls 1), .lit (.cls 2), .lit (.cls 3), .lit (.cls 4), .lit (.cls 5), .lit (.cls 6), .lit (.cls 7), .lit (.cls 8), .lit (.cls 9)]]]), .ex (.mth .append (.var 1) [.pr .isi [.var 0, .pr .tup [.lit (.cls 10), .lit (.cls 11), .lit (.cls 22), .lit (.cls 23), .lit (.cls 24), .lit (.cls 25), .lit (.cls 26), .lit (.cls 27), .lit (.cls 28)]]]), .ex (.mth .append (.var 1) [.pr .isi [.var 0, .pr .tup [.lit (.cls 29), .lit (.cls 30), .lit (.cls 31), .lit (.cls 32), .lit (.cls 33), .lit (.cls 34), .lit (.cls 35), .lit (.cls 36), .lit (.cls 37)]]]), .ex (.mth .append (.var 1) [.pr .isi [.var 0, .pr .tup [.lit (.cls 38), .lit (.cls 39), .lit (.cls 40), .lit (.cls 41), .lit (.cls 42), .lit (.cls 43), .lit (.cls 44), .lit (.cls 45)]]]), .ret (.pr .isin [.lit (.bl true), .var 1])], true⟩
def c_law_made_a : Def := ⟨2, 3, [.ite (.pr .eq [.var 0, .lit (.int (0))]) [.set (.nm 2) (.mk 12 [.var 1]), .ret (.pr .tup [.var 2, .fld (.var 2) "index"])] [], .ite (.pr .eq [.var 0, .lit (.int (1))]) [.set (.nm 2) (.mkk 13 [0] [.var 1]), .ret (.pr .tup [.var 2, .fld (.var 2) "prices"])] [], .ite (.pr .eq [.var 0, .lit (.int (2))]) [.set (.nm 2) (.mk 14 [.var 1]), .ret (.pr .tup [.var 2, .fld (.var 2) "edit"])] [], .ite (.pr .eq [.var 0, .lit (.int (3))]) [.set (.nm 2) (.mk 15 [.var 1]), .ret (.pr .tup [.var 2, .fld (.var 2) "session"])] [], .ite (.pr .eq [.var 0, .lit (.int (4))]) [.set (.nm 2) (.mkk 16 [0] [.var 1]), .ret (.pr .tup [.var 2, .fld (.var 2) "line"])] [], .ite (.pr .eq [.var 0, .lit (.int (5))]) [.set (.nm 2) (.mk 17 [.var 1]), .ret (.pr .tup [.var 2, .fld (.var 2) "index"])] [], .ite (.pr .eq [.var 0, .lit (.int (6))]) [.set (.nm 2) (.mk 18 [.var 1]), .ret (.pr .tup [.var 2, .fld (.var 2) "many"])] [], .set (.nm 2) (.mkk 19 [0] [.var 1]), .ret (.pr .tup [.var 2, .fld (.var 2) "parting"])], true⟩
def c_law_made_at : Def := ⟨2, 2, [.ite (.pr .lt [.var 0, .lit (.int (8))]) [.ret (.call 7 [.var 0, .var 1])] [], .ret (.pr .tup [.pr .idx [.pr .lst [.mk 20 [], .mk 21 []], .pr .sub [.var 0, .lit (.int (8))]], .var 1])], true⟩
def c_law_object : Def := ⟨1, 2, [.set (.nm 1) (.call 1 [.var 0, .lit (.int (7))]), .ite (.pr .lt [.var 1, .lit (.int (2))]) [.ret (.pr .idx [.pr .lst [.call 2 [.var 0, .pr .neg [.lit (.int (9))], .lit (.int (9))], .pr .add [.lit (.str "w"), .pr .str [.call 1 [.var 0, .lit (.int (99))]]]], .var 1])] [], .ite (.pr .lt [.var 1, .lit (.int (5))]) [.ret (.pr .idx [.pr .lst [.lit (.non), .pr .eq [.call 1 [.var 0, .lit (.int (2))], .lit (.int (0))], .pr .tup [.lit (.int (1)), .call 1 [.var 0, .lit (.int (9))]]], .pr .sub [.var 1, .lit (.int (2))]])] [], .ret (.ifx (.pr .eq [.var 1, .lit (.int (5))]) (.pr .mlst [.call 1 [.var 0, .lit (.int (9))], .pr .lst [.lit (.int (1))]]) (.disp true [.lit (.str "a"), .call 1 [.var 0, .lit (.int (9))]]))], false⟩
def c_law_very : Def := ⟨2, 3, [.ite (.pr .isi [.var 1, .lit (.ty "list")]) [.ex (.mth .append (.var 1) [.lit (.str "more")]), .set (.nm 2) (.and (.pr .isi [.var 0, .lit (.ty "list")]) (.and (.pr .eq [.pr .len [.var 0], .pr .len [.var 1]]) (.pr .eq [.pr .idx [.var 0, .pr .neg [.lit (.int (1))]], .lit (.str "more")]))), .ex (.mth .pop (.var 1) []), .ret (.and (.var 2) (.brw [0, 1] (.call 3 [.var 0, .var 1])))] [], .ite (.pr .isi [.var 1, .lit (.ty "dict")]) [.put (.var 1) (.lit (.str "more")) (.lit (.int (1))), .set (.nm 2) (.and (.pr .isi [.var 0, .lit (.ty "dict")]) (.and (.pr .isin [.lit (.str "more"), .var 0]) (.pr .eq [.pr .len [.var 0], .pr .len [.var 1]]))), .ex (.mth .popD (.var 1) [.lit (.str "more")]), .ret (.and (.var 2) (.brw [0, 1] (.call 3 [.var 0, .var 1])))] [], .ret (.brw [0, 1] (.call 3 [.var 0, .var 1]))], true⟩
def c_law_caught : Def := ⟨1, 4, [.set (.nm 2) (.mk 16 [.var 0]), .set (.nm 3) (.pr .lst [.lit (.int 4)]), .set (.nm 2) (.mk 0 []), .ret (.pr .tup [.var 3, .call 4 [.var 2], .call 6 [.var 2], .pr .isi [.var 2, .lit (.ty "ValueError")]])], true⟩
def c_law : Def := ⟨1, 11, [.set (.nm 1) (.call 0 [.var 0]), .fort (.nm 2) (.range [.lit (.int (20))]) [.set (.nm 3) (.ifx (.pr .lt [.var 2, .lit (.int (10))]) (.pr .mod [.pr .int [.pr .add [.var 2, .call 1 [.var 1, .lit (.int (10))]]], .lit (.int (10))]) (.pr .sub [.var 2, .lit (.int (10))])), .par [4, 5] [.call 9 [.var 1], .call 9 [.var 1]], .set (.tp [.nm 6, .nm 7]) (.call 8 [.var 3, .var 4]), .set (.tp [.nm 8, .nm 9]) (.call 8 [.var 3, .var 5]), .ite (.or (.not (.pr .isi [.var 6, .lit (.cls 0)])) (.or (.not (.pr .isi [.var 6, .lit (.ty "ValueError")])) (.pr .ne [.call 4 [.var 6], .pr .lst [.var 3]]))) [.ret (.lit (.bl false))] [], .ite (.or (.call 6 [.var 6]) (.or (.pr .isi [.var 6, .pr .tup [.lit (.ty "KeyError"), .lit (.ty "IndexError"), .lit (.ty "TypeError")]]) (.not (.pr .isi [.var 8, .lit (.cls 0)])))) [.ret (.lit (.bl false))] [], .ite (.or (.not (.call 10 [.var 7, .var 4])) (.not (.call 10 [.var 9, .var 5]))) [.ret (.lit (.bl false))] []], .ite (.not (.pr .all [.comp false (.pr .eq [.call 4 [.var 10], .pr .lst []]) [10] (.nm 10) (.seq (.call 5 [.call 1 [.var 1, .lit (.int (9))]])) none])) [.ret (.lit (.bl false))] [], .ret (.pr .eq [.call 11 [.call 9 [.var 1]], .pr .tup [.pr .lst [.lit (.int (4))], .pr .lst [], .lit (.bl false), .lit (.bl true)]])], true⟩
def FN : List Str := [("_law_start" : Str), ("_law_pick" : Str), ("_law_between" : Str), ("_law_same" : Str), ("_law_kinds_of" : Str), ("_law_others" : Str), ("_law_is_other" : Str), ("_law_made_a" : Str), ("_law_made_at" : Str), ("_law_object" : Str), ("_law_very" : Str), ("_law_caught" : Str), ("law" : Str)]
def CN : List Str := [("SameError" : Str), ("BadOther" : Str), ("BadLiterals" : Str), ("BadTerms" : Str), ("BadForm" : Str), ("BadSort" : Str), ("BadAxiom" : Str), ("SignsClash" : Str), ("BadFirst" : Str), ("BadBack" : Str), ("BadRun" : Str), ("BadStep" : Str), ("BadNumbers" : Str), ("BadPrices" : Str), ("BadEdit" : Str), ("BadSession" : Str), ("BadSessionText" : Str), ("BadBooks" : Str), ("BadMany" : Str), ("BadParting" : Str), ("NothingToUndo" : Str), ("NothingToRedo" : Str), ("BadParts" : Str), ("BadQuotient" : Str), ("BadQuotientText" : Str), ("BadSigns" : Str), ("BadTerm" : Str), ("BadClauses" : Str), ("BadClause" : Str), ("BadNumber" : Str), ("BadBook" : Str), ("BadTermText" : Str), ("BadBookText" : Str), ("BadLine" : Str), ("BadNormal" : Str), ("BadLiteral" : Str), ("BadModel" : Str), ("BadAtom" : Str), ("BadProof" : Str), ("BadRows" : Str), ("BadAssumptions" : Str), ("BadAnswer" : Str), ("BadPaperText" : Str), ("BadTable" : Str), ("BadTold" : Str), ("BadOrder" : Str)]
def CP : List (List Str) := [[], [("other" : Str)], [("index" : Str)], [("s" : Str), ("t" : Str)], [("form" : Str)], [("given" : Str)], [("axiom" : Str)], [("word" : Str)], [("first" : Str)], [("back" : Str)], [("run" : Str)], [("step" : Str)], [("index" : Str)], [("prices" : Str)], [("edit" : Str)], [("session" : Str)], [("line" : Str)], [("index" : Str)], [("many" : Str)], [("parting" : Str)], [], [], [("p" : Str), ("n" : Str)], [("q" : Str)], [("text" : Str)], [("given" : Str)], [("term" : Str)], [("index" : Str)], [("clause" : Str)], [("number" : Str)], [("book" : Str)], [("text" : Str)], [("line" : Str)], [("line" : Str)], [("normal" : Str)], [("literal" : Str)], [("model" : Str)], [("atom" : Str)], [("proof" : Str)], [("rows" : Str)], [("index" : Str)], [("answer" : Str)], [("line" : Str)], [("table" : Str)], [("told" : Str)], [("index" : Str)]]
def SUP : List (List Nat) := [[0], [1, 0], [2, 0], [3, 0], [4, 0], [5, 0], [6, 0], [7, 0], [8, 0], [9, 0], [10, 0], [11, 0], [12, 0], [13, 0], [14, 0], [15, 0], [16, 0], [17, 0], [18, 0], [19, 0], [20, 0], [21, 0], [22, 0], [23, 0], [24, 0], [25, 0], [26, 0], [27, 0], [28, 0], [29, 0], [30, 0], [31, 0], [32, 0], [33, 0], [34, 0], [35, 0], [36, 0], [37, 0], [38, 0], [39, 0], [40, 0], [41, 0], [42, 0], [43, 0], [44, 0], [45, 0]]
def KW : List (Nat × List Nat) := [(13, [0]), (16, [0]), (19, [0])]
def defs : List Def := [c_law_start, c_law_pick, c_law_between, c_law_same, c_law_kinds_of, c_law_others, c_law_is_other, c_law_made_a, c_law_made_at, c_law_object, c_law_very, c_law_caught, c_law]
def need (c d : Nat) : Bool := ((decide (12 ≤ d) && decide (d ≤ 21)) || ((decide (12 ≤ c) && decide (c ≤ 21)) || decide (c = 0)))
def t : Tb := ⟨FN, CN, CP, SUP, KW, defs, need⟩
abbrev s_0 : Stmt := top 50
def d_0 : He.DefD := ⟨("_law_start", none), "_law_start", "_law_start", defArgs s_0, defBody s_0, defScope s_0, [], []⟩
abbrev s_1 : Stmt := top 51
def d_1 : He.DefD := ⟨("_law_pick", none), "_law_pick", "_law_pick", defArgs s_1, defBody s_1, defScope s_1, [], []⟩
abbrev s_2 : Stmt := top 52
def d_2 : He.DefD := ⟨("_law_between", none), "_law_between", "_law_between", defArgs s_2, defBody s_2, defScope s_2, [], []⟩
abbrev s_3 : Stmt := top 53
def d_3 : He.DefD := ⟨("_law_same", none), "_law_same", "_law_same", defArgs s_3, defBody s_3, defScope s_3, [], []⟩
abbrev s_4 : Stmt := top 54
def d_4 : He.DefD := ⟨("_law_kinds_of", none), "_law_kinds_of", "_law_kinds_of", defArgs s_4, defBody s_4, defScope s_4, [], []⟩
abbrev s_5 : Stmt := top 55
def d_5 : He.DefD := ⟨("_law_others", none), "_law_others", "_law_others", defArgs s_5, defBody s_5, defScope s_5, [], []⟩
abbrev s_6 : Stmt := top 56
def d_6 : He.DefD := ⟨("_law_is_other", none), "_law_is_other", "_law_is_other", defArgs s_6, defBody s_6, defScope s_6, [], []⟩
abbrev s_7 : Stmt := top 57
def d_7 : He.DefD := ⟨("_law_made_a", none), "_law_made_a", "_law_made_a", defArgs s_7, defBody s_7, defScope s_7, [], []⟩
abbrev s_8 : Stmt := top 58
def d_8 : He.DefD := ⟨("_law_made_at", none), "_law_made_at", "_law_made_at", defArgs s_8, defBody s_8, defScope s_8, [], []⟩
abbrev s_9 : Stmt := top 59
def d_9 : He.DefD := ⟨("_law_object", none), "_law_object", "_law_object", defArgs s_9, defBody s_9, defScope s_9, [], []⟩
abbrev s_10 : Stmt := top 60
def d_10 : He.DefD := ⟨("_law_very", none), "_law_very", "_law_very", defArgs s_10, defBody s_10, defScope s_10, [], []⟩
abbrev s_11 : Stmt := top 61
def d_11 : He.DefD := ⟨("_law_caught", none), "_law_caught", "_law_caught", defArgs s_11, defBody s_11, defScope s_11, [], []⟩
abbrev s_12 : Stmt := top 62
def d_12 : He.DefD := ⟨("law", none), "law", "law", defArgs s_12, defBody s_12, defScope s_12, [], []⟩
abbrev si_1 : Stmt := inClass (top 2) 0
def di_1 : He.DefD := ⟨("BadOther", some "__init__"), "__init__", "BadOther.__init__", defArgs si_1, defBody si_1, defScope si_1, [], []⟩
abbrev si_2 : Stmt := inClass (top 3) 0
def di_2 : He.DefD := ⟨("BadLiterals", some "__init__"), "__init__", "BadLiterals.__init__", defArgs si_2, defBody si_2, defScope si_2, [], []⟩
abbrev si_3 : Stmt := inClass (top 4) 0
def di_3 : He.DefD := ⟨("BadTerms", some "__init__"), "__init__", "BadTerms.__init__", defArgs si_3, defBody si_3, defScope si_3, [], []⟩
abbrev si_4 : Stmt := inClass (top 5) 0
def di_4 : He.DefD := ⟨("BadForm", some "__init__"), "__init__", "BadForm.__init__", defArgs si_4, defBody si_4, defScope si_4, [], []⟩
abbrev si_5 : Stmt := inClass (top 6) 0
def di_5 : He.DefD := ⟨("BadSort", some "__init__"), "__init__", "BadSort.__init__", defArgs si_5, defBody si_5, defScope si_5, [], []⟩
abbrev si_6 : Stmt := inClass (top 7) 0
def di_6 : He.DefD := ⟨("BadAxiom", some "__init__"), "__init__", "BadAxiom.__init__", defArgs si_6, defBody si_6, defScope si_6, [], []⟩
abbrev si_7 : Stmt := inClass (top 8) 0
def di_7 : He.DefD := ⟨("SignsClash", some "__init__"), "__init__", "SignsClash.__init__", defArgs si_7, defBody si_7, defScope si_7, [], []⟩
abbrev si_8 : Stmt := inClass (top 9) 0
def di_8 : He.DefD := ⟨("BadFirst", some "__init__"), "__init__", "BadFirst.__init__", defArgs si_8, defBody si_8, defScope si_8, [], []⟩
abbrev si_9 : Stmt := inClass (top 10) 0
def di_9 : He.DefD := ⟨("BadBack", some "__init__"), "__init__", "BadBack.__init__", defArgs si_9, defBody si_9, defScope si_9, [], []⟩
abbrev si_10 : Stmt := inClass (top 11) 0
def di_10 : He.DefD := ⟨("BadRun", some "__init__"), "__init__", "BadRun.__init__", defArgs si_10, defBody si_10, defScope si_10, [], []⟩
abbrev si_11 : Stmt := inClass (top 12) 0
def di_11 : He.DefD := ⟨("BadStep", some "__init__"), "__init__", "BadStep.__init__", defArgs si_11, defBody si_11, defScope si_11, [], []⟩
abbrev si_12 : Stmt := inClass (top 14) 0
def di_12 : He.DefD := ⟨("BadNumbers", some "__init__"), "__init__", "BadNumbers.__init__", defArgs si_12, defBody si_12, defScope si_12, [], []⟩
abbrev si_13 : Stmt := inClass (top 15) 0
def di_13 : He.DefD := ⟨("BadPrices", some "__init__"), "__init__", "BadPrices.__init__", defArgs si_13, defBody si_13, defScope si_13, [], []⟩
abbrev si_14 : Stmt := inClass (top 16) 0
def di_14 : He.DefD := ⟨("BadEdit", some "__init__"), "__init__", "BadEdit.__init__", defArgs si_14, defBody si_14, defScope si_14, [], []⟩
abbrev si_15 : Stmt := inClass (top 17) 0
def di_15 : He.DefD := ⟨("BadSession", some "__init__"), "__init__", "BadSession.__init__", defArgs si_15, defBody si_15, defScope si_15, [], []⟩
abbrev si_16 : Stmt := inClass (top 18) 0
def di_16 : He.DefD := ⟨("BadSessionText", some "__init__"), "__init__", "BadSessionText.__init__", defArgs si_16, defBody si_16, defScope si_16, [], []⟩
abbrev si_17 : Stmt := inClass (top 19) 0
def di_17 : He.DefD := ⟨("BadBooks", some "__init__"), "__init__", "BadBooks.__init__", defArgs si_17, defBody si_17, defScope si_17, [], []⟩
abbrev si_18 : Stmt := inClass (top 20) 0
def di_18 : He.DefD := ⟨("BadMany", some "__init__"), "__init__", "BadMany.__init__", defArgs si_18, defBody si_18, defScope si_18, [], []⟩
abbrev si_19 : Stmt := inClass (top 21) 0
def di_19 : He.DefD := ⟨("BadParting", some "__init__"), "__init__", "BadParting.__init__", defArgs si_19, defBody si_19, defScope si_19, [], []⟩
abbrev si_22 : Stmt := inClass (top 25) 0
def di_22 : He.DefD := ⟨("BadParts", some "__init__"), "__init__", "BadParts.__init__", defArgs si_22, defBody si_22, defScope si_22, [], []⟩
abbrev si_23 : Stmt := inClass (top 26) 0
def di_23 : He.DefD := ⟨("BadQuotient", some "__init__"), "__init__", "BadQuotient.__init__", defArgs si_23, defBody si_23, defScope si_23, [], []⟩
abbrev si_24 : Stmt := inClass (top 27) 0
def di_24 : He.DefD := ⟨("BadQuotientText", some "__init__"), "__init__", "BadQuotientText.__init__", defArgs si_24, defBody si_24, defScope si_24, [], []⟩
abbrev si_25 : Stmt := inClass (top 28) 0
def di_25 : He.DefD := ⟨("BadSigns", some "__init__"), "__init__", "BadSigns.__init__", defArgs si_25, defBody si_25, defScope si_25, [], []⟩
abbrev si_26 : Stmt := inClass (top 29) 0
def di_26 : He.DefD := ⟨("BadTerm", some "__init__"), "__init__", "BadTerm.__init__", defArgs si_26, defBody si_26, defScope si_26, [], []⟩
abbrev si_27 : Stmt := inClass (top 30) 0
def di_27 : He.DefD := ⟨("BadClauses", some "__init__"), "__init__", "BadClauses.__init__", defArgs si_27, defBody si_27, defScope si_27, [], []⟩
abbrev si_28 : Stmt := inClass (top 31) 0
def di_28 : He.DefD := ⟨("BadClause", some "__init__"), "__init__", "BadClause.__init__", defArgs si_28, defBody si_28, defScope si_28, [], []⟩
abbrev si_29 : Stmt := inClass (top 32) 0
def di_29 : He.DefD := ⟨("BadNumber", some "__init__"), "__init__", "BadNumber.__init__", defArgs si_29, defBody si_29, defScope si_29, [], []⟩
abbrev si_30 : Stmt := inClass (top 33) 0
def di_30 : He.DefD := ⟨("BadBook", some "__init__"), "__init__", "BadBook.__init__", defArgs si_30, defBody si_30, defScope si_30, [], []⟩
abbrev si_31 : Stmt := inClass (top 34) 0
def di_31 : He.DefD := ⟨("BadTermText", some "__init__"), "__init__", "BadTermText.__init__", defArgs si_31, defBody si_31, defScope si_31, [], []⟩
abbrev si_32 : Stmt := inClass (top 35) 0
def di_32 : He.DefD := ⟨("BadBookText", some "__init__"), "__init__", "BadBookText.__init__", defArgs si_32, defBody si_32, defScope si_32, [], []⟩
abbrev si_33 : Stmt := inClass (top 36) 0
def di_33 : He.DefD := ⟨("BadLine", some "__init__"), "__init__", "BadLine.__init__", defArgs si_33, defBody si_33, defScope si_33, [], []⟩
abbrev si_34 : Stmt := inClass (top 37) 0
def di_34 : He.DefD := ⟨("BadNormal", some "__init__"), "__init__", "BadNormal.__init__", defArgs si_34, defBody si_34, defScope si_34, [], []⟩
abbrev si_35 : Stmt := inClass (top 38) 0
def di_35 : He.DefD := ⟨("BadLiteral", some "__init__"), "__init__", "BadLiteral.__init__", defArgs si_35, defBody si_35, defScope si_35, [], []⟩
abbrev si_36 : Stmt := inClass (top 39) 0
def di_36 : He.DefD := ⟨("BadModel", some "__init__"), "__init__", "BadModel.__init__", defArgs si_36, defBody si_36, defScope si_36, [], []⟩
abbrev si_37 : Stmt := inClass (top 40) 0
def di_37 : He.DefD := ⟨("BadAtom", some "__init__"), "__init__", "BadAtom.__init__", defArgs si_37, defBody si_37, defScope si_37, [], []⟩
abbrev si_38 : Stmt := inClass (top 41) 0
def di_38 : He.DefD := ⟨("BadProof", some "__init__"), "__init__", "BadProof.__init__", defArgs si_38, defBody si_38, defScope si_38, [], []⟩
abbrev si_39 : Stmt := inClass (top 42) 0
def di_39 : He.DefD := ⟨("BadRows", some "__init__"), "__init__", "BadRows.__init__", defArgs si_39, defBody si_39, defScope si_39, [], []⟩
abbrev si_40 : Stmt := inClass (top 43) 0
def di_40 : He.DefD := ⟨("BadAssumptions", some "__init__"), "__init__", "BadAssumptions.__init__", defArgs si_40, defBody si_40, defScope si_40, [], []⟩
abbrev si_41 : Stmt := inClass (top 44) 0
def di_41 : He.DefD := ⟨("BadAnswer", some "__init__"), "__init__", "BadAnswer.__init__", defArgs si_41, defBody si_41, defScope si_41, [], []⟩
abbrev si_42 : Stmt := inClass (top 45) 0
def di_42 : He.DefD := ⟨("BadPaperText", some "__init__"), "__init__", "BadPaperText.__init__", defArgs si_42, defBody si_42, defScope si_42, [], []⟩
abbrev si_43 : Stmt := inClass (top 46) 0
def di_43 : He.DefD := ⟨("BadTable", some "__init__"), "__init__", "BadTable.__init__", defArgs si_43, defBody si_43, defScope si_43, [], []⟩
abbrev si_44 : Stmt := inClass (top 47) 0
def di_44 : He.DefD := ⟨("BadTold", some "__init__"), "__init__", "BadTold.__init__", defArgs si_44, defBody si_44, defScope si_44, [], []⟩
abbrev si_45 : Stmt := inClass (top 48) 0
def di_45 : He.DefD := ⟨("BadOrder", some "__init__"), "__init__", "BadOrder.__init__", defArgs si_45, defBody si_45, defScope si_45, [], []⟩
def fn_0 : List He.DefD := [d_0, d_1, d_2, d_3, d_4, d_5, d_6, d_7, d_8, d_9, d_10, d_11, d_12]
def ch_0 : List Nat := []
def ex_0 (K : PySem.W.Frag) : Bool := ch_0.all (t.one K)
def fn_1 : List He.DefD := [di_1, di_2, di_3, di_4, di_5, di_6, di_7, di_8, di_9, di_10, di_11]
def ch_1 : List Nat := [0, 1, 2, 3, 4, 5, 6, 7, 8, 9, 10, 11]
def ex_1 (K : PySem.W.Frag) : Bool := ch_1.all (t.one K)
def fn_2 : List He.DefD := [di_12, di_13, di_14, di_15, di_16, di_17, di_18, di_19, di_22, di_23]
def ch_2 : List Nat := [12, 13, 14, 15, 16, 17, 18, 19, 20, 21, 22, 23]
def ex_2 (K : PySem.W.Frag) : Bool := ch_2.all (t.one K)
def fn_3 : List He.DefD := [di_24, di_25, di_26, di_27, di_28, di_29, di_30, di_31, di_32, di_33, di_34, di_35]
def ch_3 : List Nat := [24, 25, 26, 27, 28, 29, 30, 31, 32, 33, 34, 35]
def ex_3 (K : PySem.W.Frag) : Bool := ch_3.all (t.one K)
def fn_4 : List He.DefD := [di_36, di_37, di_38, di_39, di_40, di_41, di_42, di_43, di_44, di_45]
def ch_4 : List Nat := [36, 37, 38, 39, 40, 41, 42, 43, 44, 45]
def ex_4 (K : PySem.W.Frag) : Bool := ch_4.all (t.one K)
def fa : List He.Fa := FN.map He.Fa.glo ++ CN.map He.Fa.glo ++ bltNames.map He.Fa.free
def faA : List He.Fa := ((((fa) ++ []) ++ []) ++ []) ++ []
def fn : List He.DefD := ((((fn_0) ++ fn_1) ++ fn_2) ++ fn_3) ++ fn_4
def exA (K : PySem.W.Frag) : Bool := ((((ex_0 K) && ex_1 K) && ex_2 K) && ex_3 K) && ex_4 K
abbrev R : PySem.W.OpenRow := PySem.W.OpenLaw.row PySem.Challenge.rw_sameproof_k95_errors_of_what_is_asked
abbrev qv : Program := PySem.W.view R.prog [62]
def names0 : List PySem.Str := ["SameError", "BadOther", "BadLiterals", "BadTerms", "BadForm", "BadSort", "BadAxiom", "SignsClash", "BadFirst", "BadBack", "BadRun", "BadStep", "BadNumbers", "BadPrices", "BadEdit", "BadSession", "BadSessionText", "BadBooks", "BadMany", "BadParting", "NothingToUndo", "NothingToRedo", "BadParts", "BadQuotient", "BadQuotientText", "BadSigns", "BadTerm", "BadClauses", "BadClause", "BadNumber"]
def names1 : List PySem.Str := ["BadBook", "BadTermText", "BadBookText", "BadLine", "BadNormal", "BadLiteral", "BadModel", "BadAtom", "BadProof", "BadRows", "BadAssumptions", "BadAnswer", "BadPaperText", "BadTable", "BadTold", "BadOrder", "_law_start", "_law_pick", "_law_between", "_law_same", "_law_kinds_of", "_law_others", "_law_is_other", "_law_made_a", "_law_made_at", "_law_object", "_law_very", "_law_caught"]
def names : List PySem.Str := names0 ++ names1
abbrev hk : PySem.W.Hook := He.hookX 4 faA fn [] [] exA
def ob (s : PySem.W.SharedT) : He.AlX := He.obsX 4 faA fn [] [] exA (HandSHeadRun.getT s)
theorem ob_eq (s : PySem.W.SharedT) : ob s = hk.obs s.abs := He.obsX_eq (HandSHeadRun.getT_eq s)
end K95

set_option maxRecDepth 100000
set_option maxHeartbeats 0
namespace K95
open PySem PySem.W PySem.Calls PyProof.Rows BK
theorem run_n (w : World) : HandSHeadRun.RunEq R qv Hook.none (fun _ => ()) 12000 names w := by
  intro os
  kernel_rfl
end K95

set_option maxRecDepth 100000
set_option maxHeartbeats 0
namespace K95
open PySem PySem.W PySem.Calls PyProof.Rows BK
theorem seen_0 (w : World) : Seen R (He.hookX 4 fa fn_0 [] [] ex_0) (fun s => He.obsX 4 fa fn_0 [] [] ex_0 (HandSHeadRun.getT s)) 12000 w := by
  intro os
  kernel_rfl
end K95

set_option maxRecDepth 100000
set_option maxHeartbeats 0
namespace K95
open PySem PySem.W PySem.Calls PyProof.Rows BK
theorem seen_1 (w : World) : Seen R (He.hookX 4 [] fn_1 [] [] ex_1) (fun s => He.obsX 4 [] fn_1 [] [] ex_1 (HandSHeadRun.getT s)) 12000 w := by
  intro os
  kernel_rfl
end K95

set_option maxRecDepth 100000
set_option maxHeartbeats 0
namespace K95
open PySem PySem.W PySem.Calls PyProof.Rows BK
theorem seen_2 (w : World) : Seen R (He.hookX 4 [] fn_2 [] [] ex_2) (fun s => He.obsX 4 [] fn_2 [] [] ex_2 (HandSHeadRun.getT s)) 12000 w := by
  intro os
  kernel_rfl
end K95

set_option maxRecDepth 100000
set_option maxHeartbeats 0
namespace K95
open PySem PySem.W PySem.Calls PyProof.Rows BK
theorem seen_3 (w : World) : Seen R (He.hookX 4 [] fn_3 [] [] ex_3) (fun s => He.obsX 4 [] fn_3 [] [] ex_3 (HandSHeadRun.getT s)) 12000 w := by
  intro os
  kernel_rfl
end K95

set_option maxRecDepth 100000
set_option maxHeartbeats 0
namespace K95
open PySem PySem.W PySem.Calls PyProof.Rows BK
theorem seen_4 (w : World) : Seen R (He.hookX 4 [] fn_4 [] [] ex_4) (fun s => He.obsX 4 [] fn_4 [] [] ex_4 (HandSHeadRun.getT s)) 12000 w := by
  intro os
  kernel_rfl
end K95

set_option maxRecDepth 100000
set_option maxHeartbeats 0
namespace K95
open PySem PySem.W PySem.Calls PyProof.Rows BK
theorem run (w : World) : HandSHeadRun.RunEq R qv hk ob 12000 names w := (run_app (run_app (run_app (run_app (run_of (run_n w) (seen_0 w)) (run_of (run_n w) (seen_1 w))) (run_of (run_n w) (seen_2 w))) (run_of (run_n w) (seen_3 w))) (run_of (run_n w) (seen_4 w)))
theorem ex_all {K : Frag} (h : exA K = true) : t.ex K = true := by
  have e : List.range t.CN.length = ((((ch_0) ++ ch_1) ++ ch_2) ++ ch_3) ++ ch_4 := by decide +kernel
  unfold Tb.ex
  rw [e]
  simp only [List.all_append, Bool.and_eq_true]
  simpa [exA, ex_0, ex_1, ex_2, ex_3, ex_4] using h
end K95

set_option maxRecDepth 100000
set_option maxHeartbeats 0
namespace K95
open PySem PySem.Spec PyProof.Rows L2 BK
def N_0 : List Str := [("script" : Str)]
theorem sc_0 : FnScope N_0 [("script" : Str)] (defScope s_0) := C8.fnScope_by (by decide +kernel)
theorem ck_0 : chkSs t.nm N_0 t.pg.cps c_law_start.code ⟨defScope s_0, fun _ => true⟩ (defBody s_0) = true := by decide +kernel
def N_1 : List Str := [("state" : Str), ("many" : Str), ("mixed" : Str), ("cell" : Str), ("digit" : Str)]
theorem sc_1 : FnScope N_1 [("state" : Str), ("many" : Str)] (defScope s_1) := C8.fnScope_by (by decide +kernel)
theorem ck_1 : chkSs t.nm N_1 t.pg.cps c_law_pick.code ⟨defScope s_1, fun _ => true⟩ (defBody s_1) = true := by decide +kernel
def N_2 : List Str := [("state" : Str), ("low" : Str), ("high" : Str)]
theorem sc_2 : FnScope N_2 [("state" : Str), ("low" : Str), ("high" : Str)] (defScope s_2) := C8.fnScope_by (by decide +kernel)
theorem ck_2 : chkSs t.nm N_2 t.pg.cps c_law_between.code ⟨defScope s_2, fun _ => true⟩ (defBody s_2) = true := by decide +kernel
def N_3 : List Str := [("found" : Str), ("due" : Str), ("key" : Str), ("mine" : Str), ("theirs" : Str)]
theorem sc_3 : FnScope N_3 [("found" : Str), ("due" : Str)] (defScope s_3) := C8.fnScope_by (by decide +kernel)
theorem ck_3 : chkSs t.nm N_3 t.pg.cps c_law_same.code ⟨defScope s_3, fun _ => true⟩ (defBody s_3) = true := by decide +kernel
def N_4 : List Str := [("e" : Str), ("told" : Str), ("k" : Str)]
theorem sc_4 : FnScope N_4 [("e" : Str)] (defScope s_4) := C8.fnScope_by (by decide +kernel)
theorem ck_4 : chkSs t.nm N_4 t.pg.cps c_law_kinds_of.code ⟨defScope s_4, fun _ => true⟩ (defBody s_4) = true := by decide +kernel
def N_5 : List Str := [("x" : Str), ("told" : Str)]
theorem sc_5 : FnScope N_5 [("x" : Str)] (defScope s_5) := C8.fnScope_by (by decide +kernel)
theorem ck_5 : chkSs t.nm N_5 t.pg.cps c_law_others.code ⟨defScope s_5, fun _ => true⟩ (defBody s_5) = true := by decide +kernel
def N_6 : List Str := [("e" : Str), ("told" : Str)]
theorem sc_6 : FnScope N_6 [("e" : Str)] (defScope s_6) := C8.fnScope_by (by decide +kernel)
theorem ck_6 : chkSs t.nm N_6 t.pg.cps c_law_is_other.code ⟨defScope s_6, fun _ => true⟩ (defBody s_6) = true := by decide +kernel
def N_7 : List Str := [("at" : Str), ("x" : Str), ("made" : Str)]
theorem sc_7 : FnScope N_7 [("at" : Str), ("x" : Str)] (defScope s_7) := C8.fnScope_by (by decide +kernel)
theorem ck_7 : chkSs t.nm N_7 t.pg.cps c_law_made_a.code ⟨defScope s_7, fun _ => true⟩ (defBody s_7) = true := by decide +kernel
def N_8 : List Str := [("at" : Str), ("x" : Str)]
theorem sc_8 : FnScope N_8 [("at" : Str), ("x" : Str)] (defScope s_8) := C8.fnScope_by (by decide +kernel)
theorem ck_8 : chkSs t.nm N_8 t.pg.cps c_law_made_at.code ⟨defScope s_8, fun _ => true⟩ (defBody s_8) = true := by decide +kernel
def N_9 : List Str := [("state" : Str), ("way" : Str)]
theorem sc_9 : FnScope N_9 [("state" : Str)] (defScope s_9) := C8.fnScope_by (by decide +kernel)
theorem ck_9 : chkSs t.nm N_9 t.pg.cps c_law_object.code ⟨defScope s_9, fun _ => true⟩ (defBody s_9) = true := by decide +kernel
def N_10 : List Str := [("found" : Str), ("due" : Str), ("same" : Str)]
theorem sc_10 : FnScope N_10 [("found" : Str), ("due" : Str)] (defScope s_10) := C8.fnScope_by (by decide +kernel)
theorem ck_10 : chkSs t.nm N_10 t.pg.cps c_law_very.code ⟨defScope s_10, fun _ => true⟩ (defBody s_10) = true := by decide +kernel
def N_11 : List Str := [("x" : Str), ("e" : Str), ("plain" : Str), ("told" : Str)]
theorem sc_11 : FnScope N_11 [("x" : Str)] (defScope s_11) := C8.fnScope_by (by decide +kernel)
def N_12 : List Str := [("script" : Str), ("state" : Str), ("k" : Str), ("at" : Str), ("one" : Str), ("two" : Str), ("made" : Str), ("kept" : Str), ("other" : Str), ("others" : Str), ("e" : Str)]
theorem sc_12 : FnScope N_12 [("script" : Str)] (defScope s_12) := C8.fnScope_by (by decide +kernel)
theorem ck_12 : chkSs t.nm N_12 t.pg.cps c_law.code ⟨defScope s_12, fun _ => true⟩ (defBody s_12) = true := by decide +kernel
end K95

set_option maxRecDepth 100000
set_option maxHeartbeats 0
namespace K95
open PySem PySem.Spec PyProof.Rows L2 BK
section
variable {K : PySem.W.Frag}
theorem ff_0 (c : He.SaysD faA fn K) : FnFact K (adr t K) t.pg t.nm 0 "_law_start" := by
  obtain ⟨fd, F⟩ := c.def_ 0 (d := d_0) rfl
  exact ⟨fd, "_law_start", defArgs s_0, defBody s_0, defScope s_0, N_0, [("script" : Str)], c_law_start, F, sc_0, FunD.bindsN F fun _ _ _ _ _ _ us hl => match us, hl with | [_], _ => rfl, rfl, rfl, rfl, ck_0⟩
theorem ff_1 (c : He.SaysD faA fn K) : FnFact K (adr t K) t.pg t.nm 1 "_law_pick" := by
  obtain ⟨fd, F⟩ := c.def_ 1 (d := d_1) rfl
  exact ⟨fd, "_law_pick", defArgs s_1, defBody s_1, defScope s_1, N_1, [("state" : Str), ("many" : Str)], c_law_pick, F, sc_1, FunD.bindsN F fun _ _ _ _ _ _ us hl => match us, hl with | [_, _], _ => rfl, rfl, rfl, rfl, ck_1⟩
theorem ff_2 (c : He.SaysD faA fn K) : FnFact K (adr t K) t.pg t.nm 2 "_law_between" := by
  obtain ⟨fd, F⟩ := c.def_ 2 (d := d_2) rfl
  exact ⟨fd, "_law_between", defArgs s_2, defBody s_2, defScope s_2, N_2, [("state" : Str), ("low" : Str), ("high" : Str)], c_law_between, F, sc_2, FunD.bindsN F fun _ _ _ _ _ _ us hl => match us, hl with | [_, _, _], _ => rfl, rfl, rfl, rfl, ck_2⟩
theorem ff_3 (c : He.SaysD faA fn K) : FnFact K (adr t K) t.pg t.nm 3 "_law_same" := by
  obtain ⟨fd, F⟩ := c.def_ 3 (d := d_3) rfl
  exact ⟨fd, "_law_same", defArgs s_3, defBody s_3, defScope s_3, N_3, [("found" : Str), ("due" : Str)], c_law_same, F, sc_3, FunD.bindsN F fun _ _ _ _ _ _ us hl => match us, hl with | [_, _], _ => rfl, rfl, rfl, rfl, ck_3⟩
theorem ff_4 (c : He.SaysD faA fn K) : FnFact K (adr t K) t.pg t.nm 4 "_law_kinds_of" := by
  obtain ⟨fd, F⟩ := c.def_ 4 (d := d_4) rfl
  exact ⟨fd, "_law_kinds_of", defArgs s_4, defBody s_4, defScope s_4, N_4, [("e" : Str)], c_law_kinds_of, F, sc_4, FunD.bindsN F fun _ _ _ _ _ _ us hl => match us, hl with | [_], _ => rfl, rfl, rfl, rfl, ck_4⟩
theorem ff_5 (c : He.SaysD faA fn K) : FnFact K (adr t K) t.pg t.nm 5 "_law_others" := by
  obtain ⟨fd, F⟩ := c.def_ 5 (d := d_5) rfl
  exact ⟨fd, "_law_others", defArgs s_5, defBody s_5, defScope s_5, N_5, [("x" : Str)], c_law_others, F, sc_5, FunD.bindsN F fun _ _ _ _ _ _ us hl => match us, hl with | [_], _ => rfl, rfl, rfl, rfl, ck_5⟩
theorem ff_6 (c : He.SaysD faA fn K) : FnFact K (adr t K) t.pg t.nm 6 "_law_is_other" := by
  obtain ⟨fd, F⟩ := c.def_ 6 (d := d_6) rfl
  exact ⟨fd, "_law_is_other", defArgs s_6, defBody s_6, defScope s_6, N_6, [("e" : Str)], c_law_is_other, F, sc_6, FunD.bindsN F fun _ _ _ _ _ _ us hl => match us, hl with | [_], _ => rfl, rfl, rfl, rfl, ck_6⟩
theorem ff_7 (c : He.SaysD faA fn K) : FnFact K (adr t K) t.pg t.nm 7 "_law_made_a" := by
  obtain ⟨fd, F⟩ := c.def_ 7 (d := d_7) rfl
  exact ⟨fd, "_law_made_a", defArgs s_7, defBody s_7, defScope s_7, N_7, [("at" : Str), ("x" : Str)], c_law_made_a, F, sc_7, FunD.bindsN F fun _ _ _ _ _ _ us hl => match us, hl with | [_, _], _ => rfl, rfl, rfl, rfl, ck_7⟩
theorem ff_8 (c : He.SaysD faA fn K) : FnFact K (adr t K) t.pg t.nm 8 "_law_made_at" := by
  obtain ⟨fd, F⟩ := c.def_ 8 (d := d_8) rfl
  exact ⟨fd, "_law_made_at", defArgs s_8, defBody s_8, defScope s_8, N_8, [("at" : Str), ("x" : Str)], c_law_made_at, F, sc_8, FunD.bindsN F fun _ _ _ _ _ _ us hl => match us, hl with | [_, _], _ => rfl, rfl, rfl, rfl, ck_8⟩
theorem ff_9 (c : He.SaysD faA fn K) : FnFact K (adr t K) t.pg t.nm 9 "_law_object" := by
  obtain ⟨fd, F⟩ := c.def_ 9 (d := d_9) rfl
  exact ⟨fd, "_law_object", defArgs s_9, defBody s_9, defScope s_9, N_9, [("state" : Str)], c_law_object, F, sc_9, FunD.bindsN F fun _ _ _ _ _ _ us hl => match us, hl with | [_], _ => rfl, rfl, rfl, rfl, ck_9⟩
theorem ff_10 (c : He.SaysD faA fn K) : FnFact K (adr t K) t.pg t.nm 10 "_law_very" := by
  obtain ⟨fd, F⟩ := c.def_ 10 (d := d_10) rfl
  exact ⟨fd, "_law_very", defArgs s_10, defBody s_10, defScope s_10, N_10, [("found" : Str), ("due" : Str)], c_law_very, F, sc_10, FunD.bindsN F fun _ _ _ _ _ _ us hl => match us, hl with | [_, _], _ => rfl, rfl, rfl, rfl, ck_10⟩
theorem ff_12 (c : He.SaysD faA fn K) : FnFact K (adr t K) t.pg t.nm 12 "law" := by
  obtain ⟨fd, F⟩ := c.def_ 12 (d := d_12) rfl
  exact ⟨fd, "law", defArgs s_12, defBody s_12, defScope s_12, N_12, [("script" : Str)], c_law, F, sc_12, FunD.bindsN F fun _ _ _ _ _ _ us hl => match us, hl with | [_], _ => rfl, rfl, rfl, rfl, ck_12⟩
theorem in_1 (c : He.SaysD faA fn K) : InitT K t 1 [("other" : Str)] := by
  obtain ⟨fd, F⟩ := c.def_ 13 (d := di_1) rfl
  refine ⟨fd, "__init__", "BadOther.__init__", defArgs si_1, defBody si_1, defScope si_1, [("self" : Str), ("other" : Str)], F, C8.fnScope_by (by decide +kernel), rfl, by decide +kernel, fun s self us _ hl => FunD.bindsA F (fun _ _ _ _ _ _ us hl => match us, hl with | [_, _], _ => rfl) s (self :: us) (by simpa using hl), ?_⟩
  exact fun o ho => by
    revert ho
    intro ho
    exact absurd ho (by simp [t, KW])
theorem in_2 (c : He.SaysD faA fn K) : InitT K t 2 [("index" : Str)] := by
  obtain ⟨fd, F⟩ := c.def_ 14 (d := di_2) rfl
  refine ⟨fd, "__init__", "BadLiterals.__init__", defArgs si_2, defBody si_2, defScope si_2, [("self" : Str), ("index" : Str)], F, C8.fnScope_by (by decide +kernel), rfl, by decide +kernel, fun s self us _ hl => FunD.bindsA F (fun _ _ _ _ _ _ us hl => match us, hl with | [_, _], _ => rfl) s (self :: us) (by simpa using hl), ?_⟩
  exact fun o ho => by
    revert ho
    intro ho
    exact absurd ho (by simp [t, KW])
theorem in_3 (c : He.SaysD faA fn K) : InitT K t 3 [("s" : Str), ("t" : Str)] := by
  obtain ⟨fd, F⟩ := c.def_ 15 (d := di_3) rfl
  refine ⟨fd, "__init__", "BadTerms.__init__", defArgs si_3, defBody si_3, defScope si_3, [("self" : Str), ("s" : Str), ("t" : Str)], F, C8.fnScope_by (by decide +kernel), rfl, by decide +kernel, fun s self us _ hl => FunD.bindsA F (fun _ _ _ _ _ _ us hl => match us, hl with | [_, _, _], _ => rfl) s (self :: us) (by simpa using hl), ?_⟩
  exact fun o ho => by
    revert ho
    intro ho
    exact absurd ho (by simp [t, KW])
theorem in_4 (c : He.SaysD faA fn K) : InitT K t 4 [("form" : Str)] := by
  obtain ⟨fd, F⟩ := c.def_ 16 (d := di_4) rfl
  refine ⟨fd, "__init__", "BadForm.__init__", defArgs si_4, defBody si_4, defScope si_4, [("self" : Str), ("form" : Str)], F, C8.fnScope_by (by decide +kernel), rfl, by decide +kernel, fun s self us _ hl => FunD.bindsA F (fun _ _ _ _ _ _ us hl => match us, hl with | [_, _], _ => rfl) s (self :: us) (by simpa using hl), ?_⟩
  exact fun o ho => by
    revert ho
    intro ho
    exact absurd ho (by simp [t, KW])
theorem in_5 (c : He.SaysD faA fn K) : InitT K t 5 [("given" : Str)] := by
  obtain ⟨fd, F⟩ := c.def_ 17 (d := di_5) rfl
  refine ⟨fd, "__init__", "BadSort.__init__", defArgs si_5, defBody si_5, defScope si_5, [("self" : Str), ("given" : Str)], F, C8.fnScope_by (by decide +kernel), rfl, by decide +kernel, fun s self us _ hl => FunD.bindsA F (fun _ _ _ _ _ _ us hl => match us, hl with | [_, _], _ => rfl) s (self :: us) (by simpa using hl), ?_⟩
  exact fun o ho => by
    revert ho
    intro ho
    exact absurd ho (by simp [t, KW])
theorem in_6 (c : He.SaysD faA fn K) : InitT K t 6 [("axiom" : Str)] := by
  obtain ⟨fd, F⟩ := c.def_ 18 (d := di_6) rfl
  refine ⟨fd, "__init__", "BadAxiom.__init__", defArgs si_6, defBody si_6, defScope si_6, [("self" : Str), ("axiom" : Str)], F, C8.fnScope_by (by decide +kernel), rfl, by decide +kernel, fun s self us _ hl => FunD.bindsA F (fun _ _ _ _ _ _ us hl => match us, hl with | [_, _], _ => rfl) s (self :: us) (by simpa using hl), ?_⟩
  exact fun o ho => by
    revert ho
    intro ho
    exact absurd ho (by simp [t, KW])
theorem in_7 (c : He.SaysD faA fn K) : InitT K t 7 [("word" : Str)] := by
  obtain ⟨fd, F⟩ := c.def_ 19 (d := di_7) rfl
  refine ⟨fd, "__init__", "SignsClash.__init__", defArgs si_7, defBody si_7, defScope si_7, [("self" : Str), ("word" : Str)], F, C8.fnScope_by (by decide +kernel), rfl, by decide +kernel, fun s self us _ hl => FunD.bindsA F (fun _ _ _ _ _ _ us hl => match us, hl with | [_, _], _ => rfl) s (self :: us) (by simpa using hl), ?_⟩
  exact fun o ho => by
    revert ho
    intro ho
    exact absurd ho (by simp [t, KW])
theorem in_8 (c : He.SaysD faA fn K) : InitT K t 8 [("first" : Str)] := by
  obtain ⟨fd, F⟩ := c.def_ 20 (d := di_8) rfl
  refine ⟨fd, "__init__", "BadFirst.__init__", defArgs si_8, defBody si_8, defScope si_8, [("self" : Str), ("first" : Str)], F, C8.fnScope_by (by decide +kernel), rfl, by decide +kernel, fun s self us _ hl => FunD.bindsA F (fun _ _ _ _ _ _ us hl => match us, hl with | [_, _], _ => rfl) s (self :: us) (by simpa using hl), ?_⟩
  exact fun o ho => by
    revert ho
    intro ho
    exact absurd ho (by simp [t, KW])
theorem in_9 (c : He.SaysD faA fn K) : InitT K t 9 [("back" : Str)] := by
  obtain ⟨fd, F⟩ := c.def_ 21 (d := di_9) rfl
  refine ⟨fd, "__init__", "BadBack.__init__", defArgs si_9, defBody si_9, defScope si_9, [("self" : Str), ("back" : Str)], F, C8.fnScope_by (by decide +kernel), rfl, by decide +kernel, fun s self us _ hl => FunD.bindsA F (fun _ _ _ _ _ _ us hl => match us, hl with | [_, _], _ => rfl) s (self :: us) (by simpa using hl), ?_⟩
  exact fun o ho => by
    revert ho
    intro ho
    exact absurd ho (by simp [t, KW])
theorem in_10 (c : He.SaysD faA fn K) : InitT K t 10 [("run" : Str)] := by
  obtain ⟨fd, F⟩ := c.def_ 22 (d := di_10) rfl
  refine ⟨fd, "__init__", "BadRun.__init__", defArgs si_10, defBody si_10, defScope si_10, [("self" : Str), ("run" : Str)], F, C8.fnScope_by (by decide +kernel), rfl, by decide +kernel, fun s self us _ hl => FunD.bindsA F (fun _ _ _ _ _ _ us hl => match us, hl with | [_, _], _ => rfl) s (self :: us) (by simpa using hl), ?_⟩
  exact fun o ho => by
    revert ho
    intro ho
    exact absurd ho (by simp [t, KW])
theorem in_11 (c : He.SaysD faA fn K) : InitT K t 11 [("step" : Str)] := by
  obtain ⟨fd, F⟩ := c.def_ 23 (d := di_11) rfl
  refine ⟨fd, "__init__", "BadStep.__init__", defArgs si_11, defBody si_11, defScope si_11, [("self" : Str), ("step" : Str)], F, C8.fnScope_by (by decide +kernel), rfl, by decide +kernel, fun s self us _ hl => FunD.bindsA F (fun _ _ _ _ _ _ us hl => match us, hl with | [_, _], _ => rfl) s (self :: us) (by simpa using hl), ?_⟩
  exact fun o ho => by
    revert ho
    intro ho
    exact absurd ho (by simp [t, KW])
theorem in_12 (c : He.SaysD faA fn K) : InitT K t 12 [("index" : Str)] := by
  obtain ⟨fd, F⟩ := c.def_ 24 (d := di_12) rfl
  refine ⟨fd, "__init__", "BadNumbers.__init__", defArgs si_12, defBody si_12, defScope si_12, [("self" : Str), ("index" : Str)], F, C8.fnScope_by (by decide +kernel), rfl, by decide +kernel, fun s self us _ hl => FunD.bindsA F (fun _ _ _ _ _ _ us hl => match us, hl with | [_, _], _ => rfl) s (self :: us) (by simpa using hl), ?_⟩
  exact fun o ho => by
    revert ho
    intro ho
    exact absurd ho (by simp [t, KW])
theorem in_13 (c : He.SaysD faA fn K) : InitT K t 13 [("prices" : Str)] := by
  obtain ⟨fd, F⟩ := c.def_ 25 (d := di_13) rfl
  refine ⟨fd, "__init__", "BadPrices.__init__", defArgs si_13, defBody si_13, defScope si_13, [("self" : Str), ("prices" : Str)], F, C8.fnScope_by (by decide +kernel), rfl, by decide +kernel, fun s self us _ hl => FunD.bindsA F (fun _ _ _ _ _ _ us hl => match us, hl with | [_, _], _ => rfl) s (self :: us) (by simpa using hl), ?_⟩
  exact fun o ho => by
    have ho : o = [0] := by simpa [t, KW] using ho
    subst ho
    exact ⟨rfl, fun s self ws _ hl => by match ws, hl with | [_], _ => exact binds_kw F (fun _ _ _ _ _ _ => rfl) s⟩
theorem in_14 (c : He.SaysD faA fn K) : InitT K t 14 [("edit" : Str)] := by
  obtain ⟨fd, F⟩ := c.def_ 26 (d := di_14) rfl
  refine ⟨fd, "__init__", "BadEdit.__init__", defArgs si_14, defBody si_14, defScope si_14, [("self" : Str), ("edit" : Str)], F, C8.fnScope_by (by decide +kernel), rfl, by decide +kernel, fun s self us _ hl => FunD.bindsA F (fun _ _ _ _ _ _ us hl => match us, hl with | [_, _], _ => rfl) s (self :: us) (by simpa using hl), ?_⟩
  exact fun o ho => by
    revert ho
    intro ho
    exact absurd ho (by simp [t, KW])
theorem in_15 (c : He.SaysD faA fn K) : InitT K t 15 [("session" : Str)] := by
  obtain ⟨fd, F⟩ := c.def_ 27 (d := di_15) rfl
  refine ⟨fd, "__init__", "BadSession.__init__", defArgs si_15, defBody si_15, defScope si_15, [("self" : Str), ("session" : Str)], F, C8.fnScope_by (by decide +kernel), rfl, by decide +kernel, fun s self us _ hl => FunD.bindsA F (fun _ _ _ _ _ _ us hl => match us, hl with | [_, _], _ => rfl) s (self :: us) (by simpa using hl), ?_⟩
  exact fun o ho => by
    revert ho
    intro ho
    exact absurd ho (by simp [t, KW])
theorem in_16 (c : He.SaysD faA fn K) : InitT K t 16 [("line" : Str)] := by
  obtain ⟨fd, F⟩ := c.def_ 28 (d := di_16) rfl
  refine ⟨fd, "__init__", "BadSessionText.__init__", defArgs si_16, defBody si_16, defScope si_16, [("self" : Str), ("line" : Str)], F, C8.fnScope_by (by decide +kernel), rfl, by decide +kernel, fun s self us _ hl => FunD.bindsA F (fun _ _ _ _ _ _ us hl => match us, hl with | [_, _], _ => rfl) s (self :: us) (by simpa using hl), ?_⟩
  exact fun o ho => by
    have ho : o = [0] := by simpa [t, KW] using ho
    subst ho
    exact ⟨rfl, fun s self ws _ hl => by match ws, hl with | [_], _ => exact binds_kw F (fun _ _ _ _ _ _ => rfl) s⟩
theorem in_17 (c : He.SaysD faA fn K) : InitT K t 17 [("index" : Str)] := by
  obtain ⟨fd, F⟩ := c.def_ 29 (d := di_17) rfl
  refine ⟨fd, "__init__", "BadBooks.__init__", defArgs si_17, defBody si_17, defScope si_17, [("self" : Str), ("index" : Str)], F, C8.fnScope_by (by decide +kernel), rfl, by decide +kernel, fun s self us _ hl => FunD.bindsA F (fun _ _ _ _ _ _ us hl => match us, hl with | [_, _], _ => rfl) s (self :: us) (by simpa using hl), ?_⟩
  exact fun o ho => by
    revert ho
    intro ho
    exact absurd ho (by simp [t, KW])
theorem in_18 (c : He.SaysD faA fn K) : InitT K t 18 [("many" : Str)] := by
  obtain ⟨fd, F⟩ := c.def_ 30 (d := di_18) rfl
  refine ⟨fd, "__init__", "BadMany.__init__", defArgs si_18, defBody si_18, defScope si_18, [("self" : Str), ("many" : Str)], F, C8.fnScope_by (by decide +kernel), rfl, by decide +kernel, fun s self us _ hl => FunD.bindsA F (fun _ _ _ _ _ _ us hl => match us, hl with | [_, _], _ => rfl) s (self :: us) (by simpa using hl), ?_⟩
  exact fun o ho => by
    revert ho
    intro ho
    exact absurd ho (by simp [t, KW])
theorem in_19 (c : He.SaysD faA fn K) : InitT K t 19 [("parting" : Str)] := by
  obtain ⟨fd, F⟩ := c.def_ 31 (d := di_19) rfl
  refine ⟨fd, "__init__", "BadParting.__init__", defArgs si_19, defBody si_19, defScope si_19, [("self" : Str), ("parting" : Str)], F, C8.fnScope_by (by decide +kernel), rfl, by decide +kernel, fun s self us _ hl => FunD.bindsA F (fun _ _ _ _ _ _ us hl => match us, hl with | [_, _], _ => rfl) s (self :: us) (by simpa using hl), ?_⟩
  exact fun o ho => by
    have ho : o = [0] := by simpa [t, KW] using ho
    subst ho
    exact ⟨rfl, fun s self ws _ hl => by match ws, hl with | [_], _ => exact binds_kw F (fun _ _ _ _ _ _ => rfl) s⟩
theorem in_22 (c : He.SaysD faA fn K) : InitT K t 22 [("p" : Str), ("n" : Str)] := by
  obtain ⟨fd, F⟩ := c.def_ 32 (d := di_22) rfl
  refine ⟨fd, "__init__", "BadParts.__init__", defArgs si_22, defBody si_22, defScope si_22, [("self" : Str), ("p" : Str), ("n" : Str)], F, C8.fnScope_by (by decide +kernel), rfl, by decide +kernel, fun s self us _ hl => FunD.bindsA F (fun _ _ _ _ _ _ us hl => match us, hl with | [_, _, _], _ => rfl) s (self :: us) (by simpa using hl), ?_⟩
  exact fun o ho => by
    revert ho
    intro ho
    exact absurd ho (by simp [t, KW])
theorem in_23 (c : He.SaysD faA fn K) : InitT K t 23 [("q" : Str)] := by
  obtain ⟨fd, F⟩ := c.def_ 33 (d := di_23) rfl
  refine ⟨fd, "__init__", "BadQuotient.__init__", defArgs si_23, defBody si_23, defScope si_23, [("self" : Str), ("q" : Str)], F, C8.fnScope_by (by decide +kernel), rfl, by decide +kernel, fun s self us _ hl => FunD.bindsA F (fun _ _ _ _ _ _ us hl => match us, hl with | [_, _], _ => rfl) s (self :: us) (by simpa using hl), ?_⟩
  exact fun o ho => by
    revert ho
    intro ho
    exact absurd ho (by simp [t, KW])
theorem in_24 (c : He.SaysD faA fn K) : InitT K t 24 [("text" : Str)] := by
  obtain ⟨fd, F⟩ := c.def_ 34 (d := di_24) rfl
  refine ⟨fd, "__init__", "BadQuotientText.__init__", defArgs si_24, defBody si_24, defScope si_24, [("self" : Str), ("text" : Str)], F, C8.fnScope_by (by decide +kernel), rfl, by decide +kernel, fun s self us _ hl => FunD.bindsA F (fun _ _ _ _ _ _ us hl => match us, hl with | [_, _], _ => rfl) s (self :: us) (by simpa using hl), ?_⟩
  exact fun o ho => by
    revert ho
    intro ho
    exact absurd ho (by simp [t, KW])
theorem in_25 (c : He.SaysD faA fn K) : InitT K t 25 [("given" : Str)] := by
  obtain ⟨fd, F⟩ := c.def_ 35 (d := di_25) rfl
  refine ⟨fd, "__init__", "BadSigns.__init__", defArgs si_25, defBody si_25, defScope si_25, [("self" : Str), ("given" : Str)], F, C8.fnScope_by (by decide +kernel), rfl, by decide +kernel, fun s self us _ hl => FunD.bindsA F (fun _ _ _ _ _ _ us hl => match us, hl with | [_, _], _ => rfl) s (self :: us) (by simpa using hl), ?_⟩
  exact fun o ho => by
    revert ho
    intro ho
    exact absurd ho (by simp [t, KW])
theorem in_26 (c : He.SaysD faA fn K) : InitT K t 26 [("term" : Str)] := by
  obtain ⟨fd, F⟩ := c.def_ 36 (d := di_26) rfl
  refine ⟨fd, "__init__", "BadTerm.__init__", defArgs si_26, defBody si_26, defScope si_26, [("self" : Str), ("term" : Str)], F, C8.fnScope_by (by decide +kernel), rfl, by decide +kernel, fun s self us _ hl => FunD.bindsA F (fun _ _ _ _ _ _ us hl => match us, hl with | [_, _], _ => rfl) s (self :: us) (by simpa using hl), ?_⟩
  exact fun o ho => by
    revert ho
    intro ho
    exact absurd ho (by simp [t, KW])
theorem in_27 (c : He.SaysD faA fn K) : InitT K t 27 [("index" : Str)] := by
  obtain ⟨fd, F⟩ := c.def_ 37 (d := di_27) rfl
  refine ⟨fd, "__init__", "BadClauses.__init__", defArgs si_27, defBody si_27, defScope si_27, [("self" : Str), ("index" : Str)], F, C8.fnScope_by (by decide +kernel), rfl, by decide +kernel, fun s self us _ hl => FunD.bindsA F (fun _ _ _ _ _ _ us hl => match us, hl with | [_, _], _ => rfl) s (self :: us) (by simpa using hl), ?_⟩
  exact fun o ho => by
    revert ho
    intro ho
    exact absurd ho (by simp [t, KW])
theorem in_28 (c : He.SaysD faA fn K) : InitT K t 28 [("clause" : Str)] := by
  obtain ⟨fd, F⟩ := c.def_ 38 (d := di_28) rfl
  refine ⟨fd, "__init__", "BadClause.__init__", defArgs si_28, defBody si_28, defScope si_28, [("self" : Str), ("clause" : Str)], F, C8.fnScope_by (by decide +kernel), rfl, by decide +kernel, fun s self us _ hl => FunD.bindsA F (fun _ _ _ _ _ _ us hl => match us, hl with | [_, _], _ => rfl) s (self :: us) (by simpa using hl), ?_⟩
  exact fun o ho => by
    revert ho
    intro ho
    exact absurd ho (by simp [t, KW])
theorem in_29 (c : He.SaysD faA fn K) : InitT K t 29 [("number" : Str)] := by
  obtain ⟨fd, F⟩ := c.def_ 39 (d := di_29) rfl
  refine ⟨fd, "__init__", "BadNumber.__init__", defArgs si_29, defBody si_29, defScope si_29, [("self" : Str), ("number" : Str)], F, C8.fnScope_by (by decide +kernel), rfl, by decide +kernel, fun s self us _ hl => FunD.bindsA F (fun _ _ _ _ _ _ us hl => match us, hl with | [_, _], _ => rfl) s (self :: us) (by simpa using hl), ?_⟩
  exact fun o ho => by
    revert ho
    intro ho
    exact absurd ho (by simp [t, KW])
theorem in_30 (c : He.SaysD faA fn K) : InitT K t 30 [("book" : Str)] := by
  obtain ⟨fd, F⟩ := c.def_ 40 (d := di_30) rfl
  refine ⟨fd, "__init__", "BadBook.__init__", defArgs si_30, defBody si_30, defScope si_30, [("self" : Str), ("book" : Str)], F, C8.fnScope_by (by decide +kernel), rfl, by decide +kernel, fun s self us _ hl => FunD.bindsA F (fun _ _ _ _ _ _ us hl => match us, hl with | [_, _], _ => rfl) s (self :: us) (by simpa using hl), ?_⟩
  exact fun o ho => by
    revert ho
    intro ho
    exact absurd ho (by simp [t, KW])
theorem in_31 (c : He.SaysD faA fn K) : InitT K t 31 [("text" : Str)] := by
  obtain ⟨fd, F⟩ := c.def_ 41 (d := di_31) rfl
  refine ⟨fd, "__init__", "BadTermText.__init__", defArgs si_31, defBody si_31, defScope si_31, [("self" : Str), ("text" : Str)], F, C8.fnScope_by (by decide +kernel), rfl, by decide +kernel, fun s self us _ hl => FunD.bindsA F (fun _ _ _ _ _ _ us hl => match us, hl with | [_, _], _ => rfl) s (self :: us) (by simpa using hl), ?_⟩
  exact fun o ho => by
    revert ho
    intro ho
    exact absurd ho (by simp [t, KW])
theorem in_32 (c : He.SaysD faA fn K) : InitT K t 32 [("line" : Str)] := by
  obtain ⟨fd, F⟩ := c.def_ 42 (d := di_32) rfl
  refine ⟨fd, "__init__", "BadBookText.__init__", defArgs si_32, defBody si_32, defScope si_32, [("self" : Str), ("line" : Str)], F, C8.fnScope_by (by decide +kernel), rfl, by decide +kernel, fun s self us _ hl => FunD.bindsA F (fun _ _ _ _ _ _ us hl => match us, hl with | [_, _], _ => rfl) s (self :: us) (by simpa using hl), ?_⟩
  exact fun o ho => by
    revert ho
    intro ho
    exact absurd ho (by simp [t, KW])
theorem in_33 (c : He.SaysD faA fn K) : InitT K t 33 [("line" : Str)] := by
  obtain ⟨fd, F⟩ := c.def_ 43 (d := di_33) rfl
  refine ⟨fd, "__init__", "BadLine.__init__", defArgs si_33, defBody si_33, defScope si_33, [("self" : Str), ("line" : Str)], F, C8.fnScope_by (by decide +kernel), rfl, by decide +kernel, fun s self us _ hl => FunD.bindsA F (fun _ _ _ _ _ _ us hl => match us, hl with | [_, _], _ => rfl) s (self :: us) (by simpa using hl), ?_⟩
  exact fun o ho => by
    revert ho
    intro ho
    exact absurd ho (by simp [t, KW])
theorem in_34 (c : He.SaysD faA fn K) : InitT K t 34 [("normal" : Str)] := by
  obtain ⟨fd, F⟩ := c.def_ 44 (d := di_34) rfl
  refine ⟨fd, "__init__", "BadNormal.__init__", defArgs si_34, defBody si_34, defScope si_34, [("self" : Str), ("normal" : Str)], F, C8.fnScope_by (by decide +kernel), rfl, by decide +kernel, fun s self us _ hl => FunD.bindsA F (fun _ _ _ _ _ _ us hl => match us, hl with | [_, _], _ => rfl) s (self :: us) (by simpa using hl), ?_⟩
  exact fun o ho => by
    revert ho
    intro ho
    exact absurd ho (by simp [t, KW])
theorem in_35 (c : He.SaysD faA fn K) : InitT K t 35 [("literal" : Str)] := by
  obtain ⟨fd, F⟩ := c.def_ 45 (d := di_35) rfl
  refine ⟨fd, "__init__", "BadLiteral.__init__", defArgs si_35, defBody si_35, defScope si_35, [("self" : Str), ("literal" : Str)], F, C8.fnScope_by (by decide +kernel), rfl, by decide +kernel, fun s self us _ hl => FunD.bindsA F (fun _ _ _ _ _ _ us hl => match us, hl with | [_, _], _ => rfl) s (self :: us) (by simpa using hl), ?_⟩
  exact fun o ho => by
    revert ho
    intro ho
    exact absurd ho (by simp [t, KW])
theorem in_36 (c : He.SaysD faA fn K) : InitT K t 36 [("model" : Str)] := by
  obtain ⟨fd, F⟩ := c.def_ 46 (d := di_36) rfl
  refine ⟨fd, "__init__", "BadModel.__init__", defArgs si_36, defBody si_36, defScope si_36, [("self" : Str), ("model" : Str)], F, C8.fnScope_by (by decide +kernel), rfl, by decide +kernel, fun s self us _ hl => FunD.bindsA F (fun _ _ _ _ _ _ us hl => match us, hl with | [_, _], _ => rfl) s (self :: us) (by simpa using hl), ?_⟩
  exact fun o ho => by
    revert ho
    intro ho
    exact absurd ho (by simp [t, KW])
theorem in_37 (c : He.SaysD faA fn K) : InitT K t 37 [("atom" : Str)] := by
  obtain ⟨fd, F⟩ := c.def_ 47 (d := di_37) rfl
  refine ⟨fd, "__init__", "BadAtom.__init__", defArgs si_37, defBody si_37, defScope si_37, [("self" : Str), ("atom" : Str)], F, C8.fnScope_by (by decide +kernel), rfl, by decide +kernel, fun s self us _ hl => FunD.bindsA F (fun _ _ _ _ _ _ us hl => match us, hl with | [_, _], _ => rfl) s (self :: us) (by simpa using hl), ?_⟩
  exact fun o ho => by
    revert ho
    intro ho
    exact absurd ho (by simp [t, KW])
theorem in_38 (c : He.SaysD faA fn K) : InitT K t 38 [("proof" : Str)] := by
  obtain ⟨fd, F⟩ := c.def_ 48 (d := di_38) rfl
  refine ⟨fd, "__init__", "BadProof.__init__", defArgs si_38, defBody si_38, defScope si_38, [("self" : Str), ("proof" : Str)], F, C8.fnScope_by (by decide +kernel), rfl, by decide +kernel, fun s self us _ hl => FunD.bindsA F (fun _ _ _ _ _ _ us hl => match us, hl with | [_, _], _ => rfl) s (self :: us) (by simpa using hl), ?_⟩
  exact fun o ho => by
    revert ho
    intro ho
    exact absurd ho (by simp [t, KW])
theorem in_39 (c : He.SaysD faA fn K) : InitT K t 39 [("rows" : Str)] := by
  obtain ⟨fd, F⟩ := c.def_ 49 (d := di_39) rfl
  refine ⟨fd, "__init__", "BadRows.__init__", defArgs si_39, defBody si_39, defScope si_39, [("self" : Str), ("rows" : Str)], F, C8.fnScope_by (by decide +kernel), rfl, by decide +kernel, fun s self us _ hl => FunD.bindsA F (fun _ _ _ _ _ _ us hl => match us, hl with | [_, _], _ => rfl) s (self :: us) (by simpa using hl), ?_⟩
  exact fun o ho => by
    revert ho
    intro ho
    exact absurd ho (by simp [t, KW])
theorem in_40 (c : He.SaysD faA fn K) : InitT K t 40 [("index" : Str)] := by
  obtain ⟨fd, F⟩ := c.def_ 50 (d := di_40) rfl
  refine ⟨fd, "__init__", "BadAssumptions.__init__", defArgs si_40, defBody si_40, defScope si_40, [("self" : Str), ("index" : Str)], F, C8.fnScope_by (by decide +kernel), rfl, by decide +kernel, fun s self us _ hl => FunD.bindsA F (fun _ _ _ _ _ _ us hl => match us, hl with | [_, _], _ => rfl) s (self :: us) (by simpa using hl), ?_⟩
  exact fun o ho => by
    revert ho
    intro ho
    exact absurd ho (by simp [t, KW])
theorem in_41 (c : He.SaysD faA fn K) : InitT K t 41 [("answer" : Str)] := by
  obtain ⟨fd, F⟩ := c.def_ 51 (d := di_41) rfl
  refine ⟨fd, "__init__", "BadAnswer.__init__", defArgs si_41, defBody si_41, defScope si_41, [("self" : Str), ("answer" : Str)], F, C8.fnScope_by (by decide +kernel), rfl, by decide +kernel, fun s self us _ hl => FunD.bindsA F (fun _ _ _ _ _ _ us hl => match us, hl with | [_, _], _ => rfl) s (self :: us) (by simpa using hl), ?_⟩
  exact fun o ho => by
    revert ho
    intro ho
    exact absurd ho (by simp [t, KW])
theorem in_42 (c : He.SaysD faA fn K) : InitT K t 42 [("line" : Str)] := by
  obtain ⟨fd, F⟩ := c.def_ 52 (d := di_42) rfl
  refine ⟨fd, "__init__", "BadPaperText.__init__", defArgs si_42, defBody si_42, defScope si_42, [("self" : Str), ("line" : Str)], F, C8.fnScope_by (by decide +kernel), rfl, by decide +kernel, fun s self us _ hl => FunD.bindsA F (fun _ _ _ _ _ _ us hl => match us, hl with | [_, _], _ => rfl) s (self :: us) (by simpa using hl), ?_⟩
  exact fun o ho => by
    revert ho
    intro ho
    exact absurd ho (by simp [t, KW])
theorem in_43 (c : He.SaysD faA fn K) : InitT K t 43 [("table" : Str)] := by
  obtain ⟨fd, F⟩ := c.def_ 53 (d := di_43) rfl
  refine ⟨fd, "__init__", "BadTable.__init__", defArgs si_43, defBody si_43, defScope si_43, [("self" : Str), ("table" : Str)], F, C8.fnScope_by (by decide +kernel), rfl, by decide +kernel, fun s self us _ hl => FunD.bindsA F (fun _ _ _ _ _ _ us hl => match us, hl with | [_, _], _ => rfl) s (self :: us) (by simpa using hl), ?_⟩
  exact fun o ho => by
    revert ho
    intro ho
    exact absurd ho (by simp [t, KW])
theorem in_44 (c : He.SaysD faA fn K) : InitT K t 44 [("told" : Str)] := by
  obtain ⟨fd, F⟩ := c.def_ 54 (d := di_44) rfl
  refine ⟨fd, "__init__", "BadTold.__init__", defArgs si_44, defBody si_44, defScope si_44, [("self" : Str), ("told" : Str)], F, C8.fnScope_by (by decide +kernel), rfl, by decide +kernel, fun s self us _ hl => FunD.bindsA F (fun _ _ _ _ _ _ us hl => match us, hl with | [_, _], _ => rfl) s (self :: us) (by simpa using hl), ?_⟩
  exact fun o ho => by
    revert ho
    intro ho
    exact absurd ho (by simp [t, KW])
theorem in_45 (c : He.SaysD faA fn K) : InitT K t 45 [("index" : Str)] := by
  obtain ⟨fd, F⟩ := c.def_ 55 (d := di_45) rfl
  refine ⟨fd, "__init__", "BadOrder.__init__", defArgs si_45, defBody si_45, defScope si_45, [("self" : Str), ("index" : Str)], F, C8.fnScope_by (by decide +kernel), rfl, by decide +kernel, fun s self us _ hl => FunD.bindsA F (fun _ _ _ _ _ _ us hl => match us, hl with | [_, _], _ => rfl) s (self :: us) (by simpa using hl), ?_⟩
  exact fun o ho => by
    revert ho
    intro ho
    exact absurd ho (by simp [t, KW])
theorem fns (c : He.SaysD faA fn K) : ∀ f x, ([11].contains f) = false → t.nm.FN[f]? = some x → FnFact K (adr t K) t.pg t.nm f x := by
  intro f x ho hx
  have hf : f < 13 := (List.getElem?_eq_some_iff.mp hx).1
  match f, hf, hx, ho with
  | 0, _, hx, _ => obtain rfl := Option.some.inj hx; exact ff_0 c
  | 1, _, hx, _ => obtain rfl := Option.some.inj hx; exact ff_1 c
  | 2, _, hx, _ => obtain rfl := Option.some.inj hx; exact ff_2 c
  | 3, _, hx, _ => obtain rfl := Option.some.inj hx; exact ff_3 c
  | 4, _, hx, _ => obtain rfl := Option.some.inj hx; exact ff_4 c
  | 5, _, hx, _ => obtain rfl := Option.some.inj hx; exact ff_5 c
  | 6, _, hx, _ => obtain rfl := Option.some.inj hx; exact ff_6 c
  | 7, _, hx, _ => obtain rfl := Option.some.inj hx; exact ff_7 c
  | 8, _, hx, _ => obtain rfl := Option.some.inj hx; exact ff_8 c
  | 9, _, hx, _ => obtain rfl := Option.some.inj hx; exact ff_9 c
  | 10, _, hx, _ => obtain rfl := Option.some.inj hx; exact ff_10 c
  | 11, _, hx, ho => exact absurd ho (by decide)
  | 12, _, hx, _ => obtain rfl := Option.some.inj hx; exact ff_12 c
theorem inits (c : He.SaysD faA fn K) : ∀ k ns, k < t.CN.length → t.CP[k]? = some ns → ns ≠ [] → InitT K t k ns := by
  intro k ns hk hns hne
  have hk : k < 46 := hk
  match k, hk, hns with
  | 0, _, hns => exact absurd (Option.some.inj hns).symm hne
  | 1, _, hns => obtain rfl := Option.some.inj hns; exact in_1 c
  | 2, _, hns => obtain rfl := Option.some.inj hns; exact in_2 c
  | 3, _, hns => obtain rfl := Option.some.inj hns; exact in_3 c
  | 4, _, hns => obtain rfl := Option.some.inj hns; exact in_4 c
  | 5, _, hns => obtain rfl := Option.some.inj hns; exact in_5 c
  | 6, _, hns => obtain rfl := Option.some.inj hns; exact in_6 c
  | 7, _, hns => obtain rfl := Option.some.inj hns; exact in_7 c
  | 8, _, hns => obtain rfl := Option.some.inj hns; exact in_8 c
  | 9, _, hns => obtain rfl := Option.some.inj hns; exact in_9 c
  | 10, _, hns => obtain rfl := Option.some.inj hns; exact in_10 c
  | 11, _, hns => obtain rfl := Option.some.inj hns; exact in_11 c
  | 12, _, hns => obtain rfl := Option.some.inj hns; exact in_12 c
  | 13, _, hns => obtain rfl := Option.some.inj hns; exact in_13 c
  | 14, _, hns => obtain rfl := Option.some.inj hns; exact in_14 c
  | 15, _, hns => obtain rfl := Option.some.inj hns; exact in_15 c
  | 16, _, hns => obtain rfl := Option.some.inj hns; exact in_16 c
  | 17, _, hns => obtain rfl := Option.some.inj hns; exact in_17 c
  | 18, _, hns => obtain rfl := Option.some.inj hns; exact in_18 c
  | 19, _, hns => obtain rfl := Option.some.inj hns; exact in_19 c
  | 20, _, hns => exact absurd (Option.some.inj hns).symm hne
  | 21, _, hns => exact absurd (Option.some.inj hns).symm hne
  | 22, _, hns => obtain rfl := Option.some.inj hns; exact in_22 c
  | 23, _, hns => obtain rfl := Option.some.inj hns; exact in_23 c
  | 24, _, hns => obtain rfl := Option.some.inj hns; exact in_24 c
  | 25, _, hns => obtain rfl := Option.some.inj hns; exact in_25 c
  | 26, _, hns => obtain rfl := Option.some.inj hns; exact in_26 c
  | 27, _, hns => obtain rfl := Option.some.inj hns; exact in_27 c
  | 28, _, hns => obtain rfl := Option.some.inj hns; exact in_28 c
  | 29, _, hns => obtain rfl := Option.some.inj hns; exact in_29 c
  | 30, _, hns => obtain rfl := Option.some.inj hns; exact in_30 c
  | 31, _, hns => obtain rfl := Option.some.inj hns; exact in_31 c
  | 32, _, hns => obtain rfl := Option.some.inj hns; exact in_32 c
  | 33, _, hns => obtain rfl := Option.some.inj hns; exact in_33 c
  | 34, _, hns => obtain rfl := Option.some.inj hns; exact in_34 c
  | 35, _, hns => obtain rfl := Option.some.inj hns; exact in_35 c
  | 36, _, hns => obtain rfl := Option.some.inj hns; exact in_36 c
  | 37, _, hns => obtain rfl := Option.some.inj hns; exact in_37 c
  | 38, _, hns => obtain rfl := Option.some.inj hns; exact in_38 c
  | 39, _, hns => obtain rfl := Option.some.inj hns; exact in_39 c
  | 40, _, hns => obtain rfl := Option.some.inj hns; exact in_40 c
  | 41, _, hns => obtain rfl := Option.some.inj hns; exact in_41 c
  | 42, _, hns => obtain rfl := Option.some.inj hns; exact in_42 c
  | 43, _, hns => obtain rfl := Option.some.inj hns; exact in_43 c
  | 44, _, hns => obtain rfl := Option.some.inj hns; exact in_44 c
  | 45, _, hns => obtain rfl := Option.some.inj hns; exact in_45 c
end
end K95

set_option maxRecDepth 100000
set_option maxHeartbeats 4000000
/-! H1: a list comprehension over range while an exception is handled. -/
namespace BKH
open PySem PySem.Spec PyProof.Rows L2 L2H HotX
abbrev blk (X : Cx) (sh : Shared) (Hh : Hp) (scope : Scope) (en : PySem.Env) (fp : List Addr) : Cx := (X.blk sh Hh scope en fp).tr X.pn (fun _ _ => False)
section
variable {X : Cx} {pins : List (Addr × Obj)} {σ σ' : L2.St} {H H' : Hp} {s s' : Shared}
theorem blk_inv {scope : Scope} {en : PySem.Env} {fp : List Addr} (I : Inv X pins σ H s) (J : Inv (X.blk s H scope en fp) [] σ' H s') (le : en.locals = s.heap.objs.size) (kp : ∀ b o, s.heap.get? b = some o → s'.heap.get? b = some o) : Inv (blk X s H scope en fp) [] σ' H s' :=
  ⟨J.ok.toTry _ _, J.os, J.bare, J.base, J.loc, J.cell, J.free, J.freeC, fun p hp => by
    rw [List.append_nil] at hp
    have q := I.pin p (List.mem_append_left _ hp)
    have ne : p.1 ≠ en.locals := by
      rw [le]
      exact Nat.ne_of_lt (Heap.lt_size q.1)
    refine ⟨kp _ _ q.1, q.2.1, ne, fun hm => ?_, q.2.2.2.2⟩
    exact (List.mem_cons.mp (I.stkSub p.1 hm)).elim q.2.2.1 q.2.2.2.1, J.hok, J.len⟩
theorem hot_blk {scope : Scope} {en : PySem.Env} {fp : List Addr} (h : HotC X) : HotC (blk X s H scope en fp) := by
  obtain ⟨p, h1, h2⟩ := h
  exact ⟨p, h1, h2⟩
end
section
variable {X : Cx}
theorem lcH {el tg it : Expr} {cs : List Expr} {scope : Scope} {own : List (Str × Nat)} {pos : Pos} {wi : TI} {g : TG} {tt : TT} {te : TE} (hot : HotC X) (nd : X.N.Nodup) (hi : PIH X tg it wi) (ok : BlkOk X.N X.env.scope scope own)
    (hg : ∀ (sh : Shared) (Hh : Hp) (c : Addr) (cl : List (Str × Addr)) (fp : List Addr), PG (blk X sh Hh scope (compEnvC scope cl c X.env) fp) tg g)
    (ht : ∀ (sh : Shared) (Hh : Hp) (c : Addr) (cl : List (Str × Addr)) (fp : List Addr), PTs (blk X sh Hh scope (compEnvC scope cl c X.env) fp) cs tt)
    (he : ∀ (sh : Shared) (Hh : Hp) (c : Addr) (cl : List (Str × Addr)) (fp : List Addr), PE (blk X sh Hh scope (compEnvC scope cl c X.env) fp) el te)
    (hs : ∀ x, foldedSetIterable it X.env x = pure x) : PE X (.ListComp el [⟨tg, it, cs, 0⟩] scope pos) (tLc wi g tt te (own.map (·.2))) := by
  constructor
  intro pins s σ H Q I h
  rw [eval_ListComp]
  have cells : ∀ y ∈ scope.names, y.2 = .free → ∃ c, X.env.cells.lookup y.1 = some c := by
    intro y hy e
    cases ok.free y hy e with
    | inl k => exact I.ok.has _ (.inl k)
    | inr k => exact I.ok.has _ (.inr k)
  have uq : ∀ y ∈ scope.names, y.2 = .local → scope.names.lookup y.1 = some .local := fun y hy e => by
    rw [ok.uniq y hy, e]
  refine wpAny_comprehension_free (use := none) rfl hs (closure_ok cells) ok.kind uq (thn (hi.run pins s σ H _ I h) fun v1 s1 h1 => thn h1 fun v2 s2 h2 => ?_)
  obtain ⟨ia, fp, tn, J, Hi, ev, Ii, T, st, fi, q⟩ := h2
  subst ev
  refine wpAny_newObj_type (newEnv_comp ?_) (by show 0 ≤ sizeLine; decide)
  generalize eD : s2.heap.objs.size = D
  have nD : Hi D = none := Ii.hok.fresh (Nat.le_of_eq eD)
  obtain ⟨W, ⟨m0, w0⟩, turn⟩ := q D nD
  generalize e3 : ({ s2 with heap := s2.heap.push { cls := .type "list", data := .seq ([] : List Value).toArray } } : Shared) = s3
  have hp3 : s3.heap = s2.heap.push { cls := .type "list", data := .seq ([] : List Value).toArray } := by rw [← e3]
  have kp3 : ∀ b o, s2.heap.get? b = some o → s3.heap.get? b = some o := fun b o e => by
    rw [hp3]
    exact Heap.get?_push_of_some _ e
  have I3 : Inv X pins σ (upd Hi D (.lst [])) s3 := by
    rw [← e3]
    refine Ii.laid (t' := s2.toks) (fun b o e => Heap.get?_push_of_some _ e) (Nat.le_of_eq eD) ⟨Nat.zero_le _, [], 0, .nil, ?_⟩
    rw [← eD]
    exact Heap.get?_push_size _ rfl
  have f3 : ∀ b ∈ fp, FpOk X pins (upd Hi D (.lst [])) b ∧ b < s3.heap.objs.size := by
    intro b hb
    obtain ⟨o, e, _⟩ := T.obj _ _ st b hb
    have lt : b < s2.heap.objs.size := Heap.lt_size e
    constructor
    · refine ⟨?_, (fi b hb).2⟩
      rw [upd_ne (by rw [← eD]; exact Nat.ne_of_lt lt)]
      exact (fi b hb).1
    · rw [hp3, Heap.size_push]
      exact Nat.lt_succ_of_lt lt
  have st3 : tn 0 s3.heap := T.keep _ _ _ st fun b _ o e => kp3 b o e
  have I4 := block_start I3 ok nd f3
  have pg := hg s3 (upd Hi D (.lst [])) s3.heap.objs.size (cellsFrom (s3.heap.objs.size + 1) scope.names (cloFrom X.env.cells scope.names [])) fp
  have pt := ht s3 (upd Hi D (.lst [])) s3.heap.objs.size (cellsFrom (s3.heap.objs.size + 1) scope.names (cloFrom X.env.cells scope.names [])) fp
  have pe := he s3 (upd Hi D (.lst [])) s3.heap.objs.size (cellsFrom (s3.heap.objs.size + 1) scope.names (cloFrom X.env.cells scope.names [])) fp
  have fn3 : ∀ b ∈ fp, (upd Hi D (.lst [])) b = none := fun b hb => (f3 b hb).1.1
  show codeAny _ _ (.compStart (.ListComp el [⟨tg, it, cs, 0⟩] scope pos) 0 (.ref ia) (.ref D) (compEnvC scope (cellsFrom (s3.heap.objs.size + 1) scope.names (cloFrom X.env.cells scope.names [])) s3.heap.objs.size X.env)) (compPost (model X.prog X.w) X.A X.xe none _ (.ref D) s3.heap.objs.size)
    { s3 with heap := pushCells (s3.heap.push { cls := .type "dict", data := .dict #[] }) scope.names }
  generalize ec : compEnvC scope (cellsFrom (s3.heap.objs.size + 1) scope.names (cloFrom X.env.cells scope.names [])) s3.heap.objs.size X.env = en at I4 pg pt pe ⊢
  have eL : en.locals = s3.heap.objs.size := by subst ec; rfl
  generalize eH : upd Hi D (.lst []) = H3 at I3 I4 pg pt pe w0 fn3 f3
  have kp4 : ∀ b o, s3.heap.get? b = some o → (pushCells (s3.heap.push { cls := .type "dict", data := .dict #[] }) scope.names).get? b = some o := fun b o e => pushCells_keeps _ _ _ _ (Heap.get?_push_of_some _ e)
  have I5 := blk_inv I3 I4 eL kp4
  generalize e4 : ({ s3 with heap := pushCells (s3.heap.push { cls := .type "dict", data := .dict #[] }) scope.names } : Shared) = s4 at I5 ⊢
  have st4 : tn 0 s4.heap := T.keep _ _ _ st3 fun b _ o e => by
    rw [← e4]
    exact kp4 b o e
  have hotB : HotC (blk X s3 H3 scope en fp) := hot_blk hot
  have fpB : ∀ {σ1 : L2.St} {H1 : Hp} {t : Shared}, Inv (blk X s3 H3 scope en fp) [] σ1 H1 t → (∀ b ∈ fp, H1 b = none) → ∀ b ∈ fp, FpOk (blk X s3 H3 scope en fp) [] H1 b := by
    intro σ1 H1 t I1 hn b hb
    refine ⟨hn b hb, (I1.ok.exf b hb).1, I1.ok.exfs b hb, .inl hb, fun x c e => (I1.ok.exf b hb).2 x c e, fun p hp => ?_⟩
    rw [List.append_nil] at hp
    exact (f3 b hb).1.2.2.2.2.2 p (List.mem_append_left _ hp)
  have loop : codeAny (model X.prog X.w) X.A (.compLoop (.ListComp el [⟨tg, it, cs, 0⟩] scope pos) 0 (.ref ia) (.ref D) en) (compPost (model X.prog X.w) X.A X.xe none (EP X pins σ Q) (.ref D) s3.heap.objs.size) s4 := by
    refine compLoop_any (fun n t => ∃ i H1, Inv (blk X s3 H3 scope en fp) [] (wipe σ (own.map (·.2))) H1 t ∧ tn i t.heap ∧ (∀ b ∈ fp, H1 b = none) ∧ W i n H1) (fun n t hI => ?_) m0 ⟨0, H3, I5, st4, fn3, w0⟩
    obtain ⟨i, H1, I1, st1, n1, w1⟩ := hI
    cases turn i n H1 w1 with
    | inl z =>
      obtain ⟨stop, qq⟩ := z
      refine thnF (T.done (blk X s3 H3 scope en fp) rfl rfl rfl hotB i [] t _ H1 (fun _ _ => False) I1 (fpB I1 n1) st1 stop) fun r t1 ⟨hr, J1⟩ => ?_
      subst hr
      have K1 : Inv X pins σ H1 t1 := I3.call' (ch := fp) J1.os J1.base J1.hok J1.bare fun b hb => ⟨(f3 b hb).1.2.2.2.1, (f3 b hb).1.2.1, (f3 b hb).1.2.2.2.2.1, (f3 b hb).1.2.2.2.2.2⟩
      have nC : H1 s3.heap.objs.size = none := by
        have z : H1 en.locals = none := J1.free
        rwa [eL] at z
      obtain ⟨m, hn, _⟩ := J1.loc
      have hn : t1.heap.Ns en.locals m := hn
      rw [eL] at hn
      refine ⟨m, hn, fun h'' sb => ?_⟩
      obtain ⟨g0, g1, g2, g3, g4, g5⟩ := I3.fpOk (Nat.le_refl _) nC
      exact ⟨.ref D, H1, K1.turned (t' := t1.toks) (fun b o hb e => (sb.2 b hb).trans e) g0 g1 g3 g4 g5, rfl, qq⟩
    | inr z =>
      obtain ⟨go, Nx, hNx, step⟩ := z
      refine thnF (T.item (blk X s3 H3 scope en fp) rfl rfl rfl hotB i [] t _ H1 (fun _ _ => False) I1 (fpB I1 n1) st1 go) fun r t1 ⟨u, hr, k1⟩ => ?_
      subst hr
      refine thnF k1 fun _ t2 ⟨x, H2, I2, r2, y2, st2, n2⟩ => ?_
      have P2 := I2.pinned (fpB I2 n2) (T.obj _ _ st2)
      refine thnF (pg.run _ t2 _ H2 x u _ P2 r2 (step x H2 y2)) fun _ t3 ⟨σ3, H4, I6, hw, q3⟩ => ?_
      refine thnF (pt.run _ t3 σ3 H4 _ I6 q3) fun b t4 ⟨H5, I7, q4⟩ => ?_
      have fin : ∀ {t' : Shared} {H9 : Hp}, Inv (blk X s3 H3 scope en fp) ([] ++ pinsAt fp t2.heap) σ3 H9 t' → Nx H9 → ∃ m, m < n ∧ ∃ i H1, Inv (blk X s3 H3 scope en fp) [] (wipe σ (own.map (·.2))) H1 t' ∧ tn i t'.heap ∧ (∀ b ∈ fp, H1 b = none) ∧ W i m H1 := by
        intro t' H9 I9 nx
        obtain ⟨m', lt, w'⟩ := hNx H9 nx
        have pinned : ∀ b ∈ fp, ∀ o, t2.heap.get? b = some o → t'.heap.get? b = some o ∧ H9 b = none := fun b hb o e => by
          have z := I9.pin (b, o) (List.mem_append_right _ (List.mem_append_right _ (mem_pinsAt hb e)))
          exact ⟨z.1, z.2.1⟩
        have ln : (wipe σ (own.map (·.2))).length = σ3.length := by rw [← hw, wipe_length]
        refine ⟨m', lt, i + 1, H9, (I9.unpinned (pins := [])).weak ln (fun j v e => ?_), T.keep _ _ _ st2 fun b hb o e => (pinned b hb o e).1, fun b hb => ?_, w'⟩
        · rw [← hw] at e
          exact (wipe_some e).1
        · obtain ⟨o, e, _⟩ := T.obj _ _ st2 b hb
          exact (pinned b hb o e).2
      cases b with
      | false =>
        simp only [Bool.false_eq_true, if_false] at q4 ⊢
        exact fin I7 q4
      | true =>
        simp only [if_true] at q4 ⊢
        refine thnF (pe.run _ t4 σ3 H5 _ I7 q4) fun z t5 ⟨yv, H6, I8, r8, acc, hA, hz, nx⟩ => ?_
        exact app_ok (X := blk X s3 H3 scope en fp) I8 hA hz r8 fun t6 I9 => fin I9 nx
  exact codeAny_compStart_list loop (T.self X.A 0 _ _ _ st4 loop)
end
end BKH

set_option maxRecDepth 100000
set_option maxHeartbeats 4000000
/-! H2: which classes a caught exception is of, told in its suite. -/
namespace BKH
open PySem PySem.Spec PyProof.Rows L2 L2H HotX BK
/-- isinstance of a pinned exception that has a dict -/
def rIsP (K : PySem.W.Frag) (D a d : Addr) : List V → Hp → VK → Prop := fun xs H Q => ∃ (c : V) (cv : Value) (b : Bool) (fs : List (Str × V)), xs = [.ref a, c] ∧ (∀ u, RelV c u → u = cv) ∧ PySem.W.kitOne K (.ref D) cv = some b ∧ H d = some (.xd fs) ∧ Q (.bl b) H
theorem call_isP {X : Cx} {a D d : Addr} {oe : Obj} (C : ExcC X.K D) (hp : (a, oe) ∈ X.pn) (h1 : oe.cls = .ref D) (h2 : oe.dict = some d) (hf : ∃ vs, oe.data = .fields vs) : CallR X (.builtin "isinstance") (rIsP X.K D a d) := by
  intro pins s σ H xs us Q I r h
  obtain ⟨c, cv, b, fs, rfl, hcv, e, hd, q⟩ := h
  obtain ⟨u1, u2, rfl, r1, r2⟩ := vals2 r
  cases r1
  have ec := hcv _ r2
  subst ec
  have hget := (I.pin (a, oe) (List.mem_append_left _ hp)).1
  obtain ⟨vs, hv⟩ := hf
  obtain ⟨mA, hns, rel⟩ := (show ∃ mA, s.heap.Ns1 d mA ∧ ∀ f, RelO (fs.lookup f) (mA f) from I.hok d _ hd)
  obtain ⟨oD, _, _, hoD, _, _⟩ := hns.count (within_of rel)
  have hcl : (PySem.W.clsIn X.K D).isSome = true := by
    obtain ⟨cd, hc, _⟩ := PySem.W.any_some C.hd
    rw [hc]; rfl
  have J : PySem.W.InstAt s.heap a oe D (some oD) := ⟨hget, h1, by unfold PySem.W.notCls; rw [hv] <;> rfl, by rw [h2]; exact hoD⟩
  exact PySem.W.kia_one (PySem.W.kitx_exc (x := a) (od := some oD) hcl C.hg C.hk C.hs C.ha C.hn C.ht C.hm) I.kIn J e (fun z => nomatch z) fun tk => ⟨.bl b, H, I.tok tk, rfl, q⟩
/-- isinstance(e, c) in the text, e the first name -/
def isB (N : List Str) (sc : Scope) (c : Str) : Expr → Bool
  | .Call (.Name f _) [.Name e _, .Name k _] [] _ => decide (f = "isinstance") && (glB sc "isinstance" && (decide (N[0]? = some e) && (visB sc e && (okName e && (decide (k = c) && glB sc k)))))
  | _ => false
def isBs (N : List Str) (sc : Scope) : List Str → List Expr → Bool
  | [], l => l.isEmpty
  | c :: cs, l => (match l with
    | e :: es => isB N sc c e && isBs N sc cs es
    | _ => false)
def tIs (a d : Addr) (b : Bool) : TE := fun σ H Q => σ[0]? = some (some (V.ref a)) ∧ (∃ fs, H d = some (.xd fs)) ∧ Q (.bl b) H
def tIsL (a d : Addr) (bs : List Bool) : TA := fun σ H Q => σ[0]? = some (some (V.ref a)) ∧ (∃ fs, H d = some (.xd fs)) ∧ Q (bs.map V.bl) H
section
variable {X : Cx} {a D d : Addr} {N : List Str} {sc : Scope}
theorem gl_of (hsc : X.env.scope = sc) {x : Str} (h : glB sc x = true) : Gl X x ∧ (x == ("__debug__" : Str)) = false := by
  unfold glB at h
  simp only [Bool.and_eq_true, Bool.not_eq_true'] at h
  refine ⟨?_, h.2⟩
  show X.env.scope.names.lookup x = _
  rw [hsc]
  simpa using h.1
theorem pe_isB (hN : X.N = N) (hsc : X.env.scope = sc) (call : CallR X (.builtin "isinstance") (rIsP X.K D a d)) (mi : X.mg "isinstance" = none) {c : Str} {C : Addr} {b : Bool} {e : Expr} (hm : X.mg c = some (.ref C)) (hk : PySem.W.kitOne X.K (.ref D) (.ref C) = some b) (h : isB N sc c e = true) :
    PE X e (tIs a d b) ∧ NoStar e := by
  unfold isB at h
  split at h
  · simp only [Bool.and_eq_true, decide_eq_true_eq, okName, Bool.not_eq_true'] at h
    obtain ⟨rfl, h1, h2, h3, h4, rfl, h5⟩ := h
    obtain ⟨g1, g2⟩ := gl_of hsc h1
    obtain ⟨g3, g4⟩ := gl_of hsc h5
    have v1 : ∀ {x}, visB sc x = true → Vis X.env.scope x := fun z => by rw [hsc]; exact vis_of z
    refine ⟨PEi (pe_callB call g1 mi (by decide +kernel) (pa_cons (pe_var (by rw [hN]; exact h2) (v1 h3) h4.1 h4.2) (pa_cons (pe_glob (v := .ref C) g3 hm rfl g4) pa_nil))) fun σ H Q ⟨q1, ⟨fs, q2⟩, q⟩ => ?_, fun _ _ => rfl⟩
    exact ⟨.ref a, q1, .ref C, .ref C, b, fs, rfl, fun u hu => hu, hk, q2, q⟩
  · cases h
theorem pa_isB (hN : X.N = N) (hsc : X.env.scope = sc) (call : CallR X (.builtin "isinstance") (rIsP X.K D a d)) (mi : X.mg "isinstance" = none) : ∀ {cs : List (Str × Bool)} {es : List Expr}, (∀ p ∈ cs, ∃ C, X.mg p.1 = some (.ref C) ∧ PySem.W.kitOne X.K (.ref D) (.ref C) = some p.2) → isBs N sc (cs.map (·.1)) es = true → PA X es (tIsL a d (cs.map (·.2)))
  | [], es, _, h => by
    have e : es = [] := by simpa [isBs] using h
    subst e
    exact PAi pa_nil fun σ H Q q => q.2.2
  | p :: cs, es, hc, h => by
    simp only [List.map_cons, isBs] at h
    split at h
    · simp only [Bool.and_eq_true] at h
      obtain ⟨C, h1, h2⟩ := hc p (by simp)
      obtain ⟨k1, k2⟩ := pe_isB hN hsc call mi h1 h2 h.1
      refine PAi (pa_cons k1 (pa_isB hN hsc call mi (fun p hp => hc p (by simp [hp])) h.2) (k2 _ _)) fun σ H Q ⟨q1, q2, q⟩ => ?_
      exact ⟨q1, q2, q1, q2, q⟩
    · cases h
end
/-- the text of such a def -/
def kindsB (N : List Str) (sc : Scope) (c1 c2 c3 : List Str) (n : Int) : List Stmt → Bool
  | [.Assign [.Name t0 _] (.List e1 _) _, .Expr (.Call (.Attribute (.Name t1 _) m1 a1) [.List e2 _] [] p1) _, .Expr (.Call (.Attribute (.Name t2 _) m2 a2) [.List e3 _] [] p2) _,
      .Return (some (.ListComp (.Name k0 _) [⟨.Name k1 _, .Call (.Name r _) [.Constant (.int j) _ _] [] _, [.Subscript (.Name t3 _) (.Name k2 _) _], z⟩] scope _)) _] =>
    isBs N sc c1 e1 && (isBs N sc c2 e2 && (isBs N sc c3 e3 && (decide (N[1]? = some t0 ∧ t1 = t0 ∧ t2 = t0 ∧ t3 = t0 ∧ m1 = "extend" ∧ m2 = "extend" ∧ N[2]? = some k0 ∧ k1 = k0 ∧ k2 = k0 ∧ r = "range" ∧ j = n ∧ z = 0) &&
      ((sc.names.lookup t0 == some .local || sc.names.lookup t0 == some .cell) && (okName t0 && ((a1.endLine == p1.line) && ((a2.endLine == p2.line) && (glB sc "range" && (okName k0 && (blkB N sc scope [2] && (visB (relS scope sc) k0 && (visB (relS scope sc) t0 &&
        (((relS scope sc).names.lookup k0 == some .local) || ((relS scope sc).names.lookup k0 == some .cell && scope.names.lookup k0 == some .cell))))))))))))))
  | _ => false
/-- what is told: the places of the true ones -/
def places : Nat → List Bool → List Int
  | _, [] => []
  | i, b :: l => (if b then [(i : Int)] else []) ++ places (i + 1) l
theorem places_snoc : ∀ (l : List Bool) (i : Nat) (b : Bool), places i (l ++ [b]) = places i l ++ (if b then [((i + l.length : Nat) : Int)] else [])
  | [], i, b => by cases b <;> simp [places]
  | c :: l, i, b => by
    simp only [List.cons_append, places, places_snoc l (i + 1) b, List.append_assoc, List.length_cons]
    rw [show i + 1 + l.length = i + (l.length + 1) by omega]
theorem places_take {l : List Bool} {i : Nat} {b : Bool} (h : l[i]? = some b) : places 0 (l.take (i + 1)) = places 0 (l.take i) ++ (if b then [(i : Int)] else []) := by
  have hi := (List.getElem?_eq_some_iff.mp h).1
  have e : l.take (i + 1) = l.take i ++ [b] := by
    rw [List.take_add_one, h]
    rfl
  rw [e, places_snoc]
  simp [List.length_take, Nat.min_eq_left (Nat.le_of_lt hi)]
section
variable {X : Cx} {a D d : Addr} {N : List Str} {sc : Scope}
theorem kinds_body {c1 c2 c3 : List (Str × Bool)} {n : Int} {body : List Stmt} (hN : X.N = N) (nd : N.Nodup) (hsc : X.env.scope = sc) (hfn : ∀ x, X.fn x = true) (hot : HotC X) (call : CallR X (.builtin "isinstance") (rIsP X.K D a d)) (mi : X.mg "isinstance" = none) (mr : X.mg "range" = none)
    (hc : ∀ p ∈ c1 ++ c2 ++ c3, ∃ C, X.mg p.1 = some (.ref C) ∧ PySem.W.kitOne X.K (.ref D) (.ref C) = some p.2) (hn : n = ((c1 ++ c2 ++ c3).length : Int)) (hz : (c1 ++ c2 ++ c3).length ≤ 1000) (h : kindsB N sc (c1.map (·.1)) (c2.map (·.1)) (c3.map (·.1)) n body = true) :
    ∃ t, PSs X body t ∧ ∀ (D' : Ends) (σ : L2.St) (H : Hp), σ.length = N.length → σ[0]? = some (some (V.ref a)) → (∃ fs, H d = some (.xd fs)) →
      (∀ H' q, (∀ b o, H b = some o → H' b = some o) → H q = none → H' q = some (.lst ((places 0 ((c1 ++ c2 ++ c3).map (·.2))).map V.int)) → D'.rt (.ref q) H') → t D' σ H := by
  unfold kindsB at h
  split at h
  · rename_i t0 _ e1 _ _ t1 _ m1 a1 e2 _ p1 _ t2 _ m2 a2 e3 _ p2 _ k0 _ k1 _ r _ j _ _ _ t3 _ k2 _ _ z scope _ _
    simp only [Bool.and_eq_true, Bool.or_eq_true, decide_eq_true_eq, beq_iff_eq, okName, Bool.not_eq_true'] at h
    obtain ⟨h1, h2, h3, ⟨i1, rfl, rfl, rfl, rfl, rfl, i2, rfl, rfl, rfl, rfl, rfl⟩, h4, h5, h6, h7, h8, h9, h10, h11, h12, h13⟩ := h
    have nd' : X.N.Nodup := by rw [hN]; exact nd
    have loc : L2.Loc X.env.scope t3 := by rw [hsc]; exact h4
    have vis : Vis X.env.scope t3 := by
      rw [hsc]
      rcases h4 with z | z
      · exact .inl z
      · exact .inr (.inl z)
    have pA : PE X (.Name t3 _) (tVar 1) := pe_var (pos := ⟨0, 0, 0, 0⟩) (by rw [hN]; exact i1) vis h5.1 h5.2
    have hl1 : ∀ {c : List (Str × Bool)} {es : List Expr}, (∀ p ∈ c, p ∈ c1 ++ c2 ++ c3) → isBs N sc (c.map (·.1)) es = true → ∀ pos, PE X (.List es pos) (tLst (tIsL a d (c.map (·.2)))) := fun hp hb pos => pe_lst (pa_isB hN hsc call mi (fun p q => hc p (hp p q)) hb)
    have m1' : ∀ p ∈ c1, p ∈ c1 ++ c2 ++ c3 := fun p q => by simp [q]
    have m2' : ∀ p ∈ c2, p ∈ c1 ++ c2 ++ c3 := fun p q => by simp [q]
    have m3' : ∀ p ∈ c3, p ∈ c1 ++ c2 ++ c3 := fun p q => by simp [q]
    have ok : BlkOk X.N X.env.scope scope (ownP N [2]) := by
      rw [hN, hsc]
      exact blkB_ok h10
    obtain ⟨g1, g2⟩ := gl_of hsc h8
    have lc : ∀ pos pn p0 p1 p2 p3 p4 p5 p6 p7, PE X (.ListComp (.Name k2 p0) [⟨.Name k2 p1, .Call (.Name "range" p2) [.Constant (.int j) pn p3] [] p4, [.Subscript (.Name t3 p5) (.Name k2 p6) p7], 0⟩] scope pos) (tLc (iRng1 (tCons (tC (.int j)) tNil)) (gName 2) (tB (tOp (rIxL X.K) (tVar 1) (tVar 2))) (tVar 2) ((ownP N [2]).map (·.2))) := by
      intro pos pn p0 p1 p2 p3 p4 p5 p6 p7
      have i2' : X.N[2]? = some k2 := by rw [hN]; exact i2
      have i1' : X.N[1]? = some t3 := by rw [hN]; exact i1
      have vk : Vis (relS scope X.env.scope) k2 := by rw [hsc]; exact vis_of h11
      have vt : Vis (relS scope X.env.scope) t3 := by rw [hsc]; exact vis_of h12
      refine lcH hot nd' (pi_range1H g1 mr (pa_cons pe_int pa_nil)) ok (fun sh Hh c cl fp => ?_) (fun sh Hh c cl fp => ?_) (fun sh Hh c cl fp => ?_) (fun _ => rfl)
      · refine pg_name nd' i2' ?_ ?_
        · show L2.Loc (relS scope X.env.scope) k2
          rw [hsc]
          rcases h13 with z | z
          · exact .inl z
          · exact .inr z.1
        · rcases h13 with z | z
          · refine .inr ?_
            show (relS scope X.env.scope).names.lookup k2 = some .local
            rw [hsc]
            exact z
          · refine .inl ?_
            show (scope.names.lookup k2 == some .cell) = true
            rw [z.2]; rfl
      · exact pts_one (pt_val (pe_ix ix_list (pe_var i1' vt h5.1 h5.2) (pe_var i2' vk h9.1 h9.2) (ix_plain rfl)))
      · exact pe_var i2' vk h9.1 h9.2
    have pA' : ∀ pos, PE X (.Name t3 pos) (tVar 1) := fun pos => pe_var (by rw [hN]; exact i1) vis h5.1 h5.2
    refine ⟨_, pss_cons (ps_set nd' (by rw [hN]; exact i1) loc (hl1 m1' h1 _) rfl (.inl (hfn _))) (pss_cons (ps_expr (pe_bm PySem.F.plainAttrs_list PySem.F.slot_list_extend PySem.F.type_list_extend mt_extend (pA' _) (pa_cons (hl1 m2' h2 _) pa_nil) rfl rfl (by simpa using h6) rfl rfl))
      (pss_cons (ps_expr (pe_bm PySem.F.plainAttrs_list PySem.F.slot_list_extend PySem.F.type_list_extend mt_extend (pA' _) (pa_cons (hl1 m3' h3 _) pa_nil) rfl rfl (by simpa using h7) rfl rfl)) (pss_one (ps_ret (lc _ _ _ _ _ _ _ _ _ _))))), ?_⟩
    intro D' σ H hl s0 hd hr
    have hlen : (c1 ++ c2 ++ c3).length = c1.length + c2.length + c3.length := by simp only [List.length_append]
    have lim := sizeLine_eq
    have l1 : 1 < σ.length := by
      rw [hl]
      exact (List.getElem?_eq_some_iff.mp i1).1
    have l2 : 2 < σ.length := by
      rw [hl]
      exact (List.getElem?_eq_some_iff.mp i2).1
    obtain ⟨fs, hd⟩ := hd
    refine ⟨s0, ⟨fs, hd⟩, by simp only [List.length_map]; omega, fun p1 n1 => ?_⟩
    have d1 : d ≠ p1 := ne_of_none hd n1
    have s1 : (σ.set 1 (some (V.ref p1)))[1]? = some (some (V.ref p1)) := List.getElem?_set_self l1
    have s00 : (σ.set 1 (some (V.ref p1)))[0]? = some (some (V.ref a)) := by rw [List.getElem?_set_ne (by decide)]; exact s0
    refine ⟨.ref p1, s1, .inl ⟨rfl, _, .inl (.inl upd_same)⟩, s00, ⟨fs, by rw [upd_ne d1]; exact hd⟩, by simp only [List.length_map]; omega, fun p2 n2 => ?_⟩
    have e21 : p2 ≠ p1 := fun z => by
      rw [z, upd_same] at n2
      cases n2
    rw [upd_ne e21] at n2
    have d2 : d ≠ p2 := ne_of_none hd n2
    refine ⟨p1, p2, _, _, rfl, rfl, by rw [upd_ne (Ne.symm e21)]; exact upd_same, upd_same, by simp only [List.length_map]; omega, ?_⟩
    refine ⟨.ref p1, s1, .inl ⟨rfl, _, .inl (.inl upd_same)⟩, s00, ⟨fs, by rw [upd_ne d1, upd_ne d2, upd_ne d1]; exact hd⟩, by simp only [List.length_map]; omega, fun p3 n3 => ?_⟩
    have e31 : p3 ≠ p1 := fun z => by
      rw [z, upd_same] at n3
      cases n3
    rw [upd_ne e31] at n3
    have e32 : p3 ≠ p2 := fun z => by
      rw [z, upd_same] at n3
      cases n3
    rw [upd_ne e32, upd_ne e31] at n3
    refine ⟨p1, p3, _, _, rfl, rfl, by rw [upd_ne (Ne.symm e31)]; exact upd_same, upd_same, by simp only [List.length_append, List.length_map]; omega, ?_⟩
    generalize hbs : List.map V.bl (c1.map (·.2)) ++ List.map V.bl (c2.map (·.2)) ++ List.map V.bl (c3.map (·.2)) = vs
    have hvs : vs = ((c1 ++ c2 ++ c3).map (·.2)).map V.bl := by rw [← hbs]; simp
    generalize hbb : (c1 ++ c2 ++ c3).map (·.2) = bs at hvs hr
    have hbl : bs.length = (c1 ++ c2 ++ c3).length := by rw [← hbb, List.length_map]
    generalize h5e : upd (upd (upd (upd (upd H p1 (.lst (List.map V.bl (c1.map (·.2))))) p2 (.lst (List.map V.bl (c2.map (·.2))))) p1 (.lst (List.map V.bl (c1.map (·.2)) ++ List.map V.bl (c2.map (·.2))))) p3 (.lst (List.map V.bl (c3.map (·.2))))) p1 (.lst vs) = H5
    have k5 : ∀ b o, H b = some o → H5 b = some o := fun b o e => by
      rw [← h5e, upd_ne (ne_of_none e n1), upd_ne (ne_of_none e n3), upd_ne (ne_of_none e n1), upd_ne (ne_of_none e n2), upd_ne (ne_of_none e n1)]
      exact e
    have p5 : H5 p1 = some (.lst vs) := by rw [← h5e]; exact upd_same
    refine ⟨j, rfl, by omega, by omega, ?_⟩
    intro q nq
    have hq : H q = none := by
      cases e : H q with
      | none => rfl
      | some o =>
        rw [k5 q o e] at nq
        cases nq
    have q1 : p1 ≠ q := ne_of_none p5 nq
    rw [ownP_snd]
    have hj : j.toNat = bs.length := by omega
    rw [hj]
    refine ⟨fun i m Hc => m = bs.length - i ∧ i ≤ bs.length ∧ Hc = upd H5 q (.lst ((places 0 (bs.take i)).map V.int)), ⟨bs.length, rfl, Nat.zero_le _, rfl⟩, ?_⟩
    rintro i m Hc ⟨rfl, hi, rfl⟩
    by_cases hlt : i < bs.length
    · refine .inr ⟨hlt, fun H' => H' = upd H5 q (.lst ((places 0 (bs.take (i + 1))).map V.int)), fun H' e => ⟨bs.length - (i + 1), by omega, rfl, hlt, e⟩, ?_⟩
      rintro x H' ⟨rfl, rfl⟩
      have w1 : wipe (σ.set 1 (some (V.ref p1))) [2] = (σ.set 1 (some (V.ref p1))).set 2 none := rfl
      rw [w1]
      show wipe (((σ.set 1 (some (V.ref p1))).set 2 none).set 2 (some (.int (0 + (i : Int))))) [2] = _ ∧ _
      have t1 : (((σ.set 1 (some (V.ref p1))).set 2 none).set 2 (some (.int (0 + (i : Int)))))[1]? = some (some (V.ref p1)) := by
        rw [List.getElem?_set_ne (by decide), List.getElem?_set_ne (by decide)]
        exact s1
      have t2 : (((σ.set 1 (some (V.ref p1))).set 2 none).set 2 (some (.int (0 + (i : Int)))))[2]? = some (some (V.int (0 + (i : Int)))) := List.getElem?_set_self (by simpa using l2)
      refine ⟨by simp [wipe, List.set_set], .ref p1, t1, .int (0 + (i : Int)), t2, p1, vs, 0 + (i : Int), .bl bs[i], rfl, rfl, .inl (.inl (by rw [upd_ne q1]; exact p5)), ?_, bs[i], rfl, ?_⟩
      · have hv : vs.length = bs.length := by rw [hvs, List.length_map]
        have hix : ixN vs.length (0 + (i : Int)) = some i := by
          unfold ixN
          rw [if_pos (by omega), if_pos (by omega)]
          congr 1
          omega
        unfold atI
        rw [hix]
        show vs[i]? = _
        rw [hvs, List.getElem?_map, List.getElem?_eq_getElem hlt]
        rfl
      · have hp := places_take (List.getElem?_eq_getElem hlt)
        cases hb : bs[i] with
        | true =>
          rw [hb] at hp
          simp only [if_true] at hp ⊢
          refine ⟨.int (0 + (i : Int)), t2, _, upd_same, ?_, ?_⟩
          · rw [List.length_map]
            have : ∀ (l : List Bool) (k : Nat), (places k l).length ≤ l.length := by
              intro l
              induction l with
              | nil => intro k; simp [places]
              | cons b l ih =>
                intro k
                have := ih (k + 1)
                cases b <;> simp [places] <;> omega
            have := this (bs.take i) 0
            rw [List.length_take] at this
            omega
          · rw [upd_upd, hp, List.map_append]
            simp
        | false =>
          rw [hb] at hp
          simp only [Bool.false_eq_true, if_false, List.append_nil] at hp ⊢
          rw [hp]
    · have e : i = bs.length := by omega
      subst e
      rw [List.take_length]
      refine .inl ⟨Nat.le_refl _, hr _ q (fun b o e => ?_) hq upd_same⟩
      rw [upd_ne (ne_of_none (k5 b o e) nq)]
      exact k5 b o e
  · cases h
end
end BKH

set_option maxRecDepth 100000
set_option maxHeartbeats 4000000
/-! H3: a def that raises an exception, catches it and asks its classes. -/
namespace BKH
open PySem PySem.Spec PyProof.Rows L2 L2H HotX BK
/-! a call of such a def in the suite -/
section
variable {P : Program} {w : World} {K : PySem.W.Frag} {mg : Str → Option Value} {base : Heap} {CX : CXT} {x qual : Str} {params : Arguments} {body : List Stmt} {scope : Scope} {f : Addr} {fd : FuncData} {N ps : List Str}
theorem hot_run {c1 c2 c3 : List (Str × Bool)} {n : Int} {D d : Addr} {p : Addr × Obj} {k : Nat} (F : FunD K x qual params body scope [] [] f fd) (S : FnScope N ps scope) (hps : ps.length = 1) (C : ExcC K D) (mi : mg "isinstance" = none) (mr : mg "range" = none)
    (hc : ∀ p ∈ c1 ++ c2 ++ c3, ∃ C, mg p.1 = some (.ref C) ∧ PySem.W.kitOne K (.ref D) (.ref C) = some p.2) (hn : n = ((c1 ++ c2 ++ c3).length : Int)) (hz : (c1 ++ c2 ++ c3).length ≤ 1000) (hb : kindsB N scope (c1.map (·.1)) (c2.map (·.1)) (c3.map (·.1)) n body = true)
    (h1 : p.2.cls = .ref D) (h2 : p.2.dict = some d) (hf : ∃ vs, p.2.data = .fields vs) {A : Around} {outer : List PySem.Env} {s : Shared} {H : Hp} {args : Args} {us : List Value} {Q : VK} {E : XK} (hr : RoomH (k + 1) A) (hot : Hot1 A p) (hpin : PinOk outer H s p) (e0 : Env0 P w K mg base A outer s H)
    (bd : BindsTo s fd args (ps.zip us)) (r : Vals [V.ref p.1] us) (hd : ∃ fs, H d = some (.xd fs))
    (hq : ∀ H' q, (∀ b o, H b = some o → H' b = some o) → H q = none → H' q = some (.lst ((places 0 ((c1 ++ c2 ++ c3).map (·.2))).map V.int)) → Q (.ref q) H') : codeAny (model P w) A (.call (.ref f) args) (CR CX outer P w H s Q E) s := by
  obtain ⟨oc, od, dV, kV, doc, pm, an, cdv, ct, osl, rfl, lk, hcd, _, _⟩ := F.ex
  have KX : K.In s.heap := e0.mod.kin.keeps fun b o e => (e0.bs b o e).1
  have lim : s.heap.NoLimit := e0.mod.nolimit.keeps fun b o e => (e0.bs b o e).1
  have kinds : ∀ y ∈ ps.zip us, scope.names.lookup y.1 = some .local ∨ (scope.names.lookup y.1 = some .cell ∧ ((cellsFrom (s.heap.objs.size + 1) scope.names []).lookup y.1).isSome = true) := by
    intro y hy
    cases S.par y.1 (List.of_mem_zip (a := y.1) (b := y.2) hy).1 with
    | inl q => exact .inl q
    | inr q => exact .inr ⟨q, PySem.W.cellsFrom_some _ _ _ (.inl q)⟩
  refine codeAny_call_function hr.depth (KX _ _ lk) rfl S.co S.gen rfl (PySem.W.codeRec_of KX hcd) (bd _ _ _ _ ?_)
  refine wpAny_newFunctionEnv_cells S.kind kinds fun env he s1 xx => ?_
  subst he
  refine ⟨lim.keeps xx.toInCall.keep, codeAny_func ?_⟩
  have hl : ([V.ref p.1] : List V).length = ps.length := by rw [hps]; rfl
  have I : Inv (cxH CX P w K mg base N qual scope f cdv A outer s H E p) [] (L2.start N [V.ref p.1]) H s1 := inv_startH S hpin e0 hl r xx
  have call : CallR (cxH CX P w K mg base N qual scope f cdv A outer s H E p) (.builtin "isinstance") (rIsP K D p.1 d) := call_isP C (List.mem_singleton.mpr rfl) h1 h2 hf
  obtain ⟨t, ht, hres⟩ := kinds_body (X := cxH CX P w K mg base N qual scope f cdv A outer s H E p) (a := p.1) (d := d) (D := D) rfl S.nd rfl (fun _ => rfl) ⟨p, ⟨hot.1, hot.2⟩, List.mem_singleton.mpr rfl⟩ call mi mr hc hn hz hb
  have run : t { nx := fun _ H' => Q .non H', rt := Q } (L2.start N [V.ref p.1]) H := hres _ _ _ I.len (start_at rfl) hd hq
  refine wpAny_mono (ht.run [] s1 _ H _ I run) (fun fl s' hs => ?_) fun e s' hs => hs
  cases fl with
  | ret u =>
    obtain ⟨v, σ', H', J, rv, q⟩ := hs
    exact ⟨v, H', J.os, J.bare, J.base, J.hok, rv, q⟩
  | next =>
    obtain ⟨σ', H', J, q⟩ := hs
    exact ⟨V.non, H', J.os, J.bare, J.base, J.hok, rfl, q⟩
  | brk =>
    obtain ⟨_, _, _, q⟩ := hs
    exact q.elim
  | cont =>
    obtain ⟨_, _, _, q⟩ := hs
    exact q.elim
end
/-- making an exception with its own __init__, its context None -/
theorem pmkN {X : Cx} {CX : CXT} {x : Str} {e : Expr} {es : List Expr} {ta : TA} {p pos : Pos} {C fI : Addr} {k : Nat} {fd : FuncData} {ps : List Str} {sp : Sp} (T : OexC X.K C) (iC : PySem.W.findIn X.K (.ref C) "__init__" = some (some (.ref fI))) (tI : PySem.W.typeIn X.K (.ref fI) = some (.type "function"))
    (F : FnOk X.prog X.w X.K X.mg X.base CX k fI fd ps sp) (hr : Room (k + 1) X.A) (hb : ∀ (s : Shared) (self : Value) (us : List Value), X.K.In s.heap → us.length + 1 = ps.length → BindsTo s fd ⟨self :: us, []⟩ (ps.zip (self :: us))) (hx : Passes CX X (fun _ _ _ => False)) (hg : Gl X x) (hm : X.mg x = some (.ref C)) (ha : PA X (e :: es) ta)
    (hdb : (x == ("__debug__" : Str)) = false) (he : starEach (e :: es) X.env = (false, eval e X.env) :: starEach es X.env) (hpl : (backTo pos (starEach es X.env)).any (·.1) = false) : L2N.PMk X (.Call (.Name x p) (e :: es) [] pos) (tMkO C sp [] ta) := by
  intro pins s σ H Q I h
  obtain ⟨nm, q, N, bs, bm, sn, sub, ab, col, dd, k0, k1, k2, k3, k5, hC, hbm⟩ := T.cls
  refine wpAny_Call_Name_kw (ld_glob I hg hm ?_ hdb)
  refine PySem.W.callWith_K (h₀ := X.base) I.ok.mod.kin T.kC (thn (ha.run pos pins s σ H _ I h) fun us s1 z => ?_) he hpl
  obtain ⟨vs, H1, I1, r1, hz, q1⟩ := z
  refine ⟨I1.kIn, ?_⟩
  show wpAny _ _ (PySem.call (.ref C) us) _ _ _
  obtain ⟨hp, g, dr, tk, os⟩ := s1
  have new : H1 (hp.objs.size + 1) = none := I1.hok.fresh (Nat.le_succ _)
  have hq := q1 (hp.objs.size + 1) new
  rw [List.append_nil] at hq
  have kp : ∀ b o, hp.get? b = some o → ((hp.push (PySem.W.kdv_tup us)).push (PySem.HandSPX.excO C hp.objs.size)).get? b = some o := fun b o z => Heap.get?_push_of_some _ (Heap.get?_push_of_some _ z)
  have at_ : ((hp.push (PySem.W.kdv_tup us)).push (PySem.HandSPX.excO C hp.objs.size)).get? (hp.objs.size + 1) = some (PySem.HandSPX.excO C hp.objs.size) := by heap_get
  have I2 : Inv X pins σ (upd H1 (hp.objs.size + 1) (exo (hp.objs.size + 1) C none)) ⟨(hp.push (PySem.W.kdv_tup us)).push (PySem.HandSPX.excO C hp.objs.size), g, dr, tk, os⟩ :=
    I1.laid (a := hp.objs.size + 1) (h' := (hp.push (PySem.W.kdv_tup us)).push (PySem.HandSPX.excO C hp.objs.size)) (t' := tk) (o := exo (hp.objs.size + 1) C none) kp (Nat.le_succ _) (exo_ok at_)
  have r2 : Vals (V.ref (hp.objs.size + 1) :: vs) (Value.ref (hp.objs.size + 1) :: us) := .cons rfl r1
  have hl : us.length + 1 = ps.length := by
    have z := r2.length
    rw [F.len _ _ _ _ hq] at z
    simpa using z.symm
  have lim : us.length ≤ sizeLine := by
    rw [← Paired.length r1, sizeLine_eq]
    omega
  have ran := F.run _ X.stack _ _ ⟨Value.ref (hp.objs.size + 1) :: us, []⟩ (Value.ref (hp.objs.size + 1) :: us) _ _ (fun _ _ _ => False) (hr.make C us []) (I2.env0.make C us []) (hb _ _ us I2.kIn hl) r2 hq
  refine wpAny_call (PySem.HandSPX.call_own PySem.F.excBase_ValueError (fun Y => PySem.HandSPX.refsVE_contains Y bm hbm) (I1.kIn _ _ hC) (PySem.W.looks_findIn I1.kIn iC) (fun self => PySem.W.bind_fn I1.kIn self tI) lim (codeAny_mono ran fun r s' hq' => ?_))
  cases r with
  | error er => exact hx pins σ _ _ er s' I2 hq'
  | ok fl =>
    cases fl with
    | ret u =>
      obtain ⟨v, H2, os2, bare2, un2, hok2, rv, ev, d, fs, ea, ed, hd1, q2⟩ := hq'
      subst ev
      obtain ⟨h2, g2, d2, t2, os'⟩ := s'
      obtain ⟨t0, G, J, kG, ge, hoe, na⟩ := mk_end0 (d2 := d2) (t2 := t2) I1 (Nat.le_succ _) kp un2 hok2 os2 bare2 ea ed hd1
      exact ⟨rv, hp.objs.size + 1, _, _, ⟨G, g2, d2, t2, os'⟩, _, .ref C, some d, rfl, J, kG, ge, hoe, ⟨rfl, rfl, fun vs hv => by cases hv; rfl⟩, rfl, rfl, na, rfl, bare2, raises_own T.exC T.tyC, q2⟩
    | next => exact hq'.elim
    | brk => exact hq'.elim
    | cont => exact hq'.elim
end BKH

set_option maxRecDepth 100000
set_option maxHeartbeats 4000000
/-! H4: the def that catches, by the machine. -/
namespace BKH
open PySem PySem.Spec PyProof.Rows L2 L2H HotX BK
/-- the text: try: raise X(x) / except S as e: t = f(e) / .. -/
def caughtB (M : Nm) (N : List Str) (CP : Nat → Option (List Str)) (sc : Scope) (kx ks fk : Nat) (rest : List BK.St) : List Stmt → Bool
  | .Try [.Raise (some (.Call (.Name bx _) [.Name x _] [] _)) none _] [.ExceptHandler (some (.Name sx _)) (some n) [.Assign [.Name t _] (.Call (.Name kf _) [.Name n2 _] [] _) _] _] [] [] _ :: r =>
    decide (M.CN[kx]? = some bx ∧ M.CN[ks]? = some sx ∧ M.FN[fk]? = some kf ∧ N[0]? = some x ∧ N[1]? = some n ∧ n2 = n ∧ N[3]? = some t) &&
      (glB sc bx && (glB sc sx && (glB sc kf && (visB sc x && (okName x && ((sc.names.lookup n == some .local) && (okName n && ((sc.names.lookup t == some .local) && chkSs M N CP rest ⟨sc, fun _ => true⟩ r))))))))
  | _ => false
def tHk (a d : Addr) (vals : List V) : TE := fun σ H Q => σ[1]? = some (some (V.ref a)) ∧ (∃ fs, H d = some (.xd fs)) ∧ ∀ H' q, (∀ b o, H b = some o → H' b = some o) → H q = none → H' q = some (.lst vals) → Q (.ref q) H'
/-- what is known of the def that asks -/
structure Kd (K : PySem.W.Frag) (mg : Str → Option Value) (D f : Addr) (vals : List V) (fd : FuncData) : Prop where
  C : ExcC K D
  mi : mg "isinstance" = none
  mr : mg "range" = none
  ex : ∃ (x qual : Str) (params : Arguments) (body : List Stmt) (scope : Scope) (N ps : List Str) (c1 c2 c3 : List (Str × Bool)) (n : Int), FunD K x qual params body scope [] [] f fd ∧ FnScope N ps scope ∧ ps.length = 1 ∧ Binds K fd ps [] ∧
    (∀ p ∈ c1 ++ c2 ++ c3, ∃ C, mg p.1 = some (.ref C) ∧ PySem.W.kitOne K (.ref D) (.ref C) = some p.2) ∧ n = ((c1 ++ c2 ++ c3).length : Int) ∧ (c1 ++ c2 ++ c3).length ≤ 1000 ∧ kindsB N scope (c1.map (·.1)) (c2.map (·.1)) (c3.map (·.1)) n body = true ∧ vals = (places 0 ((c1 ++ c2 ++ c3).map (·.2))).map V.int
section
variable {X : Cx} {a D d f : Addr} {vals : List V} {fd : FuncData} {oe : Obj} {pn : List (Addr × Obj)}
theorem pe_hk {kf n : Str} {p1 p2 pos : Pos} (kd : Kd X.K X.mg D f vals fd) (hr : RoomH 1 X.A) (h1 : oe.cls = .ref D) (h2 : oe.dict = some d) (hz : PXN.CtxN oe) (hf : ∃ vs, oe.data = .fields vs) (hg : Gl X kf) (hdb : (kf == ("__debug__" : Str)) = false) (hm : X.mg kf = some (.ref f)) (hk : PySem.W.keepIn X.K (.ref f) = true)
    (hn : X.N[1]? = some n) (hv : Vis X.env.scope n) (ho : (n == ("__debug__" : Str)) = false) (ho2 : (n == ("__classdict__" : Str)) = false) : PE (X.suite a ((a, oe) :: pn)) (.Call (.Name kf p1) [.Name n p2] [] pos) (tHk a d vals) := by
  refine ⟨fun pins s σ H Q I ⟨q1, q2, q3⟩ => ?_⟩
  refine wpAny_Call_Name_kw (ld_glob (X := X.suite a ((a, oe) :: pn)) I hg hm ?_ hdb)
  have hs : starEach [.Name n p2] X.env = (false, eval (.Name n p2) X.env) :: starEach [] X.env := rfl
  have hv' : Vis (X.suite a ((a, oe) :: pn)).env.scope n := hv
  have pa : PA (X.suite a ((a, oe) :: pn)) [.Name n p2] (tCons (tVar 1) tNil) := pa_cons (pe_var (X := X.suite a ((a, oe) :: pn)) hn hv' ho ho2) pa_nil
  refine PySem.W.callWith_K (h₀ := X.base) I.ok.mod.kin hk (thn (pa.run pos pins s σ H (fun vs H1 => vs = [V.ref a] ∧ H1 = H) I ⟨_, q1, rfl, rfl⟩) fun us s1 z => ?_) hs rfl
  obtain ⟨vs, H1, I1, r, rfl, rfl⟩ := z
  refine ⟨I1.kIn, ?_⟩
  show wpAny _ _ (PySem.call (.ref f) us) _ _ _
  obtain ⟨x, qual, params, body, scope, N, ps, c1, c2, c3, n', F, S, hps, B, hc, e1, e2, hb, ev⟩ := kd.ex
  have hl : us.length = 1 := by
    have := Paired.length r
    simpa using this.symm
  have b := B s1 us I1.kIn (by rw [List.append_nil, hl, hps])
  rw [List.append_nil] at b
  have P1 := I1.pin (a, oe) (List.mem_append_left _ List.mem_cons_self)
  have hpin : PinOk X.stack H1 s1 (a, oe) := ⟨P1.1, P1.2.1, fun hm => (List.mem_cons.mp (I1.stkSub a hm)).elim P1.2.2.1 P1.2.2.2.1, P1.2.2.2.2⟩
  obtain ⟨vs0, hv0⟩ := hf
  have hot : Hot1 (X.suite a ((a, oe) :: pn)).A (a, oe) := ⟨rfl, vs0, hv0, hz vs0 hv0⟩
  refine wpAny_call (codeAny_mono (hot_run (CX := CX0) (E := fun _ _ _ => False) (Q := Q) (p := (a, oe)) (k := 0) F S hps kd.C kd.mi kd.mr hc e1 e2 hb h1 h2 ⟨vs0, hv0⟩ ⟨hr.dp, hr.un⟩ hot hpin I1.env0 b r q2 (by rw [← ev]; exact q3)) fun r s' hq => ?_)
  cases r with
  | error e => exact hq.elim
  | ok fl =>
    cases fl with
    | ret u => exact I1.after hq
    | next => exact hq.elim
    | brk => exact hq.elim
    | cont => exact hq.elim
end
section
variable {prog : Program} {w : World} {K : PySem.W.Frag} {mg : Str → Option Value} {base : Heap} {T : Adr} {P : Pg} {M : Nm} {L : Nat}
theorem exm_of {c d : Addr} (hc : ExcC K d) (h1 : PySem.W.kitOne K (.ref c) (.ref d) = some true) (h2 : PySem.W.kitOne K (.ref d) (.ref c) = some false) : PySem.W.exmOne K (.ref c) (.ref d) = some true := by
  have ne : ((Value.ref c) == (Value.ref d)) = false := by
    refine Bool.eq_false_iff.mpr fun q => ?_
    have e : c = d := Value.ref.inj (beq_iff_eq.mp q)
    subst e
    unfold PySem.W.kitOne at h2
    rw [if_pos (by simp)] at h2
    cases h2
  unfold PySem.W.kitOne at h1
  rw [if_neg (by rw [ne]; exact Bool.false_ne_true)] at h1
  unfold PySem.W.exmOne
  rw [hc.hs, if_pos (by rfl)]
  exact h1
theorem caught_own {f : Nat} {x qual : Str} {params : Arguments} {body : List Stmt} {scope : Scope} {N ps : List Str} {fd : FuncData} {kx ks fk : Nat} {rest : List BK.St} {nx : Str} (F : FunD K x qual params body scope [] [] (T.fn f) fd) (S : FnScope N ps scope) (B : Binds K fd ps []) (hN : N.length = 4) (hp : ps.length = 1)
    (hf : P.defs f = some ⟨1, 4, .set (.nm 2) (.mk kx [.var 0]) :: .set (.nm 3) (.pr .lst [.lit (.int 4)]) :: .set (.nm 2) (.mk ks []) :: rest, true⟩) (hb : caughtB M N P.cps scope kx ks fk (.set (.nm 2) (.mk ks []) :: rest) body = true)
    (hns : P.cps kx = some [nx]) (hCl : ClFact K T M kx [nx]) (hs : P.csub kx ks = some true) (hs2 : P.csub ks kx = some false) {fdk : FuncData} (kd : Kd K mg (T.cls kx) (T.fn fk) [V.int 4] fdk) : FnOwn prog w K mg base T P M L f := by
  refine ⟨fd, ps, _, hf, hp.symm, B, fun d th => ?_⟩
  refine F.ok S (fun vs H Q E h => (sp_len hf h).trans hp.symm) fun cdv A outer s H vs Q E hr h => ?_
  unfold caughtB at hb
  split at hb
  · rename_i bx _ xx _ _ _ sx _ n t _ kf _ n2 _ _ _ _ _ r
    simp only [Bool.and_eq_true, decide_eq_true_eq, okName, Bool.not_eq_true', beq_iff_eq] at hb
    obtain ⟨⟨i1, i2, i3, i4, i5, rfl, i6⟩, g1, g2, g3, v1, o1, l1, o2, l2, ck⟩ := hb
    have go : Go prog w K mg base CX0 d N ⟨scope, fun _ => true⟩ E (cxOf CX0 prog w K mg base N qual scope (T.fn f) cdv A outer s H E).nox := {
      hprog := rfl
      hw := rfl
      hK := rfl
      hmg := rfl
      hbase := rfl
      hN := rfl
      nd := S.nd
      sc := rfl
      so := fun _ _ => rfl
      calm := rfl
      room := hr
      pas := fun _ _ _ _ _ _ _ z => z.elim
      own := PassesOwn.never }
    obtain ⟨G1, G1'⟩ := glB_ok go g1
    obtain ⟨G2, G2'⟩ := glB_ok go g2
    obtain ⟨G3, G3'⟩ := glB_ok go g3
    have m1 := th.glo.cl kx _ i1
    have m2 := th.glo.cl ks _ i2
    obtain ⟨m3, k3⟩ := th.glo.fn fk _ i3
    have e1 := (th.glo.facts.ex kx ks _ hs).2
    have e2 := (th.glo.facts.ex ks kx _ hs2)
    have ex := exm_of e2.1 e1 e2.2
    obtain ⟨ρ, S0, ws, r0, vw, p⟩ := h
    simp only [BK.call, hf] at p
    split at p
    case isFalse => exact p.elim
    rename_i hl
    match ws, vs, vw, hl, p with
    | [w0], [v0], .cons vw0 .nil, _, p =>
    have st : BK.start ⟨1, 4, .set (.nm 2) (.mk kx [.var 0]) :: .set (.nm 3) (.pr .lst [.lit (.int 4)]) :: .set (.nm 2) (.mk ks []) :: rest, true⟩ [w0] = [some w0, none, none, none] := rfl
    rw [st] at p
    have qq := PRS.fin r0.len.symm p
    by_cases h3 : 3 ≤ d
    case neg =>
      have e : exes P (BK.call P L d) d L (.set (.nm 2) (.mk kx [.var 0]) :: .set (.nm 3) (.pr .lst [.lit (.int 4)]) :: .set (.nm 2) (.mk ks []) :: rest) [some w0, none, none, none] S0 = .stuck := by
        simp [exes, exe, ev, evs, R.bind, R.thn, mkE, hns, h3]
      rw [e] at qq
      exact qq.elim
    have e : exes P (BK.call P L d) d L (.set (.nm 2) (.mk kx [.var 0]) :: .set (.nm 3) (.pr .lst [.lit (.int 4)]) :: .set (.nm 2) (.mk ks []) :: rest) [some w0, none, none, none] S0 = exes P (BK.call P L d) d L (.set (.nm 2) (.mk ks []) :: rest) [some w0, none, none, some (.lst [.int 4])] S0 := by
      simp only [exes, exe, ev, evs, R.bind, R.thn, mkE, hns, h3, tgSet, prim, pLst, LIM, List.getElem?_cons_zero, List.length_cons, List.length_nil, and_self, if_true, true_and]
      simp only [Nat.zero_add, if_true, List.set_cons_succ, List.set_cons_zero, Nat.reduceLeDiff]
    rw [e] at qq
    rcases hCl with ⟨z, _⟩ | ⟨hne, h8, O, fI, fdI, xI, qualI, paramsI, bodyI, scopeI, NI, iC, tI, FI, SI, hNI, hbI, hnI, hpI, _⟩
    case inl => cases z
    have tryPS : ∀ p1 p2 p3 p4 p5 p6 p7 p8 p9 pa pb pc, PS (cxOf CX0 prog w K mg base N qual scope (T.fn f) cdv A outer s H E).nox (.Try [.Raise (some (.Call (.Name bx p1) [.Name xx p2] [] p3)) none p4] [.ExceptHandler (some (.Name sx p5)) (some n2) [.Assign [.Name t p6] (.Call (.Name kf p7) [.Name n2 p8] [] p9) pa] pb] [] [] pc) (fun D σ H =>
        tMkO (T.cls kx) (spIn (T.cls kx) [nx]) [] (tCons (tVar 0) tNil) σ H fun cls dd H' => wAs K (.ref (T.cls ks)) 1 (fun a cls dd D σ H => ∃ d', cls = .ref (T.cls kx) ∧ dd = some d' ∧ tAsg (tHk a d' [V.int 4]) (gName 3) D σ H) (fun _ _ _ _ => False) D cls dd σ H') := by
      intro p1 p2 p3 p4 p5 p6 p7 p8 p9 pa pb pc
      refine L2N.ps_try_as (X := (cxOf CX0 prog w K mg base N qual scope (T.fn f) cdv A outer s H E).nox) (tb := fun W _ σ H => tMkO (T.cls kx) (spIn (T.cls kx) [nx]) [] (tCons (tVar 0) tNil) σ H fun cls d H' => W cls d σ H') rfl rfl S.nd i5 l1 ⟨G2, G2', .inl m2⟩ (fun u s' ⟨_, _, _, _, _, _, _, _, _, _, _, _, _, _, _, _, z⟩ => z.elim) (fun W pn xe tk po => ?_) (fun a oe cls dd pn hz hv => ?_)
      · have hv0 : Vis scope xx := vis_of v1
        have pv : PE ((cxOf CX0 prog w K mg base N qual scope (T.fn f) cdv A outer s H E).nox.tr pn xe) (.Name xx p2) (tVar 0) := pe_var (X := (cxOf CX0 prog w K mg base N qual scope (T.fn f) cdv A outer s H E).nox.tr pn xe) i4 hv0 o1.1 o1.2
        exact pss_one (L2N.ps_raise rfl tk (pmkN (CX := CX0) (k := 1) O iC tI (init_ok FI SI O hne hNI h8 hbI hnI 0) (hr.mono (by omega)) (fun s self us hs hl => hpI s self us hs (by rw [hNI] at hl; omega)) (fun _ _ _ _ _ _ _ z => z.elim) G1 m1 (pa_cons pv pa_nil) G1' rfl rfl))
      · refine ⟨fun pins s' σ H' D I ⟨d', z1, z2, h⟩ => ?_⟩
        subst z1 z2
        have hv1 : Vis scope n2 := .inl l1
        have hk := pe_hk (a := a) (X := (cxOf CX0 prog w K mg base N qual scope (T.fn f) cdv A outer s H E).nox) (pn := pn) (p1 := p7) (p2 := p8) (pos := p9) kd (roomH_of (hr.mono (by omega))) hz.1 hz.2.1 hz.2.2 hv G3 G3' m3 k3 i5 hv1 o2.1 o2.2
        exact (pss_one (ps_set (X := (cxOf CX0 prog w K mg base N qual scope (T.fn f) cdv A outer s H E).nox.suite a ((a, oe) :: pn)) S.nd i6 (.inl l2) hk rfl (.inr l2))).run pins s' σ H' D I h
    refine ⟨_, PSs.nox (pss_cons (tryPS _ _ _ _ _ _ _ _ _ _ _ _) (ss_ok th L (.set (.nm 2) (.mk ks []) :: rest) ⟨scope, fun _ => true⟩ r ck E _ go)), ?_⟩
    have est : L2.start N [v0] = [some v0, none, none, none] := by
      unfold L2.start
      rw [hN]
      rfl
    rw [est]
    refine ⟨v0, rfl, Nat.le_of_ble_eq_true rfl, fun a na => ?_⟩
    refine ⟨a, [v0], rfl, rfl, upd_same, fun H2 dx ndx hda keep k1 k2 => ?_⟩
    have hdx : H dx = none := by rw [upd_ne hda] at ndx; exact ndx
    refine ⟨rfl, dx, _, k1, k2, hdx, true, ex, fun _ => ?_, fun z => by cases z⟩
    intro b nb
    refine ⟨dx, rfl, rfl, rfl, ⟨_, upd_same⟩, fun H3 q kp nq hq => ?_⟩
    have kH : ∀ c o, H c = some o → H3 c = some o := fun c o z => by
      have c1 : c ≠ dx := ne_of_none z hdx
      have c2 : c ≠ a := ne_of_none z na
      refine kp c o ?_
      rw [upd_ne c1, del_ne c2, keep c c1 c2, upd_ne c2]
      exact z
    have nq0 : H q = none := by
      cases z : H q with
      | none => rfl
      | some o =>
        have c1 : q ≠ dx := ne_of_none z hdx
        have c2 : q ≠ a := ne_of_none z na
        rw [upd_ne c1, del_ne c2, keep q c1 c2, upd_ne c2, z] at nq
        cases nq
    have x3 : Ext ρ H ρ H3 := {
      len := Nat.le_refl _
      pt := fun _ _ z => .inl z
      new := fun i c hi z => by
        have := (List.getElem?_eq_some_iff.mp z).1
        omega
      keep := fun c o z _ => kH c o z
      there := fun c o z => ⟨o, kH c o z⟩ }
    have r3 : Rl K T ρ S0 H3 := {
      len := r0.len
      at_ := fun i c o z1 z2 => (r0.at_ i c o z1 z2).mono r0 x3 fun b u _ z => kH b u z
      inj := r0.inj
      low := r0.low }
    refine ⟨ρ, S0, [some w0, none, none, some (W.lst [W.int 4])], r3, ⟨rfl, fun i w' hw => ?_⟩, PRS.later (r := exes P (BK.call P L d) d L (.set (.nm 2) (.mk ks []) :: rest) [some w0, none, none, some (W.lst [W.int 4])] S0) qq x3⟩
    match i, hw with
    | 0, hw =>
      cases hw
      exact ⟨v0, rfl, vw0.mono r0 x3⟩
    | 1, hw => cases hw
    | 2, hw => cases hw
    | 3, hw =>
      cases hw
      exact ⟨V.ref q, rfl, VR.lst (vs := [V.int 4]) (no_has r0 nq0) (.inl hq) (VRs.cons (VR.int 4) VRs.nil)⟩
    | i + 4, hw => cases hw
  · cases hb
end
end BKH

set_option maxRecDepth 100000
set_option maxHeartbeats 0
namespace K95
open PySem PySem.Spec PyProof.Rows L2 BK
def LL : Nat := 1000
theorem rl_nil {K : PySem.W.Frag} {T : Adr} {H : Hp} : Rl K T [] [] H where
  len := rfl
  at_ := fun i x o h _ => by simp at h
  inj := fun i j a h _ => by simp at h
  low := fun i o h => by simp at h
theorem ints_vr {K : PySem.W.Frag} {T : Adr} {ρ : Own} {H : Hp} : ∀ ns : List Int, VRs K T ρ H (ns.map W.int) (ns.map V.int)
  | [] => .nil
  | n :: ns => .cons (.int n) (ints_vr ns)
theorem arg_vr {K : PySem.W.Frag} {T : Adr} {H : Hp} {a : Addr} {ns : List Int} (h : SqL K H a (ns.map V.int)) : VR K T [] H (.arg (ns.map W.int)) (.ref a) := by
  refine .arg ?_ (ints_vr ns)
  rcases h with h | h
  · exact .inl ⟨fun ⟨i, q⟩ => by simp at q, h⟩
  · exact .inr h
def k1 : List (Str × Bool) := [("BadNumbers", false), ("BadPrices", false), ("BadEdit", false), ("BadSession", false)]
def k2 : List (Str × Bool) := [("BadSessionText", true), ("BadBooks", false), ("BadMany", false), ("BadParting", false)]
def k3 : List (Str × Bool) := [("NothingToUndo", false), ("NothingToRedo", false)]
theorem kb : BKH.kindsB N_4 (defScope s_4) (k1.map (·.1)) (k2.map (·.1)) (k3.map (·.1)) 10 (defBody s_4) = true := by decide +kernel
theorem cb : BKH.caughtB t.nm N_11 t.pg.cps (defScope s_11) 16 0 4 [.set (.nm 2) (.mk 0 []), .ret (.pr .tup [.var 3, .call 4 [.var 2], .call 6 [.var 2], .pr .isi [.var 2, .lit (.ty "ValueError")]])] (defBody s_11) = true := by decide +kernel
theorem vals : (BKH.places 0 ((k1 ++ k2 ++ k3).map (·.2))).map V.int = [V.int 4] := rfl
theorem own_11 {prog : Program} {w : World} {K : PySem.W.Frag} {mg : Str → Option Value} {base : Heap} (c : He.SaysD faA fn K) (gl : Glo K mg (adr t K) t.pg t.nm) (cl : ∀ k ns, t.pg.cps k = some ns → ClFact K (adr t K) t.nm k ns) : FnOwn prog w K mg base (adr t K) t.pg t.nm LL 11 := by
  obtain ⟨fd, F⟩ := c.def_ 11 (d := d_11) rfl
  obtain ⟨fk, Fk⟩ := c.def_ 4 (d := d_4) rfl
  have B : L2.Binds K fd ["x"] [] := FunD.bindsN F fun _ _ _ _ _ _ us hl => match us, hl with | [_], _ => rfl
  have Bk : L2.Binds K fk ["e"] [] := FunD.bindsN Fk fun _ _ _ _ _ _ us hl => match us, hl with | [_], _ => rfl
  have one : ∀ (i : Nat) (x : Str) (b : Bool), t.nm.CN[i]? = some x → t.pg.csub 16 i = some b → ∃ C, mg x = some (.ref C) ∧ PySem.W.kitOne K (.ref ((adr t K).cls 16)) (.ref C) = some b := fun i x b h1 h2 => ⟨_, gl.cl i x h1, (gl.facts.ex 16 i b h2).2⟩
  have kd : BKH.Kd K mg ((adr t K).cls 16) ((adr t K).fn 4) [V.int 4] fk := {
    C := (gl.facts.ex 16 0 true (by decide +kernel)).1
    mi := gl.bl _ (by decide +kernel)
    mr := gl.bl _ (by decide +kernel)
    ex := by
      refine ⟨_, _, _, _, _, N_4, ["e"], k1, k2, k3, 10, Fk, sc_4, rfl, Bk, fun p hp => ?_, rfl, by decide, kb, rfl⟩
      simp only [k1, k2, k3, List.cons_append, List.nil_append, List.mem_cons, List.not_mem_nil, or_false] at hp
      rcases hp with rfl | rfl | rfl | rfl | rfl | rfl | rfl | rfl | rfl | rfl
      · exact one 12 _ false rfl (by decide +kernel)
      · exact one 13 _ false rfl (by decide +kernel)
      · exact one 14 _ false rfl (by decide +kernel)
      · exact one 15 _ false rfl (by decide +kernel)
      · exact one 16 _ true rfl (by decide +kernel)
      · exact one 17 _ false rfl (by decide +kernel)
      · exact one 18 _ false rfl (by decide +kernel)
      · exact one 19 _ false rfl (by decide +kernel)
      · exact one 20 _ false rfl (by decide +kernel)
      · exact one 21 _ false rfl (by decide +kernel)
  }
  exact BKH.caught_own (kx := 16) (ks := 0) (fk := 4) (nx := "line") F sc_11 B rfl rfl rfl cb rfl (cl 16 ["line"] rfl) (by decide +kernel) (by decide +kernel) kd
end K95
open PySem PySem.W PySem.Calls PyProof.Rows
theorem K95.holds_of (hlaw : ∀ ns : List Int, ns.length ≤ 63 → ∃ S', BK.call K95.t.pg K95.LL 20 12 [.arg (ns.map BK.W.int)] [] = .ok (.bl true) S') : PySem.Challenge.rw_sameproof_k95_errors_of_what_is_asked.Holds := by
  w_on; o_law
  refine HandSHeadRun.head_any (r := OpenLaw.row PySem.Challenge.rw_sameproof_k95_errors_of_what_is_asked) (q := K95.qv) (H := K95.hk) (ob := K95.ob) (M := 12000) (loose := K95.names) (d := HandSHeadRun.topDef (OpenLaw.row PySem.Challenge.rw_sameproof_k95_errors_of_what_is_asked).prog 62) (kwd := []) K95.ob_eq
    (by kernel_rfl) (fun s => by kernel_rfl) K95.run (by kernel_rfl) (by kernel_rfl) (by kernel_rfl) (by rfl) (by first | assumption | decide +kernel) (by decide +kernel) ⟨rfl, rfl, rfl, rfl, rfl, by decide +kernel⟩ ?hw ?hc
  case hw => w_witness2
  case hc =>
    refine L2.walk_ofE (l := PySem.Challenge.rw_sameproof_k95_errors_of_what_is_asked) (n := 63) (k := 20) (x := "script") (CX := L2.CX0) rfl (by decide) (by kernel_rfl) ⟨rfl, by decide, by decide⟩ ?F (fun _ _ _ _ z => z)
    intro w mg fa h Y G hmg0
    obtain ⟨K, KX, c⟩ := Y
    have hmg : mg ("law" : PySem.Str) = some (.ref fa) := by
      have e : (HandSHeadRun.topDef (OpenLaw.row PySem.Challenge.rw_sameproof_k95_errors_of_what_is_asked).prog 62).name = ("law" : PySem.Str) := by kernel_rfl
      rw [← e]
      exact hmg0
    have cd : He.SaysD K95.faA K95.fn K := c.t.d
    have cx : K95.t.ex K = true := K95.ex_all c.more
    have memF : ∀ x ∈ K95.t.FN, (He.Fa.glo x).ok K = true := fun x hx => cd.facts (by
      have : He.Fa.glo x ∈ K95.fa := List.mem_append_left _ (List.mem_append_left _ (List.mem_map.mpr ⟨x, hx, rfl⟩))
      simpa [K95.faA] using this)
    have memC : ∀ x ∈ K95.t.CN, (He.Fa.glo x).ok K = true := fun x hx => cd.facts (by
      have : He.Fa.glo x ∈ K95.fa := List.mem_append_left _ (List.mem_append_right _ (List.mem_map.mpr ⟨x, hx, rfl⟩))
      simpa [K95.faA] using this)
    have memB : ∀ x ∈ BK.bltNames, (He.Fa.free x).ok K = true := fun x hx => cd.facts (by
      have : He.Fa.free x ∈ K95.fa := List.mem_append_right _ (List.mem_map.mpr ⟨x, hx, rfl⟩)
      simpa [K95.faA] using this)
    have kpF : ∀ x ∈ K95.t.FN, PySem.W.keepIn K (.ref (He.ga K x)) = true := fun x hx => by
      obtain ⟨i, hi, e⟩ := List.mem_iff_getElem.mp hx
      have e' : K95.t.nm.FN[i]? = some x := by rw [← e]; exact List.getElem?_eq_getElem hi
      have k : PySem.W.keepIn K (.ref ((BK.adr K95.t K).fn i)) = true := by
        by_cases h11 : i = 11
        · subst h11
          obtain ⟨fd, F⟩ := cd.def_ 11 (d := K95.d_11) rfl
          exact F.kp
        · obtain ⟨fd, qual, params, body, scope, N, ps, Df, F, _⟩ := K95.fns cd i x (by simpa using h11) e'
          exact F.kp
      have e2 : (BK.adr K95.t K).fn i = He.ga K x := by
        show He.ga K (K95.t.FN.getD i "") = He.ga K x
        rw [List.getD_eq_getElem?_getD, show K95.t.FN[i]? = some x from e']
        rfl
      rw [e2] at k
      exact k
    obtain ⟨fd, F⟩ := cd.def_ 12 (d := K95.d_12) rfl
    have efa : fa = He.ga K "law" := by
      have e1 := He.glo_ok KX G (memF "law" (by decide +kernel))
      rw [hmg] at e1
      exact Value.ref.inj (Option.some.inj e1)
    refine ⟨K, fd, BK.spC K (BK.adr K95.t K) (BK.call K95.t.pg K95.LL 20) 12, KX, fun s v => L2.FunD.bindsA (ps := ["script"]) F (fun _ _ _ _ _ _ us hl => match us, hl with | [_], _ => rfl) s [v] rfl, fun H a ns hl _ hS => ?_, fun base hb hg => ?_⟩
    · obtain ⟨S', hS'⟩ := hlaw ns hl
      refine ⟨[], [], _, K95.rl_nil, .cons (K95.arg_vr hS) .nil, ?_⟩
      rw [hS']
      exact fun ρ' H' b _ _ v => v.bl_inv
    · rw [efa]
      have gl : BK.Glo K mg (BK.adr K95.t K) K95.t.pg K95.t.nm := BK.glo_of cx hb hg (fun x hx => ⟨memF x hx, kpF x hx⟩) memC memB
      have cl := BK.cl_of cx (K95.inits cd)
      have own : ∀ f x, K95.t.nm.FN[f]? = some x → BK.FnOwn (OpenLaw.row PySem.Challenge.rw_sameproof_k95_errors_of_what_is_asked).prog w K mg base (BK.adr K95.t K) K95.t.pg K95.t.nm K95.LL f := fun f x hx => by
        by_cases h11 : f = 11
        · subst h11
          exact K95.own_11 cd gl cl
        · exact (K95.fns cd f x (by simpa using h11) hx).own
      exact BK.fn_step (d := 19) (f := 12) (BK.th_own gl own cl (BK.kp_of cx) 19) F K95.sc_12 rfl rfl rfl K95.ck_12

set_option maxRecDepth 100000
set_option maxHeartbeats 0
namespace KN
open PySem L2 BK
abbrev PP : Pg := K95.t.pg
abbrev CC (d : Nat) : Nat → List W → Sto → R W := BK.call PP 1000 d
def iw (l : List Int) : List W := l.map W.int
def s0 (l : List Int) : O := .lst (iw l)
def s1 (a b c : Int) : O := .lst [.ref 0, .int a, .int b, .int c]
def p0 : BK.St := .put (.var 0) (.lit (.int (2))) (.pr .add [.pr .idx [.var 0, .lit (.int (2))], .lit (.int (1))])
theorem pk0 (d : Nat) (l : List Int) (a b c many : Int) (rest : Sto) (x2 x3 x4 : Option W) :
    exe PP (CC d) d 1000 p0 [some (.ref 1), some (.int many), x2, x3, x4] (s0 l :: s1 a b c :: rest) = .nx [some (.ref 1), some (.int many), x2, x3, x4] (s0 l :: s1 a (b + 1) c :: rest) := by
  kernel_rfl
def tst1 : Ex := .pr .eq [.pr .idx [.var 0, .lit (.int (1))], .lit (.int (0))]
theorem tk1 (d : Nat) (l : List Int) (a b c many : Int) (rest : Sto) (x2 x3 x4 : Option W) :
    ev PP (CC d) d tst1 [some (.ref 1), some (.int many), x2, x3, x4] (s0 l :: s1 a b c :: rest) = .ok (.bl (PyData.eqv (.int a) (.int 0))) (s0 l :: s1 a b c :: rest) := by
  kernel_rfl
theorem datas_iw : ∀ l : List Int, W.datas (iw l) = some (l.map PyData.int)
  | [] => rfl
  | x :: l => by
    show (match W.data (.int x), W.datas (iw l) with | some d, some ds => some (d :: ds) | _, _ => none) = _
    rw [datas_iw l]
    rfl
def tst2 : Ex := .pr .ne [.pr .idx [.var 0, .lit (.int (0))], .pr .lst []]
theorem tk2a (d : Nat) (l : List Int) (a b c many : Int) (rest : Sto) (x2 x3 x4 : Option W) :
    ev PP (CC d) d tst2 [some (.ref 1), some (.int many), x2, x3, x4] (s0 l :: s1 a b c :: rest) = okb ((weq (s0 l :: s1 a b c :: rest) (.ref 0) (.lst [])).map (!·)) (s0 l :: s1 a b c :: rest) := by
  kernel_rfl
theorem weq0 (l : List Int) (a b c : Int) (rest : Sto) : weq (s0 l :: s1 a b c :: rest) (.ref 0) (.lst []) = some l.isEmpty := by
  unfold weq
  have h1 : (look (s0 l :: s1 a b c :: rest) (.ref 0)).data = some (.list (l.map PyData.int)) := by
    show (W.datas (iw l)).map PyData.list = _
    rw [datas_iw]
    rfl
  have h2 : (look (s0 l :: s1 a b c :: rest) (.lst [])).data = some (.list []) := rfl
  rw [h1, h2]
  have hd : PyData.depth (.list []) ≤ 64 := by decide +kernel
  simp only [if_pos (Or.inr hd)]
  cases l with
  | nil => rfl
  | cons x l => rfl
theorem eqv_int (a b : Int) : PyData.eqv (.int a) (.int b) = decide (a = b) := by
  by_cases h : a = b
  · subst h
    simp [PyData.eqv]
  · simp [PyData.eqv, h]
/-- the loop's turn -/
def q1 : BK.St := .set (.nm 3) (.pr .abs [.mth .popAt (.pr .idx [.var 0, .lit (.int (0))]) [.lit (.int (0))]])
def q2 : BK.St := .put (.var 0) (.lit (.int (3))) (.pr .mod [.pr .int [.pr .add [.pr .add [.pr .mul [.pr .idx [.var 0, .lit (.int (3))], .lit (.int (6151))], .var 3], .lit (.int (5))]], .lit (.int (2147483647))])
def q3 : BK.St := .put (.var 0) (.lit (.int (1))) (.ifx (.pr .ge [.var 3, .pr .pow [.lit (.int (10)), .lit (.int (18))]]) (.var 3) (.lit (.int (0))))
def ab (x : Int) : Int := if x < 0 then -x else x
theorem qk1 (d : Nat) (x : Int) (l : List Int) (a b c many : Int) (rest : Sto) (x2 x3 x4 : Option W) :
    exe PP (CC d) d 1000 q1 [some (.ref 1), some (.int many), x2, x3, x4] (s0 (x :: l) :: s1 a b c :: rest) = .nx [some (.ref 1), some (.int many), x2, some (.int (ab x)), x4] (s0 l :: s1 a b c :: rest) := by
  simp [q1, exe, ev, evs, R.bind, R.thn, prim, pIdx, look, ixAt, pAbs, pPopAt, okw, s0, s1, iw, recv, recv.lstAt, tgSet, ab]
theorem qk2 (d : Nat) (x : Int) (l : List Int) (a b c many : Int) (rest : Sto) (x2 x4 : Option W) (h : mulOk c 6151 = true) :
    exe PP (CC d) d 1000 q2 [some (.ref 1), some (.int many), x2, some (.int x), x4] (s0 l :: s1 a b c :: rest) = .nx [some (.ref 1), some (.int many), x2, some (.int x), x4] (s0 l :: s1 a b (Int.fmod (c * 6151 + x + 5) 2147483647) :: rest) := by
  simp [q2, exe, ev, evs, R.bind, R.thn, prim, pIdx, look, ixAt, pMul, pAdd, pInt, pMod, pPut, okw, s0, s1, W.low, h]
theorem qk3 (d : Nat) (x : Int) (l : List Int) (a b c many : Int) (rest : Sto) (x2 x4 : Option W) :
    exe PP (CC d) d 1000 q3 [some (.ref 1), some (.int many), x2, some (.int x), x4] (s0 l :: s1 a b c :: rest) = .nx [some (.ref 1), some (.int many), x2, some (.int x), x4] (s0 l :: s1 (if 10 ^ 18 ≤ x then x else 0) b c :: rest) := by
  by_cases hx : 10 ^ 18 ≤ x
  · have hx' : (1000000000000000000 : Int) ≤ x := by omega
    simp [q3, exe, ev, evs, R.bind, R.thn, prim, pIdx, look, ixAt, pGe, pPow, cmpI, okb, BK.test, pPut, okw, s0, s1, W.low, hx']
  · have hx' : ¬ (1000000000000000000 : Int) ≤ x := by omega
    simp [q3, exe, ev, evs, R.bind, R.thn, prim, pIdx, look, ixAt, pGe, pPow, cmpI, okb, BK.test, pPut, okw, s0, s1, W.low, hx']
def cnd : Ex := .and tst1 tst2
theorem ck (d : Nat) (l : List Int) (a b c many : Int) (rest : Sto) (x2 x3 x4 : Option W) :
    (ev PP (CC d) d cnd [some (.ref 1), some (.int many), x2, x3, x4] (s0 l :: s1 a b c :: rest)).bind BK.test = .ok (decide (a = 0) && !l.isEmpty) (s0 l :: s1 a b c :: rest) := by
  have h1 := tk1 d l a b c many rest x2 x3 x4
  have h2 := tk2a d l a b c many rest x2 x3 x4
  rw [weq0] at h2
  rw [eqv_int] at h1
  simp only [cnd, ev]
  have e1 : ev PP (CC d) d tst1 [some (.ref 1), some (.int many), x2, x3, x4] (s0 l :: s1 a b c :: rest) = .ok (.bl (decide (a = 0))) (s0 l :: s1 a b c :: rest) := h1
  have e2 : ev PP (CC d) d tst2 [some (.ref 1), some (.int many), x2, x3, x4] (s0 l :: s1 a b c :: rest) = .ok (.bl (!l.isEmpty)) (s0 l :: s1 a b c :: rest) := h2
  rw [e1]
  cases hd : decide (a = 0) with
  | true =>
    show (ev PP (CC d) d tst2 [some (.ref 1), some (.int many), x2, x3, x4] (s0 l :: s1 a b c :: rest)).bind BK.test = _
    rw [e2]
    rfl
  | false => rfl
theorem mul_ok {x y : Int} (hx : x.natAbs < 2 ^ 200) (hy : y.natAbs < 2 ^ 200) : mulOk x y = true := by
  unfold mulOk
  have key : ∀ n : Nat, n < 2 ^ 200 → n.log2 ≤ 200 := fun n hn => by
    by_cases h : n = 0
    · subst h; decide
    · exact Nat.le_of_lt ((Nat.log2_lt h).mpr hn)
  have h1 := key _ hx
  have h2 := key _ hy
  exact decide_eq_true (by omega)
theorem small_abs {x : Int} (h0 : 0 ≤ x) (h : x < 2 ^ 60) : x.natAbs < 2 ^ 200 := by
  have h1 : x.natAbs < 2 ^ 60 := by omega
  exact Nat.lt_of_lt_of_le h1 (Nat.pow_le_pow_right (by decide) (by decide))
theorem fmod_rng (x : Int) {m : Int} (h : 0 < m) : 0 ≤ Int.fmod x m ∧ Int.fmod x m < m := ⟨Int.fmod_nonneg_of_pos x h, Int.fmod_lt_of_pos x h⟩
theorem wk (d : Nat) (b many : Int) (rest : Sto) (x2 x4 : Option W) : ∀ (l : List Int) (n : Nat) (a c : Int) (x3 : Option W), l.length + 1 ≤ n → 0 ≤ a → 0 ≤ c → c < 2147483647 →
    ∃ l' a' c' y3, whlL (fun e s => (ev PP (CC d) d cnd e s).bind BK.test) (fun e s => exes PP (CC d) d 1000 [q1, q2, q3] e s) n [some (.ref 1), some (.int many), x2, x3, x4] (s0 l :: s1 a b c :: rest) = .nx [some (.ref 1), some (.int many), x2, y3, x4] (s0 l' :: s1 a' b c' :: rest) ∧
      l'.length ≤ l.length ∧ 0 ≤ a' ∧ 0 ≤ c' ∧ c' < 2147483647 := by
  intro l
  induction l with
  | nil =>
    intro n a c x3 hn ha hc hc2
    cases n with
    | zero => omega
    | succ n =>
      refine ⟨[], a, c, x3, ?_, Nat.le_refl _, ha, hc, hc2⟩
      simp only [whlL]
      rw [ck]
      simp [R.thn]
  | cons x l ih =>
    intro n a c x3 hn ha hc hc2
    cases n with
    | zero => omega
    | succ n =>
      by_cases h0 : a = 0
      · subst h0
        have hm : mulOk c 6151 = true := mul_ok (small_abs hc (by omega)) (by decide)
        have hab : 0 ≤ ab x := by unfold ab; split <;> omega
        have hf := fmod_rng (c * 6151 + ab x + 5) (m := 2147483647) (by omega)
        obtain ⟨l', a', c', y3, h1, h2, h3, h4, h5⟩ := ih n (if 10 ^ 18 ≤ ab x then ab x else 0) (Int.fmod (c * 6151 + ab x + 5) 2147483647) (some (.int (ab x))) (by simp at hn; omega) (by split <;> omega) hf.1 hf.2
        refine ⟨l', a', c', y3, ?_, by simp; omega, h3, h4, h5⟩
        simp only [whlL]
        rw [ck]
        simp only [R.thn, List.isEmpty_cons, decide_true, Bool.not_false, Bool.and_self]
        have e : exes PP (CC d) d 1000 [q1, q2, q3] [some (.ref 1), some (.int many), x2, x3, x4] (s0 (x :: l) :: s1 0 b c :: rest) = .nx [some (.ref 1), some (.int many), x2, some (.int (ab x)), x4] (s0 l :: s1 (if 10 ^ 18 ≤ ab x then ab x else 0) b (Int.fmod (c * 6151 + ab x + 5) 2147483647) :: rest) := by
          simp only [exes, qk1, qk2 d _ _ _ _ _ _ _ _ _ hm, qk3]
        rw [e]
        exact h1
      · refine ⟨x :: l, a, c, x3, ?_, Nat.le_refl _, ha, hc, hc2⟩
        simp only [whlL]
        rw [ck]
        simp [R.thn, h0]
def r0 : BK.St := .ite (.pr .gt [.pr .idx [.var 0, .lit (.int (1))], .lit (.int (0))]) [.set (.nm 4) (.pr .mod [.pr .int [.pr .idx [.var 0, .lit (.int (1))]], .var 1]), .put (.var 0) (.lit (.int (1))) (.pr .fdiv [.pr .idx [.var 0, .lit (.int (1))], .var 1]), .ret (.var 4)] []
def r1 : BK.St := .set (.nm 2) (.pr .mod [.pr .int [.pr .pow [.pr .add [.pr .add [.pr .idx [.var 0, .lit (.int (3))], .pr .mul [.lit (.int (7907)), .pr .idx [.var 0, .lit (.int (2))]]], .lit (.int (104723))], .lit (.int (5))]], .lit (.int (2147483629))])
def r2 : BK.St := .ret (.pr .mod [.pr .mod [.pr .int [.pr .pow [.pr .add [.pr .add [.pr .mul [.var 2, .lit (.int (48271))], .pr .mul [.lit (.int (30011)), .pr .idx [.var 0, .lit (.int (2))]]], .lit (.int (31))], .lit (.int (3))]], .lit (.int (1000000007))], .var 1])
theorem rk0 (d : Nat) (l : List Int) (a b c many : Int) (rest : Sto) (x2 x3 x4 : Option W) (hm : many ≠ 0) (hd : divOk many = true) :
    exe PP (CC d) d 1000 r0 [some (.ref 1), some (.int many), x2, x3, x4] (s0 l :: s1 a b c :: rest) = if 0 < a then .rt (.int (Int.fmod a many)) (s0 l :: s1 (Int.fdiv a many) b c :: rest) else .nx [some (.ref 1), some (.int many), x2, x3, x4] (s0 l :: s1 a b c :: rest) := by
  by_cases h : 0 < a
  · simp [r0, exe, exes, ev, evs, R.bind, R.thn, prim, pIdx, look, ixAt, pGt, cmpI, okb, BK.test, pMod, pInt, pFdiv, pPut, okw, s0, s1, W.low, tgSet, h, hm, hd]
  · simp [r0, exe, exes, ev, evs, R.bind, R.thn, prim, pIdx, look, ixAt, pGt, cmpI, okb, BK.test, pMod, pInt, pFdiv, pPut, okw, s0, s1, W.low, tgSet, h, hm, hd]
theorem rk1 (d : Nat) (l : List Int) (a b c many : Int) (rest : Sto) (x2 x3 x4 : Option W) (hb : mulOk 7907 b = true) (hp : (c + 7907 * b + 104723).natAbs < 2 ^ 64) :
    exe PP (CC d) d 1000 r1 [some (.ref 1), some (.int many), x2, x3, x4] (s0 l :: s1 a b c :: rest) = .nx [some (.ref 1), some (.int many), some (.int (Int.fmod ((c + 7907 * b + 104723) ^ 5) 2147483629)), x3, x4] (s0 l :: s1 a b c :: rest) := by
  have hp' : (c + 7907 * b + 104723).natAbs < 18446744073709551616 := hp
  simp [r1, exe, exes, ev, evs, R.bind, R.thn, prim, pIdx, look, ixAt, pMod, pInt, pMul, pAdd, pPow, okw, s0, s1, tgSet, hb, hp']
theorem rk2 (d : Nat) (l : List Int) (a b c many y : Int) (rest : Sto) (x3 x4 : Option W) (hm : many ≠ 0) (hb : mulOk 30011 b = true) (hy : mulOk y 48271 = true) (hp : (y * 48271 + 30011 * b + 31).natAbs < 2 ^ 64) :
    exe PP (CC d) d 1000 r2 [some (.ref 1), some (.int many), some (.int y), x3, x4] (s0 l :: s1 a b c :: rest) = .rt (.int (Int.fmod (Int.fmod ((y * 48271 + 30011 * b + 31) ^ 3) 1000000007) many)) (s0 l :: s1 a b c :: rest) := by
  have hp' : (y * 48271 + 30011 * b + 31).natAbs < 18446744073709551616 := hp
  simp [r2, exe, exes, ev, evs, R.bind, R.thn, prim, pIdx, look, ixAt, pMod, pInt, pMul, pAdd, pPow, okw, s0, s1, tgSet, hb, hy, hm, hp']
theorem call_pick (d : Nat) (u v : W) (S : Sto) : CC (d + 1) 1 [u, v] S = fin true S.length (exes PP (CC d) d 1000 [p0, .whl cnd [q1, q2, q3], r0, r1, r2] [some u, some v, none, none, none] S) := by kernel_rfl
/-- what a pick does to the law's state -/
theorem pick (d : Nat) (l : List Int) (a b c many : Int) (rest : Sto) (hl : l.length ≤ 100) (ha : 0 ≤ a) (hb : 0 ≤ b) (hb2 : b ≤ 1000000) (hc : 0 ≤ c) (hc2 : c < 2147483647) (hm : 1 ≤ many) (hm2 : many ≤ 1000) :
    ∃ r l' a' c', CC (d + 1) 1 [.ref 1, .int many] (s0 l :: s1 a b c :: rest) = .ok (.int r) (s0 l' :: s1 a' (b + 1) c' :: rest) ∧ 0 ≤ r ∧ r < many ∧ l'.length ≤ l.length ∧ 0 ≤ a' ∧ 0 ≤ c' ∧ c' < 2147483647 := by
  rw [call_pick]
  obtain ⟨l', a', c', y3, h1, h2, h3, h4, h5⟩ := wk d (b + 1) many rest none none l 1000 a c none (by omega) ha hc hc2
  have ew : exe PP (CC d) d 1000 (.whl cnd [q1, q2, q3]) [some (.ref 1), some (.int many), none, none, none] (s0 l :: s1 a (b + 1) c :: rest) = .nx [some (.ref 1), some (.int many), none, y3, none] (s0 l' :: s1 a' (b + 1) c' :: rest) := by
    simp only [exe]
    exact h1
  have hm0 : many ≠ 0 := by omega
  have hd : divOk many = true := by
    unfold divOk
    have : many.natAbs.log2 < 9000 := by
      have : many.natAbs < 2 ^ 10 := by omega
      have h0 : many.natAbs ≠ 0 := by omega
      have := (Nat.log2_lt h0).mpr this
      omega
    simp [hm0, this]
  have htake : ∀ (x y : O), List.take (s0 l :: s1 a b c :: rest).length (x :: y :: rest) = x :: y :: rest := fun x y => by simp
  by_cases hpos : 0 < a'
  · refine ⟨Int.fmod a' many, l', Int.fdiv a' many, c', ?_, (fmod_rng a' (by omega)).1, (fmod_rng a' (by omega)).2, h2, ?_, h4, h5⟩
    · simp only [exes, pk0, ew, rk0 d l' a' (b + 1) c' many rest none y3 none hm0 hd, hpos, if_true, fin, htake, W.low]
    · rw [Int.fdiv_eq_ediv_of_nonneg _ (by omega)]
      exact Int.ediv_nonneg h3 (by omega)
  · have hf := fmod_rng ((c' + 7907 * (b + 1) + 104723) ^ 5) (m := 2147483629) (by omega)
    have hb1 : mulOk 7907 (b + 1) = true := mul_ok (by decide) (small_abs (by omega) (by omega))
    have hb3 : mulOk 30011 (b + 1) = true := mul_ok (by decide) (small_abs (by omega) (by omega))
    have hp1 : (c' + 7907 * (b + 1) + 104723).natAbs < 2 ^ 64 := by omega
    generalize hy : Int.fmod ((c' + 7907 * (b + 1) + 104723) ^ 5) 2147483629 = y at hf
    have hy1 : mulOk y 48271 = true := mul_ok (small_abs hf.1 (by omega)) (by decide)
    have hp2 : (y * 48271 + 30011 * (b + 1) + 31).natAbs < 2 ^ 64 := by omega
    have hr := fmod_rng (Int.fmod ((y * 48271 + 30011 * (b + 1) + 31) ^ 3) 1000000007) (m := many) (by omega)
    refine ⟨_, l', a', c', ?_, hr.1, hr.2, h2, h3, h4, h5⟩
    simp only [exes, pk0, ew, rk0 d l' a' (b + 1) c' many rest none y3 none hm0 hd, hpos, if_false, rk1 d l' a' (b + 1) c' many rest none y3 none hb1 hp1, hy, rk2 d l' a' (b + 1) c' many y rest y3 none hm0 hb3 hy1 hp2, fin, htake, W.low, if_true]
end KN

set_option maxRecDepth 100000
set_option maxHeartbeats 0
namespace KN
open PySem L2 BK
/-- the law's state -/
structure Ok (l : List Int) (a b c : Int) (n : Int) : Prop where
  hl : l.length ≤ 100
  ha : 0 ≤ a
  hb : 0 ≤ b
  hn : b ≤ n
  hc : 0 ≤ c
  hc2 : c < 2147483647
theorem pick' (d : Nat) {l : List Int} {a b c n : Int} (many : Int) (rest : Sto) (o : Ok l a b c n) (hn : n ≤ 1000000) (hm : 1 ≤ many) (hm2 : many ≤ 1000) :
    ∃ r l' a' c', CC (d + 1) 1 [.ref 1, .int many] (s0 l :: s1 a b c :: rest) = .ok (.int r) (s0 l' :: s1 a' (b + 1) c' :: rest) ∧ 0 ≤ r ∧ r < many ∧ Ok l' a' (b + 1) c' (n + 1) := by
  have hb := o.hn
  obtain ⟨r, l', a', c', h1, h2, h3, h4, h5, h6, h7⟩ := pick d l a b c many rest o.hl o.ha o.hb (by omega) o.hc o.hc2 hm hm2
  have h0 := o.hb
  have hl := o.hl
  exact ⟨r, l', a', c', h1, h2, h3, ⟨by omega, h5, by omega, by omega, h6, h7⟩⟩
theorem call_betw (d : Nat) (u v w : W) (S : Sto) : CC (d + 1) 2 [u, v, w] S = fin true S.length (exes PP (CC d) d 1000 K95.c_law_between.code [some u, some v, some w] S) := by kernel_rfl
theorem betw (d : Nat) {l : List Int} {a b c n : Int} (o : Ok l a b c n) (hn : n ≤ 1000000) : ∃ v l' a' c', CC (d + 2) 2 [.ref 1, .int (-9), .int 9] [s0 l, s1 a b c] = .ok (.int v) [s0 l', s1 a' (b + 1) c'] ∧ Ok l' a' (b + 1) c' (n + 1) := by
  obtain ⟨r, l', a', c', h1, h2, h3, h4⟩ := pick' d 19 [] o hn (by omega) (by omega)
  refine ⟨-9 + r, l', a', c', ?_, h4⟩
  have h1' : BK.call PP 1000 (d + 1) 1 [W.ref 1, W.int 19] [s0 l, s1 a b c] = .ok (.int r) [s0 l', s1 a' (b + 1) c'] := h1
  rw [call_betw]
  simp [K95.c_law_between, exes, exe, ev, evs, R.bind, R.thn, prim, pSub, pMax2, pAdd, h1', fin, W.low]
/-- what the law draws, its own list or dict at n -/
inductive Thing (n : Nat) : W → Sto → Prop
  | int (v : Int) : Thing n (.int v) []
  | str (i : Int) (h0 : 0 ≤ i) (h : i < 99) : Thing n (.str ("w" ++ Str.ofString (toString i))) []
  | non : Thing n .non []
  | bl (b : Bool) : Thing n (.bl b) []
  | tup (j : Int) : Thing n (.tup [.int 1, .int j]) []
  | lst (j : Int) : Thing n (.ref n) [.lst [.int j, .lst [.int 1]]]
  | dct (j : Int) : Thing n (.ref n) [.dct [(.inr "a", .int j)]]
theorem call_obj (d : Nat) (u : W) (S : Sto) : CC (d + 1) 9 [u] S = fin false S.length (exes PP (CC d) d 1000 K95.c_law_object.code [some u, none] S) := by kernel_rfl
theorem strl (i : Int) (h0 : 0 ≤ i) (h : i < 99) : i.natAbs.log2 < 1920 ∧ ("w" : Str).length + (Str.ofString (toString i)).length ≤ LIM := by
  have : ∀ k : Nat, k < 99 → ((k : Int).natAbs.log2 < 1920 ∧ ("w" : Str).length + (Str.ofString (toString (k : Int))).length ≤ LIM) := by decide +kernel
  obtain ⟨k, rfl⟩ := Int.eq_ofNat_of_zero_le h0
  exact this k (by omega)
theorem betw' (d : Nat) {l : List Int} {a b c n : Int} (rest : Sto) (o : Ok l a b c n) (hn : n ≤ 1000000) : ∃ v l' a' c', CC (d + 2) 2 [.ref 1, .int (-9), .int 9] (s0 l :: s1 a b c :: rest) = .ok (.int v) (s0 l' :: s1 a' (b + 1) c' :: rest) ∧ Ok l' a' (b + 1) c' (n + 1) := by
  obtain ⟨r, l', a', c', h1, h2, h3, h4⟩ := pick' d 19 rest o hn (by omega) (by omega)
  refine ⟨-9 + r, l', a', c', ?_, h4⟩
  have h1' : BK.call PP 1000 (d + 1) 1 [W.ref 1, W.int 19] (s0 l :: s1 a b c :: rest) = .ok (.int r) (s0 l' :: s1 a' (b + 1) c' :: rest) := h1
  rw [call_betw]
  simp [K95.c_law_between, exes, exe, ev, evs, R.bind, R.thn, prim, pSub, pMax2, pAdd, h1', fin, W.low]
def SS (l : List Int) (a b c : Int) (rest : Sto) : Sto := s0 l :: s1 a b c :: rest
theorem obj (d : Nat) {l : List Int} {a b c n : Int} (rest : Sto) (o : Ok l a b c n) (hn : n ≤ 100000) : ∃ w more l' a' b' c', CC (d + 3) 9 [.ref 1] (s0 l :: s1 a b c :: rest) = .ok w (s0 l' :: s1 a' b' c' :: (rest ++ more)) ∧ Thing (rest.length + 2) w more ∧ Ok l' a' b' c' (n + 3) := by
  obtain ⟨q, l1, a1, c1, e1, q0, q1, o1⟩ := pick' (d + 1) 7 rest o (by omega) (by omega) (by omega)
  obtain ⟨v, l2, a2, c2, e2, o2⟩ := betw' d rest o1 (by omega)
  obtain ⟨i, l3, a3, c3, e3, i0, i1, o3⟩ := pick' (d + 1) 99 rest o2 (by omega) (by omega) (by omega)
  obtain ⟨k, l4, a4, c4, e4, k0, k1, o4⟩ := pick' (d + 1) 2 rest o1 (by omega) (by omega) (by omega)
  obtain ⟨j, l5, a5, c5, e5, j0, j1, o5⟩ := pick' (d + 1) 9 rest o4 (by omega) (by omega) (by omega)
  obtain ⟨u, l6, a6, c6, e6, u0, u1, o6⟩ := pick' (d + 1) 9 rest o1 (by omega) (by omega) (by omega)
  obtain ⟨x, l7, a7, c7, e7, x0, x1, o7⟩ := pick' (d + 1) 9 (rest ++ [.dct []]) o1 (by omega) (by omega) (by omega)
  obtain ⟨hs1, hs2⟩ := strl i i0 i1
  have hs3 : (Str.ofString "w").length + (Str.ofString i.repr).length ≤ 16000000 := hs2
  have hk : ∀ S, weq S (.int k) (.int 0) = some (decide (k = 0)) := fun S => by
    rw [← eqv_int]; rfl
  have ok4 : ∀ {l : List Int} {a b c m m' : Int}, Ok l a b c m → m ≤ m' → Ok l a b c m' := fun o h => ⟨o.hl, o.ha, o.hb, by have := o.hn; omega, o.hc, o.hc2⟩
  have E1 : BK.call PP 1000 (d + 2) 1 [W.ref 1, W.int 7] (s0 l :: s1 a b c :: rest) = .ok (.int q) (s0 l1 :: s1 a1 (b + 1) c1 :: rest) := e1
  have E2 : BK.call PP 1000 (d + 2) 2 [W.ref 1, W.int (-9), W.int 9] (s0 l1 :: s1 a1 (b + 1) c1 :: rest) = .ok (.int v) (s0 l2 :: s1 a2 (b + 1 + 1) c2 :: rest) := e2
  have E3 : BK.call PP 1000 (d + 2) 1 [W.ref 1, W.int 99] (s0 l2 :: s1 a2 (b + 1 + 1) c2 :: rest) = .ok (.int i) (s0 l3 :: s1 a3 (b + 1 + 1 + 1) c3 :: rest) := e3
  have E4 : BK.call PP 1000 (d + 2) 1 [W.ref 1, W.int 2] (s0 l1 :: s1 a1 (b + 1) c1 :: rest) = .ok (.int k) (s0 l4 :: s1 a4 (b + 1 + 1) c4 :: rest) := e4
  have E5 : BK.call PP 1000 (d + 2) 1 [W.ref 1, W.int 9] (s0 l4 :: s1 a4 (b + 1 + 1) c4 :: rest) = .ok (.int j) (s0 l5 :: s1 a5 (b + 1 + 1 + 1) c5 :: rest) := e5
  have E6 : BK.call PP 1000 (d + 2) 1 [W.ref 1, W.int 9] (s0 l1 :: s1 a1 (b + 1) c1 :: rest) = .ok (.int u) (s0 l6 :: s1 a6 (b + 1 + 1) c6 :: rest) := e6
  have E7 : BK.call PP 1000 (d + 2) 1 [W.ref 1, W.int 9] (s0 l1 :: s1 a1 (b + 1) c1 :: (rest ++ [.dct []])) = .ok (.int x) (s0 l7 :: s1 a7 (b + 1 + 1) c7 :: (rest ++ [.dct []])) := e7
  have hq : q = 0 ∨ q = 1 ∨ q = 2 ∨ q = 3 ∨ q = 4 ∨ q = 5 ∨ q = 6 := by omega
  have w55 : ∀ S, weq S (.int 5) (.int 5) = some true := fun _ => rfl
  have w65 : ∀ S, weq S (.int 6) (.int 5) = some false := fun _ => rfl
  have nil : ∀ (l : Sto), l ++ [] = l := List.append_nil
  rcases hq with rfl | rfl | rfl | rfl | rfl | rfl | rfl
  · refine ⟨.int v, [], l3, a3, _, c3, ?_, .int v, ok4 o3 (by omega)⟩
    rw [call_obj]
    simp [K95.c_law_object, exe, exes, ev, evs, R.bind, R.thn, prim, pLt, cmpI, okb, okw, BK.test, pIdx, look, ixAt, pNeg, pAdd, pStr, pLst, tgSet, LIM, E1, E2, E3, hs1, hs3, fin]
  · refine ⟨_, [], l3, a3, _, c3, ?_, .str i i0 i1, ok4 o3 (by omega)⟩
    rw [call_obj]
    simp [K95.c_law_object, exe, exes, ev, evs, R.bind, R.thn, prim, pLt, cmpI, okb, okw, BK.test, pIdx, look, ixAt, pNeg, pAdd, pStr, pLst, tgSet, LIM, E1, E2, E3, hs1, hs3, fin]
  · refine ⟨.non, [], l5, a5, _, c5, ?_, .non, ok4 o5 (by omega)⟩
    rw [call_obj]
    simp [K95.c_law_object, exe, exes, ev, evs, R.bind, R.thn, prim, pLt, cmpI, okb, okw, BK.test, pIdx, look, ixAt, pSub, pLst, pTup, pEq, hk, tgSet, LIM, E1, E4, E5, fin]
  · refine ⟨.bl (decide (k = 0)), [], l5, a5, _, c5, ?_, .bl _, ok4 o5 (by omega)⟩
    rw [call_obj]
    simp [K95.c_law_object, exe, exes, ev, evs, R.bind, R.thn, prim, pLt, cmpI, okb, okw, BK.test, pIdx, look, ixAt, pSub, pLst, pTup, pEq, hk, tgSet, LIM, E1, E4, E5, fin]
  · refine ⟨_, [], l5, a5, _, c5, ?_, .tup j, ok4 o5 (by omega)⟩
    rw [call_obj]
    simp [K95.c_law_object, exe, exes, ev, evs, R.bind, R.thn, prim, pLt, cmpI, okb, okw, BK.test, pIdx, look, ixAt, pSub, pLst, pTup, pEq, hk, tgSet, LIM, E1, E4, E5, fin]
  · refine ⟨_, _, l6, a6, _, c6, ?_, .lst u, ok4 o6 (by omega)⟩
    rw [call_obj]
    simp [K95.c_law_object, exe, exes, ev, evs, R.bind, R.thn, prim, pLt, cmpI, okb, okw, BK.test, pIdx, look, ixAt, pLst, pMlst, pEq, w55, tgSet, LIM, E1, E6, fin]
  · refine ⟨_, _, l7, a7, _, c7, ?_, .dct x, ok4 o7 (by omega)⟩
    rw [call_obj]
    simp [K95.c_law_object, exe, exes, ev, evs, R.bind, R.thn, prim, pLt, cmpI, okb, okw, BK.test, pIdx, look, ixAt, pLst, pMlst, pEq, w65, tgSet, LIM, E1, E7, fin, BK.disp, keyOf, putD', W.lows, W.low, BK.made]
end KN

set_option maxRecDepth 100000
set_option maxHeartbeats 0
namespace KN
open PySem L2 BK
theorem call_same (d : Nat) (u v : W) (S : Sto) : CC (d + 1) 3 [u, v] S = fin true S.length (exes PP (CC d) d 1000 K95.c_law_same.code [some u, some v, none, none, none] S) := by kernel_rfl
theorem fin_bl (b : Bool) (S : Sto) : fin true S.length (.rt (.bl b) S) = .ok (.bl b) S := by simp [fin, W.low]
theorem weq_int (S : Sto) (v : Int) : weq S (.int v) (.int v) = some true := by
  have h : weq S (.int v) (.int v) = some (PyData.eqv (.int v) (.int v)) := by kernel_rfl
  rw [h, eqv_int]; simp
theorem weq_str (S : Sto) (v : Str) (hv : PyData.canLay0 (.str v) = true) : weq S (.str v) (.str v) = some true := by
  have hd : PyData.depth (.str v) ≤ 64 := by
    have : PyData.depth (.str v) = PyData.depth (.str "") := by kernel_rfl
    rw [this]; decide +kernel
  simp [weq, look, W.data, hv, hd, PyData.eqv]
theorem same_int (d : Nat) (v : Int) (S : Sto) : BK.call PP 1000 (d + 1) 3 [.int v, .int v] S = .ok (.bl true) S := by
  have h : exes PP (CC d) d 1000 K95.c_law_same.code [some (.int v), some (.int v), none, none, none] S = (okb (weq S (.int v) (.int v)) S).thn (fun w s => .rt w s) := by kernel_rfl
  have e := call_same d (.int v) (.int v) S
  rw [h, weq_int] at e
  exact e.trans (fin_bl true S)
theorem same_str (d : Nat) (v : Str) (hv : PyData.canLay0 (.str v) = true) (S : Sto) : BK.call PP 1000 (d + 1) 3 [.str v, .str v] S = .ok (.bl true) S := by
  have h : exes PP (CC d) d 1000 K95.c_law_same.code [some (.str v), some (.str v), none, none, none] S = .rt (.bl true) S := by
    simp [K95.c_law_same, exes, exe, ev, evs, R.bind, R.thn, prim, pIsi, isi, isOne, isAny, pTup, look, okb, BK.test, pEq, weq_str S v hv, LIM, pIs_, isW, tyName, isTy, plainTys]
  have e := call_same d (.str v) (.str v) S
  rw [h] at e
  exact e.trans (fin_bl true S)
theorem same_non (d : Nat) (S : Sto) : BK.call PP 1000 (d + 1) 3 [.non, .non] S = .ok (.bl true) S := by
  have h : exes PP (CC d) d 1000 K95.c_law_same.code [some .non, some .non, none, none, none] S = .rt (.bl true) S := by kernel_rfl
  have e := call_same d .non .non S
  rw [h] at e
  exact e.trans (fin_bl true S)
theorem same_bl (d : Nat) (b : Bool) (S : Sto) : BK.call PP 1000 (d + 1) 3 [.bl b, .bl b] S = .ok (.bl true) S := by
  have h : exes PP (CC d) d 1000 K95.c_law_same.code [some (.bl b), some (.bl b), none, none, none] S = .rt (.bl true) S := by
    cases b <;> kernel_rfl
  have e := call_same d (.bl b) (.bl b) S
  rw [h] at e
  exact e.trans (fin_bl true S)
def elt1 : Ex := .call 3 [.var 3, .var 4]
theorem same_seq (d : Nat) (u : W) (l : List W) (S : Sto) (hu : u = .lst l ∨ u = .tup l) (hl : l.length ≤ 100)
    (h : ∀ x ∈ l, ∀ S, BK.call PP 1000 d 3 [x, x] S = .ok (.bl true) S) :
    BK.call PP 1000 (d + 1) 3 [u, u] S = .ok (.bl true) S := by
  have hc : ∀ (m : List W) (k : Nat) (e : BK.Env), (∀ x ∈ m, x ∈ l) → m.length + k ≤ 100 → e = [some u, some u, none, none, none] →
      compL (fun _ s => .ok true s) (ev PP (CC d) d elt1) (.tp [.nm 3, .nm 4]) e S.length ((m.zip m).map fun p => .tup [p.1, p.2]) (S ++ [.lst (List.replicate k (.bl true))]) = .ok () (S ++ [.lst (List.replicate (k + m.length) (.bl true))]) := by
    intro m
    induction m with
    | nil => intro k e _ _ _; rfl
    | cons x m ih =>
      intro k e hm hk he
      have hx := h x (hm x (by simp))
      have := ih (k + 1) e (fun y hy => hm y (by simp [hy])) (by simp at hk; omega) he
      simp only [List.zip_cons_cons, List.map_cons, compL]
      subst he
      have ht : tgSet (.tp [.nm 3, .nm 4]) (.tup [x, x]) [some u, some u, none, none, none] = some [some u, some u, none, some x, some x] := by rfl
      have hv : ∀ S, ev PP (CC d) d elt1 [some u, some u, none, some x, some x] S = .ok (.bl true) S := by
        intro S
        simp [elt1, ev, evs, R.bind, hx]
      have hk' : k < LIM := by simp at hk; simp only [LIM]; omega
      simp only [ht, hv, List.getElem?_append_right (Nat.le_refl _), Nat.sub_self, List.getElem?_cons_zero, List.length_replicate, W.low, hk', and_self, if_true]
      rw [List.set_append_right _ _ (Nat.le_refl _)]
      simp only [Nat.sub_self, List.set_cons_zero]
      have hr : List.replicate k (W.bl true) ++ [.bl true] = List.replicate (k + 1) (.bl true) := by rw [List.replicate_succ']
      rw [hr, this]
      simp only [List.length_cons]
      rw [show k + 1 + m.length = k + (m.length + 1) by omega]
  have hc0 := hc l 0 _ (fun _ h => h) (by omega) rfl
  rw [Nat.zero_add, List.replicate_zero] at hc0
  have hb : ∀ k, bools (List.replicate k (W.bl true)) = some (List.replicate k true) := by
    intro k
    induction k with
    | zero => rfl
    | succ k ih => simp [List.replicate_succ, bools, ih]
  have hw : ∀ S, weq S (.bl true) (.bl true) = some true := fun _ => rfl
  have hw2 : ∀ S, weq S (.bl false) (.bl false) = some true := fun _ => rfl
  have hk : ∀ u, (u = W.lst l ∨ u = W.tup l) → ev PP (CC d) d (.comp false (.call 3 [.var 3, .var 4]) [3, 4] (.tp [.nm 3, .nm 4]) (.zip [.var 0, .var 1]) none) [some u, some u, none, none, none] S = (okl (zipped [u, u]) S).bind fun l s => (compL (fun _ s => .ok true s) (ev PP (CC d) d elt1) (.tp [.nm 3, .nm 4]) [some u, some u, none, none, none] s.length l (s ++ [.lst []])).bind fun _ s' => made false s.length s' := fun _ _ => by kernel_rfl
  have hz : okl (zipped [u, u]) S = .ok ((l.zip l).map fun p => .tup [p.1, p.2]) S := by
    rcases hu with rfl | rfl <;> simp [zipped, okl]
  have hcomp := hk u hu
  rw [hz] at hcomp
  simp only [R.bind] at hcomp
  rw [hc0] at hcomp
  simp only [R.bind, made, List.length_append, List.length_singleton, if_true, List.getElem?_append_right (Nat.le_refl _), Nat.sub_self, List.getElem?_cons_zero, List.take_left'] at hcomp
  have hx : exes PP (CC d) d 1000 K95.c_law_same.code [some u, some u, none, none, none] S = .rt (.bl true) S := by
    simp only [K95.c_law_same]
    generalize Ex.comp false (.call 3 [.var 3, .var 4]) [3, 4] (.tp [.nm 3, .nm 4]) (.zip [.var 0, .var 1]) none = E at hcomp ⊢
    rcases hu with rfl | rfl
    · simp [exes, exe, ev, evs, R.bind, R.thn, prim, pIsi, isi, isOne, isAny, tyName, isTy, plainTys, pTup, pLst, look, okb, okw, BK.test, pEq, pNe, hw, hw2, weq_int, pLen, pAll, hb, LIM, hcomp]
    · simp [exes, exe, ev, evs, R.bind, R.thn, prim, pIsi, isi, isOne, isAny, tyName, isTy, plainTys, pTup, pLst, look, okb, okw, BK.test, pEq, pNe, hw, hw2, weq_int, pLen, pAll, hb, LIM, hcomp]
  have e := call_same d u u S
  rw [hx] at e
  exact e.trans (fin_bl true S)
end KN

set_option maxRecDepth 100000
set_option maxHeartbeats 0
namespace KN
open PySem L2 BK
theorem call_very (d : Nat) (u v : W) (S : Sto) : CC (d + 1) 10 [u, v] S = fin true S.length (exes PP (CC d) d 1000 K95.c_law_very.code [some u, some v, none] S) := by kernel_rfl
theorem very_of (d : Nat) {u v : W} {S S' : Sto} (h : exes PP (CC d) d 1000 K95.c_law_very.code [some u, some v, none] S = .rt (.bl true) S') (hl : S'.length = S.length) : BK.call PP 1000 (d + 1) 10 [u, v] S = .ok (.bl true) S' := by
  have e := call_very d u v S
  rw [h] at e
  refine e.trans ?_
  simp [fin, W.low, ← hl]
theorem very_int (d : Nat) (v : Int) (S : Sto) : BK.call PP 1000 (d + 2) 10 [.int v, .int v] S = .ok (.bl true) S := by
  refine very_of (d + 1) ?_ rfl
  simp [K95.c_law_very, exes, exe, ev, evs, R.bind, R.thn, prim, pIsi, isi, isOne, tyName, isTy, plainTys, okb, BK.test, look, BK.plain, same_int]
theorem very_str (d : Nat) (v : Str) (hv : PyData.canLay0 (.str v) = true) (S : Sto) : BK.call PP 1000 (d + 2) 10 [.str v, .str v] S = .ok (.bl true) S := by
  refine very_of (d + 1) ?_ rfl
  simp [K95.c_law_very, exes, exe, ev, evs, R.bind, R.thn, prim, pIsi, isi, isOne, tyName, isTy, plainTys, okb, BK.test, look, BK.plain, same_str d v hv]
theorem very_non (d : Nat) (S : Sto) : BK.call PP 1000 (d + 2) 10 [.non, .non] S = .ok (.bl true) S := by
  refine very_of (d + 1) ?_ rfl
  simp [K95.c_law_very, exes, exe, ev, evs, R.bind, R.thn, prim, pIsi, isi, isOne, tyName, isTy, plainTys, okb, BK.test, look, BK.plain, same_non]
theorem very_bl (d : Nat) (b : Bool) (S : Sto) : BK.call PP 1000 (d + 2) 10 [.bl b, .bl b] S = .ok (.bl true) S := by
  refine very_of (d + 1) ?_ rfl
  simp [K95.c_law_very, exes, exe, ev, evs, R.bind, R.thn, prim, pIsi, isi, isOne, tyName, isTy, plainTys, okb, BK.test, look, BK.plain, same_bl]
theorem very_tup (d : Nat) (j : Int) (S : Sto) : BK.call PP 1000 (d + 3) 10 [.tup [.int 1, .int j], .tup [.int 1, .int j]] S = .ok (.bl true) S := by
  refine very_of (d + 2) ?_ rfl
  have hs : ∀ S, BK.call PP 1000 (d + 2) 3 [.tup [.int 1, .int j], .tup [.int 1, .int j]] S = .ok (.bl true) S := fun S => same_seq (d + 1) _ [.int 1, .int j] S (.inr rfl) (by simp) (by
    intro x hx S
    simp at hx
    rcases hx with rfl | rfl <;> exact same_int d _ S)
  simp [K95.c_law_very, exes, exe, ev, evs, R.bind, R.thn, prim, pIsi, isi, isOne, tyName, isTy, plainTys, okb, BK.test, look, BK.plain, hs]
/-- the list or the dict at n -/
def at2 (x y : O) (o : O) (rest : Sto) : Sto := x :: y :: o :: rest
def at3 (x y z : O) (o : O) (rest : Sto) : Sto := x :: y :: z :: o :: rest
theorem same_lst (d : Nat) (j : Int) (S : Sto) : BK.call PP 1000 (d + 3) 3 [.lst [.int j, .lst [.int 1]], .lst [.int j, .lst [.int 1]]] S = .ok (.bl true) S := same_seq (d + 2) _ _ S (.inl rfl) (by simp) (by
    intro x hx S
    simp at hx
    rcases hx with rfl | rfl
    · exact same_int (d + 1) _ S
    · exact same_seq (d + 1) _ [.int 1] S (.inl rfl) (by decide) (by
        intro x hx S
        simp at hx
        subst hx
        exact same_int d _ S))
theorem weq_more (S : Sto) : weq S (.str "more") (.str "more") = some true := weq_str S "more" (by decide +kernel)
theorem weq_n (S : Sto) (n : Int) : weq S (.int n) (.int n) = some true := weq_int S n
theorem very_lst2 (d : Nat) (j : Int) (x y : O) (rest : Sto) : BK.call PP 1000 (d + 4) 10 [.ref 2, .ref 2] (x :: y :: .lst [.int j, .lst [.int 1]] :: rest) = .ok (.bl true) (x :: y :: .lst [.int j, .lst [.int 1]] :: rest) := by
  refine very_of (d + 3) ?_ (by simp)
  simp [K95.c_law_very, exes, exe, ev, evs, R.bind, R.thn, prim, pIsi, isi, isOne, tyName, isTy, plainTys, okb, okw, BK.test, look, BK.plain, recv, recv.lstAt, pAppend, pPop, pLen, pEq, pNeg, pIdx, ixAt, tgSet, W.low, LIM, weq_n, weq_more, same_lst]
theorem very_lst3 (d : Nat) (j : Int) (x y z : O) (rest : Sto) : BK.call PP 1000 (d + 4) 10 [.ref 3, .ref 3] (x :: y :: z :: .lst [.int j, .lst [.int 1]] :: rest) = .ok (.bl true) (x :: y :: z :: .lst [.int j, .lst [.int 1]] :: rest) := by
  refine very_of (d + 3) ?_ (by simp)
  simp [K95.c_law_very, exes, exe, ev, evs, R.bind, R.thn, prim, pIsi, isi, isOne, tyName, isTy, plainTys, okb, okw, BK.test, look, BK.plain, recv, recv.lstAt, pAppend, pPop, pLen, pEq, pNeg, pIdx, ixAt, tgSet, W.low, LIM, weq_n, weq_more, same_lst]
theorem same_a (d : Nat) (S : Sto) : BK.call PP 1000 (d + 2) 3 [.lst [.str "a"], .lst [.str "a"]] S = .ok (.bl true) S := same_seq (d + 1) _ [.str "a"] S (.inl rfl) (by simp) (by
    intro x hx S
    simp at hx
    subst hx
    exact same_str d "a" (by decide +kernel) S)
theorem same_dct (d : Nat) (j : Int) (S : Sto) : BK.call PP 1000 (d + 3) 3 [.dct [(.inr "a", .int j)], .dct [(.inr "a", .int j)]] S = .ok (.bl true) S := by
  have hs : ∀ S, BK.call PP 1000 (d + 2) 3 [.lst [.str "a"], .lst [.str "a"]] S = .ok (.bl true) S := same_a d
  have hi : ∀ v S, BK.call PP 1000 (d + 2) 3 [.int v, .int v] S = .ok (.bl true) S := fun v S => same_int (d + 1) v S
  have h1 : ev PP (CC (d + 2)) (d + 2) (.call 3 [.pr .list [.var 0], .pr .list [.var 1]]) [some (.dct [(.inr "a", .int j)]), some (.dct [(.inr "a", .int j)]), none, none, none] S = BK.call PP 1000 (d + 2) 3 [.lst [.str "a"], .lst [.str "a"]] S := by kernel_rfl
  have hk : ev PP (CC (d + 2)) (d + 2) (.comp false (.call 3 [.pr .idx [.var 0, .var 2], .pr .idx [.var 1, .var 2]]) [2] (.nm 2) (.keys 1) none) [some (.dct [(.inr "a", .int j)]), some (.dct [(.inr "a", .int j)]), none, none, none] S = .ok (.lst [.bl true]) S := by
    have g1 : ev PP (CC (d + 2)) (d + 2) (.comp false (.call 3 [.pr .idx [.var 0, .var 2], .pr .idx [.var 1, .var 2]]) [2] (.nm 2) (.keys 1) none) [some (.dct [(.inr "a", .int j)]), some (.dct [(.inr "a", .int j)]), none, none, none] S = (compL (fun _ s => .ok true s) (ev PP (CC (d + 2)) (d + 2) (.call 3 [.pr .idx [.var 0, .var 2], .pr .idx [.var 1, .var 2]])) (.nm 2) [some (.dct [(.inr "a", .int j)]), some (.dct [(.inr "a", .int j)]), none, none, none] S.length [.str "a"] (S ++ [.lst []])).bind fun _ s' => made false S.length s' := by kernel_rfl
    have g2 : ∀ T, ev PP (CC (d + 2)) (d + 2) (.call 3 [.pr .idx [.var 0, .var 2], .pr .idx [.var 1, .var 2]]) [some (.dct [(.inr "a", .int j)]), some (.dct [(.inr "a", .int j)]), some (.str "a"), none, none] T = BK.call PP 1000 (d + 2) 3 [.int j, .int j] T := fun T => by kernel_rfl
    rw [g1]
    generalize Ex.call 3 [.pr .idx [.var 0, .var 2], .pr .idx [.var 1, .var 2]] = E at g2 ⊢
    simp [compL, tgSet, g2, hi, W.low, LIM, R.bind, made]
  have hx : exes PP (CC (d + 2)) (d + 2) 1000 K95.c_law_same.code [some (.dct [(.inr "a", .int j)]), some (.dct [(.inr "a", .int j)]), none, none, none] S = .rt (.bl true) S := by
    rw [hs] at h1
    simp only [K95.c_law_same]
    generalize Ex.comp false (.call 3 [.pr .idx [.var 0, .var 2], .pr .idx [.var 1, .var 2]]) [2] (.nm 2) (.keys 1) none = E at hk ⊢
    generalize Ex.call 3 [.pr .list [.var 0], .pr .list [.var 1]] = E1 at h1 ⊢
    simp [exes, exe, ev, evs, R.bind, R.thn, prim, pIsi, isi, isOne, isAny, tyName, isTy, plainTys, pTup, look, okb, BK.test, pAll, bools, h1, hk, LIM]
  have e := call_same (d + 2) (.dct [(.inr "a", .int j)]) (.dct [(.inr "a", .int j)]) S
  rw [hx] at e
  exact e.trans (fin_bl true S)
def vR : BK.St := .ret (.and (.var 2) (.brw [0, 1] (.call 3 [.var 0, .var 1])))
def vB : List BK.St := [.put (.var 1) (.lit (.str "more")) (.lit (.int (1))), .set (.nm 2) (.and (.pr .isi [.var 0, .lit (.ty "dict")]) (.and (.pr .isin [.lit (.str "more"), .var 0]) (.pr .eq [.pr .len [.var 0], .pr .len [.var 1]]))), .ex (.mth .popD (.var 1) [.lit (.str "more")]), vR]
def v1 : BK.St := .ite (.pr .isi [.var 1, .lit (.ty "list")]) [.ex (.mth .append (.var 1) [.lit (.str "more")]), .set (.nm 2) (.and (.pr .isi [.var 0, .lit (.ty "list")]) (.and (.pr .eq [.pr .len [.var 0], .pr .len [.var 1]]) (.pr .eq [.pr .idx [.var 0, .pr .neg [.lit (.int (1))]], .lit (.str "more")]))), .ex (.mth .pop (.var 1) []), vR] []
def v2 : BK.St := .ite (.pr .isi [.var 1, .lit (.ty "dict")]) vB []
def v3 : BK.St := .ret (.brw [0, 1] (.call 3 [.var 0, .var 1]))
theorem very_dct2 (d : Nat) (j : Int) (x y : O) (rest : Sto) : BK.call PP 1000 (d + 4) 10 [.ref 2, .ref 2] (x :: y :: .dct [(.inr "a", .int j)] :: rest) = .ok (.bl true) (x :: y :: .dct [(.inr "a", .int j)] :: rest) := by
  refine very_of (d + 3) ?_ (by simp)
  have hb : exe PP (CC (d + 3)) (d + 3) 1000 (.ret (.and (.var 2) (.brw [0, 1] (.call 3 [.var 0, .var 1])))) [some (.ref 2), some (.ref 2), some (.bl true)] (x :: y :: .dct [(.inr "a", .int j)] :: rest) = .rt (.bl true) (x :: y :: .dct [(.inr "a", .int j)] :: rest) := by
    simp [exe, ev, evs, R.bind, R.thn, look, BK.plain, BK.test, same_dct]
  have h1 : exe PP (CC (d + 3)) (d + 3) 1000 v1 [some (.ref 2), some (.ref 2), none] (x :: y :: .dct [(.inr "a", .int j)] :: rest) = .nx [some (.ref 2), some (.ref 2), none] (x :: y :: .dct [(.inr "a", .int j)] :: rest) := by kernel_rfl
  have h2 : exe PP (CC (d + 3)) (d + 3) 1000 v2 [some (.ref 2), some (.ref 2), none] (x :: y :: .dct [(.inr "a", .int j)] :: rest) = exes PP (CC (d + 3)) (d + 3) 1000 vB [some (.ref 2), some (.ref 2), none] (x :: y :: .dct [(.inr "a", .int j)] :: rest) := by kernel_rfl
  have h3 : exes PP (CC (d + 3)) (d + 3) 1000 vB [some (.ref 2), some (.ref 2), none] (x :: y :: .dct [(.inr "a", .int j)] :: rest) = exes PP (CC (d + 3)) (d + 3) 1000 [vR] [some (.ref 2), some (.ref 2), some (.bl true)] (x :: y :: .dct [(.inr "a", .int j)] :: rest) := by kernel_rfl
  have hb : exe PP (CC (d + 3)) (d + 3) 1000 vR [some (.ref 2), some (.ref 2), some (.bl true)] (x :: y :: .dct [(.inr "a", .int j)] :: rest) = .rt (.bl true) (x :: y :: .dct [(.inr "a", .int j)] :: rest) := hb
  have hc : K95.c_law_very.code = [v1, v2, v3] := rfl
  rw [hc]
  simp only [exes, h1, h2, h3, hb]
theorem very_dct3 (d : Nat) (j : Int) (x y z : O) (rest : Sto) : BK.call PP 1000 (d + 4) 10 [.ref 3, .ref 3] (x :: y :: z :: .dct [(.inr "a", .int j)] :: rest) = .ok (.bl true) (x :: y :: z :: .dct [(.inr "a", .int j)] :: rest) := by
  refine very_of (d + 3) ?_ (by simp)
  have hb : exe PP (CC (d + 3)) (d + 3) 1000 (.ret (.and (.var 2) (.brw [0, 1] (.call 3 [.var 0, .var 1])))) [some (.ref 3), some (.ref 3), some (.bl true)] (x :: y :: z :: .dct [(.inr "a", .int j)] :: rest) = .rt (.bl true) (x :: y :: z :: .dct [(.inr "a", .int j)] :: rest) := by
    simp [exe, ev, evs, R.bind, R.thn, look, BK.plain, BK.test, same_dct]
  have h1 : exe PP (CC (d + 3)) (d + 3) 1000 v1 [some (.ref 3), some (.ref 3), none] (x :: y :: z :: .dct [(.inr "a", .int j)] :: rest) = .nx [some (.ref 3), some (.ref 3), none] (x :: y :: z :: .dct [(.inr "a", .int j)] :: rest) := by kernel_rfl
  have h2 : exe PP (CC (d + 3)) (d + 3) 1000 v2 [some (.ref 3), some (.ref 3), none] (x :: y :: z :: .dct [(.inr "a", .int j)] :: rest) = exes PP (CC (d + 3)) (d + 3) 1000 vB [some (.ref 3), some (.ref 3), none] (x :: y :: z :: .dct [(.inr "a", .int j)] :: rest) := by kernel_rfl
  have h3 : exes PP (CC (d + 3)) (d + 3) 1000 vB [some (.ref 3), some (.ref 3), none] (x :: y :: z :: .dct [(.inr "a", .int j)] :: rest) = exes PP (CC (d + 3)) (d + 3) 1000 [vR] [some (.ref 3), some (.ref 3), some (.bl true)] (x :: y :: z :: .dct [(.inr "a", .int j)] :: rest) := by kernel_rfl
  have hb : exe PP (CC (d + 3)) (d + 3) 1000 vR [some (.ref 3), some (.ref 3), some (.bl true)] (x :: y :: z :: .dct [(.inr "a", .int j)] :: rest) = .rt (.bl true) (x :: y :: z :: .dct [(.inr "a", .int j)] :: rest) := hb
  have hc : K95.c_law_very.code = [v1, v2, v3] := rfl
  rw [hc]
  simp only [exes, h1, h2, h3, hb]
theorem str_ok (i : Int) (h0 : 0 ≤ i) (h : i < 99) : PyData.canLay0 (.str ("w" ++ Str.ofString (toString i))) = true := by
  have : ∀ k : Nat, k < 99 → PyData.canLay0 (.str ("w" ++ Str.ofString (toString (k : Int)))) = true := by decide +kernel
  obtain ⟨k, rfl⟩ := Int.eq_ofNat_of_zero_le h0
  exact this k (by omega)
/-- the first thing, whatever stands behind -/
theorem very2 {w : W} {m : Sto} (h : Thing 2 w m) (x y : O) (rest : Sto) : BK.call PP 1000 19 10 [w, w] (x :: y :: (m ++ rest)) = .ok (.bl true) (x :: y :: (m ++ rest)) := by
  cases h with
  | int v => exact very_int 17 v _
  | str i h0 h1 => exact very_str 17 _ (str_ok i h0 h1) _
  | non => exact very_non 17 _
  | bl b => exact very_bl 17 b _
  | tup j => exact very_tup 16 j _
  | lst j => exact very_lst2 15 j x y rest
  | dct j => exact very_dct2 15 j x y rest
theorem very3 {w u : W} {m m2 : Sto} (h0 : Thing 2 u m) (h : Thing (m.length + 2) w m2) (x y : O) : BK.call PP 1000 19 10 [w, w] (x :: y :: (m ++ m2)) = .ok (.bl true) (x :: y :: (m ++ m2)) := by
  have key : (m = [] ∨ ∃ z, m = [z]) := by cases h0 <;> first | exact .inl rfl | exact .inr ⟨_, rfl⟩
  rcases key with rfl | ⟨z, rfl⟩
  · have := very2 h x y []
    simpa using this
  · cases h with
    | int v => exact very_int 17 v _
    | str i h0 h1 => exact very_str 17 _ (str_ok i h0 h1) _
    | non => exact very_non 17 _
    | bl b => exact very_bl 17 b _
    | tup j => exact very_tup 16 j _
    | lst j => exact very_lst3 15 j x y z []
    | dct j => exact very_dct3 15 j x y z []
end KN

set_option maxRecDepth 100000
set_option maxHeartbeats 0
namespace KN
open PySem L2 BK
def exn (at_ : Nat) (w : W) : W := match at_ with
  | 0 => .exn 12 [("index", w)] | 1 => .exn 13 [("prices", w)] | 2 => .exn 14 [("edit", w)] | 3 => .exn 15 [("session", w)] | 4 => .exn 16 [("line", w)] | 5 => .exn 17 [("index", w)] | 6 => .exn 18 [("many", w)] | 7 => .exn 19 [("parting", w)] | 8 => .exn 20 [] | _ => .exn 21 []
theorem low_exn (k n : Nat) {w : W} (h : w.low n = true) : (exn k w).low n = true := by
  unfold exn
  split <;> simp [W.low, W.lowf, h]
theorem call_a (u v : W) (S : Sto) : CC 18 7 [u, v] S = fin true S.length (exes PP (CC 17) 17 1000 K95.c_law_made_a.code [some u, some v, none] S) := by kernel_rfl
theorem call_at (u v : W) (S : Sto) : CC 19 8 [u, v] S = fin true S.length (exes PP (CC 18) 18 1000 K95.c_law_made_at.code [some u, some v] S) := by kernel_rfl
theorem fin_tup (k : Nat) {w : W} {S : Sto} (h : w.low S.length = true) : fin true S.length (.rt (.tup [exn k w, w]) S) = .ok (.tup [exn k w, w]) S := by
  simp [fin, W.low, W.lows, low_exn k S.length h, h]
theorem ma_0 (w : W) (S : Sto) : exes PP (CC 17) 17 1000 K95.c_law_made_a.code [some (.int 0), some w, none] S = .rt (.tup [exn 0 w, w]) S := by kernel_rfl
theorem mt_0 (w : W) (S : Sto) (h : w.low S.length = true) : BK.call PP 1000 19 8 [.int 0, w] S = .ok (.tup [exn 0 w, w]) S := by
  have e := call_a (.int 0) w S
  rw [ma_0, fin_tup 0 h] at e
  have e' : BK.call PP 1000 18 7 [.int 0, w] S = .ok (.tup [exn 0 w, w]) S := e
  have e2 : exes PP (CC 18) 18 1000 K95.c_law_made_at.code [some (.int 0), some w] S = .rt (.tup [exn 0 w, w]) S := by
    simp [K95.c_law_made_at, exes, exe, ev, evs, R.bind, R.thn, prim, pLt, cmpI, okb, BK.test, e']
  have e3 := call_at (.int 0) w S
  rw [e2] at e3
  exact e3.trans (fin_tup 0 h)
theorem ma_1 (w : W) (S : Sto) : exes PP (CC 17) 17 1000 K95.c_law_made_a.code [some (.int 1), some w, none] S = .rt (.tup [exn 1 w, w]) S := by kernel_rfl
theorem mt_1 (w : W) (S : Sto) (h : w.low S.length = true) : BK.call PP 1000 19 8 [.int 1, w] S = .ok (.tup [exn 1 w, w]) S := by
  have e := call_a (.int 1) w S
  rw [ma_1, fin_tup 1 h] at e
  have e' : BK.call PP 1000 18 7 [.int 1, w] S = .ok (.tup [exn 1 w, w]) S := e
  have e2 : exes PP (CC 18) 18 1000 K95.c_law_made_at.code [some (.int 1), some w] S = .rt (.tup [exn 1 w, w]) S := by
    simp [K95.c_law_made_at, exes, exe, ev, evs, R.bind, R.thn, prim, pLt, cmpI, okb, BK.test, e']
  have e3 := call_at (.int 1) w S
  rw [e2] at e3
  exact e3.trans (fin_tup 1 h)
theorem ma_2 (w : W) (S : Sto) : exes PP (CC 17) 17 1000 K95.c_law_made_a.code [some (.int 2), some w, none] S = .rt (.tup [exn 2 w, w]) S := by kernel_rfl
theorem mt_2 (w : W) (S : Sto) (h : w.low S.length = true) : BK.call PP 1000 19 8 [.int 2, w] S = .ok (.tup [exn 2 w, w]) S := by
  have e := call_a (.int 2) w S
  rw [ma_2, fin_tup 2 h] at e
  have e' : BK.call PP 1000 18 7 [.int 2, w] S = .ok (.tup [exn 2 w, w]) S := e
  have e2 : exes PP (CC 18) 18 1000 K95.c_law_made_at.code [some (.int 2), some w] S = .rt (.tup [exn 2 w, w]) S := by
    simp [K95.c_law_made_at, exes, exe, ev, evs, R.bind, R.thn, prim, pLt, cmpI, okb, BK.test, e']
  have e3 := call_at (.int 2) w S
  rw [e2] at e3
  exact e3.trans (fin_tup 2 h)
theorem ma_3 (w : W) (S : Sto) : exes PP (CC 17) 17 1000 K95.c_law_made_a.code [some (.int 3), some w, none] S = .rt (.tup [exn 3 w, w]) S := by kernel_rfl
theorem mt_3 (w : W) (S : Sto) (h : w.low S.length = true) : BK.call PP 1000 19 8 [.int 3, w] S = .ok (.tup [exn 3 w, w]) S := by
  have e := call_a (.int 3) w S
  rw [ma_3, fin_tup 3 h] at e
  have e' : BK.call PP 1000 18 7 [.int 3, w] S = .ok (.tup [exn 3 w, w]) S := e
  have e2 : exes PP (CC 18) 18 1000 K95.c_law_made_at.code [some (.int 3), some w] S = .rt (.tup [exn 3 w, w]) S := by
    simp [K95.c_law_made_at, exes, exe, ev, evs, R.bind, R.thn, prim, pLt, cmpI, okb, BK.test, e']
  have e3 := call_at (.int 3) w S
  rw [e2] at e3
  exact e3.trans (fin_tup 3 h)
theorem ma_4 (w : W) (S : Sto) : exes PP (CC 17) 17 1000 K95.c_law_made_a.code [some (.int 4), some w, none] S = .rt (.tup [exn 4 w, w]) S := by kernel_rfl
theorem mt_4 (w : W) (S : Sto) (h : w.low S.length = true) : BK.call PP 1000 19 8 [.int 4, w] S = .ok (.tup [exn 4 w, w]) S := by
  have e := call_a (.int 4) w S
  rw [ma_4, fin_tup 4 h] at e
  have e' : BK.call PP 1000 18 7 [.int 4, w] S = .ok (.tup [exn 4 w, w]) S := e
  have e2 : exes PP (CC 18) 18 1000 K95.c_law_made_at.code [some (.int 4), some w] S = .rt (.tup [exn 4 w, w]) S := by
    simp [K95.c_law_made_at, exes, exe, ev, evs, R.bind, R.thn, prim, pLt, cmpI, okb, BK.test, e']
  have e3 := call_at (.int 4) w S
  rw [e2] at e3
  exact e3.trans (fin_tup 4 h)
theorem ma_5 (w : W) (S : Sto) : exes PP (CC 17) 17 1000 K95.c_law_made_a.code [some (.int 5), some w, none] S = .rt (.tup [exn 5 w, w]) S := by kernel_rfl
theorem mt_5 (w : W) (S : Sto) (h : w.low S.length = true) : BK.call PP 1000 19 8 [.int 5, w] S = .ok (.tup [exn 5 w, w]) S := by
  have e := call_a (.int 5) w S
  rw [ma_5, fin_tup 5 h] at e
  have e' : BK.call PP 1000 18 7 [.int 5, w] S = .ok (.tup [exn 5 w, w]) S := e
  have e2 : exes PP (CC 18) 18 1000 K95.c_law_made_at.code [some (.int 5), some w] S = .rt (.tup [exn 5 w, w]) S := by
    simp [K95.c_law_made_at, exes, exe, ev, evs, R.bind, R.thn, prim, pLt, cmpI, okb, BK.test, e']
  have e3 := call_at (.int 5) w S
  rw [e2] at e3
  exact e3.trans (fin_tup 5 h)
theorem ma_6 (w : W) (S : Sto) : exes PP (CC 17) 17 1000 K95.c_law_made_a.code [some (.int 6), some w, none] S = .rt (.tup [exn 6 w, w]) S := by kernel_rfl
theorem mt_6 (w : W) (S : Sto) (h : w.low S.length = true) : BK.call PP 1000 19 8 [.int 6, w] S = .ok (.tup [exn 6 w, w]) S := by
  have e := call_a (.int 6) w S
  rw [ma_6, fin_tup 6 h] at e
  have e' : BK.call PP 1000 18 7 [.int 6, w] S = .ok (.tup [exn 6 w, w]) S := e
  have e2 : exes PP (CC 18) 18 1000 K95.c_law_made_at.code [some (.int 6), some w] S = .rt (.tup [exn 6 w, w]) S := by
    simp [K95.c_law_made_at, exes, exe, ev, evs, R.bind, R.thn, prim, pLt, cmpI, okb, BK.test, e']
  have e3 := call_at (.int 6) w S
  rw [e2] at e3
  exact e3.trans (fin_tup 6 h)
theorem ma_7 (w : W) (S : Sto) : exes PP (CC 17) 17 1000 K95.c_law_made_a.code [some (.int 7), some w, none] S = .rt (.tup [exn 7 w, w]) S := by kernel_rfl
theorem mt_7 (w : W) (S : Sto) (h : w.low S.length = true) : BK.call PP 1000 19 8 [.int 7, w] S = .ok (.tup [exn 7 w, w]) S := by
  have e := call_a (.int 7) w S
  rw [ma_7, fin_tup 7 h] at e
  have e' : BK.call PP 1000 18 7 [.int 7, w] S = .ok (.tup [exn 7 w, w]) S := e
  have e2 : exes PP (CC 18) 18 1000 K95.c_law_made_at.code [some (.int 7), some w] S = .rt (.tup [exn 7 w, w]) S := by
    simp [K95.c_law_made_at, exes, exe, ev, evs, R.bind, R.thn, prim, pLt, cmpI, okb, BK.test, e']
  have e3 := call_at (.int 7) w S
  rw [e2] at e3
  exact e3.trans (fin_tup 7 h)
theorem mt_8 (w : W) (S : Sto) (h : w.low S.length = true) : BK.call PP 1000 19 8 [.int 8, w] S = .ok (.tup [exn 8 w, w]) S := by
  have e2 : exes PP (CC 18) 18 1000 K95.c_law_made_at.code [some (.int 8), some w] S = .rt (.tup [exn 8 w, w]) S := by kernel_rfl
  have e3 := call_at (.int 8) w S
  rw [e2] at e3
  exact e3.trans (fin_tup 8 h)
theorem mt_9 (w : W) (S : Sto) (h : w.low S.length = true) : BK.call PP 1000 19 8 [.int 9, w] S = .ok (.tup [exn 9 w, w]) S := by
  have e2 : exes PP (CC 18) 18 1000 K95.c_law_made_at.code [some (.int 9), some w] S = .rt (.tup [exn 9 w, w]) S := by kernel_rfl
  have e3 := call_at (.int 9) w S
  rw [e2] at e3
  exact e3.trans (fin_tup 9 h)
theorem made_ok (k : Nat) (hk : k < 10) (w : W) (S : Sto) (h : w.low S.length = true) : BK.call PP 1000 19 8 [.int (k : Int), w] S = .ok (.tup [exn k w, w]) S := by
  match k, hk with
  | 0, _ => exact mt_0 w S h
  | 1, _ => exact mt_1 w S h
  | 2, _ => exact mt_2 w S h
  | 3, _ => exact mt_3 w S h
  | 4, _ => exact mt_4 w S h
  | 5, _ => exact mt_5 w S h
  | 6, _ => exact mt_6 w S h
  | 7, _ => exact mt_7 w S h
  | 8, _ => exact mt_8 w S h
  | 9, _ => exact mt_9 w S h
def iA : BK.St := .ite (.or (.not (.pr .isi [.var 6, .lit (.cls 0)])) (.or (.not (.pr .isi [.var 6, .lit (.ty "ValueError")])) (.pr .ne [.call 4 [.var 6], .pr .lst [.var 3]]))) [.ret (.lit (.bl false))] []
def iB : BK.St := .ite (.or (.call 6 [.var 6]) (.or (.pr .isi [.var 6, .pr .tup [.lit (.ty "KeyError"), .lit (.ty "IndexError"), .lit (.ty "TypeError")]]) (.not (.pr .isi [.var 8, .lit (.cls 0)])))) [.ret (.lit (.bl false))] []
def E11 (x0 : W) (x2 x3 x4 x5 x6 x7 x8 x9 x10 : Option W) : BK.Env := [some x0, some (.ref 1), x2, x3, x4, x5, x6, x7, x8, x9, x10]
def EM (k : Nat) (w u x0 : W) (x2 x10 : Option W) : BK.Env := E11 x0 x2 (some (.int (k : Int))) (some w) (some u) (some (exn k w)) (some w) (some (exn k u)) (some u) x10
theorem ab_0_0 (w u x0 : W) (x2 x10 : Option W) (x y z t : O) : exes PP (CC 19) 19 1000 [iA, iB] (EM 0 w u x0 x2 x10) [x, y] = .nx (EM 0 w u x0 x2 x10) [x, y] := by kernel_rfl
theorem ab_0_1 (w u x0 : W) (x2 x10 : Option W) (x y z t : O) : exes PP (CC 19) 19 1000 [iA, iB] (EM 0 w u x0 x2 x10) [x, y, z] = .nx (EM 0 w u x0 x2 x10) [x, y, z] := by kernel_rfl
theorem ab_0_2 (w u x0 : W) (x2 x10 : Option W) (x y z t : O) : exes PP (CC 19) 19 1000 [iA, iB] (EM 0 w u x0 x2 x10) [x, y, z, t] = .nx (EM 0 w u x0 x2 x10) [x, y, z, t] := by kernel_rfl
theorem ab_1_0 (w u x0 : W) (x2 x10 : Option W) (x y z t : O) : exes PP (CC 19) 19 1000 [iA, iB] (EM 1 w u x0 x2 x10) [x, y] = .nx (EM 1 w u x0 x2 x10) [x, y] := by kernel_rfl
theorem ab_1_1 (w u x0 : W) (x2 x10 : Option W) (x y z t : O) : exes PP (CC 19) 19 1000 [iA, iB] (EM 1 w u x0 x2 x10) [x, y, z] = .nx (EM 1 w u x0 x2 x10) [x, y, z] := by kernel_rfl
theorem ab_1_2 (w u x0 : W) (x2 x10 : Option W) (x y z t : O) : exes PP (CC 19) 19 1000 [iA, iB] (EM 1 w u x0 x2 x10) [x, y, z, t] = .nx (EM 1 w u x0 x2 x10) [x, y, z, t] := by kernel_rfl
theorem ab_2_0 (w u x0 : W) (x2 x10 : Option W) (x y z t : O) : exes PP (CC 19) 19 1000 [iA, iB] (EM 2 w u x0 x2 x10) [x, y] = .nx (EM 2 w u x0 x2 x10) [x, y] := by kernel_rfl
theorem ab_2_1 (w u x0 : W) (x2 x10 : Option W) (x y z t : O) : exes PP (CC 19) 19 1000 [iA, iB] (EM 2 w u x0 x2 x10) [x, y, z] = .nx (EM 2 w u x0 x2 x10) [x, y, z] := by kernel_rfl
theorem ab_2_2 (w u x0 : W) (x2 x10 : Option W) (x y z t : O) : exes PP (CC 19) 19 1000 [iA, iB] (EM 2 w u x0 x2 x10) [x, y, z, t] = .nx (EM 2 w u x0 x2 x10) [x, y, z, t] := by kernel_rfl
theorem ab_3_0 (w u x0 : W) (x2 x10 : Option W) (x y z t : O) : exes PP (CC 19) 19 1000 [iA, iB] (EM 3 w u x0 x2 x10) [x, y] = .nx (EM 3 w u x0 x2 x10) [x, y] := by kernel_rfl
theorem ab_3_1 (w u x0 : W) (x2 x10 : Option W) (x y z t : O) : exes PP (CC 19) 19 1000 [iA, iB] (EM 3 w u x0 x2 x10) [x, y, z] = .nx (EM 3 w u x0 x2 x10) [x, y, z] := by kernel_rfl
theorem ab_3_2 (w u x0 : W) (x2 x10 : Option W) (x y z t : O) : exes PP (CC 19) 19 1000 [iA, iB] (EM 3 w u x0 x2 x10) [x, y, z, t] = .nx (EM 3 w u x0 x2 x10) [x, y, z, t] := by kernel_rfl
theorem ab_4_0 (w u x0 : W) (x2 x10 : Option W) (x y z t : O) : exes PP (CC 19) 19 1000 [iA, iB] (EM 4 w u x0 x2 x10) [x, y] = .nx (EM 4 w u x0 x2 x10) [x, y] := by kernel_rfl
theorem ab_4_1 (w u x0 : W) (x2 x10 : Option W) (x y z t : O) : exes PP (CC 19) 19 1000 [iA, iB] (EM 4 w u x0 x2 x10) [x, y, z] = .nx (EM 4 w u x0 x2 x10) [x, y, z] := by kernel_rfl
theorem ab_4_2 (w u x0 : W) (x2 x10 : Option W) (x y z t : O) : exes PP (CC 19) 19 1000 [iA, iB] (EM 4 w u x0 x2 x10) [x, y, z, t] = .nx (EM 4 w u x0 x2 x10) [x, y, z, t] := by kernel_rfl
theorem ab_5_0 (w u x0 : W) (x2 x10 : Option W) (x y z t : O) : exes PP (CC 19) 19 1000 [iA, iB] (EM 5 w u x0 x2 x10) [x, y] = .nx (EM 5 w u x0 x2 x10) [x, y] := by kernel_rfl
theorem ab_5_1 (w u x0 : W) (x2 x10 : Option W) (x y z t : O) : exes PP (CC 19) 19 1000 [iA, iB] (EM 5 w u x0 x2 x10) [x, y, z] = .nx (EM 5 w u x0 x2 x10) [x, y, z] := by kernel_rfl
theorem ab_5_2 (w u x0 : W) (x2 x10 : Option W) (x y z t : O) : exes PP (CC 19) 19 1000 [iA, iB] (EM 5 w u x0 x2 x10) [x, y, z, t] = .nx (EM 5 w u x0 x2 x10) [x, y, z, t] := by kernel_rfl
theorem ab_6_0 (w u x0 : W) (x2 x10 : Option W) (x y z t : O) : exes PP (CC 19) 19 1000 [iA, iB] (EM 6 w u x0 x2 x10) [x, y] = .nx (EM 6 w u x0 x2 x10) [x, y] := by kernel_rfl
theorem ab_6_1 (w u x0 : W) (x2 x10 : Option W) (x y z t : O) : exes PP (CC 19) 19 1000 [iA, iB] (EM 6 w u x0 x2 x10) [x, y, z] = .nx (EM 6 w u x0 x2 x10) [x, y, z] := by kernel_rfl
theorem ab_6_2 (w u x0 : W) (x2 x10 : Option W) (x y z t : O) : exes PP (CC 19) 19 1000 [iA, iB] (EM 6 w u x0 x2 x10) [x, y, z, t] = .nx (EM 6 w u x0 x2 x10) [x, y, z, t] := by kernel_rfl
theorem ab_7_0 (w u x0 : W) (x2 x10 : Option W) (x y z t : O) : exes PP (CC 19) 19 1000 [iA, iB] (EM 7 w u x0 x2 x10) [x, y] = .nx (EM 7 w u x0 x2 x10) [x, y] := by kernel_rfl
theorem ab_7_1 (w u x0 : W) (x2 x10 : Option W) (x y z t : O) : exes PP (CC 19) 19 1000 [iA, iB] (EM 7 w u x0 x2 x10) [x, y, z] = .nx (EM 7 w u x0 x2 x10) [x, y, z] := by kernel_rfl
theorem ab_7_2 (w u x0 : W) (x2 x10 : Option W) (x y z t : O) : exes PP (CC 19) 19 1000 [iA, iB] (EM 7 w u x0 x2 x10) [x, y, z, t] = .nx (EM 7 w u x0 x2 x10) [x, y, z, t] := by kernel_rfl
theorem ab_8_0 (w u x0 : W) (x2 x10 : Option W) (x y z t : O) : exes PP (CC 19) 19 1000 [iA, iB] (EM 8 w u x0 x2 x10) [x, y] = .nx (EM 8 w u x0 x2 x10) [x, y] := by kernel_rfl
theorem ab_8_1 (w u x0 : W) (x2 x10 : Option W) (x y z t : O) : exes PP (CC 19) 19 1000 [iA, iB] (EM 8 w u x0 x2 x10) [x, y, z] = .nx (EM 8 w u x0 x2 x10) [x, y, z] := by kernel_rfl
theorem ab_8_2 (w u x0 : W) (x2 x10 : Option W) (x y z t : O) : exes PP (CC 19) 19 1000 [iA, iB] (EM 8 w u x0 x2 x10) [x, y, z, t] = .nx (EM 8 w u x0 x2 x10) [x, y, z, t] := by kernel_rfl
theorem ab_9_0 (w u x0 : W) (x2 x10 : Option W) (x y z t : O) : exes PP (CC 19) 19 1000 [iA, iB] (EM 9 w u x0 x2 x10) [x, y] = .nx (EM 9 w u x0 x2 x10) [x, y] := by kernel_rfl
theorem ab_9_1 (w u x0 : W) (x2 x10 : Option W) (x y z t : O) : exes PP (CC 19) 19 1000 [iA, iB] (EM 9 w u x0 x2 x10) [x, y, z] = .nx (EM 9 w u x0 x2 x10) [x, y, z] := by kernel_rfl
theorem ab_9_2 (w u x0 : W) (x2 x10 : Option W) (x y z t : O) : exes PP (CC 19) 19 1000 [iA, iB] (EM 9 w u x0 x2 x10) [x, y, z, t] = .nx (EM 9 w u x0 x2 x10) [x, y, z, t] := by kernel_rfl
theorem ab0 (k : Nat) (hk : k < 10) (w u x0 : W) (x2 x10 : Option W) (x y z t : O) : exes PP (CC 19) 19 1000 [iA, iB] (EM k w u x0 x2 x10) [x, y] = .nx (EM k w u x0 x2 x10) [x, y] := by
  match k, hk with
  | 0, _ => exact ab_0_0 w u x0 x2 x10 x y z t
  | 1, _ => exact ab_1_0 w u x0 x2 x10 x y z t
  | 2, _ => exact ab_2_0 w u x0 x2 x10 x y z t
  | 3, _ => exact ab_3_0 w u x0 x2 x10 x y z t
  | 4, _ => exact ab_4_0 w u x0 x2 x10 x y z t
  | 5, _ => exact ab_5_0 w u x0 x2 x10 x y z t
  | 6, _ => exact ab_6_0 w u x0 x2 x10 x y z t
  | 7, _ => exact ab_7_0 w u x0 x2 x10 x y z t
  | 8, _ => exact ab_8_0 w u x0 x2 x10 x y z t
  | 9, _ => exact ab_9_0 w u x0 x2 x10 x y z t
theorem ab1 (k : Nat) (hk : k < 10) (w u x0 : W) (x2 x10 : Option W) (x y z t : O) : exes PP (CC 19) 19 1000 [iA, iB] (EM k w u x0 x2 x10) [x, y, z] = .nx (EM k w u x0 x2 x10) [x, y, z] := by
  match k, hk with
  | 0, _ => exact ab_0_1 w u x0 x2 x10 x y z t
  | 1, _ => exact ab_1_1 w u x0 x2 x10 x y z t
  | 2, _ => exact ab_2_1 w u x0 x2 x10 x y z t
  | 3, _ => exact ab_3_1 w u x0 x2 x10 x y z t
  | 4, _ => exact ab_4_1 w u x0 x2 x10 x y z t
  | 5, _ => exact ab_5_1 w u x0 x2 x10 x y z t
  | 6, _ => exact ab_6_1 w u x0 x2 x10 x y z t
  | 7, _ => exact ab_7_1 w u x0 x2 x10 x y z t
  | 8, _ => exact ab_8_1 w u x0 x2 x10 x y z t
  | 9, _ => exact ab_9_1 w u x0 x2 x10 x y z t
theorem ab2 (k : Nat) (hk : k < 10) (w u x0 : W) (x2 x10 : Option W) (x y z t : O) : exes PP (CC 19) 19 1000 [iA, iB] (EM k w u x0 x2 x10) [x, y, z, t] = .nx (EM k w u x0 x2 x10) [x, y, z, t] := by
  match k, hk with
  | 0, _ => exact ab_0_2 w u x0 x2 x10 x y z t
  | 1, _ => exact ab_1_2 w u x0 x2 x10 x y z t
  | 2, _ => exact ab_2_2 w u x0 x2 x10 x y z t
  | 3, _ => exact ab_3_2 w u x0 x2 x10 x y z t
  | 4, _ => exact ab_4_2 w u x0 x2 x10 x y z t
  | 5, _ => exact ab_5_2 w u x0 x2 x10 x y z t
  | 6, _ => exact ab_6_2 w u x0 x2 x10 x y z t
  | 7, _ => exact ab_7_2 w u x0 x2 x10 x y z t
  | 8, _ => exact ab_8_2 w u x0 x2 x10 x y z t
  | 9, _ => exact ab_9_2 w u x0 x2 x10 x y z t
theorem abk (k : Nat) (hk : k < 10) (w u x0 : W) (x2 x10 : Option W) (x y : O) {m : Sto} (hm : m.length ≤ 2) : exes PP (CC 19) 19 1000 [iA, iB] (EM k w u x0 x2 x10) (x :: y :: m) = .nx (EM k w u x0 x2 x10) (x :: y :: m) := by
  match m, hm with
  | [], _ => exact ab0 k hk w u x0 x2 x10 x y x x
  | [z], _ => exact ab1 k hk w u x0 x2 x10 x y z x
  | [z, t], _ => exact ab2 k hk w u x0 x2 x10 x y z t
  | _ :: _ :: _ :: _, h => exact absurd h (by simp)
end KN

set_option maxRecDepth 100000
set_option maxHeartbeats 0
namespace KN
open PySem L2 BK
theorem thing_len {n : Nat} {w : W} {m : Sto} (h : Thing n w m) : m.length ≤ 1 := by cases h <;> simp
theorem thing_low {n : Nat} {w : W} {m : Sto} (h : Thing n w m) (k : Nat) (hk : n + m.length ≤ k) : w.low k = true := by
  cases h with
  | lst j => simp only [List.length_cons, List.length_nil] at hk; simp only [W.low, Nat.blt, Nat.ble_eq]; omega
  | dct j => simp only [List.length_cons, List.length_nil] at hk; simp only [W.low, Nat.blt, Nat.ble_eq]; omega
  | _ => simp [W.low, W.lows]
def tA : BK.St := .set (.nm 3) (.ifx (.pr .lt [.var 2, .lit (.int (10))]) (.pr .mod [.pr .int [.pr .add [.var 2, .call 1 [.var 1, .lit (.int (10))]]], .lit (.int (10))]) (.pr .sub [.var 2, .lit (.int (10))]))
def tP : BK.St := .par [4, 5] [.call 9 [.var 1], .call 9 [.var 1]]
def tC : BK.St := .set (.tp [.nm 6, .nm 7]) (.call 8 [.var 3, .var 4])
def tD : BK.St := .set (.tp [.nm 8, .nm 9]) (.call 8 [.var 3, .var 5])
def tV : BK.St := .ite (.or (.not (.call 10 [.var 7, .var 4])) (.not (.call 10 [.var 9, .var 5]))) [.ret (.lit (.bl false))] []
def bd : List BK.St := [tA, tP, tC, tD, iA, iB, tV]
theorem step {x : BK.St} {xs : List BK.St} {e e' : BK.Env} {s s' : Sto} (h : exe PP (CC 19) 19 1000 x e s = .nx e' s') : exes PP (CC 19) 19 1000 (x :: xs) e s = exes PP (CC 19) 19 1000 xs e' s' := by
  simp only [exes, h]
theorem step2 {x y : BK.St} {xs : List BK.St} {e e' : BK.Env} {s s' : Sto} (h : exes PP (CC 19) 19 1000 [x, y] e s = .nx e' s') : exes PP (CC 19) 19 1000 (x :: y :: xs) e s = exes PP (CC 19) 19 1000 xs e' s' := by
  simp only [exes] at h ⊢
  cases h1 : exe PP (CC 19) 19 1000 x e s with
  | nx e1 s1 =>
    rw [h1] at h
    simp only at h ⊢
    cases h2 : exe PP (CC 19) 19 1000 y e1 s1 with
    | nx e2 s2 =>
      rw [h2] at h
      simp only at h ⊢
      cases h
      rfl
    | _ => rw [h2] at h; cases h
  | _ => rw [h1] at h; cases h
theorem okm {l : List Int} {a b c m m' : Int} (o : Ok l a b c m) (h : m ≤ m') : Ok l a b c m' := ⟨o.hl, o.ha, o.hb, by have := o.hn; omega, o.hc, o.hc2⟩
theorem tA_ok (k : Nat) (hk : k < 20) (x0 : W) (x3 x4 x5 x6 x7 x8 x9 x10 : Option W) {l : List Int} {a b c n : Int} (o : Ok l a b c n) (hn : n ≤ 100000) :
    ∃ (t : Nat) (l' : List Int) (a' b' c' : Int), t < 10 ∧ exe PP (CC 19) 19 1000 tA (E11 x0 (some (.int (k : Int))) x3 x4 x5 x6 x7 x8 x9 x10) [s0 l, s1 a b c] = .nx (E11 x0 (some (.int (k : Int))) (some (.int (t : Int))) x4 x5 x6 x7 x8 x9 x10) [s0 l', s1 a' b' c'] ∧ Ok l' a' b' c' (n + 1) := by
  by_cases h : k < 10
  · obtain ⟨r, l1, a1, c1, e1, r0, r1, o1⟩ := pick' 18 10 [] o (by omega) (by omega) (by omega)
    have e1 : BK.call PP 1000 19 1 [W.ref 1, W.int 10] [s0 l, s1 a b c] = .ok (.int r) [s0 l1, s1 a1 (b + 1) c1] := e1
    have hf := fmod_rng ((k : Int) + r) (m := 10) (by omega)
    obtain ⟨t, ht⟩ := Int.eq_ofNat_of_zero_le hf.1
    refine ⟨t, l1, a1, b + 1, c1, by omega, ?_, o1⟩
    have hk' : (k : Int) < 10 := by omega
    simp [tA, E11, exe, ev, evs, R.bind, R.thn, prim, pLt, cmpI, okb, BK.test, pMod, pInt, pAdd, tgSet, e1, hk', ht]
  · refine ⟨k - 10, l, a, b, c, by omega, ?_, okm o (by omega)⟩
    have hk' : ¬ (k : Int) < 10 := by omega
    have ht : (k : Int) - 10 = ((k - 10 : Nat) : Int) := by omega
    simp [tA, E11, exe, ev, evs, R.bind, R.thn, prim, pLt, cmpI, okb, BK.test, pSub, tgSet, hk', ht]
theorem turn (k : Nat) (hk : k < 20) (x0 : W) (x3 x4 x5 x6 x7 x8 x9 x10 : Option W) {l : List Int} {a b c n : Int} (o : Ok l a b c n) (hn : n ≤ 90000) :
    ∃ (t : Nat) (w u : W) (m : Sto) (l' : List Int) (a' b' c' : Int), exes PP (CC 19) 19 1000 bd (E11 x0 (some (.int (k : Int))) x3 x4 x5 x6 x7 x8 x9 x10) [s0 l, s1 a b c] = .nx (EM t w u x0 (some (.int (k : Int))) x10) (s0 l' :: s1 a' b' c' :: m) ∧ Ok l' a' b' c' (n + 10) := by
  obtain ⟨t, l1, a1, b1, c1, ht, h1, o1⟩ := tA_ok k hk x0 x3 x4 x5 x6 x7 x8 x9 x10 o (by omega)
  obtain ⟨w, m1, l2, a2, b2, c2, h2, t2, o2⟩ := obj 16 [] o1 (by omega)
  obtain ⟨u, m2, l3, a3, b3, c3, h3, t3, o3⟩ := obj 16 m1 o2 (by omega)
  have h2' : BK.call PP 1000 19 9 [W.ref 1] [s0 l1, s1 a1 b1 c1] = .ok w (s0 l2 :: s1 a2 b2 c2 :: m1) := by simpa using h2
  have h3' : BK.call PP 1000 19 9 [W.ref 1] (s0 l2 :: s1 a2 b2 c2 :: m1) = .ok u (s0 l3 :: s1 a3 b3 c3 :: (m1 ++ m2)) := h3
  have q1 := thing_len t2
  have q2 := thing_len t3
  have t2 : Thing 2 w m1 := by simpa using t2
  have lw : w.low (s0 l3 :: s1 a3 b3 c3 :: (m1 ++ m2)).length = true := thing_low t2 _ (by simp only [List.length_cons, List.length_append]; omega)
  have lu : u.low (s0 l3 :: s1 a3 b3 c3 :: (m1 ++ m2)).length = true := thing_low t3 _ (by simp only [List.length_cons, List.length_append]; omega)
  refine ⟨t, w, u, m1 ++ m2, l3, a3, b3, c3, ?_, okm o3 (by omega)⟩
  have eP : exe PP (CC 19) 19 1000 tP (E11 x0 (some (.int (k : Int))) (some (.int (t : Int))) x4 x5 x6 x7 x8 x9 x10) [s0 l1, s1 a1 b1 c1] = .nx (E11 x0 (some (.int (k : Int))) (some (.int (t : Int))) (some w) (some u) x6 x7 x8 x9 x10) (s0 l3 :: s1 a3 b3 c3 :: (m1 ++ m2)) := by
    simp only [tP, E11, exe, ev, evs, R.bind, R.thn, setAll, h2', h3', List.getElem?_cons_succ, List.getElem?_cons_zero, List.set_cons_succ, List.set_cons_zero, Option.bind]
  have m1k := made_ok t ht w (s0 l3 :: s1 a3 b3 c3 :: (m1 ++ m2)) lw
  have m2k := made_ok t ht u (s0 l3 :: s1 a3 b3 c3 :: (m1 ++ m2)) lu
  have eC : exe PP (CC 19) 19 1000 tC (E11 x0 (some (.int (k : Int))) (some (.int (t : Int))) (some w) (some u) x6 x7 x8 x9 x10) (s0 l3 :: s1 a3 b3 c3 :: (m1 ++ m2)) = .nx (E11 x0 (some (.int (k : Int))) (some (.int (t : Int))) (some w) (some u) (some (exn t w)) (some w) x8 x9 x10) (s0 l3 :: s1 a3 b3 c3 :: (m1 ++ m2)) := by
    have he : ev PP (CC 19) 19 (.call 8 [.var 3, .var 4]) (E11 x0 (some (.int (k : Int))) (some (.int (t : Int))) (some w) (some u) x6 x7 x8 x9 x10) (s0 l3 :: s1 a3 b3 c3 :: (m1 ++ m2)) = .ok (.tup [exn t w, w]) (s0 l3 :: s1 a3 b3 c3 :: (m1 ++ m2)) := by
      simp only [E11, ev, evs, R.bind, m1k, List.getElem?_cons_succ, List.getElem?_cons_zero, List.set_cons_succ, List.set_cons_zero, Option.bind]
    simp only [tC, exe, he, R.thn]
    rfl
  have eD : exe PP (CC 19) 19 1000 tD (E11 x0 (some (.int (k : Int))) (some (.int (t : Int))) (some w) (some u) (some (exn t w)) (some w) x8 x9 x10) (s0 l3 :: s1 a3 b3 c3 :: (m1 ++ m2)) = .nx (EM t w u x0 (some (.int (k : Int))) x10) (s0 l3 :: s1 a3 b3 c3 :: (m1 ++ m2)) := by
    have he : ev PP (CC 19) 19 (.call 8 [.var 3, .var 5]) (E11 x0 (some (.int (k : Int))) (some (.int (t : Int))) (some w) (some u) (some (exn t w)) (some w) x8 x9 x10) (s0 l3 :: s1 a3 b3 c3 :: (m1 ++ m2)) = .ok (.tup [exn t u, u]) (s0 l3 :: s1 a3 b3 c3 :: (m1 ++ m2)) := by
      simp only [E11, ev, evs, R.bind, m2k, List.getElem?_cons_succ, List.getElem?_cons_zero, List.set_cons_succ, List.set_cons_zero, Option.bind]
    simp only [tD, exe, he, R.thn]
    rfl
  have eAB := abk t ht w u x0 (some (.int (k : Int))) x10 (s0 l3) (s1 a3 b3 c3) (m := m1 ++ m2) (by simp only [List.length_append]; omega)
  have v1 := very2 t2 (s0 l3) (s1 a3 b3 c3) m2
  have v2 := very3 t2 (by simpa using t3) (s0 l3) (s1 a3 b3 c3)
  have eV : exe PP (CC 19) 19 1000 tV (EM t w u x0 (some (.int (k : Int))) x10) (s0 l3 :: s1 a3 b3 c3 :: (m1 ++ m2)) = .nx (EM t w u x0 (some (.int (k : Int))) x10) (s0 l3 :: s1 a3 b3 c3 :: (m1 ++ m2)) := by
    simp only [tV, EM, E11, exe, exes, ev, evs, R.bind, R.thn, BK.test, v1, v2, Bool.not_true, List.getElem?_cons_succ, List.getElem?_cons_zero, List.set_cons_succ, List.set_cons_zero, Option.bind]
  rw [bd, step h1, step eP, step eC, step eD, step2 eAB, step eV]
  rfl
def tr (n : Nat) (x : Option W) : Option W := match x with
  | some w => if w.low n = true then some w else none
  | none => none
theorem for_ok (x0 : W) (hx0 : x0.low 2 = true) : ∀ (ks : List Nat) (x2 x3 x4 x5 x6 x7 x8 x9 x10 : Option W) (l : List Int) (a b c n : Int), (∀ k ∈ ks, k < 20) → Ok l a b c n → n + 10 * ks.length ≤ 10000 →
    ∃ y2 y3 y4 y5 y6 y7 y8 y9 y10 l' a' b' c', forT (fun e s => exes PP (CC 19) 19 1000 bd e s) (.nm 2) 2 (ks.map fun k : Nat => W.int (k : Int)) (E11 x0 x2 x3 x4 x5 x6 x7 x8 x9 x10) [s0 l, s1 a b c] = .nx (E11 x0 y2 y3 y4 y5 y6 y7 y8 y9 y10) [s0 l', s1 a' b' c'] ∧ Ok l' a' b' c' (n + 10 * ks.length) := by
  intro ks
  induction ks with
  | nil =>
    intro x2 x3 x4 x5 x6 x7 x8 x9 x10 l a b c n _ o hn
    exact ⟨x2, x3, x4, x5, x6, x7, x8, x9, x10, l, a, b, c, rfl, by simpa using o⟩
  | cons k ks ih =>
    intro x2 x3 x4 x5 x6 x7 x8 x9 x10 l a b c n hk o hn
    simp only [List.length_cons] at hn
    obtain ⟨t, w, u, m, l1, a1, b1, c1, h1, o1⟩ := turn k (hk k (by simp)) x0 x3 x4 x5 x6 x7 x8 x9 x10 o (by omega)
    obtain ⟨z2, z3, z4, z5, z6, z7, z8, z9, z10, l', a', b', c', h2, o2⟩ := ih (tr 2 (some (.int (k : Int)))) (tr 2 (some (.int (t : Int)))) (tr 2 (some w)) (tr 2 (some u)) (tr 2 (some (exn t w))) (tr 2 (some w)) (tr 2 (some (exn t u))) (tr 2 (some u)) (tr 2 x10) l1 a1 b1 c1 (n + 10) (fun x hx => hk x (by simp [hx])) o1 (by omega)
    refine ⟨z2, z3, z4, z5, z6, z7, z8, z9, z10, l', a', b', c', ?_, by
      have : n + 10 * ((k :: ks).length : Int) = n + 10 + 10 * (ks.length : Int) := by simp only [List.length_cons]; omega
      rw [this]; exact o2⟩
    have ht : tgSet (.nm 2) (.int (k : Int)) (E11 x0 x2 x3 x4 x5 x6 x7 x8 x9 x10) = some (E11 x0 (some (.int (k : Int))) x3 x4 x5 x6 x7 x8 x9 x10) := rfl
    have hx : tr 2 (some x0) = some x0 := by simp [tr, hx0]
    have htr : trimE 2 (EM t w u x0 (some (.int (k : Int))) x10) = E11 x0 (tr 2 (some (.int (k : Int)))) (tr 2 (some (.int (t : Int)))) (tr 2 (some w)) (tr 2 (some u)) (tr 2 (some (exn t w))) (tr 2 (some w)) (tr 2 (some (exn t u))) (tr 2 (some u)) (tr 2 x10) := by
      have h0 : trimE 2 (EM t w u x0 (some (.int (k : Int))) x10) = [tr 2 (some x0), some (.ref 1), tr 2 (some (.int (k : Int))), tr 2 (some (.int (t : Int))), tr 2 (some w), tr 2 (some u), tr 2 (some (exn t w)), tr 2 (some w), tr 2 (some (exn t u)), tr 2 (some u), tr 2 x10] := rfl
      rw [h0, hx]
      rfl
    simp only [List.map_cons, forT, ht, h1, htr]
    exact h2
def OT (x : Int) : List W := match CC 19 5 [.int x] [] with
  | .ok (.lst l) _ => l
  | _ => []
theorem oth (x : Int) (l : List Int) (a b c : Int) : BK.call PP 1000 19 5 [.int x] [s0 l, s1 a b c] = .ok (.lst (OT x)) [s0 l, s1 a b c] := by kernel_rfl
def cO : Ex := .comp false (.pr .eq [.call 4 [.var 10], .pr .lst []]) [10] (.nm 10) (.seq (.call 5 [.call 1 [.var 1, .lit (.int (9))]])) none
def tO : BK.St := .ite (.not (.pr .all [cO])) [.ret (.lit (.bl false))] []
def cL : Sto → BK.Env → List W → R W := fun s e l => (compL (fun _ s => .ok true s) (ev PP (CC 19) 19 (.pr .eq [.call 4 [.var 10], .pr .lst []])) (.nm 10) (wipeE e [10]) s.length l (s ++ [.lst []])).bind fun _ s' => made false s.length s'
theorem cL_ok (x : Int) (x0 : W) (x2 x3 x4 x5 x6 x7 x8 x9 x10 : Option W) (l : List Int) (a b c : Int) : cL [s0 l, s1 a b c] (E11 x0 x2 x3 x4 x5 x6 x7 x8 x9 x10) (OT x) = .ok (.lst (List.replicate 35 (.bl true))) [s0 l, s1 a b c] := by kernel_rfl
theorem tO_ok (x : Int) (x0 : W) (x2 x3 x4 x5 x6 x7 x8 x9 x10 : Option W) (l l2 : List Int) (a b c a2 b2 c2 : Int) (h : BK.call PP 1000 19 1 [.ref 1, .int 9] [s0 l, s1 a b c] = .ok (.int x) [s0 l2, s1 a2 b2 c2]) :
    exe PP (CC 19) 19 1000 tO (E11 x0 x2 x3 x4 x5 x6 x7 x8 x9 x10) [s0 l, s1 a b c] = .nx (E11 x0 x2 x3 x4 x5 x6 x7 x8 x9 x10) [s0 l2, s1 a2 b2 c2] := by
  have h5 := oth x l2 a2 b2 c2
  have hi : evI PP (CC 19) 19 (.seq (.call 5 [.call 1 [.var 1, .lit (.int (9))]])) (E11 x0 x2 x3 x4 x5 x6 x7 x8 x9 x10) [s0 l, s1 a b c] = .ok (OT x) [s0 l2, s1 a2 b2 c2] := by
    simp [evI, ev, evs, R.bind, E11, h, h5, still, okl]
  have hc : ev PP (CC 19) 19 cO (E11 x0 x2 x3 x4 x5 x6 x7 x8 x9 x10) [s0 l, s1 a b c] = cL [s0 l2, s1 a2 b2 c2] (E11 x0 x2 x3 x4 x5 x6 x7 x8 x9 x10) (OT x) := by
    simp only [cO, ev, hi, R.bind, cL, evC]
  rw [cL_ok] at hc
  unfold tO
  generalize cO = E at hc ⊢
  have hp : prim PP .all [.lst (List.replicate 35 (.bl true))] [s0 l2, s1 a2 b2 c2] = .ok (.bl true) [s0 l2, s1 a2 b2 c2] := by kernel_rfl
  simp only [exe, exes, ev, evs, R.bind, R.thn, hc, hp, BK.test, Bool.not_true]
def eR : Ex := .pr .eq [.call 11 [.call 9 [.var 1]], .pr .tup [.pr .lst [.lit (.int (4))], .pr .lst [], .lit (.bl false), .lit (.bl true)]]
theorem ca_0 (w : W) (x y : O) : BK.call PP 1000 19 11 [w] [x, y] = .ok (.tup [.lst [.int 4], .lst [], .bl false, .bl true]) [x, y] := by kernel_rfl
theorem ca_1 (w : W) (x y z : O) : BK.call PP 1000 19 11 [w] [x, y, z] = .ok (.tup [.lst [.int 4], .lst [], .bl false, .bl true]) [x, y, z] := by kernel_rfl
theorem re_0 (x y : O) : prim PP .eq [.tup [.lst [.int 4], .lst [], .bl false, .bl true], .tup [.lst [.int 4], .lst [], .bl false, .bl true]] [x, y] = .ok (.bl true) [x, y] := by kernel_rfl
theorem re_1 (x y z : O) : prim PP .eq [.tup [.lst [.int 4], .lst [], .bl false, .bl true], .tup [.lst [.int 4], .lst [], .bl false, .bl true]] [x, y, z] = .ok (.bl true) [x, y, z] := by kernel_rfl
theorem tR_ok (x0 : W) (x2 x3 x4 x5 x6 x7 x8 x9 x10 : Option W) (l l2 : List Int) (a b c a2 b2 c2 : Int) {w : W} {m : Sto} (hm : m.length ≤ 1) (h : BK.call PP 1000 19 9 [.ref 1] [s0 l, s1 a b c] = .ok w (s0 l2 :: s1 a2 b2 c2 :: m)) :
    exe PP (CC 19) 19 1000 (.ret eR) (E11 x0 x2 x3 x4 x5 x6 x7 x8 x9 x10) [s0 l, s1 a b c] = .rt (.bl true) (s0 l2 :: s1 a2 b2 c2 :: m) := by
  have hc : BK.call PP 1000 19 11 [w] (s0 l2 :: s1 a2 b2 c2 :: m) = .ok (.tup [.lst [.int 4], .lst [], .bl false, .bl true]) (s0 l2 :: s1 a2 b2 c2 :: m) := by
    match m, hm with
    | [], _ => exact ca_0 w _ _
    | [z], _ => exact ca_1 w _ _ z
  have hr : prim PP .eq [.tup [.lst [.int 4], .lst [], .bl false, .bl true], .tup [.lst [.int 4], .lst [], .bl false, .bl true]] (s0 l2 :: s1 a2 b2 c2 :: m) = .ok (.bl true) (s0 l2 :: s1 a2 b2 c2 :: m) := by
    match m, hm with
    | [], _ => exact re_0 _ _
    | [z], _ => exact re_1 _ _ z
  have hp : ∀ s, prim PP .tup [.lst [.int 4], .lst [], .bl false, .bl true] s = .ok (.tup [.lst [.int 4], .lst [], .bl false, .bl true]) s := fun s => by simp [prim, pTup, LIM]
  have hl1 : ∀ s, prim PP .lst [.int 4] s = .ok (.lst [.int 4]) s := fun s => by simp [prim, pLst, LIM]
  have hl0 : ∀ s, prim PP .lst [] s = .ok (.lst []) s := fun s => by simp [prim, pLst, LIM]
  simp only [eR, E11, exe, ev, evs, R.bind, R.thn, List.getElem?_cons_succ, List.getElem?_cons_zero, h, hc, hl1, hl0, hp, hr]
def t0 : BK.St := .set (.nm 1) (.call 0 [.var 0])
def tL : BK.St := .fort (.nm 2) (.range [.lit (.int (20))]) bd
theorem call_law (u : W) : CC 20 12 [u] [] = fin true 0 (exes PP (CC 19) 19 1000 [t0, tL, tO, .ret eR] [some u, none, none, none, none, none, none, none, none, none, none] []) := by kernel_rfl
theorem t0_ok (ns : List Int) : exe PP (CC 19) 19 1000 t0 [some (.arg (iw ns)), none, none, none, none, none, none, none, none, none, none] [] = .nx (E11 (.arg (iw ns)) none none none none none none none none none) [s0 ns, s1 0 0 29] := by kernel_rfl
theorem low_arg : ∀ ns : List Int, (W.arg (iw ns)).low 2 = true
  | [] => rfl
  | x :: ns => by
    have := low_arg ns
    simp [W.low, iw, W.lows] at this ⊢
    try exact this
theorem law (ns : List Int) (h : ns.length ≤ 63) : ∃ S', BK.call PP 1000 20 12 [.arg (ns.map BK.W.int)] [] = .ok (.bl true) S' := by
  have o : Ok ns 0 0 29 0 := ⟨by omega, by omega, by omega, by omega, by omega, by omega⟩
  have hlow : (W.arg (iw ns)).low 2 = true := low_arg ns
  obtain ⟨y2, y3, y4, y5, y6, y7, y8, y9, y10, l1, a1, b1, c1, h1, o1⟩ := for_ok (.arg (iw ns)) hlow (List.range 20) none none none none none none none none none ns 0 0 29 0 (fun k hk => List.mem_range.mp hk) o (by decide)
  have hi : evI PP (CC 19) 19 (.range [.lit (.int (20))]) (E11 (.arg (iw ns)) none none none none none none none none none) [s0 ns, s1 0 0 29] = .ok ((List.range 20).map fun k : Nat => W.int (k : Int)) [s0 ns, s1 0 0 29] := by kernel_rfl
  have hL : exe PP (CC 19) 19 1000 tL (E11 (.arg (iw ns)) none none none none none none none none none) [s0 ns, s1 0 0 29] = .nx (E11 (.arg (iw ns)) y2 y3 y4 y5 y6 y7 y8 y9 y10) [s0 l1, s1 a1 b1 c1] := by
    simp only [tL, exe, hi, R.thn]
    exact h1
  obtain ⟨x, l2, a2, c2, h2, _, _, o2⟩ := pick' 18 9 [] o1 (by decide) (by decide) (by decide)
  have h2' : BK.call PP 1000 19 1 [.ref 1, .int 9] [s0 l1, s1 a1 b1 c1] = .ok (.int x) [s0 l2, s1 a2 (b1 + 1) c2] := h2
  have h3 := tO_ok x (.arg (iw ns)) y2 y3 y4 y5 y6 y7 y8 y9 y10 l1 l2 a1 b1 c1 a2 (b1 + 1) c2 h2'
  obtain ⟨w, m, l3, a3, b3, c3, h4, t4, o4⟩ := obj 16 [] o2 (by decide)
  have h4' : BK.call PP 1000 19 9 [.ref 1] [s0 l2, s1 a2 (b1 + 1) c2] = .ok w (s0 l3 :: s1 a3 b3 c3 :: m) := by simpa using h4
  have h5 := tR_ok (.arg (iw ns)) y2 y3 y4 y5 y6 y7 y8 y9 y10 l2 l3 a2 (b1 + 1) c2 a3 b3 c3 (thing_len t4) h4'
  have e : BK.call PP 1000 20 12 [.arg (ns.map BK.W.int)] [] = _ := call_law (.arg (iw ns))
  refine ⟨[], e.trans ?_⟩
  rw [step (t0_ok ns), step hL, step h3]
  simp only [exes, h5]
  rfl
end KN

theorem PySem.Challenge.cw_sameproof_k95_errors_of_what_is_asked_holds : PySem.Challenge.rw_sameproof_k95_errors_of_what_is_asked.Holds :=
  K95.holds_of KN.law
