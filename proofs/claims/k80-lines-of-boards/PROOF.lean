import PyProof.Rows.All
import Wide.All
import OpenK.AllK
import Wide.FinOn
import HandS.ForMost
import HandS.ForExc
import KE.DataEq
import HandS.Wide
import HandS.WideBits
import HandS.IsInst
import HandS.More
import KE.SortData
import HandS.Defaults
import HandS.HotCalls
import HandS.ExcInitHot
import HandS.ExcIs
import HandS.ExcField
import HandS.ExcInit
import HandS.ExcCtx
import HandS.Zip
import HandS.Conv
import HandS.SortInts
import HandS.SetFor
import KE.KExcIs
import HandS.DictTup
import HandS.Style
import HandS.HeadHook4
import PySem.Challenge.RW_boundtobe_k80_whole_lines_of_boards
set_option Elab.async false
set_option linter.all false
set_option maxRecDepth 100000
/-! DL1: data trees, how they stand in the abstract heap, worlds, steps. -/
namespace DL
open PySem PySem.Spec PyProof.Rows L2

/-- a value as data -/
inductive D where
  | non | bl (b : Bool) | int (i : Int) | str (s : Str) | ty (n : String)
  | cel (n : Nat) | glo (x : Str)
  | lst (xs : List D) | tup (xs : List D)
  | dK (kvs : List (Key × D)) | dT (kvs : List (List Key × D))
  /-- the script: a list that is only read -/
  | fro (xs : List D)

/-- what a cell (an object that changes in place) holds -/
inductive Cel where
  | lst (ds : List D)
  | dK (kvs : List (Key × D)) | dT (kvs : List (List Key × D))
  | ins (cls : Str) (fs : List (Str × D))
abbrev Store := List Cel
abbrev Env := List (Option D)

def KLst (K : PySem.W.Frag) (a : Addr) (xs : List V) : Prop :=
  ∃ (o : Obj) (its : Array Value) (n : Nat), K.lookup a = some o ∧ o.cls = .type "list" ∧ o.dict = none ∧ o.data = .seq its n ∧ its.size ≤ sizeLine ∧ Vals xs its.toList
def KTup (K : PySem.W.Frag) (a : Addr) (xs : List V) : Prop :=
  ∃ (o : Obj) (its : Array Value) (n : Nat), K.lookup a = some o ∧ o.cls = .type "tuple" ∧ o.data = .seq its n ∧ its.size ≤ sizeLine ∧ Vals xs its.toList

/-- a place in the run: the heap, what is shared (never changed), what each slot owns, where the cells stand -/
structure Wd where
  H : Hp
  Sh : Addr → Prop
  R : Nat → Addr → Prop
  adr : Nat → Addr
  N : Nat
def Wd.RR (W : Wd) (a : Addr) : Prop := ∃ i, W.R i a
def Wd.Cl (W : Wd) (a : Addr) : Prop := ∃ n, n < W.N ∧ a = W.adr n

structure Wd.Ok (W : Wd) : Prop where
  sh : ∀ a, W.Sh a → W.H a ≠ none
  r : ∀ i a, W.R i a → W.H a ≠ none
  c : ∀ n, n < W.N → W.H (W.adr n) ≠ none
  shr : ∀ i a, W.Sh a → ¬ W.R i a
  rr : ∀ i j a, W.R i a → W.R j a → i = j
  shc : ∀ a, W.Sh a → ¬ W.Cl a
  rc : ∀ i a, W.R i a → ¬ W.Cl a
  inj : ∀ m n, m < W.N → n < W.N → W.adr m = W.adr n → m = n

/-- an expression has run: cells alone may have changed -/
structure ExStep (W W' : Wd) : Prop where
  keep : ∀ a o, W.H a = some o → ¬ W.Cl a → W'.H a = some o
  dom : ∀ a, W.H a ≠ none → W'.H a ≠ none
  sh : ∀ a, W.Sh a → W'.Sh a
  shb : ∀ a, W'.Sh a → W.Sh a ∨ W.H a = none
  rb : W'.R = W.R
  cn : W.N ≤ W'.N
  ca : ∀ n, n < W.N → W'.adr n = W.adr n
  cnew : ∀ n, W.N ≤ n → n < W'.N → W.H (W'.adr n) = none
  tup : ∀ a xs, W.H a = some (.tup xs) → W'.H a = some (.tup xs)
/-- a statement has run: what the slots own may have changed too -/
structure StStep (W W' : Wd) : Prop where
  keep : ∀ a o, W.H a = some o → ¬ W.Cl a → ¬ W.RR a → W'.H a = some o
  dom : ∀ a, W.H a ≠ none → W'.H a ≠ none
  sh : ∀ a, W.Sh a → W'.Sh a
  shb : ∀ a, W'.Sh a → W.Sh a ∨ W.RR a ∨ W.H a = none
  rb : ∀ a, W'.RR a → W.RR a ∨ W.H a = none
  cn : W.N ≤ W'.N
  ca : ∀ n, n < W.N → W'.adr n = W.adr n
  cnew : ∀ n, W.N ≤ n → n < W'.N → W.H (W'.adr n) = none
  tup : ∀ a xs, W.H a = some (.tup xs) → W'.H a = some (.tup xs)

theorem ExStep.refl (W : Wd) : ExStep W W := ⟨fun _ _ h _ => h, fun _ h => h, fun _ h => h, fun _ h => .inl h, rfl, Nat.le_refl _, fun _ _ => rfl, fun n h1 h2 => absurd (Nat.lt_of_lt_of_le h2 h1) (Nat.lt_irrefl _), fun _ _ e => e⟩
theorem StStep.refl (W : Wd) : StStep W W := ⟨fun _ _ h _ _ => h, fun _ h => h, fun _ h => h, fun _ h => .inl h, fun _ h => .inl h, Nat.le_refl _, fun _ _ => rfl, fun n h1 h2 => absurd (Nat.lt_of_lt_of_le h2 h1) (Nat.lt_irrefl _), fun _ _ e => e⟩
theorem ExStep.rr {W W' : Wd} (s : ExStep W W') : W'.RR = W.RR := by
  funext a
  unfold Wd.RR
  rw [s.rb]
theorem ExStep.st {W W' : Wd} (s : ExStep W W') : StStep W W' := ⟨fun a o h c _ => s.keep a o h c, s.dom, s.sh, fun a h => (s.shb a h).elim .inl fun z => .inr (.inr z), fun a h => .inl (s.rr ▸ h), s.cn, s.ca, s.cnew, s.tup⟩

section
variable {W W1 W2 : Wd}
theorem none_back {H H' : Hp} {a : Addr} (d : H a ≠ none → H' a ≠ none) (h : H' a = none) : H a = none := by
  cases e : H a with
  | none => rfl
  | some o => exact absurd h (d (by rw [e]; exact fun z => nomatch z))
theorem ne_none {H : Hp} {a : Addr} {o : HO} (h : H a = some o) : H a ≠ none := by rw [h]; exact fun z => nomatch z
theorem cl_back (cn : W.N ≤ W1.N) (ca : ∀ n, n < W.N → W1.adr n = W.adr n) (cnew : ∀ n, W.N ≤ n → n < W1.N → W.H (W1.adr n) = none) {a : Addr} (h : W1.Cl a) : W.Cl a ∨ W.H a = none := by
  obtain ⟨n, hn, rfl⟩ := h
  by_cases hl : n < W.N
  · exact .inl ⟨n, hl, ca n hl⟩
  · exact .inr (cnew n (Nat.le_of_not_lt hl) hn)
theorem cl_fwd (cn : W.N ≤ W1.N) (ca : ∀ n, n < W.N → W1.adr n = W.adr n) {a : Addr} (h : W.Cl a) : W1.Cl a := by
  obtain ⟨n, hn, rfl⟩ := h
  exact ⟨n, Nat.lt_of_lt_of_le hn cn, (ca n hn).symm⟩
theorem ExStep.trans (s : ExStep W W1) (t : ExStep W1 W2) : ExStep W W2 where
  keep := fun a o h c => t.keep a o (s.keep a o h c) fun z => (cl_back s.cn s.ca s.cnew z).elim c fun e => by rw [e] at h; cases h
  dom := fun a h => t.dom a (s.dom a h)
  sh := fun a h => t.sh a (s.sh a h)
  shb := fun a h => by
    rcases t.shb a h with h | h
    · exact s.shb a h
    · exact .inr (none_back (s.dom a) h)
  rb := t.rb.trans s.rb
  cn := Nat.le_trans s.cn t.cn
  ca := fun n h => (t.ca n (Nat.lt_of_lt_of_le h s.cn)).trans (s.ca n h)
  cnew := fun n h1 h2 => by
    by_cases h : n < W1.N
    · rw [t.ca n h]; exact s.cnew n h1 h
    · exact none_back (s.dom _) (t.cnew n (Nat.le_of_not_lt h) h2)
  tup := fun a xs e => t.tup a xs (s.tup a xs e)
theorem StStep.trans (s : StStep W W1) (t : StStep W1 W2) : StStep W W2 where
  keep := fun a o h c r => t.keep a o (s.keep a o h c r) (fun z => (cl_back s.cn s.ca s.cnew z).elim c fun e => by rw [e] at h; cases h) fun z => (s.rb a z).elim r fun e => by rw [e] at h; cases h
  dom := fun a h => t.dom a (s.dom a h)
  sh := fun a h => t.sh a (s.sh a h)
  shb := fun a h => by
    rcases t.shb a h with h | h | h
    · exact s.shb a h
    · exact (s.rb a h).elim (fun z => .inr (.inl z)) fun z => .inr (.inr z)
    · exact .inr (.inr (none_back (s.dom a) h))
  rb := fun a h => by
    rcases t.rb a h with h | h
    · exact s.rb a h
    · exact .inr (none_back (s.dom a) h)
  cn := Nat.le_trans s.cn t.cn
  ca := fun n h => (t.ca n (Nat.lt_of_lt_of_le h s.cn)).trans (s.ca n h)
  cnew := fun n h1 h2 => by
    by_cases h : n < W1.N
    · rw [t.ca n h]; exact s.cnew n h1 h
    · exact none_back (s.dom _) (t.cnew n (Nat.le_of_not_lt h) h2)
  tup := fun a xs e => t.tup a xs (s.tup a xs e)
end

/-- W follows W1: what was shared there stands as it stood -/
structure Aft (W1 W : Wd) : Prop where
  sh : ∀ a, W1.Sh a → W.Sh a
  keep : ∀ a o, W1.Sh a → W1.H a = some o → W.H a = some o
  cn : W1.N ≤ W.N
  ca : ∀ n, n < W1.N → W.adr n = W1.adr n
  tup : ∀ a xs, W1.H a = some (.tup xs) → W.H a = some (.tup xs)
mutual
/-- v stands for d: its own object at an address of T, the deeper ones at addresses of C -/
inductive Rep (K : PySem.W.Frag) (mg : Str → Option Value) (adr : Nat → Addr) (N : Nat) (H : Hp) (C : Addr → Prop) : (Addr → Prop) → V → D → Prop
  | non {T} : Rep K mg adr N H C T .non .non
  | bl {T} (b : Bool) : Rep K mg adr N H C T (.bl b) (.bl b)
  | int {T} (i : Int) : Rep K mg adr N H C T (.int i) (.int i)
  | str {T} (s : Str) : Rep K mg adr N H C T (.str s) (.str s)
  | ty {T} (n : String) : Rep K mg adr N H C T (.ty n) (.ty n)
  | cel {T} {n : Nat} : n < N → Rep K mg adr N H C T (.ref (adr n)) (.cel n)
  | glo {T} {x : Str} {a : Addr} : mg x = some (.ref a) → Rep K mg adr N H C T (.ref a) (.glo x)
  | lst {T} {a : Addr} {xs : List V} {ds : List D} : H a = some (.lst xs) ∧ T a → RepA K mg adr N H C xs ds → Rep K mg adr N H C T (.ref a) (.lst ds)
  | tup {T} {a : Addr} {xs : List V} {ds : List D} : H a = some (.tup xs) → RepA K mg adr N H C xs ds → Rep K mg adr N H C T (.ref a) (.tup ds)
  | fro {T} {a : Addr} {xs : List V} {ds : List D} : (Rd H a (.lst xs) ∧ T a) ∨ KLst K a xs → RepA K mg adr N H C xs ds → Rep K mg adr N H C T (.ref a) (.fro ds)
  | dK {T} {a : Addr} {kvs : List (Key × V)} {dvs : List (Key × D)} : H a = some (.dK kvs) ∧ T a → kvs.map (·.1) = dvs.map (·.1) → RepA K mg adr N H C (kvs.map (·.2)) (dvs.map (·.2)) → Rep K mg adr N H C T (.ref a) (.dK dvs)
  | dT {T} {a : Addr} {kvs : List (List Key × V)} {dvs : List (List Key × D)} : H a = some (.dT kvs) ∧ T a → kvs.map (·.1) = dvs.map (·.1) → RepA K mg adr N H C (kvs.map (·.2)) (dvs.map (·.2)) → Rep K mg adr N H C T (.ref a) (.dT dvs)
inductive RepA (K : PySem.W.Frag) (mg : Str → Option Value) (adr : Nat → Addr) (N : Nat) (H : Hp) (C : Addr → Prop) : List V → List D → Prop
  | nil : RepA K mg adr N H C [] []
  | cons {v : V} {vs : List V} {d : D} {ds : List D} : Rep K mg adr N H C C v d → RepA K mg adr N H C vs ds → RepA K mg adr N H C (v :: vs) (d :: ds)
end

section
variable {K : PySem.W.Frag} {mg : Str → Option Value} {adr adr' : Nat → Addr} {N N' : Nat} {H H' : Hp} {C C' : Addr → Prop}
theorem rd_mono {a : Addr} {u : HO} (h : ∀ o, H a = some o → H' a = some o) (r : Rd H a u) : Rd H' a u := by
  rcases r with r | ⟨o, r⟩
  · exact .inl (h _ r)
  · exact .inr ⟨o, h _ r⟩
mutual
theorem Rep.mono0 (ht : ∀ a xs, H a = some (.tup xs) → H' a = some (.tup xs)) (hC : ∀ a, C a → C' a) (hH : ∀ a o, C a → H a = some o → H' a = some o) (hN : N ≤ N') (hA : ∀ n, n < N → adr' n = adr n) :
    ∀ {T T' : Addr → Prop} {v : V} {d : D}, (∀ a, T a → T' a) → (∀ a o, T a → H a = some o → H' a = some o) → Rep K mg adr N H C T v d → Rep K mg adr' N' H' C' T' v d
  | _, _, _, _, _, _, .non => .non
  | _, _, _, _, _, _, .bl b => .bl b
  | _, _, _, _, _, _, .int b => .int b
  | _, _, _, _, _, _, .str b => .str b
  | _, _, _, _, _, _, .ty b => .ty b
  | _, _, _, _, _, _, .cel (n := n) h => by
    rw [← hA n h]
    exact .cel (Nat.lt_of_lt_of_le h hN)
  | _, _, _, _, _, _, .glo h => .glo h
  | _, _, _, _, hT, hh, .lst h r => .lst ⟨hh _ _ h.2 h.1, hT _ h.2⟩ (RepA.mono0 ht hC hH hN hA r)
  | _, _, _, _, hT, hh, .tup h r => .tup (ht _ _ h) (RepA.mono0 ht hC hH hN hA r)
  | _, _, _, _, hT, hh, .fro h r => .fro (h.elim (fun q => .inl ⟨rd_mono (fun o e => hh _ o q.2 e) q.1, hT _ q.2⟩) .inr) (RepA.mono0 ht hC hH hN hA r)
  | _, _, _, _, hT, hh, .dK h e r => .dK ⟨hh _ _ h.2 h.1, hT _ h.2⟩ e (RepA.mono0 ht hC hH hN hA r)
  | _, _, _, _, hT, hh, .dT h e r => .dT ⟨hh _ _ h.2 h.1, hT _ h.2⟩ e (RepA.mono0 ht hC hH hN hA r)
theorem RepA.mono0 (ht : ∀ a xs, H a = some (.tup xs) → H' a = some (.tup xs)) (hC : ∀ a, C a → C' a) (hH : ∀ a o, C a → H a = some o → H' a = some o) (hN : N ≤ N') (hA : ∀ n, n < N → adr' n = adr n) :
    ∀ {vs : List V} {ds : List D}, RepA K mg adr N H C vs ds → RepA K mg adr' N' H' C' vs ds
  | _, _, .nil => .nil
  | _, _, .cons r t => .cons (Rep.mono0 ht hC hH hN hA hC hH r) (RepA.mono0 ht hC hH hN hA t)
end
theorem Rep.mono (hC : ∀ a, C a → C' a) (hH : ∀ a o, C a → H a = some o → H' a = some o) (hN : N ≤ N') (hA : ∀ n, n < N → adr' n = adr n)
    {T T' : Addr → Prop} {v : V} {d : D} (hT : ∀ a, T a → T' a) (hh : ∀ a o, T a → H a = some o → H' a = some o) (r : Rep K mg adr N H C T v d) (ht : ∀ a xs, H a = some (.tup xs) → H' a = some (.tup xs) := by first | exact fun _ _ e => e | exact ExStep.tup (by assumption) | exact StStep.tup (by assumption) | exact Aft.tup (by assumption)) : Rep K mg adr' N' H' C' T' v d := Rep.mono0 ht hC hH hN hA hT hh r
theorem RepA.mono (hC : ∀ a, C a → C' a) (hH : ∀ a o, C a → H a = some o → H' a = some o) (hN : N ≤ N') (hA : ∀ n, n < N → adr' n = adr n)
    {vs : List V} {ds : List D} (r : RepA K mg adr N H C vs ds) (ht : ∀ a xs, H a = some (.tup xs) → H' a = some (.tup xs) := by first | exact fun _ _ e => e | exact ExStep.tup (by assumption) | exact StStep.tup (by assumption) | exact Aft.tup (by assumption)) : RepA K mg adr' N' H' C' vs ds := RepA.mono0 ht hC hH hN hA r
/-- T speaks of the value's own place alone -/
theorem Rep.own {T : Addr → Prop} {v : V} {d : D} (h : Rep K mg adr N H C T v d) : Rep K mg adr N H C (fun a => T a ∧ v = .ref a) v d := by
  cases h with
  | non => exact .non
  | bl b => exact .bl b
  | int b => exact .int b
  | str b => exact .str b
  | ty b => exact .ty b
  | cel h => exact .cel h
  | glo h => exact .glo h
  | lst h r => exact .lst ⟨h.1, h.2, rfl⟩ r
  | tup h r => exact .tup h r
  | fro h r => exact .fro (h.elim (fun q => .inl ⟨q.1, q.2, rfl⟩) .inr) r
  | dK h e r => exact .dK ⟨h.1, h.2, rfl⟩ e r
  | dT h e r => exact .dT ⟨h.1, h.2, rfl⟩ e r
theorem RepA.length : ∀ {vs : List V} {ds : List D}, RepA K mg adr N H C vs ds → vs.length = ds.length
  | _, _, .nil => rfl
  | _, _, .cons _ t => congrArg (· + 1) (RepA.length t)
theorem RepA.append : ∀ {vs ws : List V} {ds es : List D}, RepA K mg adr N H C vs ds → RepA K mg adr N H C ws es → RepA K mg adr N H C (vs ++ ws) (ds ++ es)
  | _, _, _, _, .nil, s => s
  | _, _, _, _, .cons r t, s => .cons r (RepA.append t s)
theorem RepA.get : ∀ {vs : List V} {ds : List D} {i : Nat} {d : D}, RepA K mg adr N H C vs ds → ds[i]? = some d → ∃ v, vs[i]? = some v ∧ Rep K mg adr N H C C v d
  | _, _, _, _, .nil, h => by simp at h
  | _, _, 0, _, .cons r _, h => by simp at h; subst h; exact ⟨_, rfl, r⟩
  | _, _, i + 1, d, .cons _ t, h => by
    obtain ⟨v, e, r⟩ := RepA.get (i := i) (d := d) t (by simpa using h)
    exact ⟨v, by simpa using e, r⟩
theorem RepA.get' : ∀ {vs : List V} {ds : List D} {i : Nat} {v : V}, RepA K mg adr N H C vs ds → vs[i]? = some v → ∃ d, ds[i]? = some d ∧ Rep K mg adr N H C C v d
  | _, _, _, _, .nil, h => by simp at h
  | _, _, 0, _, .cons r _, h => by simp at h; subst h; exact ⟨_, rfl, r⟩
  | _, _, i + 1, v, .cons _ t, h => by
    obtain ⟨d, e, r⟩ := RepA.get' (i := i) (v := v) t (by simpa using h)
    exact ⟨d, by simpa using e, r⟩
theorem RepA.set {v : V} {d : D} (r : Rep K mg adr N H C C v d) : ∀ {vs : List V} {ds : List D} (i : Nat), RepA K mg adr N H C vs ds → RepA K mg adr N H C (vs.set i v) (ds.set i d)
  | _, _, _, .nil => .nil
  | _, _, 0, .cons _ t => .cons r t
  | _, _, i + 1, .cons q t => .cons q (RepA.set r i t)
theorem RepA.take : ∀ {vs : List V} {ds : List D} (n : Nat), RepA K mg adr N H C vs ds → RepA K mg adr N H C (vs.take n) (ds.take n)
  | _, _, 0, _ => .nil
  | _, _, _ + 1, .nil => .nil
  | _, _, n + 1, .cons r t => .cons r (RepA.take n t)
theorem RepA.drop : ∀ {vs : List V} {ds : List D} (n : Nat), RepA K mg adr N H C vs ds → RepA K mg adr N H C (vs.drop n) (ds.drop n)
  | _, _, 0, r => r
  | _, _, _ + 1, .nil => .nil
  | _, _, n + 1, .cons _ t => RepA.drop n t
theorem RepA.reverse : ∀ {vs : List V} {ds : List D}, RepA K mg adr N H C vs ds → RepA K mg adr N H C vs.reverse ds.reverse
  | _, _, .nil => .nil
  | _, _, .cons r t => by
    rw [List.reverse_cons, List.reverse_cons]
    exact (RepA.reverse t).append (.cons r .nil)
theorem RepA.one {v : V} {d : D} (r : Rep K mg adr N H C C v d) : RepA K mg adr N H C [v] [d] := .cons r .nil
theorem KLst.sql {a : Addr} {xs : List V} (h : KLst K a xs) : SqL K H a xs := .inr h
theorem KTup.sqt {a : Addr} {xs : List V} (h : KTup K a xs) : SqT K H a xs := .inr h
theorem sql_of {T : Addr → Prop} {a : Addr} {xs : List V} (h : (Rd H a (.lst xs) ∧ T a) ∨ KLst K a xs) : SqL K H a xs := h.elim (fun q => .inl q.1) .inr
end

/-- fresh between W and W' and in nobody's hands -/
def Fr (W W' : Wd) (a : Addr) : Prop := W.H a = none ∧ W'.H a ≠ none ∧ ¬ W'.Sh a ∧ ¬ W'.RR a ∧ ¬ W'.Cl a
/-- where a value's own object (t) and its deeper ones (c) may stand, besides fresh ones: s: shared, r: owned by a slot -/
structure Lk where
  ts : Bool
  tr : Bool
  cs : Bool
  cr : Bool
def Lk.f0 : Lk := ⟨false, false, false, false⟩
def Lk.sh : Lk := ⟨true, false, true, false⟩
/-- nothing in a slot's hands -/
def Lk.free (L : Lk) : Bool := !L.tr && !L.cr
def Lk.le (L M : Lk) : Bool := (!L.ts || M.ts) && (!L.tr || M.tr) && (!L.cs || M.cs) && (!L.cr || M.cr)
/-- an object made of such values: fresh, above them -/
def Lk.over (L : Lk) : Lk := ⟨false, false, L.ts || L.cs, L.tr || L.cr⟩
def Lk.join (L M : Lk) : Lk := ⟨L.ts || M.ts, L.tr || M.tr, L.cs || M.cs, L.cr || M.cr⟩
/-- a part of such a value -/
def Lk.part (L : Lk) : Lk := ⟨true, L.cr, L.cs, L.cr⟩
/-- a new object with the same parts -/
def Lk.anew (L : Lk) : Lk := ⟨false, false, L.cs, L.cr⟩
def Tp (W W' : Wd) (L : Lk) (a : Addr) : Prop := (L.ts = true ∧ W'.Sh a) ∨ (L.tr = true ∧ W'.RR a) ∨ Fr W W' a
def Ch (W W' : Wd) (L : Lk) (a : Addr) : Prop := (L.cs = true ∧ W'.Sh a) ∨ (L.cr = true ∧ W'.RR a) ∨ Fr W W' a

/-- .. and not at the value's own place, where that one is not shared -/
def ChT (W W' : Wd) (L : Lk) (v : V) (a : Addr) : Prop := Ch W W' L a ∧ (L.ts = false → v ≠ .ref a)
abbrev RepW (K : PySem.W.Frag) (mg : Str → Option Value) (W : Wd) (C T : Addr → Prop) (v : V) (d : D) : Prop := Rep K mg W.adr W.N W.H C T v d
abbrev RepL (K : PySem.W.Frag) (mg : Str → Option Value) (W W' : Wd) (L : Lk) (v : V) (d : D) : Prop := Rep K mg W'.adr W'.N W'.H (ChT W W' L v) (Tp W W' L) v d

section
variable {W W1 W2 : Wd} {K : PySem.W.Frag} {mg : Str → Option Value}
theorem Fr.fwd (ok : W1.Ok) (s : ExStep W1 W2) {a : Addr} (h : Fr W W1 a) : Fr W W2 a := by
  obtain ⟨h1, h2, h3, h4, h5⟩ := h
  refine ⟨h1, s.dom a h2, fun z => ?_, fun z => h4 (s.rr ▸ z), fun z => ?_⟩
  · rcases s.shb a z with z | z
    · exact h3 z
    · exact h2 z
  · rcases cl_back s.cn s.ca s.cnew z with z | z
    · exact h5 z
    · exact h2 z
theorem Fr.bwd (s : ExStep W W1) {a : Addr} (h : Fr W1 W2 a) : Fr W W2 a := ⟨none_back (s.dom a) h.1, h.2⟩
theorem Tp.fwd (ok : W1.Ok) (s : ExStep W1 W2) {L : Lk} {a : Addr} (h : Tp W W1 L a) : Tp W W2 L a := by
  rcases h with ⟨h1, h2⟩ | ⟨h1, h2⟩ | h
  · exact .inl ⟨h1, s.sh a h2⟩
  · exact .inr (.inl ⟨h1, by rw [s.rr]; exact h2⟩)
  · exact .inr (.inr (h.fwd ok s))
theorem Ch.fwd (ok : W1.Ok) (s : ExStep W1 W2) {L : Lk} {a : Addr} (h : Ch W W1 L a) : Ch W W2 L a := by
  rcases h with ⟨h1, h2⟩ | ⟨h1, h2⟩ | h
  · exact .inl ⟨h1, s.sh a h2⟩
  · exact .inr (.inl ⟨h1, by rw [s.rr]; exact h2⟩)
  · exact .inr (.inr (h.fwd ok s))
theorem Tp.ncl (ok : W1.Ok) {L : Lk} {a : Addr} (h : Tp W W1 L a) : ¬ W1.Cl a := by
  rcases h with ⟨_, h⟩ | ⟨_, i, h⟩ | h
  · exact ok.shc a h
  · exact ok.rc i a h
  · exact h.2.2.2.2
theorem Ch.ncl (ok : W1.Ok) {L : Lk} {a : Addr} (h : Ch W W1 L a) : ¬ W1.Cl a := by
  rcases h with ⟨_, h⟩ | ⟨_, i, h⟩ | h
  · exact ok.shc a h
  · exact ok.rc i a h
  · exact h.2.2.2.2
/-- a value behind another expression -/
theorem RepL.fwd (ok : W1.Ok) (s : ExStep W1 W2) {L : Lk} {v : V} {d : D} (h : RepL K mg W W1 L v d) : RepL K mg W W2 L v d :=
  Rep.mono (fun a h => ⟨h.1.fwd ok s, h.2⟩) (fun a o c e => s.keep a o e (c.1.ncl ok)) s.cn s.ca (fun a h => h.fwd ok s) (fun a o c e => s.keep a o e (c.ncl ok)) h
theorem Tp.le {L M : Lk} (h : L.le M = true) {a : Addr} (t : Tp W W1 L a) : Tp W W1 M a := by
  obtain ⟨⟨⟨h1, h2⟩, h3⟩, h4⟩ : (((L.ts = false ∨ M.ts = true) ∧ (L.tr = false ∨ M.tr = true)) ∧ (L.cs = false ∨ M.cs = true)) ∧ (L.cr = false ∨ M.cr = true) := by
    simpa [Lk.le] using h
  rcases t with ⟨t1, t2⟩ | ⟨t1, t2⟩ | t
  · exact .inl ⟨h1.resolve_left (by rw [t1]; exact fun z => nomatch z), t2⟩
  · exact .inr (.inl ⟨h2.resolve_left (by rw [t1]; exact fun z => nomatch z), t2⟩)
  · exact .inr (.inr t)
theorem Ch.le {L M : Lk} (h : L.le M = true) {a : Addr} (t : Ch W W1 L a) : Ch W W1 M a := by
  obtain ⟨⟨⟨h1, h2⟩, h3⟩, h4⟩ : (((L.ts = false ∨ M.ts = true) ∧ (L.tr = false ∨ M.tr = true)) ∧ (L.cs = false ∨ M.cs = true)) ∧ (L.cr = false ∨ M.cr = true) := by
    simpa [Lk.le] using h
  rcases t with ⟨t1, t2⟩ | ⟨t1, t2⟩ | t
  · exact .inl ⟨h3.resolve_left (by rw [t1]; exact fun z => nomatch z), t2⟩
  · exact .inr (.inl ⟨h4.resolve_left (by rw [t1]; exact fun z => nomatch z), t2⟩)
  · exact .inr (.inr t)
theorem Lk.ts_of {L M : Lk} (h : L.le M = true) (e : M.ts = false) : L.ts = false := by
  unfold Lk.le at h
  rw [e] at h
  cases q : L.ts with
  | false => rfl
  | true => rw [q] at h; simp at h
theorem RepL.le {L M : Lk} (h : L.le M = true) {v : V} {d : D} (r : RepL K mg W W1 L v d) : RepL K mg W W1 M v d :=
  Rep.mono (fun a z => ⟨z.1.le h, fun e => z.2 (Lk.ts_of h e)⟩) (fun a o _ e => e) (Nat.le_refl _) (fun _ _ => rfl) (fun a => Tp.le h) (fun a o _ e => e) r
/-- seen from an earlier place -/
theorem RepL.bwd (s : ExStep W W1) {L : Lk} {v : V} {d : D} (r : RepL K mg W1 W2 L v d) : RepL K mg W W2 L v d :=
  Rep.mono (fun a h => ⟨by
      rcases h.1 with h | h | h
      · exact .inl h
      · exact .inr (.inl h)
      · exact .inr (.inr (h.bwd s)), h.2⟩) (fun a o _ e => e) (Nat.le_refl _) (fun _ _ => rfl) (fun a h => by
      rcases h with h | h | h
      · exact .inl h
      · exact .inr (.inl h)
      · exact .inr (.inr (h.bwd s))) (fun a o _ e => e) r
end

/-! ### slots and cells -/
/-- how a slot holds what it holds: shared; its own object its own; all of it its own -/
inductive Kd where
  | sh | top | all
  deriving DecidableEq
def kT (W : Wd) (i : Nat) : Kd → Addr → Prop
  | .sh => W.Sh
  | .top => W.R i
  | .all => W.R i
def kC (W : Wd) (i : Nat) : Kd → Addr → Prop
  | .sh => W.Sh
  | .top => W.Sh
  | .all => W.R i

def CellOk (K : PySem.W.Frag) (mg : Str → Option Value) (W : Wd) (a : Addr) : Cel → Prop
  | .lst ds => ∃ xs, W.H a = some (.lst xs) ∧ RepA K mg W.adr W.N W.H W.Sh xs ds
  | .dK dvs => ∃ kvs, W.H a = some (.dK kvs) ∧ kvs.map (·.1) = dvs.map (·.1) ∧ RepA K mg W.adr W.N W.H W.Sh (kvs.map (·.2)) (dvs.map (·.2))
  | .dT dvs => ∃ kvs, W.H a = some (.dT kvs) ∧ kvs.map (·.1) = dvs.map (·.1) ∧ RepA K mg W.adr W.N W.H W.Sh (kvs.map (·.2)) (dvs.map (·.2))
  | .ins c fs => ∃ C dx gs, mg c = some (.ref C) ∧ W.H a = some (.ins C dx gs) ∧ gs.map (·.1) = fs.map (·.1) ∧ RepA K mg W.adr W.N W.H W.Sh (gs.map (·.2)) (fs.map (·.2))
structure StOk (K : PySem.W.Frag) (mg : Str → Option Value) (W : Wd) (st : Store) : Prop where
  len : st.length = W.N
  at_ : ∀ n c, st[n]? = some c → CellOk K mg W (W.adr n) c
def SlOk (K : PySem.W.Frag) (mg : Str → Option Value) (W : Wd) (Γ : List Kd) (ρ : Env) (σ : L2.St) : Prop :=
  ∀ i d, ρ[i]? = some (some d) → ∃ k v, Γ[i]? = some k ∧ σ[i]? = some (some v) ∧ RepW K mg W (fun b => kC W i k b ∧ (k ≠ .sh → v ≠ .ref b)) (kT W i k) v d
structure Rel (K : PySem.W.Frag) (mg : Str → Option Value) (Γ : List Kd) (ρ : Env) (st : Store) (σ : L2.St) (W : Wd) : Prop where
  ok : W.Ok
  sl : SlOk K mg W Γ ρ σ
  st : StOk K mg W st
  len : ρ.length = σ.length

section
variable {K : PySem.W.Frag} {mg : Str → Option Value} {W W1 : Wd} {Γ : List Kd} {ρ : Env} {σ : L2.St} {st : Store}
theorem kT_ncl (ok : W.Ok) {i : Nat} {k : Kd} {a : Addr} (h : kT W i k a) : ¬ W.Cl a := by
  cases k with
  | sh => exact ok.shc a h
  | top => exact ok.rc i a h
  | all => exact ok.rc i a h
theorem kC_ncl (ok : W.Ok) {i : Nat} {k : Kd} {a : Addr} (h : kC W i k a) : ¬ W.Cl a := by
  cases k with
  | sh => exact ok.shc a h
  | top => exact ok.shc a h
  | all => exact ok.rc i a h
/-- the slots stay where the regions stay -/
theorem SlOk.step (ok : W.Ok) (s : ExStep W W1) (h : SlOk K mg W Γ ρ σ) : SlOk K mg W1 Γ ρ σ := fun i d e => by
  have hR : ∀ i a, W.R i a → W1.R i a := fun i a h => by rw [s.rb]; exact h
  obtain ⟨k, v, h1, h2, r⟩ := h i d e
  refine ⟨k, v, h1, h2, Rep.mono ?_ (fun a o c e => s.keep a o e (kC_ncl ok c.1)) s.cn s.ca ?_ (fun a o c e => s.keep a o e (kT_ncl ok c)) r⟩
  · intro a z
    refine ⟨?_, z.2⟩
    have z := z.1
    cases k with
    | sh => exact s.sh a z
    | top => exact s.sh a z
    | all => exact hR i a z
  · cases k with
    | sh => exact s.sh
    | top => exact hR i
    | all => exact hR i
end
end DL

set_option Elab.async false
set_option linter.all false
set_option maxRecDepth 100000
/-! DL2: new objects, the judgements for expressions, names, constants, arguments, displays. -/
namespace DL
open PySem PySem.Spec PyProof.Rows L2

section
variable {K : PySem.W.Frag} {mg : Str → Option Value} {W W1 W2 : Wd} {Γ : List Kd} {ρ : Env} {σ : L2.St} {st : Store} {p : Addr} {o : HO}
def Wd.put (W : Wd) (p : Addr) (o : HO) : Wd := { W with H := upd W.H p o }
theorem put_keep (hp : W.H p = none) {a : Addr} {u : HO} (h : W.H a = some u) : upd W.H p o a = some u := by
  rw [upd_ne (ne_of_none h hp)]; exact h
theorem upd_dom {H : Hp} {a : Addr} (h : H a ≠ none) : upd H p o a ≠ none := by
  unfold upd
  split
  · exact fun z => nomatch z
  · exact h
theorem put_tup (hp : W.H p = none) : ∀ a xs, W.H a = some (.tup xs) → upd W.H p o a = some (.tup xs) := fun _ _ e => put_keep hp e
theorem put_step (hp : W.H p = none) : ExStep W (W.put p o) :=
  ⟨fun _ _ h _ => put_keep hp h, fun _ h => upd_dom h, fun _ h => h, fun _ h => .inl h, rfl, Nat.le_refl _, fun _ _ => rfl, fun n h1 h2 => absurd (Nat.lt_of_lt_of_le h2 h1) (Nat.lt_irrefl _), put_tup hp⟩
theorem put_ok (ok : W.Ok) : (W.put p o).Ok :=
  ⟨fun a h => upd_dom (ok.sh a h), fun i a h => upd_dom (ok.r i a h), fun n h => upd_dom (ok.c n h), ok.shr, ok.rr, ok.shc, ok.rc, ok.inj⟩
theorem put_fr (ok : W.Ok) (hp : W.H p = none) : Fr W (W.put p o) p :=
  ⟨hp, (by show upd W.H p o p ≠ none; rw [upd_same]; exact fun z => (nomatch z)), fun z => ok.sh p z hp, fun ⟨i, z⟩ => ok.r i p z hp, fun ⟨n, hn, z⟩ => ok.c n hn ((congrArg W.H z).symm.trans hp)⟩
theorem RepA.keep {adr : Nat → Addr} {N : Nat} {H H' : Hp} {C : Addr → Prop} (k : ∀ a u, H a = some u → H' a = some u) {vs : List V} {ds : List D} (h : RepA K mg adr N H C vs ds) : RepA K mg adr N H' C vs ds :=
  RepA.mono (fun _ h => h) (fun a o _ e => k a o e) (Nat.le_refl _) (fun _ _ => rfl) h (fun a xs e => k a _ e)
theorem CellOk.step (ok : W.Ok) (s : ExStep W W1) {a : Addr} (k : ∀ u, W.H a = some u → W1.H a = some u) {c : Cel} (h : CellOk K mg W a c) : CellOk K mg W1 a c := by
  have m : ∀ {vs : List V} {ds : List D}, RepA K mg W.adr W.N W.H W.Sh vs ds → RepA K mg W1.adr W1.N W1.H W1.Sh vs ds := fun r =>
    RepA.mono s.sh (fun a o c e => s.keep a o e (ok.shc a c)) s.cn s.ca r
  cases c with
  | lst ds => obtain ⟨xs, h1, h2⟩ := h; exact ⟨xs, k _ h1, m h2⟩
  | dK ds => obtain ⟨xs, h1, h2, h3⟩ := h; exact ⟨xs, k _ h1, h2, m h3⟩
  | dT ds => obtain ⟨xs, h1, h2, h3⟩ := h; exact ⟨xs, k _ h1, h2, m h3⟩
  | ins c fs => obtain ⟨C, dx, gs, h0, h1, h2, h3⟩ := h; exact ⟨C, dx, gs, h0, k _ h1, h2, m h3⟩
theorem put_rel (hp : W.H p = none) (r : Rel K mg Γ ρ st σ W) : Rel K mg Γ ρ st σ (W.put p o) :=
  ⟨put_ok r.ok, r.sl.step r.ok (put_step hp), ⟨r.st.len, fun n c e => (r.st.at_ n c e).step r.ok (put_step hp) fun u h => put_keep hp h⟩, r.len⟩
theorem Lk.le_refl (L : Lk) : L.le L = true := by
  unfold Lk.le
  cases L.ts <;> cases L.tr <;> cases L.cs <;> cases L.cr <;> rfl
/-- a value within a new object -/
theorem Tp.under {L : Lk} {a : Addr} (h : Tp W W1 L a) : Ch W W1 L.over a := by
  rcases h with ⟨h, z⟩ | ⟨h, z⟩ | h
  · exact .inl ⟨by unfold Lk.over; simp [h], z⟩
  · exact .inr (.inl ⟨by unfold Lk.over; simp [h], z⟩)
  · exact .inr (.inr h)
theorem Ch.under {L : Lk} {a : Addr} (h : Ch W W1 L a) : Ch W W1 L.over a := by
  rcases h with ⟨h, z⟩ | ⟨h, z⟩ | h
  · exact .inl ⟨by unfold Lk.over; simp [h], z⟩
  · exact .inr (.inl ⟨by unfold Lk.over; simp [h], z⟩)
  · exact .inr (.inr h)
theorem RepL.under {L : Lk} {v : V} {d : D} (r : RepL K mg W W1 L v d) : Rep K mg W1.adr W1.N W1.H (Ch W W1 L.over) (Ch W W1 L.over) v d :=
  Rep.mono (fun a h => h.1.under) (fun a o _ e => e) (Nat.le_refl _) (fun _ _ => rfl) (fun a h => h.under) (fun a o _ e => e) r
abbrev RepLs (K : PySem.W.Frag) (mg : Str → Option Value) (W W' : Wd) (L : Lk) : List V → List D → Prop := Paired (RepL K mg W W' L)
theorem RepLs.under {L : Lk} : ∀ {vs : List V} {ds : List D}, RepLs K mg W W1 L vs ds → RepA K mg W1.adr W1.N W1.H (Ch W W1 L.over) vs ds
  | _, _, .nil => .nil
  | _, _, .cons r t => .cons (RepL.under r) (RepLs.under t)
theorem RepLs.fwd (ok : W1.Ok) (s : ExStep W1 W2) {L : Lk} : ∀ {vs : List V} {ds : List D}, RepLs K mg W W1 L vs ds → RepLs K mg W W2 L vs ds
  | _, _, .nil => .nil
  | _, _, .cons r t => .cons (RepL.fwd ok s r) (RepLs.fwd ok s t)
theorem RepLs.bwd (s : ExStep W W1) {L : Lk} : ∀ {vs : List V} {ds : List D}, RepLs K mg W1 W2 L vs ds → RepLs K mg W W2 L vs ds
  | _, _, .nil => .nil
  | _, _, .cons r t => .cons (RepL.bwd s r) (RepLs.bwd s t)
theorem RepLs.le {L M : Lk} (h : L.le M = true) : ∀ {vs : List V} {ds : List D}, RepLs K mg W W1 L vs ds → RepLs K mg W W1 M vs ds
  | _, _, .nil => .nil
  | _, _, .cons r t => .cons (RepL.le h r) (RepLs.le h t)
theorem Paired.len {α β : Type} {P : α → β → Prop} : ∀ {xs : List α} {ys : List β}, Paired P xs ys → xs.length = ys.length
  | _, _, .nil => rfl
  | _, _, .cons _ t => congrArg (· + 1) (Paired.len t)
theorem Lk.le_join1 (L M : Lk) : L.le (L.join M) = true := by
  unfold Lk.le Lk.join
  cases L.ts <;> cases L.tr <;> cases L.cs <;> cases L.cr <;> rfl
theorem Lk.le_join2 (L M : Lk) : M.le (L.join M) = true := by
  unfold Lk.le Lk.join
  cases L.ts <;> cases L.tr <;> cases L.cs <;> cases L.cr <;> cases M.ts <;> cases M.tr <;> cases M.cs <;> cases M.cr <;> rfl
/-- a new object p, over the parts at Ch -/
theorem ch_put (ok : W1.Ok) (hp : W1.H p = none) {L : Lk} {a : Addr} (h : Ch W W1 L a) : Ch W (W1.put p o) L a := h.fwd ok (put_step hp)
theorem ch_there (ok : W1.Ok) {L : Lk} {a : Addr} (h : Ch W W1 L a) : W1.H a ≠ none := by
  rcases h with ⟨_, h⟩ | ⟨_, i, h⟩ | h
  · exact ok.sh a h
  · exact ok.r i a h
  · exact h.2.1
theorem ch_putT (ok : W1.Ok) (hp : W1.H p = none) {L : Lk} {a : Addr} (h : Ch W W1 L a) : ChT W (W1.put p o) L (.ref p) a :=
  ⟨ch_put ok hp h, fun _ z => ch_there ok h (by cases z; exact hp)⟩
theorem lst_put (ok : W1.Ok) (s : ExStep W W1) (hp : W1.H p = none) {L : Lk} {vs : List V} {ds : List D} (r : RepA K mg W1.adr W1.N W1.H (Ch W W1 L) vs ds) : RepL K mg W (W1.put p (.lst vs)) L (.ref p) (.lst ds) :=
  .lst ⟨upd_same, .inr (.inr ((put_fr ok hp).bwd s))⟩ (RepA.mono (fun a h => ch_putT ok hp h) (fun a o c e => put_keep hp e) (Nat.le_refl _) (fun _ _ => rfl) r (put_tup hp))
theorem tup_put (ok : W1.Ok) (s : ExStep W W1) (hp : W1.H p = none) {L : Lk} {vs : List V} {ds : List D} (r : RepA K mg W1.adr W1.N W1.H (Ch W W1 L) vs ds) : RepL K mg W (W1.put p (.tup vs)) L (.ref p) (.tup ds) :=
  .tup upd_same (RepA.mono (fun a h => ch_putT ok hp h) (fun a o c e => put_keep hp e) (Nat.le_refl _) (fun _ _ => rfl) r (put_tup hp))
end

/-! ### the judgements -/
abbrev SemE := Env → Store → Option (D × Store)
abbrev SemB := Env → Store → Option (Bool × Store)
abbrev SemA := Env → Store → Option (List D × Store)

/-- what must follow behind an expression -/
def PostE (X : Cx) (Γ : List Kd) (ρ : Env) (st' : Store) (σ : L2.St) (W : Wd) (L : Lk) (d : D) (Q : VK) : Prop :=
  ∀ v W', ExStep W W' → Rel X.K X.mg Γ ρ st' σ W' → RepL X.K X.mg W W' L v d → Q v W'.H
def PostB (X : Cx) (Γ : List Kd) (ρ : Env) (st' : Store) (σ : L2.St) (W : Wd) (b : Bool) (Q : Bool → Hp → Prop) : Prop :=
  ∀ W', ExStep W W' → Rel X.K X.mg Γ ρ st' σ W' → Q b W'.H
structure DE (X : Cx) (Γ : List Kd) (e : Expr) (L : Lk) (f : SemE) : Prop where
  ex : ∃ t, PE X e t ∧ ∀ ρ st σ W d st', Rel X.K X.mg Γ ρ st σ W → f ρ st = some (d, st') → ∀ Q : VK, PostE X Γ ρ st' σ W L d Q → t σ W.H Q
/-- arguments, the parts of a display -/
structure DA (X : Cx) (Γ : List Kd) (es : List Expr) (L : Lk) (f : SemA) : Prop where
  ex : ∃ t, PA X es t ∧ ∀ ρ st σ W ds st', Rel X.K X.mg Γ ρ st σ W → f ρ st = some (ds, st') → ∀ Q : List V → Hp → Prop,
    (∀ vs W', ExStep W W' → Rel X.K X.mg Γ ρ st' σ W' → RepLs X.K X.mg W W' L vs ds → Q vs W'.H) → t σ W.H Q
/-- a truth value, as a value and as a test -/
structure DB (X : Cx) (Γ : List Kd) (e : Expr) (f : SemB) : Prop where
  pe : ∃ t, PE X e t ∧ ∀ ρ st σ W b st', Rel X.K X.mg Γ ρ st σ W → f ρ st = some (b, st') → ∀ Q : VK, PostB X Γ ρ st' σ W b (fun b H => Q (.bl b) H) → t σ W.H Q
  pt : ∃ t, PT X e t ∧ ∀ ρ st σ W b st', Rel X.K X.mg Γ ρ st σ W → f ρ st = some (b, st') → ∀ Q : Bool → Hp → Prop, PostB X Γ ρ st' σ W b Q → t σ W.H Q
/-- the rest of an and, an or -/
structure DBs (X : Cx) (Γ : List Kd) (e : Expr) (f : SemB) : Prop where
  pe : ∃ t, PE X e t ∧ ∀ ρ st σ W b st', Rel X.K X.mg Γ ρ st σ W → f ρ st = some (b, st') → ∀ Q : VK, PostB X Γ ρ st' σ W b (fun b H => Q (.bl b) H) → t σ W.H Q
  pw : ∃ t, PW X e t ∧ ∀ ρ st σ W b st', Rel X.K X.mg Γ ρ st σ W → f ρ st = some (b, st') → ∀ Q : Bool → Hp → Prop, PostB X Γ ρ st' σ W b Q → t σ W.H Q

section
variable {X : Cx} {Γ : List Kd} {e a b c : Expr} {es rest : List Expr} {L M : Lk} {f g h : SemE} {fb gb : SemB} {fa : SemA} {pos : Pos}

/-! ### names -/
def cVar (i : Nat) : SemE := fun ρ st => match ρ[i]? with
  | some (some d) => some (d, st)
  | _ => none
def Kd.lk : Kd → Lk
  | .sh => ⟨true, false, true, false⟩
  | .top => ⟨false, true, true, false⟩
  | .all => ⟨false, true, false, true⟩
theorem de_var {i : Nat} {x : Str} {k : Kd} (hk : Γ[i]? = some k := by rfl) (hN : X.N[i]? = some x := by rfl) (hv : Vis X.env.scope x := by first | exact Or.inl rfl | exact Or.inr (Or.inl rfl) | exact Or.inr (Or.inr rfl))
    (hd : (x == ("__debug__" : Str)) = false := by decide) (hcd : (x == ("__classdict__" : Str)) = false := by decide) : DE X Γ (.Name x pos) k.lk (cVar i) := by
  refine ⟨_, pe_var hN hv hd hcd, fun ρ st σ W d st' r hf Q q => ?_⟩
  unfold cVar at hf
  split at hf
  · rename_i d' he
    cases hf
    obtain ⟨k', v, h1, h2, h3⟩ := r.sl i d he
    rw [hk] at h1; cases h1
    refine ⟨v, h2, q v W (ExStep.refl W) r ?_⟩
    refine Rep.mono (fun a h => ?_) (fun a o _ e => e) (Nat.le_refl _) (fun _ _ => rfl) (fun a h => ?_) (fun a o _ e => e) h3
    · cases k with
      | sh => exact ⟨.inl ⟨rfl, h.1⟩, fun z => nomatch z⟩
      | top => exact ⟨.inl ⟨rfl, h.1⟩, fun _ => h.2 (fun z => nomatch z)⟩
      | all => exact ⟨.inr (.inl ⟨rfl, i, h.1⟩), fun _ => h.2 (fun z => nomatch z)⟩
    · cases k with
      | sh => exact .inl ⟨rfl, h⟩
      | top => exact .inr (.inl ⟨rfl, i, h⟩)
      | all => exact .inr (.inl ⟨rfl, i, h⟩)
  · cases hf
/-! ### constants -/
def cC (d : D) : SemE := fun _ st => some (d, st)
theorem de_const {v : V} {d : D} (h : PE X e (tC v)) (hr : ∀ W W' : Wd, RepL X.K X.mg W W' Lk.f0 v d) : DE X Γ e Lk.f0 (cC d) :=
  ⟨_, h, fun ρ st σ W d' st' r hf Q q => by
    cases hf
    exact q v W (ExStep.refl W) r (hr W W)⟩
theorem de_int {i : Int} {j pos} : DE X Γ (.Constant (.int i) j pos) Lk.f0 (cC (.int i)) := de_const pe_int fun _ _ => .int i
theorem de_bl {k : Bool} {j pos} : DE X Γ (.Constant (.bool k) j pos) Lk.f0 (cC (.bl k)) := de_const pe_bl fun _ _ => .bl k
theorem de_non {j pos} : DE X Γ (.Constant .none j pos) Lk.f0 (cC .non) := de_const pe_non fun _ _ => .non
theorem de_str {x : Str} {j pos} : DE X Γ (.Constant (.str x) j pos) Lk.f0 (cC (.str x)) := de_const pe_str fun _ _ => .str x
/-- a def, a class of the module -/
theorem de_glo {x : Str} {u : Addr} (hm : X.mg x = some (.ref u)) (hg : Gl X x := by rfl) (hd : (x == ("__debug__" : Str)) = false := by decide) : DE X Γ (.Name x pos) Lk.f0 (cC (.glo x)) :=
  de_const (v := .ref u) (pe_glob hg hm rfl hd) fun _ _ => .glo hm
/-- an int or a text of the module -/
theorem de_gloI {x : Str} {i : Int} {t : Tok} (hm : X.mg x = some (.int i t)) (hg : Gl X x := by rfl) (hd : (x == ("__debug__" : Str)) = false := by decide) : DE X Γ (.Name x pos) Lk.f0 (cC (.int i)) :=
  de_const (v := .int i) (pe_glob hg hm ⟨t, rfl⟩ hd) fun _ _ => .int i
theorem de_gloS {x : Str} {i : Str} {t : Tok} (hm : X.mg x = some (.str i t)) (hg : Gl X x := by rfl) (hd : (x == ("__debug__" : Str)) = false := by decide) : DE X Γ (.Name x pos) Lk.f0 (cC (.str i)) :=
  de_const (v := .str i) (pe_glob hg hm ⟨t, rfl⟩ hd) fun _ _ => .str i
theorem de_le (he : DE X Γ e L f) (hl : L.le M = true) : DE X Γ e M f := by
  obtain ⟨t, h1, h2⟩ := he.ex
  exact ⟨t, h1, fun ρ st σ W d st' r hf Q q => h2 ρ st σ W d st' r hf Q fun v W' s r' rv => q v W' s r' (rv.le hl)⟩

/-! ### arguments -/
def cNil : SemA := fun _ st => some ([], st)
def cCons (f : SemE) (g : SemA) : SemA := fun ρ st => match f ρ st with
  | some (d, s1) => match g ρ s1 with
    | some (ds, s2) => some (d :: ds, s2)
    | none => none
  | none => none
theorem da_nil : DA X Γ [] Lk.f0 cNil := ⟨_, pa_nil, fun ρ st σ W ds st' r hf Q q => by
  cases hf
  exact q [] W (ExStep.refl W) r .nil⟩
theorem da_cons (he : DE X Γ e L f) (hr : DA X Γ es M fa) (hs : starEach (e :: es) X.env = (false, eval e X.env) :: starEach es X.env := by rfl) : DA X Γ (e :: es) (L.join M) (cCons f fa) := by
  obtain ⟨t, h1, h2⟩ := he.ex
  obtain ⟨u, k1, k2⟩ := hr.ex
  refine ⟨_, pa_cons h1 k1 hs, fun ρ st σ W ds st' r hf Q q => ?_⟩
  unfold cCons at hf
  cases ef : f ρ st with
  | none => rw [ef] at hf; cases hf
  | some x =>
    obtain ⟨d, s1⟩ := x
    rw [ef] at hf
    dsimp only at hf
    cases eg : fa ρ s1 with
    | none => rw [eg] at hf; cases hf
    | some y =>
      obtain ⟨ds', s2⟩ := y
      rw [eg] at hf
      cases hf
      refine h2 ρ st σ W d s1 r ef _ fun v W1 st1 r1 rv => ?_
      refine k2 ρ s1 σ W1 ds' _ r1 eg _ fun vs W2 st2 r2 rvs => ?_
      exact q (v :: vs) W2 (st1.trans st2) r2 (.cons ((rv.fwd r1.ok st2).le (L.le_join1 M)) ((rvs.bwd st1).le (L.le_join2 M)))

/-! ### displays -/
def cLst (f : SemA) : SemE := fun ρ st => match f ρ st with
  | some (ds, s1) => if ds.length ≤ sizeLine then some (.lst ds, s1) else none
  | none => none
def cTup (f : SemA) : SemE := fun ρ st => match f ρ st with
  | some (ds, s1) => if ds.length ≤ sizeLine then some (.tup ds, s1) else none
  | none => none
theorem de_lst (ha : DA X Γ es L fa) : DE X Γ (.List es pos) L.over (cLst fa) := by
  obtain ⟨t, h1, h2⟩ := ha.ex
  refine ⟨_, pe_lst h1, fun ρ st σ W d st' r hf Q q => ?_⟩
  unfold cLst at hf
  cases ef : fa ρ st with
  | none => rw [ef] at hf; cases hf
  | some x =>
    obtain ⟨ds, s1⟩ := x
    rw [ef] at hf
    dsimp only at hf
    split at hf
    · rename_i hl
      cases hf
      refine h2 ρ st σ W ds _ r ef _ fun vs W1 st1 r1 rvs => ⟨by rw [Paired.len rvs]; exact hl, fun p hp => ?_⟩
      exact q (.ref p) (W1.put p (.lst vs)) (st1.trans (put_step hp)) (put_rel hp r1) (lst_put r1.ok st1 hp rvs.under)
    · cases hf
theorem de_tup {x1} (ha : DA X Γ es L fa) : DE X Γ (.Tuple es x1 pos) L.over (cTup fa) := by
  obtain ⟨t, h1, h2⟩ := ha.ex
  refine ⟨_, pe_tup h1, fun ρ st σ W d st' r hf Q q => ?_⟩
  unfold cTup at hf
  cases ef : fa ρ st with
  | none => rw [ef] at hf; cases hf
  | some x =>
    obtain ⟨ds, s1⟩ := x
    rw [ef] at hf
    dsimp only at hf
    split at hf
    · rename_i hl
      cases hf
      refine h2 ρ st σ W ds _ r ef _ fun vs W1 st1 r1 rvs => ⟨by rw [Paired.len rvs]; exact hl, fun p hp => ?_⟩
      exact q (.ref p) (W1.put p (.tup vs)) (st1.trans (put_step hp)) (put_rel hp r1) (tup_put r1.ok st1 hp rvs.under)
    · cases hf

/-! ### truth values -/
def cB (f : SemB) : SemE := fun ρ st => match f ρ st with
  | some (b, s) => some (.bl b, s)
  | none => none
theorem de_b (hb : DB X Γ e fb) : DE X Γ e Lk.f0 (cB fb) := by
  obtain ⟨t, h1, h2⟩ := hb.pe
  refine ⟨t, h1, fun ρ st σ W d st' r hf Q q => ?_⟩
  unfold cB at hf
  cases ef : fb ρ st with
  | none => rw [ef] at hf; cases hf
  | some x =>
    obtain ⟨b, s⟩ := x
    rw [ef] at hf
    cases hf
    exact h2 ρ st σ W b _ r ef Q fun W' s' r' => q (.bl b) W' s' r' (.bl b)
def cIsB (f : SemE) : SemB := fun ρ st => match f ρ st with
  | some (.bl b, s) => some (b, s)
  | _ => none
theorem db_e (he : DE X Γ e L f) (hp : ∀ whole, isTrue e X.env whole = (do let v ← whole; standAt e.pos; holding [v] (truthy v)) := by intro _; rfl) : DB X Γ e (cIsB f) := by
  obtain ⟨t, h1, h2⟩ := he.ex
  have key : ∀ {ρ st b st'}, cIsB f ρ st = some (b, st') → f ρ st = some (.bl b, st') := fun {ρ st b st'} hf => by
    unfold cIsB at hf
    split at hf
    · rename_i e; cases hf; exact e
    · cases hf
  have blv : ∀ {W W' : Wd} {v : V} {b : Bool}, RepL X.K X.mg W W' L v (.bl b) → v = .bl b := fun h => by cases h; rfl
  refine ⟨⟨t, h1, fun ρ st σ W b st' r hf Q q => h2 ρ st σ W _ _ r (key hf) Q fun v W' s' r' rv => ?_⟩, ⟨_, pt_val h1 hp, fun ρ st σ W b st' r hf Q q => h2 ρ st σ W _ _ r (key hf) _ fun v W' s' r' rv => ?_⟩⟩
  · rw [blv rv]; exact q W' s' r'
  · exact ⟨b, blv rv, q W' s' r'⟩
def cNot (f : SemB) : SemB := fun ρ st => match f ρ st with
  | some (b, s) => some (!b, s)
  | none => none
theorem db_not (hb : DB X Γ a fb) : DB X Γ (.UnaryOp .Not a pos) (cNot fb) := by
  obtain ⟨t, h1, h2⟩ := hb.pe
  obtain ⟨u, k1, k2⟩ := hb.pt
  have key : ∀ {ρ st b st'}, cNot fb ρ st = some (b, st') → fb ρ st = some (!b, st') := fun {ρ st b st'} hf => by
    unfold cNot at hf
    split at hf
    · rename_i e; cases hf; rw [e, Bool.not_not]
    · cases hf
  refine ⟨⟨_, pe_not h1, fun ρ st σ W b st' r hf Q q => h2 ρ st σ W _ _ r (key hf) _ fun W' s' r' => ⟨_, rfl, ?_⟩⟩, ⟨_, pt_not k1, fun ρ st σ W b st' r hf Q q => k2 ρ st σ W _ _ r (key hf) _ fun W' s' r' => ?_⟩⟩
  · rw [Bool.not_not]; exact q W' s' r'
  · show Q (!(!b)) W'.H
    rw [Bool.not_not]; exact q W' s' r'
def cAnd (f g : SemB) : SemB := fun ρ st => match f ρ st with
  | some (true, s) => g ρ s
  | some (false, s) => some (false, s)
  | none => none
def cOr (f g : SemB) : SemB := fun ρ st => match f ρ st with
  | some (true, s) => some (true, s)
  | some (false, s) => g ρ s
  | none => none
theorem dbs_and1 (hb : DB X Γ a fb) : DBs X Γ (.BoolOp .And [a] pos) fb := by
  obtain ⟨t, h1, h2⟩ := hb.pe
  obtain ⟨u, k1, k2⟩ := hb.pt
  exact ⟨⟨t, pe_one h1, h2⟩, ⟨u, pw_and1 k1, k2⟩⟩
theorem dbs_or1 (hb : DB X Γ a fb) : DBs X Γ (.BoolOp .Or [a] pos) fb := by
  obtain ⟨t, h1, h2⟩ := hb.pe
  obtain ⟨u, k1, k2⟩ := hb.pt
  exact ⟨⟨t, pe_one h1, h2⟩, ⟨u, pw_or1 k1, k2⟩⟩
theorem db_s (h : DBs X Γ e fb) : DB X Γ e fb := by
  obtain ⟨t, h1, h2⟩ := h.pe
  obtain ⟨u, k1, k2⟩ := h.pw
  exact ⟨⟨t, h1, h2⟩, ⟨u, k1.pt, k2⟩⟩
theorem dbs_and (ha : DB X Γ a fb) (hb : DBs X Γ (.BoolOp .And (b :: rest) pos) gb) : DBs X Γ (.BoolOp .And (a :: b :: rest) pos) (cAnd fb gb) := by
  obtain ⟨t, h1, h2⟩ := ha.pe
  obtain ⟨u, k1, k2⟩ := ha.pt
  obtain ⟨t', h1', h2'⟩ := hb.pe
  obtain ⟨u', k1', k2'⟩ := hb.pw
  refine ⟨⟨_, pe_and h1 h1', fun ρ st σ W b st' r hf Q q => ?_⟩, ⟨_, pw_and k1 k1', fun ρ st σ W b st' r hf Q q => ?_⟩⟩
  all_goals
    unfold cAnd at hf
    split at hf
    · rename_i s1 ef
      first
        | exact h2 ρ st σ W _ _ r ef _ fun W1 st1 r1 => ⟨true, rfl, iteT (h2' ρ s1 σ W1 b st' r1 hf Q fun W2 st2 r2 => q W2 (st1.trans st2) r2)⟩
        | exact k2 ρ st σ W _ _ r ef _ fun W1 st1 r1 => iteT (k2' ρ s1 σ W1 b st' r1 hf Q fun W2 st2 r2 => q W2 (st1.trans st2) r2)
    · rename_i s1 ef
      cases hf
      first
        | exact h2 ρ st σ W _ _ r ef _ fun W1 st1 r1 => ⟨false, rfl, iteF (q W1 st1 r1)⟩
        | exact k2 ρ st σ W _ _ r ef _ fun W1 st1 r1 => iteF (q W1 st1 r1)
    · cases hf
theorem dbs_or (ha : DB X Γ a fb) (hb : DBs X Γ (.BoolOp .Or (b :: rest) pos) gb) : DBs X Γ (.BoolOp .Or (a :: b :: rest) pos) (cOr fb gb) := by
  obtain ⟨t, h1, h2⟩ := ha.pe
  obtain ⟨u, k1, k2⟩ := ha.pt
  obtain ⟨t', h1', h2'⟩ := hb.pe
  obtain ⟨u', k1', k2'⟩ := hb.pw
  refine ⟨⟨_, pe_or h1 h1', fun ρ st σ W b st' r hf Q q => ?_⟩, ⟨_, pw_or k1 k1', fun ρ st σ W b st' r hf Q q => ?_⟩⟩
  all_goals
    unfold cOr at hf
    split at hf
    · rename_i s1 ef
      cases hf
      first
        | exact h2 ρ st σ W _ _ r ef _ fun W1 st1 r1 => ⟨true, rfl, iteT (q W1 st1 r1)⟩
        | exact k2 ρ st σ W _ _ r ef _ fun W1 st1 r1 => iteT (q W1 st1 r1)
    · rename_i s1 ef
      first
        | exact h2 ρ st σ W _ _ r ef _ fun W1 st1 r1 => ⟨false, rfl, iteF (h2' ρ s1 σ W1 b st' r1 hf Q fun W2 st2 r2 => q W2 (st1.trans st2) r2)⟩
        | exact k2 ρ st σ W _ _ r ef _ fun W1 st1 r1 => iteF (k2' ρ s1 σ W1 b st' r1 hf Q fun W2 st2 r2 => q W2 (st1.trans st2) r2)
    · cases hf
def cIf (c : SemB) (f g : SemE) : SemE := fun ρ st => match c ρ st with
  | some (true, s) => f ρ s
  | some (false, s) => g ρ s
  | none => none
theorem de_if (hc : DB X Γ c fb) (ha : DE X Γ a L f) (hb : DE X Γ b M g) : DE X Γ (.IfExp c a b pos) (L.join M) (cIf fb f g) := by
  obtain ⟨u, k1, k2⟩ := hc.pt
  obtain ⟨t, h1, h2⟩ := ha.ex
  obtain ⟨t', h1', h2'⟩ := hb.ex
  refine ⟨_, pe_ifExp k1 h1 h1', fun ρ st σ W d st' r hf Q q => ?_⟩
  unfold cIf at hf
  split at hf
  · rename_i s1 ef
    exact k2 ρ st σ W _ _ r ef _ fun W1 st1 r1 => iteT (h2 ρ s1 σ W1 d st' r1 hf Q fun v W2 st2 r2 rv => q v W2 (st1.trans st2) r2 ((rv.bwd st1).le (L.le_join1 M)))
  · rename_i s1 ef
    exact k2 ρ st σ W _ _ r ef _ fun W1 st1 r1 => iteF (h2' ρ s1 σ W1 d st' r1 hf Q fun v W2 st2 r2 rv => q v W2 (st1.trans st2) r2 ((rv.bwd st1).le (L.le_join2 M)))
  · cases hf
end
end DL

set_option Elab.async false
set_option linter.all false
set_option maxRecDepth 100000
/-! DL3: operators by values, comparisons, in, subscripts, slices, calls of built-ins. -/
namespace DL
open PySem PySem.Spec PyProof.Rows L2

/-- new objects alone -/
inductive Grow : Wd → Wd → Prop
  | refl {W : Wd} : Grow W W
  | put {W W' : Wd} {p : Addr} {o : HO} : Grow W W' → W'.H p = none → Grow W (W'.put p o)
section
variable {K : PySem.W.Frag} {mg : Str → Option Value} {W0 W W1 W2 : Wd} {Γ : List Kd} {ρ : Env} {σ : L2.St} {st : Store} {p : Addr} {o : HO}
theorem Grow.step (g : Grow W W1) : ExStep W W1 := by
  induction g with
  | refl => exact ExStep.refl _
  | put _ hp ih => exact ih.trans (put_step hp)
theorem Grow.ok (ok : W.Ok) (g : Grow W W1) : W1.Ok := by
  induction g with
  | refl => exact ok
  | put _ hp ih => exact put_ok ih
theorem Grow.rel (r : Rel K mg Γ ρ st σ W) (g : Grow W W1) : Rel K mg Γ ρ st σ W1 := by
  induction g with
  | refl => exact r
  | put _ hp ih => exact put_rel hp ih
theorem Grow.one (hp : W.H p = none) : Grow W (W.put p o) := .put .refl hp
/-- what must follow behind an operation on values -/
def PostV (K : PySem.W.Frag) (mg : Str → Option Value) (W0 W : Wd) (L : Lk) (d : D) (Q : VK) : Prop :=
  ∀ v W', Grow W W' → RepL K mg W0 W' L v d → Q v W'.H
theorem ch_mono {L M : Lk} (h : L.le M = true) {a : Addr} (t : Ch W W1 L a) : Ch W W1 M a := t.le h
theorem RepA.le {L M : Lk} (h : L.le M = true) {vs : List V} {ds : List D} (r : RepA K mg W1.adr W1.N W1.H (Ch W W1 L) vs ds) : RepA K mg W1.adr W1.N W1.H (Ch W W1 M) vs ds :=
  RepA.mono (fun _ t => t.le h) (fun _ _ _ e => e) (Nat.le_refl _) (fun _ _ => rfl) r
theorem postV_lst {L : Lk} {vs : List V} {ds : List D} {Q : VK} (ok : W.Ok) (s : ExStep W0 W) (r : RepA K mg W.adr W.N W.H (Ch W0 W L) vs ds) (q : PostV K mg W0 W L (.lst ds) Q) (p : Addr) (hp : W.H p = none) : Q (.ref p) (upd W.H p (.lst vs)) :=
  q (.ref p) (W.put p (.lst vs)) (Grow.one hp) (lst_put ok s hp r)
theorem postV_tup {L : Lk} {vs : List V} {ds : List D} {Q : VK} (ok : W.Ok) (s : ExStep W0 W) (r : RepA K mg W.adr W.N W.H (Ch W0 W L) vs ds) (q : PostV K mg W0 W L (.tup ds) Q) (p : Addr) (hp : W.H p = none) : Q (.ref p) (upd W.H p (.tup vs)) :=
  q (.ref p) (W.put p (.tup vs)) (Grow.one hp) (tup_put ok s hp r)
end

/-- an operation on two values: the answer's own object is new (or none), its parts are theirs -/
def DOp (X : Cx) (f : Value → Value → Sem Value) (g : D → D → Option D) : Prop :=
  ∃ r : R2, OpR X f r ∧ ∀ (W0 W : Wd) (x y : V) (d1 d2 d : D) (L M : Lk), W.Ok → ExStep W0 W → RepL X.K X.mg W0 W L x d1 → RepL X.K X.mg W0 W M y d2 → g d1 d2 = some d →
    ∀ Q : VK, PostV X.K X.mg W0 W (L.join M).anew d Q → r x y W.H Q
def cOp (g : D → D → Option D) (f h : SemE) : SemE := fun ρ st => match f ρ st with
  | some (x, s1) => match h ρ s1 with
    | some (y, s2) => match g x y with
      | some z => some (z, s2)
      | none => none
    | none => none
  | none => none
section
variable {X : Cx} {Γ : List Kd} {e a b c : Expr} {es rest : List Expr} {L M : Lk} {f h : SemE} {fb gb : SemB} {fa : SemA} {pos : Pos} {g : D → D → Option D}
theorem cOp_some {ρ : Env} {st st' : Store} {d : D} (hf : cOp g f h ρ st = some (d, st')) : ∃ x s1 y, f ρ st = some (x, s1) ∧ h ρ s1 = some (y, st') ∧ g x y = some d := by
  unfold cOp at hf
  split at hf
  · rename_i x s1 e1
    split at hf
    · rename_i y s2 e2
      split at hf
      · rename_i z e3
        cases hf
        exact ⟨x, s1, y, e1, e2, e3⟩
      · cases hf
    · cases hf
  · cases hf
theorem de_op {op : Operator} (ho : DOp X (binaryOp op) g) (ha : DE X Γ a L f) (hb : DE X Γ b M h) : DE X Γ (.BinOp a op b pos) (L.join M).anew (cOp g f h) := by
  obtain ⟨r, o1, o2⟩ := ho
  obtain ⟨t, h1, h2⟩ := ha.ex
  obtain ⟨u, k1, k2⟩ := hb.ex
  refine ⟨_, pe_op o1 h1 k1, fun ρ st σ W d st' rel hf Q q => ?_⟩
  obtain ⟨x, s1, y, e1, e2, e3⟩ := cOp_some hf
  refine h2 ρ st σ W x s1 rel e1 _ fun v W1 st1 r1 rv => ?_
  refine k2 ρ s1 σ W1 y _ r1 e2 _ fun u W2 st2 r2 ru => ?_
  exact o2 W W2 v u x y d L M r2.ok (st1.trans st2) (rv.fwd r1.ok st2) (ru.bwd st1) e3 Q fun v' W' gr rv' => q v' W' ((st1.trans st2).trans gr.step) (gr.rel r2) rv'
/-- a comparison -/
def DCmp (X : Cx) (op : CmpOp) (g : D → D → Option Bool) : Prop :=
  ∃ r : R2, OpR X (compareOp op) r ∧ ∀ (W0 W : Wd) (x y : V) (d1 d2 : D) (k : Bool) (L M : Lk), W.Ok → RepL X.K X.mg W0 W L x d1 → RepL X.K X.mg W0 W M y d2 → g d1 d2 = some k →
    ∀ Q : VK, Q (.bl k) W.H → r x y W.H Q
def cCmp (g : D → D → Option Bool) (f h : SemE) : SemB := fun ρ st => match f ρ st with
  | some (x, s1) => match h ρ s1 with
    | some (y, s2) => match g x y with
      | some z => some (z, s2)
      | none => none
    | none => none
  | none => none
theorem cCmp_some {g : D → D → Option Bool} {ρ : Env} {st st' : Store} {d : Bool} (hf : cCmp g f h ρ st = some (d, st')) : ∃ x s1 y, f ρ st = some (x, s1) ∧ h ρ s1 = some (y, st') ∧ g x y = some d := by
  unfold cCmp at hf
  split at hf
  · rename_i x s1 e1
    split at hf
    · rename_i y s2 e2
      split at hf
      · rename_i z e3
        cases hf
        exact ⟨x, s1, y, e1, e2, e3⟩
      · cases hf
    · cases hf
  · cases hf
theorem db_cmp {op : CmpOp} {g : D → D → Option Bool} (ho : DCmp X op g) (ha : DE X Γ a L f) (hb : DE X Γ b M h) (hm : behindInMarks op b = false := by first | exact nomark _ | rfl) : DB X Γ (.Compare a [op] [b] pos) (cCmp g f h) := by
  obtain ⟨r, o1, o2⟩ := ho
  obtain ⟨t, h1, h2⟩ := ha.ex
  obtain ⟨u, k1, k2⟩ := hb.ex
  refine ⟨⟨_, pe_cmpR o1 h1 k1 hm, fun ρ st σ W d st' rel hf Q q => ?_⟩, ⟨_, pt_cmpR o1 h1 k1 hm, fun ρ st σ W d st' rel hf Q q => ?_⟩⟩
  · obtain ⟨x, s1, y, e1, e2, e3⟩ := cCmp_some hf
    refine h2 ρ st σ W x s1 rel e1 _ fun v W1 st1 r1 rv => ?_
    refine k2 ρ s1 σ W1 y _ r1 e2 _ fun u W2 st2 r2 ru => ?_
    exact o2 W W2 v u x y d L M r2.ok (rv.fwd r1.ok st2) (ru.bwd st1) e3 Q (q W2 (st1.trans st2) r2)
  · obtain ⟨x, s1, y, e1, e2, e3⟩ := cCmp_some hf
    refine h2 ρ st σ W x s1 rel e1 _ fun v W1 st1 r1 rv => ?_
    refine k2 ρ s1 σ W1 y _ r1 e2 _ fun u W2 st2 r2 ru => ?_
    exact o2 W W2 v u x y d L M r2.ok (rv.fwd r1.ok st2) (ru.bwd st1) e3 _ ⟨d, rfl, q W2 (st1.trans st2) r2⟩

/-! ### numbers -/
theorem rep_int {K : PySem.W.Frag} {mg : Str → Option Value} {adr : Nat → Addr} {N : Nat} {H : Hp} {C T : Addr → Prop} {v : V} {i : Int} (h : Rep K mg adr N H C T v (.int i)) : v = .int i := by cases h; rfl
theorem rep_str {K : PySem.W.Frag} {mg : Str → Option Value} {adr : Nat → Addr} {N : Nat} {H : Hp} {C T : Addr → Prop} {v : V} {i : Str} (h : Rep K mg adr N H C T v (.str i)) : v = .str i := by cases h; rfl
theorem rep_bl {K : PySem.W.Frag} {mg : Str → Option Value} {adr : Nat → Addr} {N : Nat} {H : Hp} {C T : Addr → Prop} {v : V} {i : Bool} (h : Rep K mg adr N H C T v (.bl i)) : v = .bl i := by cases h; rfl
theorem rep_lst {K : PySem.W.Frag} {mg : Str → Option Value} {adr : Nat → Addr} {N : Nat} {H : Hp} {C T : Addr → Prop} {v : V} {ds : List D} (h : Rep K mg adr N H C T v (.lst ds)) : ∃ a xs, v = .ref a ∧ H a = some (.lst xs) ∧ T a ∧ RepA K mg adr N H C xs ds := by
  cases h with
  | lst h r => exact ⟨_, _, rfl, h.1, h.2, r⟩
theorem rep_tup {K : PySem.W.Frag} {mg : Str → Option Value} {adr : Nat → Addr} {N : Nat} {H : Hp} {C T : Addr → Prop} {v : V} {ds : List D} (h : Rep K mg adr N H C T v (.tup ds)) : ∃ a xs, v = .ref a ∧ H a = some (.tup xs) ∧ RepA K mg adr N H C xs ds := by
  cases h with
  | tup h r => exact ⟨_, _, rfl, h, r⟩
theorem rep_fro {K : PySem.W.Frag} {mg : Str → Option Value} {adr : Nat → Addr} {N : Nat} {H : Hp} {C T : Addr → Prop} {v : V} {ds : List D} (h : Rep K mg adr N H C T v (.fro ds)) : ∃ a xs, v = .ref a ∧ SqL K H a xs ∧ RepA K mg adr N H C xs ds := by
  cases h with
  | fro h r => exact ⟨_, _, rfl, sql_of h, r⟩
def iop (c : Int → Int → Bool) (k : Int → Int → Int) : D → D → Option D
  | .int i, .int j => if c i j then some (.int (k i j)) else none
  | _, _ => none
theorem dop_int {fo : Value → Value → Sem Value} {C : Int → Int → Prop} {k : Int → Int → Int} {c : Int → Int → Bool} (h : OpR X fo (rI C fun i j => .int (k i j))) (hc : ∀ i j, c i j = true → C i j) : DOp X fo (iop c k) :=
  ⟨_, h, fun W0 W x y d1 d2 d L M ok s r1 r2 e Q q => by
    unfold iop at e
    split at e
    · rename_i i j
      split at e
      · rename_i hcc
        cases e
        exact ⟨i, j, rep_int r1, rep_int r2, hc i j hcc, q _ W .refl (.int _)⟩
      · cases e
    · cases e⟩
def subD : D → D → Option D := iop (fun _ _ => true) (· - ·)
def mulI : D → D → Option D := iop (fun i j => decide ((Builtin.Int.intBits i : Int) + (Builtin.Int.intBits j : Int) ≤ 134217728)) (· * ·)
def fdivD : D → D → Option D := iop (fun _ j => decide (0 < j) && decide (j.natAbs.log2 < 9000)) (· / ·)
def modD : D → D → Option D := iop (fun _ j => decide (0 < j)) (· % ·)
def powD : D → D → Option D := iop (fun i j => decide (0 ≤ j) && decide ((Builtin.Int.intBits i : Int) * j ≤ 2 ^ 27)) (fun i j => i ^ j.toNat)
theorem op_powW : OpR X (binaryOp .Pow) (rI (fun i j => 0 ≤ j ∧ (Builtin.Int.intBits i : Int) * j ≤ 2 ^ 27) fun i j => .int (i ^ j.toNat)) := opI fun _ _ _ _ _ _ _ hc q => pow_int hc.1 hc.2 q
theorem dop_sub : DOp X (binaryOp .Sub) subD := by
  refine dop_int (C := fun _ _ => True) (fun pins s σ H x y v u Q I rx ry h => ?_) (fun _ _ _ => trivial)
  obtain ⟨i, j, e1, e2, _, q⟩ := h
  exact op_sub pins s σ H x y v u Q I rx ry ⟨i, j, e1, e2, q⟩
theorem dop_mulI : DOp X (binaryOp .Mult) mulI := dop_int op_mulX fun i j h => show (Builtin.Int.intBits i : Int) + (Builtin.Int.intBits j : Int) ≤ 134217728 from of_decide_eq_true h
theorem dop_fdiv : DOp X (binaryOp .FloorDiv) fdivD := dop_int op_fdivW fun i j h => by
  have h' := Bool.and_eq_true_iff.mp h
  exact ⟨of_decide_eq_true h'.1, of_decide_eq_true h'.2⟩
theorem dop_mod : DOp X (binaryOp .Mod) modD := dop_int op_mod fun i j h => of_decide_eq_true h
theorem dop_pow : DOp X (binaryOp .Pow) powD := dop_int op_powW fun i j h => by
  have h' := Bool.and_eq_true_iff.mp h
  exact ⟨of_decide_eq_true h'.1, of_decide_eq_true h'.2⟩

/-! ### + -/
def addD : D → D → Option D
  | .int i, .int j => some (.int (i + j))
  | .str x, .str y => if x.length + y.length ≤ sizeLine then some (.str (x ++ y)) else none
  | .lst xs, .lst ys => if xs.length + ys.length ≤ sizeLine then some (.lst (xs ++ ys)) else none
  | .tup xs, .tup ys => if xs.length + ys.length ≤ sizeLine ∧ xs ≠ [] ∧ ys ≠ [] then some (.tup (xs ++ ys)) else none
  | _, _ => none
theorem ne_nil_rep {K : PySem.W.Frag} {mg : Str → Option Value} {adr : Nat → Addr} {N : Nat} {H : Hp} {C : Addr → Prop} {vs : List V} {ds : List D} (r : RepA K mg adr N H C vs ds) (h : ds ≠ []) : vs ≠ [] := by
  rintro rfl
  cases r
  exact h rfl
theorem anew_join_l (L M : Lk) : (⟨true, true, L.cs, L.cr⟩ : Lk).le ⟨true, true, (L.join M).anew.cs, (L.join M).anew.cr⟩ = true := by
  unfold Lk.le Lk.join Lk.anew
  cases L.cs <;> cases L.cr <;> rfl
theorem ch_join_l {W W1 : Wd} {L M : Lk} {a : Addr} (h : Ch W W1 L a) : Ch W W1 (L.join M).anew a := by
  rcases h with ⟨h, z⟩ | ⟨h, z⟩ | h
  · exact .inl ⟨by unfold Lk.anew Lk.join; simp [h], z⟩
  · exact .inr (.inl ⟨by unfold Lk.anew Lk.join; simp [h], z⟩)
  · exact .inr (.inr h)
theorem ch_join_r {W W1 : Wd} {L M : Lk} {a : Addr} (h : Ch W W1 M a) : Ch W W1 (L.join M).anew a := by
  rcases h with ⟨h, z⟩ | ⟨h, z⟩ | h
  · exact .inl ⟨by unfold Lk.anew Lk.join; simp [h], z⟩
  · exact .inr (.inl ⟨by unfold Lk.anew Lk.join; simp [h], z⟩)
  · exact .inr (.inr h)
theorem RepA.at_ {K : PySem.W.Frag} {mg : Str → Option Value} {adr : Nat → Addr} {N : Nat} {H : Hp} {C C' : Addr → Prop} (h : ∀ a, C a → C' a) {vs : List V} {ds : List D} (r : RepA K mg adr N H C vs ds) : RepA K mg adr N H C' vs ds :=
  RepA.mono h (fun _ _ _ e => e) (Nat.le_refl _) (fun _ _ => rfl) r
theorem dop_add : DOp X (binaryOp .Add) addD := by
  refine ⟨_, OpR.or op_add (OpR.or op_add_str (OpR.or op_cat op_catT)), fun W0 W x y d1 d2 d L M ok s r1 r2 e Q q => ?_⟩
  unfold addD at e
  split at e
  · cases e
    exact .inl ⟨_, _, rep_int r1, rep_int r2, q _ W .refl (.int _)⟩
  · split at e
    · rename_i hl
      cases e
      exact .inr (.inl ⟨_, _, rep_str r1, rep_str r2, hl, q _ W .refl (.str _)⟩)
    · cases e
  · split at e
    · rename_i hl
      cases e
      obtain ⟨a, xs, rfl, ha, _, ra⟩ := rep_lst r1
      obtain ⟨b, ys, rfl, hb, _, rb⟩ := rep_lst r2
      refine .inr (.inr (.inl ⟨a, b, xs, ys, rfl, rfl, ha, hb, by rw [ra.length, rb.length]; exact hl, fun p hp => ?_⟩))
      exact postV_lst ok s ((ra.at_ fun _ z => ch_join_l z.1).append (rb.at_ fun _ z => ch_join_r z.1)) q p hp
    · cases e
  · split at e
    · rename_i hl
      cases e
      obtain ⟨a, xs, rfl, ha, ra⟩ := rep_tup r1
      obtain ⟨b, ys, rfl, hb, rb⟩ := rep_tup r2
      refine .inr (.inr (.inr ⟨a, b, xs, ys, rfl, rfl, .of ha, .of hb, ne_nil_rep ra hl.2.1, by rw [ra.length, rb.length]; exact hl.1, fun z => absurd z (ne_nil_rep rb hl.2.2), fun _ p hp => ?_⟩))
      exact postV_tup ok s ((ra.at_ fun _ z => ch_join_l z.1).append (rb.at_ fun _ z => ch_join_r z.1)) q p hp
    · cases e
  · cases e
/-! ### * -/
def mulD : D → D → Option D
  | .int i, .int j => mulI (.int i) (.int j)
  | .lst xs, .int k => if -(2 ^ 63) ≤ k ∧ k < 2 ^ 63 ∧ xs.length * k.toNat ≤ sizeLine then some (.lst (List.replicate k.toNat xs).flatten) else none
  | _, _ => none
theorem RepA.rep {K : PySem.W.Frag} {mg : Str → Option Value} {adr : Nat → Addr} {N : Nat} {H : Hp} {C : Addr → Prop} {vs : List V} {ds : List D} (r : RepA K mg adr N H C vs ds) : ∀ k : Nat, RepA K mg adr N H C (List.replicate k vs).flatten (List.replicate k ds).flatten
  | 0 => .nil
  | k + 1 => by
    rw [List.replicate_succ, List.replicate_succ, List.flatten_cons, List.flatten_cons]
    exact r.append (RepA.rep r k)
theorem dop_mul : DOp X (binaryOp .Mult) mulD := by
  obtain ⟨r0, o1, o2⟩ := dop_mulI (X := X)
  refine ⟨_, OpR.or o1 op_rep, fun W0 W x y d1 d2 d L M ok s r1 r2 e Q q => ?_⟩
  unfold mulD at e
  split at e
  · exact .inl (o2 W0 W x y _ _ d L M ok s r1 r2 e Q q)
  · split at e
    · rename_i hl
      cases e
      obtain ⟨a, xs, rfl, ha, _, ra⟩ := rep_lst r1
      refine .inr ⟨a, _, xs, rfl, rep_int r2, ha, hl.1, hl.2.1, by rw [ra.length]; exact hl.2.2, fun p hp => ?_⟩
      exact postV_lst ok s ((ra.at_ fun _ z => ch_join_l z.1).rep _) q p hp
    · cases e
  · cases e
end
end DL

set_option Elab.async false
set_option linter.all false
set_option maxRecDepth 100000
/-! DL4: comparisons, subscripts, slices. -/
namespace DL
open PySem PySem.Spec PyProof.Rows L2

/-! ### plain data -/
mutual
def D.py : D → Option PyData
  | .non => some .none
  | .bl b => some (.bool b)
  | .int i => some (.int i)
  | .str s => some (.str s)
  | .lst xs => match D.pys xs with
    | some ps => some (.list ps)
    | none => none
  | .tup xs => match D.pys xs with
    | some ps => some (.tuple ps)
    | none => none
  | _ => none
def D.pys : List D → Option (List PyData)
  | [] => some []
  | d :: ds => match d.py with
    | some p => match D.pys ds with
      | some ps => some (p :: ps)
      | none => none
    | none => none
end
section
variable {K : PySem.W.Frag} {mg : Str → Option Value} {adr : Nat → Addr} {N : Nat} {H : Hp} {C : Addr → Prop}
mutual
theorem Rep.dp : ∀ {T : Addr → Prop} {v : V} {d : D} {p : PyData}, Rep K mg adr N H C T v d → d.py = some p → Dp K H v p
  | _, _, _, _, .non, h => by cases h; exact .non
  | _, _, _, _, .bl b, h => by cases h; exact .bl b
  | _, _, _, _, .int i, h => by cases h; exact .int i
  | _, _, _, _, .str s, h => by cases h; exact .str s
  | _, _, _, _, .ty n, h => by cases h
  | _, _, _, _, .cel _, h => by cases h
  | _, _, _, _, .glo _, h => by cases h
  | _, _, _, _, .lst (ds := ds) q r, h => by
    unfold D.py at h
    split at h
    · rename_i ps e
      cases h
      exact .lst (.of q.1) (RepA.dps r e)
    · cases h
  | _, _, _, _, .tup (ds := ds) q r, h => by
    unfold D.py at h
    split at h
    · rename_i ps e
      cases h
      exact .tup (.of q) (RepA.dps r e)
    · cases h
  | _, _, _, _, .fro _ _, h => by cases h
  | _, _, _, _, .dK _ _ _, h => by cases h
  | _, _, _, _, .dT _ _ _, h => by cases h
theorem RepA.dps : ∀ {vs : List V} {ds : List D} {ps : List PyData}, RepA K mg adr N H C vs ds → D.pys ds = some ps → DpAll K H vs ps
  | _, _, _, .nil, h => by cases h; exact .nil
  | _, _, _, .cons (d := d) (ds := ds) r t, h => by
    unfold D.pys at h
    split at h
    · rename_i p e
      split at h
      · rename_i ps e2
        cases h
        exact .cons (Rep.dp r e) (RepA.dps t e2)
      · cases h
    · cases h
end
end
mutual
theorem py_plain : ∀ (d : D) (p : PyData), d.py = some p → p.plain = true
  | .non, _, h => by cases h; rfl
  | .bl _, _, h => by cases h; rfl
  | .int _, _, h => by cases h; rfl
  | .str _, _, h => by cases h; rfl
  | .ty _, _, h => by cases h
  | .cel _, _, h => by cases h
  | .glo _, _, h => by cases h
  | .fro _, _, h => by cases h
  | .dK _, _, h => by cases h
  | .dT _, _, h => by cases h
  | .lst ds, _, h => by
    unfold D.py at h
    split at h
    · rename_i ps e
      cases h
      unfold PyData.plain
      exact pys_plain ds ps e
    · cases h
  | .tup ds, _, h => by
    unfold D.py at h
    split at h
    · rename_i ps e
      cases h
      unfold PyData.plain
      exact pys_plain ds ps e
    · cases h
theorem pys_plain : ∀ (ds : List D) (ps : List PyData), D.pys ds = some ps → PyData.plainAll ps = true
  | [], _, h => by cases h; rfl
  | d :: ds, _, h => by
    unfold D.pys at h
    split at h
    · rename_i p e
      split at h
      · rename_i ps e2
        cases h
        unfold PyData.plainAll
        rw [py_plain d p e, pys_plain ds ps e2]
        rfl
      · cases h
    · cases h
end

/-- == -/
def eqD0 (d e : D) : Option Bool := match d.py with
  | some p => match e.py with
    | some q => if min p.depth q.depth ≤ 60 then some (PyData.eqv p q) else none
    | none => none
  | none => none
/-- .. and empty dicts -/
def eqD (d e : D) : Option Bool := match eqD0 d e with
  | some b => some b
  | none => match d, e with
    | .dK [], .dK [] => some true
    | .lst _, .str _ => some false
    | _, _ => none
def neD (d e : D) : Option Bool := match eqD0 d e with
  | some b => some (!b)
  | none => none
def ltD : D → D → Option Bool
  | .int i, .int j => some (decide (i < j))
  | .str i, .str j => some (decide (i.cps.toList < j.cps.toList))
  | _, _ => none
def leD : D → D → Option Bool
  | .int i, .int j => some (decide (i ≤ j))
  | .str i, .str j => some (!decide (j.cps.toList < i.cps.toList))
  | _, _ => none
def gtD (d e : D) : Option Bool := ltD e d
def geD (d e : D) : Option Bool := leD e d
/-- in -/
def inD (d e : D) : Option Bool := match d.py with
  | some p => match e.py with
    | some (.list qs) => if min (PyData.depthAll qs) p.depth ≤ 60 then some (qs.any fun y => PyData.eqv y p) else none
    | some (.tuple qs) => if min (PyData.depthAll qs) p.depth ≤ 60 then some (qs.any fun y => PyData.eqv y p) else none
    | _ => none
  | none => none
def ninD (d e : D) : Option Bool := match inD d e with
  | some b => some (!b)
  | none => none

section
variable {X : Cx} {Γ : List Kd} {e a b c : Expr} {es rest : List Expr} {L M : Lk} {f h : SemE} {fb gb : SemB} {fa : SemA} {pos : Pos}
def rEqP (K : PySem.W.Frag) (neg : Bool) : R2 := fun x y H Q => ∃ d e, Dp K H x d ∧ Dp K H y e ∧ d.plain = true ∧ e.plain = true ∧ min d.depth e.depth ≤ 60 ∧ Q (.bl (if neg then !PyData.eqv d e else PyData.eqv d e)) H
theorem op_eqP (hu : X.A.units + 64 < cLine) : OpR X (compareOp .Eq) (rEqP X.K false) := by
  intro pins s σ H x y v u Q I rx ry h
  obtain ⟨d, e, hd, he, sd, se, hm, q⟩ := h
  obtain ⟨as, r1⟩ := Dp.reads I d x v hd rx
  obtain ⟨bs, r2⟩ := Dp.reads I e y u he ry
  exact SeqAt.eq_plain r1 r2 sd se (by omega) ⟨.bl _, H, I, rfl, q⟩
theorem op_neP (hu : X.A.units + 64 < cLine) : OpR X (compareOp .NotEq) (rEqP X.K true) := by
  intro pins s σ H x y v u Q I rx ry h
  obtain ⟨d, e, hd, he, sd, se, hm, q⟩ := h
  obtain ⟨as, r1⟩ := Dp.reads I d x v hd rx
  obtain ⟨bs, r2⟩ := Dp.reads I e y u he ry
  exact SeqAt.ne_plain r1 r2 sd se (by omega) ⟨.bl _, H, I, rfl, q⟩
/-- a list and a text -/
def rEqLs : R2 := fun x y H Q => ∃ a xs b, x = .ref a ∧ y = .str b ∧ H a = some (.lst xs) ∧ Q (.bl false) H
theorem op_eqLs (hu : X.A.units < cLine) : OpR X (compareOp .Eq) rEqLs := by
  intro pins s σ H x y v u Q I rx ry h
  obtain ⟨a, xs, b, rfl, rfl, ea, q⟩ := h
  obtain rfl : v = Value.ref a := rx
  obtain ⟨t, rfl⟩ := (show ∃ t, u = Value.str b t from ry)
  obtain ⟨_, its, n, hv, e⟩ := (show ObjOk X.prog X.w H s.heap a (.lst xs) from I.hok a _ ea)
  exact SeqAt.RcAt.list_str b t (PySem.IsL.isList e) hu X.prog X.w _ _ ⟨.bl _, H, I, rfl, q⟩
theorem eqD_some {d e : D} {k : Bool} (h : eqD0 d e = some k) : ∃ p q, d.py = some p ∧ e.py = some q ∧ min p.depth q.depth ≤ 60 ∧ PyData.eqv p q = k := by
  unfold eqD0 at h
  split at h
  · rename_i p e1
    split at h
    · rename_i q e2
      split at h
      · rename_i hm
        cases h
        exact ⟨p, q, e1, e2, hm, rfl⟩
      · cases h
    · cases h
  · cases h
theorem dcmp_eq (hu : X.A.units + 64 < cLine) : DCmp X .Eq eqD := ⟨_, OpR.or (OpR.or (op_eqP hu) (op_eq_dict (by omega))) (op_eqLs (by omega)), fun W0 W x y d1 d2 k L M ok r1 r2 e Q q => by
  unfold eqD at e
  split at e
  · rename_i b e0
    cases e
    obtain ⟨p, p', e1, e2, hm, rfl⟩ := eqD_some e0
    exact .inl (.inl ⟨p, p', r1.dp e1, r2.dp e2, py_plain _ _ e1, py_plain _ _ e2, hm, q⟩)
  · split at e
    · cases e
      cases r1 with
      | @dK T a kvs dvs h1 eq1 ra1 =>
        cases r2 with
        | @dK T b kvs' dvs' h2 eq2 ra2 =>
          have z1 : kvs = [] := by
            cases kvs with
            | nil => rfl
            | cons p l => cases eq1
          have z2 : kvs' = [] := by
            cases kvs' with
            | nil => rfl
            | cons p l => cases eq2
          subst z1
          subst z2
          exact .inl (.inr ⟨a, b, [], rfl, rfl, h1.1, h2.1, List.nodup_nil, (fun p hp => nomatch hp), q⟩)
    · cases e
      cases r1 with
      | @lst T a vs ds h1 ra1 =>
        cases r2 with
        | str => exact .inr ⟨a, vs, _, rfl, rfl, h1.1, q⟩
    · cases e⟩
theorem dcmp_ne (hu : X.A.units + 64 < cLine) : DCmp X .NotEq neD := ⟨_, op_neP hu, fun W0 W x y d1 d2 k L M ok r1 r2 e Q q => by
  unfold neD at e
  split at e
  · rename_i b e0
    cases e
    obtain ⟨p, p', e1, e2, hm, rfl⟩ := eqD_some e0
    exact ⟨p, p', r1.dp e1, r2.dp e2, py_plain _ _ e1, py_plain _ _ e2, hm, q⟩
  · cases e⟩
theorem dcmp_lt : DCmp X .Lt ltD := ⟨_, OpR.or op_lt op_lt_str, fun W0 W x y d1 d2 k L M ok r1 r2 e Q q => by
  unfold ltD at e
  split at e
  · cases e; exact .inl ⟨_, _, rep_int r1, rep_int r2, q⟩
  · cases e; exact .inr ⟨_, _, rep_str r1, rep_str r2, q⟩
  · cases e⟩
theorem dcmp_gt : DCmp X .Gt gtD := ⟨_, OpR.or op_gt op_gt_str, fun W0 W x y d1 d2 k L M ok r1 r2 e Q q => by
  unfold gtD ltD at e
  split at e
  · cases e; exact .inl ⟨_, _, rep_int r1, rep_int r2, q⟩
  · cases e; exact .inr ⟨_, _, rep_str r1, rep_str r2, q⟩
  · cases e⟩
theorem dcmp_le : DCmp X .LtE leD := ⟨_, OpR.or op_le op_le_str, fun W0 W x y d1 d2 k L M ok r1 r2 e Q q => by
  unfold leD at e
  split at e
  · cases e; exact .inl ⟨_, _, rep_int r1, rep_int r2, q⟩
  · cases e; exact .inr ⟨_, _, rep_str r1, rep_str r2, q⟩
  · cases e⟩
theorem dcmp_ge : DCmp X .GtE geD := ⟨_, OpR.or op_ge op_ge_str, fun W0 W x y d1 d2 k L M ok r1 r2 e Q q => by
  unfold geD leD at e
  split at e
  · cases e; exact .inl ⟨_, _, rep_int r1, rep_int r2, q⟩
  · cases e; exact .inr ⟨_, _, rep_str r1, rep_str r2, q⟩
  · cases e⟩
def rInP (K : PySem.W.Frag) (neg : Bool) : R2 := fun x y H Q => ∃ d es, Dp K H x d ∧ (Dp K H y (.list es) ∨ Dp K H y (.tuple es)) ∧ d.plain = true ∧ PyData.plainAll es = true ∧ min (PyData.depthAll es) d.depth ≤ 60 ∧
  Q (.bl (if neg then !es.any fun z => PyData.eqv z d else es.any fun z => PyData.eqv z d)) H
theorem op_inP (hu : X.A.units + 64 < cLine) : OpR X (compareOp .In) (rInP X.K false) := by
  intro pins s σ H x y v u Q I rx ry h
  obtain ⟨d, e, hd, he, sd, se, hm, q⟩ := h
  obtain ⟨as, r1⟩ := Dp.reads I d x v hd rx
  rcases he with he | he
  · obtain ⟨bs, r2⟩ := Dp.reads I _ y u he ry
    exact SeqAt.in_list_data r2 r1 se sd (by omega) ⟨.bl _, H, I, rfl, q⟩
  · obtain ⟨bs, r2⟩ := Dp.reads I _ y u he ry
    exact SeqAt.in_tuple_data r2 r1 se sd (by omega) ⟨.bl _, H, I, rfl, q⟩
theorem op_ninP (hu : X.A.units + 64 < cLine) : OpR X (compareOp .NotIn) (rInP X.K true) := by
  intro pins s σ H x y v u Q I rx ry h
  obtain ⟨d, e, hd, he, sd, se, hm, q⟩ := h
  obtain ⟨as, r1⟩ := Dp.reads I d x v hd rx
  rcases he with he | he
  · obtain ⟨bs, r2⟩ := Dp.reads I _ y u he ry
    exact SeqAt.notIn_list_data r2 r1 se sd (by omega) ⟨.bl _, H, I, rfl, q⟩
  · obtain ⟨bs, r2⟩ := Dp.reads I _ y u he ry
    exact SeqAt.notIn_tuple_data r2 r1 se sd (by omega) ⟨.bl _, H, I, rfl, q⟩
theorem inD_some {d e : D} {k : Bool} (h : inD d e = some k) : ∃ p qs, d.py = some p ∧ (e.py = some (.list qs) ∨ e.py = some (.tuple qs)) ∧ min (PyData.depthAll qs) p.depth ≤ 60 ∧ (qs.any fun y => PyData.eqv y p) = k := by
  unfold inD at h
  split at h
  · rename_i p e1
    split at h
    · rename_i qs e2
      split at h
      · rename_i hm
        cases h
        exact ⟨p, qs, e1, .inl e2, hm, rfl⟩
      · cases h
    · rename_i qs e2
      split at h
      · rename_i hm
        cases h
        exact ⟨p, qs, e1, .inr e2, hm, rfl⟩
      · cases h
    · cases h
  · cases h
theorem plain_list {qs : List PyData} (h : (PyData.list qs).plain = true) : PyData.plainAll qs = true := by unfold PyData.plain at h; exact h
theorem plain_tuple {qs : List PyData} (h : (PyData.tuple qs).plain = true) : PyData.plainAll qs = true := by unfold PyData.plain at h; exact h
theorem dcmp_in (hu : X.A.units + 64 < cLine) : DCmp X .In inD := ⟨_, op_inP hu, fun W0 W x y d1 d2 k L M ok r1 r2 e Q q => by
  obtain ⟨p, qs, e1, e2, hm, rfl⟩ := inD_some e
  rcases e2 with e2 | e2
  · exact ⟨p, qs, r1.dp e1, .inl (r2.dp e2), py_plain _ _ e1, plain_list (py_plain _ _ e2), hm, q⟩
  · exact ⟨p, qs, r1.dp e1, .inr (r2.dp e2), py_plain _ _ e1, plain_tuple (py_plain _ _ e2), hm, q⟩⟩
theorem dcmp_nin (hu : X.A.units + 64 < cLine) : DCmp X .NotIn ninD := ⟨_, op_ninP hu, fun W0 W x y d1 d2 k L M ok r1 r2 e Q q => by
  unfold ninD at e
  split at e
  · rename_i b0 e0
    cases e
    obtain ⟨p, qs, e1, e2, hm, rfl⟩ := inD_some e0
    rcases e2 with e2 | e2
    · exact ⟨p, qs, r1.dp e1, .inl (r2.dp e2), py_plain _ _ e1, plain_list (py_plain _ _ e2), hm, q⟩
    · exact ⟨p, qs, r1.dp e1, .inr (r2.dp e2), py_plain _ _ e1, plain_tuple (py_plain _ _ e2), hm, q⟩
  · cases e⟩
/-- is None -/
theorem rep_non {K : PySem.W.Frag} {mg : Str → Option Value} {adr : Nat → Addr} {N : Nat} {H : Hp} {C T : Addr → Prop} {v : V} (h : Rep K mg adr N H C T v .non) : v = .non := by cases h; rfl
def D.isNon : D → Bool
  | .non => true
  | _ => false
theorem rep_isNon {K : PySem.W.Frag} {mg : Str → Option Value} {adr : Nat → Addr} {N : Nat} {H : Hp} {C T : Addr → Prop} {v : V} {d : D} (h : Rep K mg adr N H C T v d) : decide (v = .non) = d.isNon := by
  cases h <;> simp [D.isNon]
def isD (d e : D) : Option Bool := match e with
  | .non => some d.isNon
  | _ => none
def isnD (d e : D) : Option Bool := match e with
  | .non => some (!d.isNon)
  | _ => none
theorem dcmp_is : DCmp X .Is isD := ⟨_, op_isN, fun W0 W x y d1 d2 k L M ok r1 r2 e Q q => by
  unfold isD at e
  split at e
  · cases e
    exact ⟨rep_non r2, by rw [rep_isNon r1]; exact q⟩
  · cases e⟩
theorem dcmp_isn : DCmp X .IsNot isnD := ⟨_, op_notN, fun W0 W x y d1 d2 k L M ok r1 r2 e Q q => by
  unfold isnD at e
  split at e
  · cases e
    exact ⟨rep_non r2, by rw [rep_isNon r1]; exact q⟩
  · cases e⟩

/-! ### subscripts -/
/-- a part of d1: the answer stands where its parts stand -/
def DIx (X : Cx) (g : D → D → Option D) : Prop :=
  ∃ r : R2, IxR X r ∧ ∀ (W0 W : Wd) (x y : V) (d1 d2 d : D) (L M : Lk), W.Ok → ExStep W0 W → RepL X.K X.mg W0 W L x d1 → RepL X.K X.mg W0 W M y d2 → g d1 d2 = some d →
    ∀ Q : VK, PostV X.K X.mg W0 W L.part d Q → r x y W.H Q
def ixD : D → D → Option D
  | .lst xs, .int i => atI xs i
  | .tup xs, .int i => atI xs i
  | .str z, .int i => if z.length ≤ sizeLine then (atI z.cps.toList i).map fun c => .str ⟨#[c]⟩ else none
  | _, _ => none
theorem atI_rep {K : PySem.W.Frag} {mg : Str → Option Value} {adr : Nat → Addr} {N : Nat} {H : Hp} {C : Addr → Prop} {vs : List V} {ds : List D} {i : Int} {d : D} (r : RepA K mg adr N H C vs ds) (h : atI ds i = some d) : ∃ v, atI vs i = some v ∧ Rep K mg adr N H C C v d := by
  unfold atI at h ⊢
  rw [r.length]
  cases e : ixN ds.length i with
  | none => rw [e] at h; cases h
  | some j =>
    rw [e] at h
    exact r.get h
theorem rep_part {W0 W : Wd} {L : Lk} {v x : V} {d : D} {K : PySem.W.Frag} {mg : Str → Option Value} (r : Rep K mg W.adr W.N W.H (ChT W0 W L x) (ChT W0 W L x) v d) : RepL K mg W0 W L.part v d :=
  Rep.mono (fun a h => ⟨h.1, fun z => nomatch z⟩) (fun _ _ _ e => e) (Nat.le_refl _) (fun _ _ => rfl) (fun a h => by
    rcases h.1 with ⟨_, h⟩ | ⟨z, h⟩ | h
    · exact .inl ⟨rfl, h⟩
    · exact .inr (.inl ⟨z, h⟩)
    · exact .inr (.inr h)) (fun _ _ _ e => e) r
theorem dix : DIx X ixD := ⟨_, ix_seq, fun W0 W x y d1 d2 d L M ok s r1 r2 e Q q => by
  unfold ixD at e
  split at e
  · obtain ⟨a, xs, rfl, ha, _, ra⟩ := rep_lst r1
    obtain ⟨v, ev, rv⟩ := atI_rep ra e
    exact .inl ⟨a, xs, _, v, rfl, rep_int r2, .of ha, ev, q v W .refl (rep_part rv)⟩
  · obtain ⟨a, xs, rfl, ha, ra⟩ := rep_tup r1
    obtain ⟨v, ev, rv⟩ := atI_rep ra e
    exact .inr (.inl ⟨a, xs, _, v, rfl, rep_int r2, .of ha, ev, q v W .refl (rep_part rv)⟩)
  · split at e
    · rename_i z i hl
      cases ec : atI z.cps.toList i with
      | none => rw [ec] at e; cases e
      | some c =>
        rw [ec] at e
        cases e
        exact .inr (.inr ⟨_, _, c, rep_str r1, rep_int r2, hl, ec, q _ W .refl (.str _)⟩)
    · cases e
  · cases e⟩
theorem de_ix {g : D → D → Option D} (hg : DIx X g) (ha : DE X Γ a L f) (hb : DE X Γ b M h) (hs : PlainIx b := by exact fun _ _ => rfl) : DE X Γ (.Subscript a b pos) L.part (cOp g f h) := by
  obtain ⟨r, o1, o2⟩ := hg
  obtain ⟨t, h1, h2⟩ := ha.ex
  obtain ⟨u, k1, k2⟩ := hb.ex
  refine ⟨_, pe_ix o1 h1 k1 hs, fun ρ st σ W d st' rel hf Q q => ?_⟩
  obtain ⟨x, s1, y, e1, e2, e3⟩ := cOp_some hf
  refine h2 ρ st σ W x s1 rel e1 _ fun v W1 st1 r1 rv => ?_
  refine k2 ρ s1 σ W1 y _ r1 e2 _ fun u W2 st2 r2 ru => ?_
  exact o2 W W2 v u x y d L M r2.ok (st1.trans st2) (rv.fwd r1.ok st2) (ru.bwd st1) e3 Q fun v' W' gr rv' => q v' W' ((st1.trans st2).trans gr.step) (gr.rel r2) rv'

/-! ### slices -/
def cutD (xs : List D) (lo hi : Option Int) : List D := (xs.drop (HT.sIx xs.length 0 lo)).take (HT.sIx xs.length xs.length hi - HT.sIx xs.length 0 lo)
theorem cut_rep {K : PySem.W.Frag} {mg : Str → Option Value} {adr : Nat → Addr} {N : Nat} {H : Hp} {C : Addr → Prop} {vs : List V} {ds : List D} (r : RepA K mg adr N H C vs ds) (lo hi : Option Int) : RepA K mg adr N H C (cutV vs lo hi) (cutD ds lo hi) := by
  unfold cutV cutD
  rw [r.length]
  exact (r.drop _).take _
/-- x[lo:hi] by values -/
def DSl (X : Cx) (g : D → Option Int → Option Int → Option D) : Prop :=
  ∃ r, SlR X r ∧ ∀ (W0 W : Wd) (x : V) (d1 d : D) (lo hi : Option Int) (L : Lk), W.Ok → ExStep W0 W → RepL X.K X.mg W0 W L x d1 → g d1 lo hi = some d →
    ∀ Q : VK, PostV X.K X.mg W0 W L.anew d Q → r x lo hi W.H Q
def slD : D → Option Int → Option Int → Option D
  | .lst xs, lo, hi => some (.lst (cutD xs lo hi))
  | .fro xs, lo, hi => some (.lst (cutD xs lo hi))
  | .str z, lo, hi => if z.length ≤ sizeLine then some (.str (cutS z lo hi)) else none
  | _, _, _ => none
theorem dsl : DSl X slD := ⟨_, SlR.or sl_list sl_str, fun W0 W x d1 d lo hi L ok s r e Q q => by
  unfold slD at e
  split at e
  · cases e
    obtain ⟨a, xs, rfl, ha, _, ra⟩ := rep_lst r
    exact .inl ⟨a, xs, rfl, .of ha, fun p hp => postV_lst (L := L.anew) ok s (cut_rep (ra.at_ fun _ z => z.1) _ _) q p hp⟩
  · cases e
    obtain ⟨a, xs, rfl, ha, ra⟩ := rep_fro r
    exact .inl ⟨a, xs, rfl, ha, fun p hp => postV_lst (L := L.anew) ok s (cut_rep (ra.at_ fun _ z => z.1) _ _) q p hp⟩
  · split at e
    · rename_i hl
      cases e
      exact .inr ⟨_, rep_str r, hl, q _ W .refl (.str _)⟩
    · cases e
  · cases e⟩
/-- an end of a slice: there or not -/
structure DO (X : Cx) (Γ : List Kd) (e : Option Expr) (f : Env → Store → Option (Option Int × Store)) : Prop where
  ex : ∃ t, PO X e t ∧ ∀ ρ st σ W i st', Rel X.K X.mg Γ ρ st σ W → f ρ st = some (i, st') → ∀ Q, (∀ W', ExStep W W' → Rel X.K X.mg Γ ρ st' σ W' → Q i W'.H) → t σ W.H Q
def cON : Env → Store → Option (Option Int × Store) := fun _ st => some (none, st)
def cOS (f : SemE) : Env → Store → Option (Option Int × Store) := fun ρ st => match f ρ st with
  | some (.int i, s) => some (some i, s)
  | _ => none
def cSl (g : D → Option Int → Option Int → Option D) (f : SemE) (lo hi : Env → Store → Option (Option Int × Store)) : SemE := fun ρ st => match f ρ st with
  | some (x, s1) => match lo ρ s1 with
    | some (l, s2) => match hi ρ s2 with
      | some (u, s3) => match g x l u with
        | some z => some (z, s3)
        | none => none
      | none => none
    | none => none
  | none => none
theorem do_none : DO X Γ none cON := ⟨_, po_none, fun ρ st σ W i st' rel hf Q q => by
  cases hf
  exact q W (ExStep.refl W) rel⟩
theorem do_some (ha : DE X Γ a L f) : DO X Γ (some a) (cOS f) := by
  obtain ⟨t, h1, h2⟩ := ha.ex
  refine ⟨_, po_some h1, fun ρ st σ W i st' rel hf Q q => ?_⟩
  unfold cOS at hf
  split at hf
  · rename_i k s1 e1
    cases hf
    exact h2 ρ st σ W _ _ rel e1 _ fun v W1 st1 r1 rv => ⟨k, rep_int rv, q W1 st1 r1⟩
  · cases hf
theorem cSl_some {g : D → Option Int → Option Int → Option D} {lo hi : Env → Store → Option (Option Int × Store)} {ρ : Env} {st st' : Store} {d : D} (hf : cSl g f lo hi ρ st = some (d, st')) :
    ∃ x s1 l s2 u, f ρ st = some (x, s1) ∧ lo ρ s1 = some (l, s2) ∧ hi ρ s2 = some (u, st') ∧ g x l u = some d := by
  unfold cSl at hf
  split at hf
  · rename_i x s1 e1
    split at hf
    · rename_i l s2 e2
      split at hf
      · rename_i u s3 e3
        split at hf
        · rename_i z e4
          cases hf
          exact ⟨x, s1, l, s2, u, e1, e2, e3, e4⟩
        · cases hf
      · cases hf
    · cases hf
  · cases hf
theorem de_sl {lo hi : Option Expr} {flo fhi : Env → Store → Option (Option Int × Store)} {p2 : Pos} {g : D → Option Int → Option Int → Option D} (hg : DSl X g) (ha : DE X Γ a L f) (hl : DO X Γ lo flo) (hh : DO X Γ hi fhi) :
    DE X Γ (.Subscript a (.Slice lo hi none p2) pos) L.anew (cSl g f flo fhi) := by
  obtain ⟨r, o1, o2⟩ := hg
  obtain ⟨t, h1, h2⟩ := ha.ex
  obtain ⟨u, k1, k2⟩ := hl.ex
  obtain ⟨u', k1', k2'⟩ := hh.ex
  refine ⟨_, pe_slice o1 h1 k1 k1', fun ρ st σ W d st' rel hf Q q => ?_⟩
  obtain ⟨x, s1, l, s2, uu, e1, e2, e3, e4⟩ := cSl_some hf
  refine h2 ρ st σ W x s1 rel e1 _ fun v W1 st1 r1 rv => ?_
  refine k2 ρ s1 σ W1 l s2 r1 e2 _ fun W2 st2 r2 => ?_
  refine k2' ρ s2 σ W2 uu st' r2 e3 _ fun W3 st3 r3 => ?_
  have sAll := (st1.trans st2).trans st3
  exact o2 W W3 v x d l uu L r3.ok sAll ((rv.fwd r1.ok st2).fwd r2.ok st3) e4 Q fun v' W' gr rv' => q v' W' (sAll.trans gr.step) (gr.rel r3) rv'
end
end DL

set_option Elab.async false
set_option linter.all false
set_option maxRecDepth 100000
/-! DL5: statements. -/
namespace DL
open PySem PySem.Spec PyProof.Rows L2

inductive SR where
  | nx (ρ : Env) (st : Store)
  | rt (d : D) (st : Store)
  | ex (c : Str) (d : D) (st : Store)
abbrev SemS := Env → Store → Option SR
def Lk.any : Lk := ⟨true, true, true, true⟩
def PostS (X : Cx) (Wx : WX) (Γ' : List Kd) (Lr : Lk) (W : Wd) (D : Ends) : SR → Prop
  | .nx ρ' st' => ∀ σ' W', StStep W W' → Rel X.K X.mg Γ' ρ' st' σ' W' → D.nx σ' W'.H
  | .rt d st' => ∀ v W', StStep W W' → W'.Ok → StOk X.K X.mg W' st' → RepL X.K X.mg W W' Lr v d → D.rt v W'.H
  | .ex c d st' => ∀ C dx v σ' W', StStep W W' → W'.Ok → StOk X.K X.mg W' st' → X.mg c = some (.ref C) → (W.H dx = none ∧ ¬ W'.Cl dx) → W'.H dx = some (.xd [("value", v)]) → RepL X.K X.mg W W' Lk.any v d → Wx (.ref C) (some dx) σ' W'.H
structure DS (X : Cx) (Wx : WX) (Γ : List Kd) (s : Stmt) (Γ' : List Kd) (Lr : Lk) (g : SemS) : Prop where
  ex : ∃ t, PS X s t ∧ ∀ ρ st σ W r, Rel X.K X.mg Γ ρ st σ W → g ρ st = some r → ∀ D : Ends, PostS X Wx Γ' Lr W D r → t D σ W.H
structure DSs (X : Cx) (Wx : WX) (Γ : List Kd) (s : List Stmt) (Γ' : List Kd) (Lr : Lk) (g : SemS) : Prop where
  ex : ∃ t, PSs X s t ∧ ∀ ρ st σ W r, Rel X.K X.mg Γ ρ st σ W → g ρ st = some r → ∀ D : Ends, PostS X Wx Γ' Lr W D r → t D σ W.H

section
variable {K : PySem.W.Frag} {mg : Str → Option Value} {W W1 W2 : Wd} {Γ Γ1 Γ2 : List Kd} {ρ : Env} {σ : L2.St} {st : Store}
theorem Fr.sbwd (s : StStep W W1) {a : Addr} (h : Fr W1 W2 a) : Fr W W2 a := ⟨none_back (s.dom a) h.1, h.2⟩
theorem RepL.sbwd (s : StStep W W1) {L : Lk} {v : V} {d : D} (r : RepL K mg W1 W2 L v d) : RepL K mg W W2 L v d :=
  Rep.mono (fun a h => ⟨by
      rcases h.1 with h | h | h
      · exact .inl h
      · exact .inr (.inl h)
      · exact .inr (.inr (h.sbwd s)), h.2⟩) (fun a o _ e => e) (Nat.le_refl _) (fun _ _ => rfl) (fun a h => by
      rcases h with h | h | h
      · exact .inl h
      · exact .inr (.inl h)
      · exact .inr (.inr (h.sbwd s))) (fun a o _ e => e) r
theorem PostS.bwd {X : Cx} {Wx : WX} {Γ' : List Kd} {Lr : Lk} {D : Ends} {r : SR} (s : StStep W W1) (h : PostS X Wx Γ' Lr W D r) : PostS X Wx Γ' Lr W1 D r := by
  cases r with
  | nx ρ' st' => exact fun σ' W' s' r' => h σ' W' (s.trans s') r'
  | rt d st' => exact fun v W' s' ok so rv => h v W' (s.trans s') ok so (rv.sbwd s)
  | ex c d st' => exact fun C dx v σ' W' s' ok so hm hn hx rv => h C dx v σ' W' (s.trans s') ok so hm ⟨none_back (s.dom _) hn.1, hn.2⟩ hx (rv.sbwd s)

/-! ### what is owned becomes shared -/
def Kd.le : Kd → Kd → Bool
  | .all, _ => true
  | .top, .top => true
  | .top, .sh => true
  | .sh, .sh => true
  | _, _ => false
def wk : List Kd → List Kd → Bool
  | [], [] => true
  | a :: as, b :: bs => a.le b && wk as bs
  | _, _ => false
theorem wk_at : ∀ {Γ1 Γ2 : List Kd} {i : Nat} {k : Kd}, wk Γ1 Γ2 = true → Γ1[i]? = some k → ∃ k', Γ2[i]? = some k' ∧ k.le k' = true
  | [], [], _, _, _, h => by simp at h
  | [], _ :: _, _, _, h, _ => by simp [wk] at h
  | _ :: _, [], _, _, h, _ => by simp [wk] at h
  | a :: as, b :: bs, 0, k, h, e => by
    simp [wk] at h
    simp at e
    subst e
    exact ⟨b, rfl, h.1⟩
  | a :: as, b :: bs, i + 1, k, h, e => by
    simp [wk] at h
    obtain ⟨k', e', l⟩ := wk_at (i := i) (k := k) h.2 (by simpa using e)
    exact ⟨k', by simpa using e', l⟩
/-- at slot i this one is shared from now on -/
def shP (Γ1 Γ2 : List Kd) (σ : L2.St) (i : Nat) (a : Addr) : Prop := match Γ1[i]?, Γ2[i]? with
  | some .all, some .sh => True
  | some .top, some .sh => True
  | some .all, some .top => σ[i]? ≠ some (some (.ref a))
  | _, _ => False
def Wd.weak (W : Wd) (Γ1 Γ2 : List Kd) (σ : L2.St) : Wd := { W with Sh := fun a => W.Sh a ∨ ∃ i, W.R i a ∧ shP Γ1 Γ2 σ i a, R := fun i a => W.R i a ∧ ¬ shP Γ1 Γ2 σ i a }
theorem weak_step : StStep W (W.weak Γ1 Γ2 σ) :=
  ⟨fun _ _ h _ _ => h, fun _ h => h, fun _ h => .inl h, fun a h => h.elim .inl fun ⟨i, z, _⟩ => .inr (.inl ⟨i, z⟩), fun a ⟨i, z, _⟩ => .inl ⟨i, z⟩, Nat.le_refl _, fun _ _ => rfl, fun n h1 h2 => absurd (Nat.lt_of_lt_of_le h2 h1) (Nat.lt_irrefl _), fun _ _ e => e⟩
theorem weak_ok (ok : W.Ok) : (W.weak Γ1 Γ2 σ).Ok where
  sh := fun a h => h.elim (ok.sh a) fun ⟨i, z, _⟩ => ok.r i a z
  r := fun i a h => ok.r i a h.1
  c := ok.c
  shr := fun i a h z => by
    rcases h with h | ⟨j, hj, hs⟩
    · exact ok.shr i a h z.1
    · have e := ok.rr j i a hj z.1
      subst e
      exact z.2 hs
  rr := fun i j a h1 h2 => ok.rr i j a h1.1 h2.1
  shc := fun a h => h.elim (ok.shc a) fun ⟨i, z, _⟩ => ok.rc i a z
  rc := fun i a h => ok.rc i a h.1
  inj := ok.inj
theorem CellOk.weak {a : Addr} {c : Cel} (h : CellOk K mg W a c) : CellOk K mg (W.weak Γ1 Γ2 σ) a c := by
  have m : ∀ {vs : List V} {ds : List D}, RepA K mg W.adr W.N W.H W.Sh vs ds → RepA K mg W.adr W.N W.H (W.weak Γ1 Γ2 σ).Sh vs ds := fun r => r.at_ fun a h => .inl h
  cases c with
  | lst ds => obtain ⟨xs, h1, h2⟩ := h; exact ⟨xs, h1, m h2⟩
  | dK ds => obtain ⟨xs, h1, h2, h3⟩ := h; exact ⟨xs, h1, h2, m h3⟩
  | dT ds => obtain ⟨xs, h1, h2, h3⟩ := h; exact ⟨xs, h1, h2, m h3⟩
  | ins c fs => obtain ⟨C, dx, gs, h0, h1, h2, h3⟩ := h; exact ⟨C, dx, gs, h0, h1, h2, m h3⟩
theorem weak_rel (r : Rel K mg Γ1 ρ st σ W) (h : wk Γ1 Γ2 = true) : Rel K mg Γ2 ρ st σ (W.weak Γ1 Γ2 σ) := by
  refine ⟨weak_ok r.ok, fun i d e => ?_, ⟨r.st.len, fun n c e => (r.st.at_ n c e).weak⟩, r.len⟩
  obtain ⟨k, v, h1, h2, rv⟩ := r.sl i d e
  obtain ⟨k', h1', hl⟩ := wk_at h h1
  refine ⟨k', v, h1', h2, Rep.mono (fun a z => ?_) (fun _ _ _ e => e) (Nat.le_refl _) (fun _ _ => rfl) (fun a z => ?_) (fun _ _ _ e => e) rv.own⟩
  · obtain ⟨z1, z2⟩ := z
    cases k <;> cases k' <;> first
      | exact absurd hl (by decide)
      | exact ⟨.inl z1, fun q => (q rfl).elim⟩
      | exact ⟨.inl z1, fun _ => z2 (fun q => nomatch q)⟩
      | exact ⟨.inr ⟨i, z1, by unfold shP; rw [h1, h1']; trivial⟩, fun q => (q rfl).elim⟩
      | exact ⟨.inr ⟨i, z1, by unfold shP; rw [h1, h1', h2]; exact fun q => z2 (fun q => nomatch q) (Option.some.inj (Option.some.inj q))⟩, fun _ => z2 (fun q => nomatch q)⟩
      | exact ⟨⟨z1, by unfold shP; rw [h1, h1']; exact id⟩, fun _ => z2 (fun q => nomatch q)⟩
  · obtain ⟨z, ev⟩ := z
    cases k <;> cases k' <;> first
      | exact absurd hl (by decide)
      | exact .inl z
      | exact .inr ⟨i, z, by unfold shP; rw [h1, h1']; trivial⟩
      | exact ⟨z, by unfold shP; rw [h1, h1']; exact id⟩
      | exact ⟨z, by unfold shP; rw [h1, h1', h2, ev]; exact fun q => q rfl⟩

/-! ### a slot takes a value -/
def Lk.kd (L : Lk) : Kd := if L.ts then .sh else if L.cs then .top else .all
def ownP (k : Kd) (v : V) (a : Addr) : Prop := match k with
  | .all => True
  | .top => v = .ref a
  | .sh => False
def Wd.take (W : Wd) (i : Nat) (F O : Addr → Prop) : Wd := { W with Sh := fun a => W.Sh a ∨ (F a ∧ ¬ O a), R := fun j a => if j = i then F a ∧ O a else W.R j a }
theorem take_step {i : Nat} {O : Addr → Prop} (s : ExStep W W1) : StStep W (W1.take i (Fr W W1) O) where
  keep := fun a o h c _ => s.keep a o h c
  dom := s.dom
  sh := fun a h => .inl (s.sh a h)
  shb := fun a h => h.elim (fun z => (s.shb a z).elim .inl fun q => .inr (.inr q)) fun z => .inr (.inr z.1.1)
  rb := fun a ⟨j, z⟩ => by
    have z : if j = i then Fr W W1 a ∧ O a else W1.R j a := z
    split at z
    · exact .inr z.1.1
    · exact .inl ⟨j, by rw [← s.rb]; exact z⟩
  cn := s.cn
  ca := s.ca
  cnew := s.cnew
  tup := s.tup
theorem take_ok {i : Nat} {O : Addr → Prop} (ok : W1.Ok) : (W1.take i (Fr W W1) O).Ok where
  sh := fun a h => h.elim (ok.sh a) fun z => z.1.2.1
  r := fun j a z => by
    have z : if j = i then Fr W W1 a ∧ O a else W1.R j a := z
    split at z
    · exact z.1.2.1
    · exact ok.r j a z
  c := ok.c
  shr := fun j a h z => by
    have z : if j = i then Fr W W1 a ∧ O a else W1.R j a := z
    have h : W1.Sh a ∨ (Fr W W1 a ∧ ¬ O a) := h
    split at z
    · exact h.elim (fun q => z.1.2.2.1 q) fun q => q.2 z.2
    · exact h.elim (fun q => ok.shr j a q z) fun q => q.1.2.2.2.1 ⟨j, z⟩
  rr := fun j k a y z => by
    have y : if j = i then Fr W W1 a ∧ O a else W1.R j a := y
    have z : if k = i then Fr W W1 a ∧ O a else W1.R k a := z
    split at y
    · rename_i e1
      split at z
      · rename_i e2
        exact e1.trans e2.symm
      · exact absurd ⟨k, z⟩ y.1.2.2.2.1
    · split at z
      · exact absurd ⟨j, y⟩ z.1.2.2.2.1
      · exact ok.rr j k a y z
  shc := fun a h => h.elim (ok.shc a) fun z => z.1.2.2.2.2
  rc := fun j a z => by
    have z : if j = i then Fr W W1 a ∧ O a else W1.R j a := z
    split at z
    · exact z.1.2.2.2.2
    · exact ok.rc j a z
  inj := ok.inj
theorem CellOk.more {Sh : Addr → Prop} {R : Nat → Addr → Prop} {a : Addr} {c : Cel} (hs : ∀ a, W.Sh a → Sh a) (h : CellOk K mg W a c) : CellOk K mg { W with Sh := Sh, R := R } a c := by
  have m : ∀ {vs : List V} {ds : List D}, RepA K mg W.adr W.N W.H W.Sh vs ds → RepA K mg W.adr W.N W.H Sh vs ds := fun r => r.at_ hs
  cases c with
  | lst ds => obtain ⟨xs, h1, h2⟩ := h; exact ⟨xs, h1, m h2⟩
  | dK ds => obtain ⟨xs, h1, h2, h3⟩ := h; exact ⟨xs, h1, h2, m h3⟩
  | dT ds => obtain ⟨xs, h1, h2, h3⟩ := h; exact ⟨xs, h1, h2, m h3⟩
  | ins c fs => obtain ⟨C, dx, gs, h0, h1, h2, h3⟩ := h; exact ⟨C, dx, gs, h0, h1, h2, m h3⟩
theorem StOk.more {Sh : Addr → Prop} {R : Nat → Addr → Prop} (hs : ∀ a, W.Sh a → Sh a) (h : StOk K mg W st) : StOk K mg { W with Sh := Sh, R := R } st :=
  ⟨h.len, fun n c e => (h.at_ n c e).more hs⟩
theorem take_rel {i : Nat} {L : Lk} {v : V} {d : D} (r : Rel K mg Γ ρ st σ W1) (rv : RepL K mg W W1 L v d) (h1 : L.tr = false) (h2 : L.cr = false) (hi : i < Γ.length) :
    Rel K mg (Γ.set i L.kd) (ρ.set i (some d)) st (σ.set i (some v)) (W1.take i (Fr W W1) (ownP L.kd v)) := by
  refine ⟨take_ok r.ok, fun j d' e => ?_, r.st.more fun a h => .inl h, by rw [List.length_set, List.length_set]; exact r.len⟩
  by_cases hj : j = i
  · subst hj
    have hl : j < ρ.length := by
      rcases Nat.lt_or_ge j ρ.length with h | h
      · exact h
      · rw [List.getElem?_eq_none (by rw [List.length_set]; exact h)] at e; cases e
    rw [List.getElem?_set_self hl] at e
    cases e
    refine ⟨L.kd, v, List.getElem?_set_self hi, List.getElem?_set_self (by rw [← r.len]; exact hl), ?_⟩
    refine Rep.mono (fun a z => ?_) (fun _ _ _ e => e) (Nat.le_refl _) (fun _ _ => rfl) (fun a z => ?_) (fun _ _ _ e => e) rv.own
    · obtain ⟨z, zt⟩ := z
      unfold Lk.kd
      cases ets : L.ts with
      | true =>
        rw [if_pos rfl]
        refine ⟨?_, fun q => (q rfl).elim⟩
        rcases z with z | z | z
        · exact .inl z.2
        · rw [h2] at z; exact absurd z.1 (by decide)
        · exact .inr ⟨z, id⟩
      | false =>
        rw [if_neg (by decide)]
        cases ecs : L.cs with
        | true =>
          rw [if_pos rfl]
          refine ⟨?_, fun _ => zt ets⟩
          rcases z with z | z | z
          · exact .inl z.2
          · rw [h2] at z; exact absurd z.1 (by decide)
          · exact .inr ⟨z, zt ets⟩
        | false =>
          rw [if_neg (by decide)]
          refine ⟨?_, fun _ => zt ets⟩
          show if j = j then _ else _
          rw [if_pos rfl]
          rcases z with z | z | z
          · rw [ecs] at z; exact absurd z.1 (by decide)
          · rw [h2] at z; exact absurd z.1 (by decide)
          · exact ⟨z, trivial⟩
    · obtain ⟨z, ev⟩ := z
      unfold Lk.kd
      cases ets : L.ts with
      | true =>
        rw [if_pos rfl]
        rcases z with z | z | z
        · exact .inl z.2
        · rw [h1] at z; exact absurd z.1 (by decide)
        · exact .inr ⟨z, id⟩
      | false =>
        rw [if_neg (by decide)]
        have zf : Fr W W1 a := by
          rcases z with z | z | z
          · rw [ets] at z; exact absurd z.1 (by decide)
          · rw [h1] at z; exact absurd z.1 (by decide)
          · exact z
        cases ecs : L.cs with
        | true =>
          rw [if_pos rfl]
          show if j = j then _ else _
          rw [if_pos rfl]
          exact ⟨zf, ev⟩
        | false =>
          rw [if_neg (by decide)]
          show if j = j then _ else _
          rw [if_pos rfl]
          exact ⟨zf, trivial⟩
  · rw [List.getElem?_set_ne (fun q => hj q.symm)] at e
    obtain ⟨k, u, g1, g2, ru⟩ := r.sl j d' e
    refine ⟨k, u, by rw [List.getElem?_set_ne (fun q => hj q.symm)]; exact g1, by rw [List.getElem?_set_ne (fun q => hj q.symm)]; exact g2, ?_⟩
    refine Rep.mono (fun a z => ?_) (fun _ _ _ e => e) (Nat.le_refl _) (fun _ _ => rfl) (fun a z => ?_) (fun _ _ _ e => e) ru
    · refine ⟨?_, z.2⟩
      have z := z.1
      cases k with
      | sh => exact .inl z
      | top => exact .inl z
      | all => show if j = i then _ else _; rw [if_neg hj]; exact z
    · cases k with
      | sh => exact .inl z
      | top => show if j = i then _ else _; rw [if_neg hj]; exact z
      | all => show if j = i then _ else _; rw [if_neg hj]; exact z
end

section
variable {X : Cx} {Wx : WX} {Γ Γ1 Γ2 Γ3 : List Kd} {e a b c : Expr} {es : List Expr} {s : Stmt} {ss tt : List Stmt} {L M Lr : Lk} {f h : SemE} {fb : SemB} {fa : SemA} {g g1 g2 : SemS} {pos : Pos}
/-! ### blocks -/
def cSkip : SemS := fun ρ st => some (.nx ρ st)
def cSeq (g h : SemS) : SemS := fun ρ st => match g ρ st with
  | some (.nx ρ' st') => h ρ' st'
  | r => r
theorem dss_nil : DSs X Wx Γ [] Γ Lr cSkip := ⟨_, pss_nil, fun ρ st σ W r rel hg D p => by
  cases hg
  exact p σ W (StStep.refl W) rel⟩
theorem dss_one (h : DS X Wx Γ s Γ1 Lr g) : DSs X Wx Γ [s] Γ1 Lr g := by
  obtain ⟨t, h1, h2⟩ := h.ex
  exact ⟨t, pss_one h1, h2⟩
theorem PostS.nx {r : SR} {D : Ends} {W : Wd} {F : L2.St → Hp → Prop} (p : PostS X Wx Γ1 Lr W D r) (h : ∀ ρ st, r ≠ .nx ρ st) : PostS X Wx Γ2 Lr W { D with nx := F } r := by
  cases r with
  | nx ρ st => exact absurd rfl (h ρ st)
  | rt d st => exact p
  | ex c d st => exact p
theorem dss_cons (h : DS X Wx Γ s Γ1 Lr g1) (k : DSs X Wx Γ1 ss Γ2 Lr g2) : DSs X Wx Γ (s :: ss) Γ2 Lr (cSeq g1 g2) := by
  obtain ⟨t, h1, h2⟩ := h.ex
  obtain ⟨u, k1, k2⟩ := k.ex
  refine ⟨_, pss_cons h1 k1, fun ρ st σ W r rel hg D p => ?_⟩
  unfold cSeq at hg
  cases eg : g1 ρ st with
  | none => rw [eg] at hg; cases hg
  | some r1 =>
    rw [eg] at hg
    show t { D with nx := u D } σ W.H
    refine h2 ρ st σ W r1 rel eg _ ?_
    cases r1 with
    | nx ρ1 st1 => exact fun σ' W' s' r' => k2 ρ1 st1 σ' W' r r' hg D (p.bwd s')
    | rt d st1 => cases hg; exact p
    | ex c d st1 => cases hg; exact p
theorem PostS.weak {r : SR} {D : Ends} {W : Wd} (p : PostS X Wx Γ2 Lr W D r) (h : wk Γ1 Γ2 = true) : PostS X Wx Γ1 Lr W D r := by
  cases r with
  | nx ρ st => exact fun σ' W' s' r' => p σ' (W'.weak Γ1 Γ2 σ') (s'.trans weak_step) (weak_rel r' h)
  | rt d st => exact p
  | ex c d st => exact p
theorem ds_weak (hs : DS X Wx Γ s Γ1 Lr g) (h : wk Γ1 Γ2 = true) : DS X Wx Γ s Γ2 Lr g := by
  obtain ⟨t, h1, h2⟩ := hs.ex
  exact ⟨t, h1, fun ρ st σ W r rel hg D p => h2 ρ st σ W r rel hg D (p.weak h)⟩
theorem dss_weak (hs : DSs X Wx Γ ss Γ1 Lr g) (h : wk Γ1 Γ2 = true) : DSs X Wx Γ ss Γ2 Lr g := by
  obtain ⟨t, h1, h2⟩ := hs.ex
  exact ⟨t, h1, fun ρ st σ W r rel hg D p => h2 ρ st σ W r rel hg D (p.weak h)⟩
/-- ahead of a statement -/
theorem ds_from (hs : DS X Wx Γ1 s Γ2 Lr g) (h : wk Γ Γ1 = true) : DS X Wx Γ s Γ2 Lr g := by
  obtain ⟨t, h1, h2⟩ := hs.ex
  exact ⟨t, h1, fun ρ st σ W r rel hg D p => h2 ρ st σ (W.weak Γ Γ1 σ) r (weak_rel rel h) hg D (p.bwd weak_step)⟩
theorem dss_from (hs : DSs X Wx Γ1 ss Γ2 Lr g) (h : wk Γ Γ1 = true) : DSs X Wx Γ ss Γ2 Lr g := by
  obtain ⟨t, h1, h2⟩ := hs.ex
  exact ⟨t, h1, fun ρ st σ W r rel hg D p => h2 ρ st σ (W.weak Γ Γ1 σ) r (weak_rel rel h) hg D (p.bwd weak_step)⟩

/-! ### x = e, e alone, return -/
def cSet (i : Nat) (f : SemE) : SemS := fun ρ st => match f ρ st with
  | some (d, s) => some (.nx (ρ.set i (some d)) s)
  | none => none
theorem ds_set {i : Nat} {x : Str} {pos' : Pos} (hN : X.N.Nodup) (he : DE X Γ e L f) (hl : L.free = true := by rfl) (hi : X.N[i]? = some x := by rfl) (hx : Loc X.env.scope x := by first | exact Or.inl rfl | exact Or.inr rfl) (hk : i < Γ.length := by decide)
    (hs : swapsWith e (some (.Name x pos')) pos.line X.env = pure false := by rfl) (hf : X.fn x = true ∨ X.env.scope.names.lookup x = some .local := by first | exact .inl rfl | exact .inr rfl) :
    DS X Wx Γ (.Assign [.Name x pos'] e pos) (Γ.set i L.kd) Lr (cSet i f) := by
  obtain ⟨t, h1, h2⟩ := he.ex
  refine ⟨_, ps_set hN hi hx h1 hs hf, fun ρ st σ W r rel hg D p => ?_⟩
  unfold cSet at hg
  cases ef : f ρ st with
  | none => rw [ef] at hg; cases hg
  | some y =>
    obtain ⟨d, s1⟩ := y
    rw [ef] at hg
    cases hg
    have hl' : L.tr = false ∧ L.cr = false := by
      unfold Lk.free at hl
      cases e1 : L.tr <;> cases e2 : L.cr <;> simp_all
    refine h2 ρ st σ W d s1 rel ef _ fun v W1 st1 r1 rv => ?_
    exact p (σ.set i (some v)) (W1.take i (Fr W W1) (ownP L.kd v)) (take_step st1) (take_rel r1 rv hl'.1 hl'.2 hk)
def cDrop (f : SemE) : SemS := fun ρ st => match f ρ st with
  | some (_, s) => some (.nx ρ s)
  | none => none
theorem ds_expr (he : DE X Γ e L f) (hs : swapsWith e none pos.line X.env = pure false := by rfl) : DS X Wx Γ (.Expr e pos) Γ Lr (cDrop f) := by
  obtain ⟨t, h1, h2⟩ := he.ex
  refine ⟨_, ps_expr h1 hs, fun ρ st σ W r rel hg D p => ?_⟩
  unfold cDrop at hg
  cases ef : f ρ st with
  | none => rw [ef] at hg; cases hg
  | some y =>
    obtain ⟨d, s1⟩ := y
    rw [ef] at hg
    cases hg
    exact h2 ρ st σ W d s1 rel ef _ fun v W1 st1 r1 rv => p σ W1 st1.st r1
theorem ds_doc {x : Str} {j pos'} : DS X Wx Γ (.Expr (.Constant (.str x) j pos) pos') Γ Lr cSkip := ⟨_, ps_doc, fun ρ st σ W r rel hg D p => by
  cases hg
  exact p σ W (StStep.refl W) rel⟩
def cRet (f : SemE) : SemS := fun ρ st => match f ρ st with
  | some (d, s) => some (.rt d s)
  | none => none
theorem ds_ret (he : DE X Γ e L f) (hl : L.le Lr = true := by rfl) : DS X Wx Γ (.Return (some e) pos) Γ1 Lr (cRet f) := by
  obtain ⟨t, h1, h2⟩ := he.ex
  refine ⟨_, ps_ret h1, fun ρ st σ W r rel hg D p => ?_⟩
  unfold cRet at hg
  cases ef : f ρ st with
  | none => rw [ef] at hg; cases hg
  | some y =>
    obtain ⟨d, s1⟩ := y
    rw [ef] at hg
    cases hg
    exact h2 ρ st σ W d s1 rel ef _ fun v W1 st1 r1 rv => p v W1 st1.st r1.ok r1.st (rv.le hl)
/-! ### if -/
def cIfS (c : SemB) (g h : SemS) : SemS := fun ρ st => match c ρ st with
  | some (true, s) => g ρ s
  | some (false, s) => h ρ s
  | none => none
theorem ds_if (hc : DB X Γ c fb) (ha : DSs X Wx Γ ss Γ1 Lr g1) (hb : DSs X Wx Γ tt Γ1 Lr g2) : DS X Wx Γ (.If c ss tt pos) Γ1 Lr (cIfS fb g1 g2) := by
  obtain ⟨u, k1, k2⟩ := hc.pt
  obtain ⟨t, h1, h2⟩ := ha.ex
  obtain ⟨t', h1', h2'⟩ := hb.ex
  refine ⟨_, ps_if k1 h1 h1', fun ρ st σ W r rel hg D p => ?_⟩
  unfold cIfS at hg
  split at hg
  · rename_i s1 ef
    exact k2 ρ st σ W _ _ rel ef _ fun W1 st1 r1 => iteT (h2 ρ s1 σ W1 r r1 hg D (p.bwd st1.st))
  · rename_i s1 ef
    exact k2 ρ st σ W _ _ rel ef _ fun W1 st1 r1 => iteF (h2' ρ s1 σ W1 r r1 hg D (p.bwd st1.st))
  · cases hg
end
end DL

set_option Elab.async false
set_option linter.all false
set_option maxRecDepth 100000
/-! DL6: defs and their calls. -/
namespace DL
open PySem PySem.Spec PyProof.Rows L2

/-- what a def gives -/
inductive FR where
  | ok (d : D) (st : Store)
  | ex (c : Str) (d : D) (st : Store)
abbrev Fn := List D → Store → Option FR
def noR : Nat → Addr → Prop := fun _ _ => False
def PostF (K : PySem.W.Frag) (mg : Str → Option Value) (W : Wd) (L : Lk) (Q : VK) (E : XK) : FR → Prop
  | .ok d st' => ∀ v W', StStep W W' → W'.Ok → W'.R = noR → StOk K mg W' st' → RepL K mg W W' L v d → Q v W'.H
  | .ex c d st' => ∀ C dx v W', StStep W W' → W'.Ok → W'.R = noR → StOk K mg W' st' → mg c = some (.ref C) → (W.H dx = none ∧ ¬ W'.Cl dx) → W'.H dx = some (.xd [("value", v)]) → RepL K mg W W' Lk.any v d → E (.ref C) (some dx) W'.H
/-- the promise of a def by its meaning F; L: where its answer may stand -/
def spD (K : PySem.W.Frag) (mg : Str → Option Value) (n : Nat) (F : Fn) (L : Lk) : Sp := fun vs H Q E =>
  vs.length = n ∧ ∃ (Sh : Addr → Prop) (adr : Nat → Addr) (ds : List D) (st : Store) (r : FR),
    (Wd.mk H Sh noR adr st.length).Ok ∧ StOk K mg ⟨H, Sh, noR, adr, st.length⟩ st ∧ RepA K mg adr st.length H Sh vs ds ∧ F ds st = some r ∧ PostF K mg ⟨H, Sh, noR, adr, st.length⟩ L Q E r

/-- behind the def its slots own nothing -/
def Wd.out (W : Wd) : Wd := { W with R := noR }
def Lk.out (L : Lk) : Lk := ⟨L.ts, false, L.cs, false⟩
section
variable {K : PySem.W.Frag} {mg : Str → Option Value} {W W1 W2 : Wd} {Γ Γ1 Γ2 : List Kd} {ρ : Env} {σ : L2.St} {st : Store}
theorem out_step (s : StStep W W1) : StStep W W1.out := ⟨s.keep, s.dom, s.sh, s.shb, fun a ⟨_, z⟩ => z.elim, s.cn, s.ca, s.cnew, s.tup⟩
theorem out_ok (ok : W.Ok) : W.out.Ok := ⟨ok.sh, fun _ _ z => z.elim, ok.c, fun _ _ _ z => z.elim, fun _ _ _ z => z.elim, ok.shc, fun _ _ z => z.elim, ok.inj⟩
theorem out_st (h : StOk K mg W st) : StOk K mg W.out st := h.more (Sh := W.Sh) (R := noR) fun _ z => z
theorem out_fr (ok : W1.Ok) (s : StStep W W1) (hW : W.R = noR) {a : Addr} (h : Fr W W1 a ∨ W1.RR a) : Fr W W1.out a := by
  rcases h with ⟨h1, h2, h3, h4, h5⟩ | ⟨i, h⟩
  · exact ⟨h1, h2, h3, fun ⟨_, z⟩ => z.elim, h5⟩
  · refine ⟨?_, ok.r i a h, fun z => ok.shr i a z h, fun ⟨_, z⟩ => z.elim, ok.rc i a h⟩
    rcases s.rb a ⟨i, h⟩ with ⟨j, z⟩ | z
    · rw [hW] at z; exact z.elim
    · exact z
theorem out_rep (ok : W1.Ok) (s : StStep W W1) (hW : W.R = noR) {L : Lk} {v : V} {d : D} (r : RepL K mg W W1 L v d) : RepL K mg W W1.out L.out v d :=
  Rep.mono (fun a h => ⟨by
      rcases h.1 with h | h | h
      · exact .inl h
      · exact .inr (.inr (out_fr ok s hW (.inr h.2)))
      · exact .inr (.inr (out_fr ok s hW (.inl h))), h.2⟩) (fun a o _ e => e) (Nat.le_refl _) (fun _ _ => rfl) (fun a h => by
      rcases h with h | h | h
      · exact .inl h
      · exact .inr (.inr (out_fr ok s hW (.inr h.2)))
      · exact .inr (.inr (out_fr ok s hW (.inl h)))) (fun a o _ e => e) r
end

/-- the meaning of a def by its body's: N slots -/
def cFun (N n : Nat) (g : SemS) : Fn := fun ds st => if ds.length = n then match g (ds.map some ++ List.replicate (N - n) none) st with
  | some (.nx _ s) => some (.ok .non s)
  | some (.rt d s) => some (.ok d s)
  | some (.ex c d s) => some (.ex c d s)
  | none => none
  else none
section
variable {P : Program} {w : World} {K : PySem.W.Frag} {mg : Str → Option Value} {base : Heap}
theorem start_rel {N : List Str} {vs : List V} {ds : List D} {st : Store} {Γ : List Kd} {W : Wd} (ok : W.Ok) (so : StOk K mg W st) (r : RepA K mg W.adr W.N W.H W.Sh vs ds) (hΓ : ∀ i, i < ds.length → Γ[i]? = some .sh) :
    Rel K mg Γ (ds.map some ++ List.replicate (N.length - ds.length) none) st (L2.start N vs) W := by
  refine ⟨ok, fun i d e => ?_, so, ?_⟩
  · have hi : i < ds.length := by
      rcases Nat.lt_or_ge i ds.length with h | h
      · exact h
      · rw [List.getElem?_append_right (by simpa using h), List.getElem?_replicate] at e
        split at e <;> cases e
    rw [List.getElem?_append_left (by simpa using hi), List.getElem?_map] at e
    cases ed : ds[i]? with
    | none => rw [ed] at e; cases e
    | some d' =>
      rw [ed] at e
      cases e
      obtain ⟨v, ev, rv⟩ := r.get ed
      refine ⟨.sh, v, hΓ i hi, ?_, Rep.mono (fun a z => ⟨z, fun q => (q rfl).elim⟩) (fun _ _ _ e => e) (Nat.le_refl _) (fun _ _ => rfl) (fun a z => z) (fun _ _ _ e => e) rv⟩
      unfold L2.start
      rw [List.getElem?_append_left (by rw [List.length_map, r.length]; exact hi), List.getElem?_map, ev]
      rfl
  · unfold L2.start
    rw [List.length_append, List.length_append, List.length_map, List.length_map, List.length_replicate, List.length_replicate, r.length]
/-- THE RULE: a def by its body. Γ0: the parameters are shared -/
theorem fnd_ok {x qual : Str} {params : Arguments} {body : List Stmt} {scope : Scope} {dvs : List V} {kws : List (Str × V)} {f : Addr} {fd : FuncData} {N ps : List Str} {k n : Nat} {Γ Γ' : List Kd} {Lr : Lk} {g : SemS} (F : FunD K x qual params body scope dvs kws f fd) (S : FnScope N ps scope) (hn : ps.length = n)
    (hΓ : ∀ i, i < n → Γ[i]? = some .sh)
    (hb : ∀ (cdv : Value) (A : Around) (outer : List PySem.Env) (s : Shared) (H : Hp) (E : XK), Room k (A.deeper (envOfC qual scope s.heap.objs.size f cdv)) →
      L2N.Takes (cxOf (L2N.CX P w) P w K mg base N qual scope f cdv A outer s H E) (fun cls d _ H => E cls d H) →
      DSs (cxOf (L2N.CX P w) P w K mg base N qual scope f cdv A outer s H E) (fun cls d _ H => E cls d H) Γ body Γ' Lr g) :
    FnOk P w K mg base (L2N.CX P w) (k + 1) f fd ps (spD K mg n (cFun N.length n g) Lr.out) := by
  refine F.ok S (fun vs H Q E h => h.1.trans hn.symm) (fun cdv A outer s H vs Q E hr h => ?_)
  obtain ⟨hl, Sh, adr, ds, st, r, ok, so, ra, hF, p⟩ := h
  have hl' : ds.length = n := by rw [← ra.length]; exact hl
  have tk : L2N.Takes (cxOf (L2N.CX P w) P w K mg base N qual scope f cdv A outer s H E) (fun cls d _ H => E cls d H) := L2N.takes_of rfl rfl rfl rfl
  obtain ⟨t, h1, h2⟩ := (hb cdv A outer s H E hr tk).ex
  refine ⟨t, h1, ?_⟩
  unfold cFun at hF
  rw [if_pos hl'] at hF
  have rel := start_rel (N := N) (Γ := Γ) ok so ra (by rw [hl']; exact hΓ)
  rw [hl'] at rel
  split at hF
  · rename_i ρ' s1 eg
    cases hF
    refine h2 _ st _ ⟨H, Sh, noR, adr, st.length⟩ _ rel eg _ fun σ' W' s' r' => ?_
    exact p .non W'.out (out_step s') (out_ok r'.ok) rfl (out_st r'.st) .non
  · rename_i d s1 eg
    cases hF
    refine h2 _ st _ ⟨H, Sh, noR, adr, st.length⟩ _ rel eg _ fun v W' s' ok' so' rv => ?_
    exact p v W'.out (out_step s') (out_ok ok') rfl (out_st so') (out_rep ok' s' rfl rv)
  · rename_i c d s1 eg
    cases hF
    refine h2 _ st _ ⟨H, Sh, noR, adr, st.length⟩ _ rel eg _ fun C dx v σ' W' s' ok' so' hm hn hx rv => ?_
    exact p C dx v W'.out (out_step s') (out_ok ok') rfl (out_st so') hm hn hx ((out_rep ok' s' rfl rv).le rfl)
  · cases hF
end

/-! ### calls -/
theorem passN {X : Cx} : Passes (L2N.CX X.prog X.w) X E0 := fun _ _ _ _ _ _ _ h => by
  obtain ⟨_, _, _, _, _, _, _, _, _, _, _, _, z⟩ := h
  exact z.elim
/-- no object within -/
def D.atom : D → Bool
  | .lst _ => false
  | .tup _ => false
  | .fro _ => false
  | .dK _ => false
  | .dT _ => false
  | _ => true
def Cel.flat : Cel → Bool
  | .lst ds => ds.all D.atom
  | .dK kvs => kvs.all fun p => p.2.atom
  | .dT kvs => kvs.all fun p => p.2.atom
  | .ins _ fs => fs.all fun p => p.2.atom
def flatSt (st : Store) : Bool := st.all Cel.flat
section
variable {K : PySem.W.Frag} {mg : Str → Option Value} {adr : Nat → Addr} {N : Nat} {H : Hp} {C C' T T' : Addr → Prop}
theorem Rep.atom {v : V} {d : D} (h : Rep K mg adr N H C T v d) (e : d.atom = true) : Rep K mg adr N H C' T' v d := by
  cases h with
  | non => exact .non
  | bl b => exact .bl b
  | int b => exact .int b
  | str b => exact .str b
  | ty b => exact .ty b
  | cel h => exact .cel h
  | glo h => exact .glo h
  | lst _ _ => cases e
  | tup _ _ => cases e
  | fro _ _ => cases e
  | dK _ _ _ => cases e
  | dT _ _ _ => cases e
theorem RepA.atom : ∀ {vs : List V} {ds : List D}, RepA K mg adr N H C vs ds → ds.all D.atom = true → RepA K mg adr N H C' vs ds
  | _, _, .nil, _ => .nil
  | _, _, .cons r t, e => by
    rw [List.all_cons, Bool.and_eq_true] at e
    exact .cons (r.atom e.1) (RepA.atom t e.2)
theorem all_map_atom {κ : Type} (kvs : List (κ × D)) (h : kvs.all (fun p => p.2.atom) = true) : (kvs.map (·.2)).all D.atom = true := by
  rw [List.all_map]; exact h
theorem CellOk.flat {W : Wd} {Sh : Addr → Prop} {R : Nat → Addr → Prop} {a : Addr} {c : Cel} (h : CellOk K mg W a c) (e : c.flat = true) : CellOk K mg { W with Sh := Sh, R := R } a c := by
  cases c with
  | lst ds => obtain ⟨xs, h1, h2⟩ := h; exact ⟨xs, h1, h2.atom e⟩
  | dK ds => obtain ⟨xs, h1, h2, h3⟩ := h; exact ⟨xs, h1, h2, h3.atom (all_map_atom _ e)⟩
  | dT ds => obtain ⟨xs, h1, h2, h3⟩ := h; exact ⟨xs, h1, h2, h3.atom (all_map_atom _ e)⟩
  | ins c fs => obtain ⟨C, dx, gs, h0, h1, h2, h3⟩ := h; exact ⟨C, dx, gs, h0, h1, h2, h3.atom (all_map_atom _ e)⟩
theorem StOk.flat {W : Wd} {Sh : Addr → Prop} {R : Nat → Addr → Prop} {st : Store} (h : StOk K mg W st) (e : flatSt st = true) : StOk K mg { W with Sh := Sh, R := R } st :=
  ⟨h.len, fun n c q => (h.at_ n c q).flat (List.all_eq_true.mp e c (List.mem_of_getElem? q))⟩
end
/-- may args be borrowed from a slot? -/
def Lk.bor (L : Lk) : Bool := L.tr || L.cr
/-- where the answer of a call stands: Lf what the def says, L its arguments -/
def Lk.call (Lf L : Lk) : Lk := ⟨Lf.ts, Lf.ts && L.bor, Lf.cs, Lf.cs && L.bor⟩
/-- the heap as the callee sees it -/
def Wd.lend (W W1 : Wd) (b : Bool) : Wd := ⟨W1.H, fun a => W1.Sh a ∨ Fr W W1 a ∨ (b = true ∧ W1.RR a), noR, W1.adr, W1.N⟩
section
variable {K : PySem.W.Frag} {mg : Str → Option Value} {W W1 W2 : Wd} {Γ : List Kd} {ρ : Env} {σ : L2.St} {st st' : Store} {L Lf : Lk} {b : Bool}
theorem lend_ok (ok : W1.Ok) : (W.lend W1 b).Ok where
  sh := fun a h => by
    rcases h with h | h | ⟨_, i, h⟩
    · exact ok.sh a h
    · exact h.2.1
    · exact ok.r i a h
  r := fun _ _ z => z.elim
  c := ok.c
  shr := fun _ _ _ z => z.elim
  rr := fun _ _ _ z => z.elim
  shc := fun a h => by
    rcases h with h | h | ⟨_, i, h⟩
    · exact ok.shc a h
    · exact h.2.2.2.2
    · exact ok.rc i a h
  rc := fun _ _ z => z.elim
  inj := ok.inj
theorem lend_args {vs : List V} {ds : List D} (r : RepLs K mg W W1 L vs ds) : RepA K mg W1.adr W1.N W1.H (W.lend W1 L.bor).Sh vs ds := by
  refine (RepLs.under r).at_ fun a h => ?_
  rcases h with ⟨_, h⟩ | ⟨e, h⟩ | h
  · exact .inl h
  · exact .inr (.inr ⟨by unfold Lk.over at e; unfold Lk.bor; exact e, h⟩)
  · exact .inr (.inl h)
theorem lend_st (so : StOk K mg W1 st) : StOk K mg (W.lend W1 b) st := so.more (Sh := (W.lend W1 b).Sh) (R := noR) fun _ h => .inl h
/-- behind the call, all cells flat: the caller's place again -/
def Wd.back (W1 W2 : Wd) : Wd := { W2 with Sh := W1.Sh, R := W1.R }
theorem back_step (ok : W1.Ok) (s : StStep (W.lend W1 b) W2) : ExStep W1 (W1.back W2) where
  keep := fun a o h c => s.keep a o h c fun ⟨_, z⟩ => z.elim
  dom := s.dom
  sh := fun _ h => h
  shb := fun _ h => .inl h
  rb := rfl
  cn := s.cn
  ca := s.ca
  cnew := s.cnew
  tup := s.tup
theorem back_ok (ok : W1.Ok) (s : StStep (W.lend W1 b) W2) (ok2 : W2.Ok) : (W1.back W2).Ok where
  sh := fun a h => s.dom a (ok.sh a h)
  r := fun i a h => s.dom a (ok.r i a h)
  c := ok2.c
  shr := ok.shr
  rr := ok.rr
  shc := fun a h => ok2.shc a (s.sh a (.inl h))
  rc := fun i a h z => by
    rcases cl_back (W := W.lend W1 b) s.cn s.ca s.cnew z with z | z
    · exact ok.rc i a h z
    · exact ok.r i a h z
  inj := ok2.inj
theorem back_rel (r : Rel K mg Γ ρ st σ W1) (s : StStep (W.lend W1 b) W2) (ok2 : W2.Ok) (so : StOk K mg W2 st') (hf : flatSt st' = true) : Rel K mg Γ ρ st' σ (W1.back W2) :=
  ⟨back_ok r.ok s ok2, r.sl.step r.ok (back_step r.ok s), so.flat hf, r.len⟩
theorem back_in (st1 : ExStep W W1) (ok : W1.Ok) (s : StStep (W.lend W1 b) W2) (ok2 : W2.Ok) (hR : W2.R = noR) {a : Addr} (h : W2.Sh a ∨ Fr (W.lend W1 b) W2 a) : W1.Sh a ∨ (b = true ∧ W1.RR a) ∨ Fr W (W1.back W2) a := by
  have new : W1.H a = none → W2.H a ≠ none → ¬ W2.Cl a → Fr W (W1.back W2) a := fun e1 e2 e3 => ⟨none_back (st1.dom a) e1, e2, fun z => ok.sh a z e1, fun ⟨i, z⟩ => ok.r i a z e1, e3⟩
  rcases h with h | h
  · rcases s.shb a h with z | ⟨_, z⟩ | z
    · rcases z with z | z | z
      · exact .inl z
      · exact .inr (.inr ⟨z.1, s.dom a z.2.1, z.2.2.1, z.2.2.2.1, ok2.shc a h⟩)
      · exact .inr (.inl z)
    · exact z.elim
    · exact .inr (.inr (new z (ok2.sh a h) (ok2.shc a h)))
  · exact .inr (.inr (new h.1 h.2.1 h.2.2.2.2))
theorem back_rep (st1 : ExStep W W1) (ok : W1.Ok) (s : StStep (W.lend W1 L.bor) W2) (ok2 : W2.Ok) (hR : W2.R = noR) {v : V} {d : D} (h : RepL K mg (W.lend W1 L.bor) W2 Lf v d) : RepL K mg W (W1.back W2) (Lf.call L) v d := by
  have go : ∀ {t : Bool} {a : Addr}, ((t = true ∧ W2.Sh a) ∨ Fr (W.lend W1 L.bor) W2 a) → (t = true ∧ W1.Sh a) ∨ ((t && L.bor) = true ∧ W1.RR a) ∨ Fr W (W1.back W2) a := fun {t a} h => by
    cases t with
    | true =>
      rcases back_in st1 ok s ok2 hR (h.elim (fun z => .inl z.2) .inr) with z | z | z
      · exact .inl ⟨rfl, z⟩
      · exact .inr (.inl ⟨z.1, z.2⟩)
      · exact .inr (.inr z)
    | false =>
      rcases h with h | h
      · exact absurd h.1 (by decide)
      · exact .inr (.inr ⟨none_back (st1.dom a) h.1, h.2.1, fun z => ok.sh a z h.1, fun ⟨i, z⟩ => ok.r i a z h.1, h.2.2.2.2⟩)
  have nr : ∀ {a : Addr}, ¬ W2.RR a := fun ⟨i, z⟩ => by rw [hR] at z; exact z
  refine Rep.mono (fun a h => ?_) (fun _ _ _ e => e) (Nat.le_refl _) (fun _ _ => rfl) (fun a h => ?_) (fun _ _ _ e => e) h
  · exact ⟨go (h.1.elim .inl fun z => z.elim (fun q => absurd q.2 nr) .inr), h.2⟩
  · exact go (h.elim .inl fun z => z.elim (fun q => absurd q.2 nr) .inr)
end
def cCall (F : Fn) (f : SemA) : SemE := fun ρ st => match f ρ st with
  | some (ds, s1) => match F ds s1 with
    | some (.ok d s2) => if flatSt s2 then some (d, s2) else none
    | _ => none
  | none => none
theorem cCall_some {F : Fn} {f : SemA} {ρ : Env} {st st' : Store} {d : D} (h : cCall F f ρ st = some (d, st')) : ∃ ds s1, f ρ st = some (ds, s1) ∧ F ds s1 = some (.ok d st') ∧ flatSt st' = true := by
  unfold cCall at h
  split at h
  · rename_i ds s1 e1
    split at h
    · rename_i d' s2 e2
      split at h
      · rename_i hf
        cases h
        exact ⟨ds, s1, e1, e2, hf⟩
      · cases h
    · cases h
  · cases h
section
variable {X : Cx} {Wx : WX} {Γ Γ1 : List Kd} {e : Expr} {es : List Expr} {L Lf : Lk} {fa : SemA} {p pos : Pos} {k : Nat} {x : Str} {f : Addr} {fd : FuncData} {ps : List Str} {F : Fn} {n : Nat} {dvs : List V} {dds : List D} {dus : List Value}
/-- the arguments that are not written: the defaults (atoms) -/
theorem RepA.dflt {K : PySem.W.Frag} {mg : Str → Option Value} {adr : Nat → Addr} {N : Nat} {H : Hp} {C : Addr → Prop} (h : ∀ (adr : Nat → Addr) (N : Nat) (H : Hp) (C : Addr → Prop), RepA K mg adr N H C dvs dds) : RepA K mg adr N H C dvs dds := h adr N H C
def cDfl (dds : List D) (f : SemA) : SemA := fun ρ st => match f ρ st with
  | some (ds, s) => some (ds ++ dds, s)
  | none => none
/-- the core of a call that raises nothing -/
theorem call_core {t : TA} (sem : ∀ ρ st σ W ds st', Rel X.K X.mg Γ ρ st σ W → fa ρ st = some (ds, st') → ∀ Q : List V → Hp → Prop, (∀ vs W', ExStep W W' → Rel X.K X.mg Γ ρ st' σ W' → RepLs X.K X.mg W W' L vs ds → Q vs W'.H) → t σ W.H Q)
    {ρ : Env} {st st' : Store} {σ : L2.St} {W : Wd} {d : D} {n : Nat} (rel : Rel X.K X.mg Γ ρ st σ W) (hf : cCall F fa ρ st = some (d, st')) (hn : ∀ ds s r, F ds s = some r → ds.length = n) {Q : VK} (q : PostE X Γ ρ st' σ W (Lf.call L) d Q) :
    t σ W.H (fun vs H1 => spD X.K X.mg n F Lf vs H1 Q E0) := by
  obtain ⟨ds, s1, e1, e2, hfl⟩ := cCall_some hf
  refine sem ρ st σ W ds s1 rel e1 _ fun vs W1 st1 r1 rvs => ?_
  have hN : s1.length = W1.N := r1.st.len
  have hl : vs.length = ds.length := Paired.len rvs
  refine ⟨hl.trans (hn _ _ _ e2), (W.lend W1 L.bor).Sh, W1.adr, ds, s1, .ok d st', ?_, ?_, ?_, e2, ?_⟩
  · rw [hN]; exact lend_ok r1.ok
  · rw [hN]; exact lend_st r1.st
  · rw [hN]; exact lend_args rvs
  · rw [hN]
    intro v W2 s2 ok2 hR so2 rv
    exact q v (W1.back W2) (st1.trans (back_step r1.ok s2)) (back_rel r1 s2 ok2 so2 hfl) (back_rep st1 r1.ok s2 ok2 hR rv)
theorem cFun_len {N n : Nat} {g : SemS} : ∀ ds s r, cFun N n g ds s = some r → ds.length = n := fun ds s r h => by
  unfold cFun at h
  split at h
  · assumption
  · cases h
theorem de_call (G : FnOk X.prog X.w X.K X.mg X.base (L2N.CX X.prog X.w) k f fd ps (spD X.K X.mg n F Lf)) (hr : Room k X.A) (hm : X.mg x = some (.ref f)) (hk : PySem.W.keepIn X.K (.ref f) = true) (hb : Binds X.K fd ps []) (hF : ∀ ds s r, F ds s = some r → ds.length = n)
    (ha : DA X Γ (e :: es) L fa) (hg : Gl X x := by rfl) (hdb : (x == ("__debug__" : Str)) = false := by decide) (he : starEach (e :: es) X.env = (false, eval e X.env) :: starEach es X.env := by rfl) (hpl : (backTo pos (starEach es X.env)).any (·.1) = false := by rfl) :
    DE X Γ (.Call (.Name x p) (e :: es) [] pos) (Lf.call L) (cCall F fa) := by
  obtain ⟨t, h1, h2⟩ := ha.ex
  refine ⟨_, pe_call G hr hg hm hk hb .nil passN h1 hdb he hpl, fun ρ st σ W d st' rel hf Q q => ?_⟩
  have := call_core h2 rel hf hF q
  show t σ W.H (fun vs H1 => spD X.K X.mg n F Lf (vs ++ []) H1 Q E0)
  simp only [List.append_nil]
  exact this
theorem de_call0 (G : FnOk X.prog X.w X.K X.mg X.base (L2N.CX X.prog X.w) k f fd ps (spD X.K X.mg n F Lf)) (hr : Room k X.A) (hm : X.mg x = some (.ref f)) (hk : PySem.W.keepIn X.K (.ref f) = true) (hb : Binds X.K fd ps []) (hF : ∀ ds s r, F ds s = some r → ds.length = n)
    (hg : Gl X x := by rfl) (hdb : (x == ("__debug__" : Str)) = false := by decide) :
    DE X Γ (.Call (.Name x p) [] [] pos) (Lf.call Lk.f0) (cCall F cNil) := by
  refine ⟨_, pe_call0 G hr hg hm hk hb .nil passN hdb, fun ρ st σ W d st' rel hf Q q => ?_⟩
  exact call_core (t := tNil) (L := Lk.f0) (Γ := Γ) (fun ρ st σ W ds st' r hf Q q => by
    cases hf
    exact q [] W (ExStep.refl W) r .nil) rel hf hF q
end
end DL

set_option Elab.async false
set_option linter.all false
set_option maxRecDepth 100000
/-! DL7: targets, what is walked, for, while, comprehensions. -/
namespace DL
open PySem PySem.Spec PyProof.Rows L2

/-- what came new is shared -/
def Wd.shr (W1 W : Wd) : Wd := { W1 with Sh := fun a => W1.Sh a ∨ Fr W W1 a }
section
variable {K : PySem.W.Frag} {mg : Str → Option Value} {W W1 W2 : Wd} {Γ Γ1 Γ2 : List Kd} {ρ : Env} {σ : L2.St} {st : Store}
theorem shr_step (s : ExStep W W1) : ExStep W (W1.shr W) :=
  ⟨s.keep, s.dom, fun a h => .inl (s.sh a h), fun a h => h.elim (s.shb a) fun z => .inr z.1, s.rb, s.cn, s.ca, s.cnew, s.tup⟩
theorem shr_ok (ok : W1.Ok) : (W1.shr W).Ok :=
  ⟨fun a h => h.elim (ok.sh a) fun z => z.2.1, ok.r, ok.c, fun i a h z => h.elim (fun q => ok.shr i a q z) fun q => q.2.2.2.1 ⟨i, z⟩, ok.rr, fun a h => h.elim (ok.shc a) fun z => z.2.2.2.2, ok.rc, ok.inj⟩
theorem SlOk.more {Sh : Addr → Prop} (hs : ∀ a, W.Sh a → Sh a) (h : SlOk K mg W Γ ρ σ) : SlOk K mg { W with Sh := Sh } Γ ρ σ := fun i d e => by
  obtain ⟨k, v, h1, h2, r⟩ := h i d e
  refine ⟨k, v, h1, h2, Rep.mono (fun a z => ?_) (fun _ _ _ e => e) (Nat.le_refl _) (fun _ _ => rfl) (fun a z => ?_) (fun _ _ _ e => e) r⟩
  · refine ⟨?_, z.2⟩
    have z := z.1
    cases k with
    | sh => exact hs a z
    | top => exact hs a z
    | all => exact z
  · cases k with
    | sh => exact hs a z
    | top => exact z
    | all => exact z
theorem shr_rel (r : Rel K mg Γ ρ st σ W1) : Rel K mg Γ ρ st σ (W1.shr W) :=
  ⟨shr_ok r.ok, r.sl.more fun _ h => .inl h, r.st.more fun _ h => .inl h, r.len⟩
theorem shr_rep {L : Lk} {v : V} {d : D} (hl : L.free = true) (r : RepL K mg W W1 L v d) : Rep K mg W1.adr W1.N W1.H (W1.shr W).Sh (W1.shr W).Sh v d := by
  have hl' : L.tr = false ∧ L.cr = false := by
    unfold Lk.free at hl
    cases e1 : L.tr <;> cases e2 : L.cr <;> simp_all
  refine Rep.mono (fun a h => ?_) (fun _ _ _ e => e) (Nat.le_refl _) (fun _ _ => rfl) (fun a h => ?_) (fun _ _ _ e => e) r
  · rcases h.1 with z | z | z
    · exact .inl z.2
    · rw [hl'.2] at z; exact absurd z.1 (by decide)
    · exact .inr z
  · rcases h with z | z | z
    · exact .inl z.2
    · rw [hl'.1] at z; exact absurd z.1 (by decide)
    · exact .inr z
theorem wipe_get {α : Type} {w : List (Option α) → List Nat → List (Option α)} (h0 : ∀ σ, w σ [] = σ) (h1 : ∀ σ v vs, w σ (v :: vs) = (w σ vs).set v none) (σ : List (Option α)) : ∀ (vs : List Nat) (k : Nat), (w σ vs)[k]? = if k ∈ vs then (if k < σ.length then some none else none) else σ[k]?
  | [], k => by rw [h0, if_neg (by simp)]
  | v :: vs, k => by
    have hl : ∀ us : List Nat, (w σ us).length = σ.length := fun us => by
      induction us with
      | nil => rw [h0]
      | cons u us ih => rw [h1, List.length_set, ih]
    rw [h1]
    by_cases e : v = k
    · subst e
      rw [if_pos (by simp)]
      by_cases hk : v < σ.length
      · rw [List.getElem?_set_self (by rw [hl]; exact hk), if_pos hk]
      · rw [List.getElem?_eq_none (by rw [List.length_set, hl]; omega), if_neg hk]
    · rw [List.getElem?_set_ne e, wipe_get h0 h1 σ vs k]
      by_cases hk : k ∈ vs
      · rw [if_pos hk, if_pos (List.mem_cons_of_mem _ hk)]
      · rw [if_neg hk, if_neg (fun q => (List.mem_cons.mp q).elim (fun z => e z.symm) hk)]
def wipeE (ρ : Env) : List Nat → Env
  | [] => ρ
  | v :: vs => (wipeE ρ vs).set v none
theorem wipe_at (σ : L2.St) (vs : List Nat) (k : Nat) : (wipe σ vs)[k]? = if k ∈ vs then (if k < σ.length then some none else none) else σ[k]? := wipe_get (fun _ => rfl) (fun _ _ _ => rfl) σ vs k
theorem wipeE_at (σ : Env) (vs : List Nat) (k : Nat) : (wipeE σ vs)[k]? = if k ∈ vs then (if k < σ.length then some none else none) else σ[k]? := wipe_get (fun _ => rfl) (fun _ _ _ => rfl) σ vs k
theorem wipe_set {x : Option V} {vs : List Nat} {σ : L2.St} {i : Nat} (h : i ∈ vs) : wipe (σ.set i x) vs = wipe σ vs := by
  apply List.ext_getElem?
  intro k
  rw [wipe_at, wipe_at, List.length_set]
  by_cases hk : k ∈ vs
  · rw [if_pos hk, if_pos hk]
  · rw [if_neg hk, if_neg hk, List.getElem?_set_ne (fun e => hk (by rw [← e]; exact h))]
theorem wipeE_length (ρ : Env) : ∀ vs : List Nat, (wipeE ρ vs).length = ρ.length
  | [] => rfl
  | v :: vs => by unfold wipeE; rw [List.length_set, wipeE_length ρ vs]
theorem wipe_rel (r : Rel K mg Γ ρ st σ W) (vs : List Nat) : Rel K mg Γ (wipeE ρ vs) st (wipe σ vs) W := by
  refine ⟨r.ok, fun i d e => ?_, r.st, by rw [wipeE_length, wipe_length]; exact r.len⟩
  rw [wipeE_at] at e
  split at e
  · split at e <;> cases e
  · rename_i hi
    obtain ⟨k, v, h1, h2, rv⟩ := r.sl i d e
    exact ⟨k, v, h1, by rw [wipe_at, if_neg hi]; exact h2, rv⟩
end
/-- a shared value -/
abbrev RepS (K : PySem.W.Frag) (mg : Str → Option Value) (W : Wd) (v : V) (d : D) : Prop := Rep K mg W.adr W.N W.H W.Sh W.Sh v d
abbrev RepSs (K : PySem.W.Frag) (mg : Str → Option Value) (W : Wd) (vs : List V) (ds : List D) : Prop := RepA K mg W.adr W.N W.H W.Sh vs ds

/-! ### targets -/
abbrev SemG := D → Env → Option Env
structure DG (X : Cx) (Γ : List Kd) (tg : Expr) (is : List Nat) (h : SemG) : Prop where
  ex : ∃ g, PG X tg g ∧ ∀ ρ st σ W v d ρ', Rel X.K X.mg Γ ρ st σ W → RepS X.K X.mg W v d → h d ρ = some ρ' → ∀ Q : L2.St → Hp → Prop,
    (∀ σ', Rel X.K X.mg Γ ρ' st σ' W → (∀ vs : List Nat, (∀ i ∈ is, i ∈ vs) → wipe σ' vs = wipe σ vs) → Q σ' W.H) → g v σ W.H Q
structure DGs (X : Cx) (Γ : List Kd) (tgs : List Expr) (is : List Nat) (h : List D → Env → Option Env) : Prop where
  ex : ∃ g, PGs X tgs g ∧ ∀ ρ st σ W vs ds ρ', Rel X.K X.mg Γ ρ st σ W → RepSs X.K X.mg W vs ds → h ds ρ = some ρ' → ∀ Q : L2.St → Hp → Prop,
    (∀ σ', Rel X.K X.mg Γ ρ' st σ' W → (∀ vs : List Nat, (∀ i ∈ is, i ∈ vs) → wipe σ' vs = wipe σ vs) → Q σ' W.H) → g vs σ W.H Q
section
variable {K : PySem.W.Frag} {mg : Str → Option Value} {W : Wd} {Γ : List Kd} {ρ : Env} {σ : L2.St} {st : Store}
theorem set_rel {i : Nat} {v : V} {d : D} (r : Rel K mg Γ ρ st σ W) (rv : RepS K mg W v d) (hi : Γ[i]? = some .sh) : Rel K mg Γ (ρ.set i (some d)) st (σ.set i (some v)) W := by
  refine ⟨r.ok, fun j d' e => ?_, r.st, by rw [List.length_set, List.length_set]; exact r.len⟩
  by_cases hj : j = i
  · subst hj
    have hl : j < ρ.length := by
      rcases Nat.lt_or_ge j ρ.length with h | h
      · exact h
      · rw [List.getElem?_eq_none (by rw [List.length_set]; exact h)] at e; cases e
    rw [List.getElem?_set_self hl] at e
    cases e
    exact ⟨.sh, v, hi, List.getElem?_set_self (by rw [← r.len]; exact hl), Rep.mono (fun a z => ⟨z, fun q => (q rfl).elim⟩) (fun _ _ _ e => e) (Nat.le_refl _) (fun _ _ => rfl) (fun a z => z) (fun _ _ _ e => e) rv⟩
  · rw [List.getElem?_set_ne (fun q => hj q.symm)] at e
    obtain ⟨k, u, g1, g2, ru⟩ := r.sl j d' e
    exact ⟨k, u, g1, by rw [List.getElem?_set_ne (fun q => hj q.symm)]; exact g2, ru⟩
end
section
variable {X : Cx} {Γ : List Kd} {tg : Expr} {tgs : List Expr} {is js : List Nat} {h : SemG} {hs : List D → Env → Option Env} {pos : Pos}
def gSet (i : Nat) : SemG := fun d ρ => some (ρ.set i (some d))
theorem dg_name {i : Nat} {x : Str} (hN : X.N.Nodup) (hk : Γ[i]? = some .sh := by rfl) (hi : X.N[i]? = some x := by rfl) (hx : Loc X.env.scope x := by first | exact Or.inl rfl | exact Or.inr rfl) (hf : X.fn x = true ∨ X.env.scope.names.lookup x = some .local := by first | exact .inl rfl | exact .inr rfl) :
    DG X Γ (.Name x pos) [i] (gSet i) :=
  ⟨_, pg_name hN hi hx hf, fun ρ st σ W v d ρ' r rv hh Q q => by
    cases hh
    exact q _ (set_rel r rv hk) fun vs hv => wipe_set (hv i (by simp))⟩
def gsNil : List D → Env → Option Env := fun ds ρ => match ds with
  | [] => some ρ
  | _ => none
def gsCons (h : SemG) (hs : List D → Env → Option Env) : List D → Env → Option Env := fun ds ρ => match ds with
  | d :: ds => match h d ρ with
    | some ρ1 => hs ds ρ1
    | none => none
  | [] => none
theorem dgs_nil : DGs X Γ [] [] gsNil := ⟨_, pgs_nil, fun ρ st σ W vs ds ρ' r rv hh Q q => by
  unfold gsNil at hh
  split at hh
  · cases hh
    cases rv
    exact ⟨rfl, q σ r fun _ _ => rfl⟩
  · cases hh⟩
theorem dgs_cons (h1 : DG X Γ tg is h) (h2 : DGs X Γ tgs js hs) (ht : List.map (fun x => x.snd) (assignEach (tg :: tgs) X.env) = assign tg X.env :: List.map (fun x => x.snd) (assignEach tgs X.env) := by rfl) : DGs X Γ (tg :: tgs) (is ++ js) (gsCons h hs) := by
  obtain ⟨g, g1, g2⟩ := h1.ex
  obtain ⟨k, k1, k2⟩ := h2.ex
  refine ⟨_, pgs_cons g1 k1 ht, fun ρ st σ W vs ds ρ' r rv hh Q q => ?_⟩
  cases rv with
  | nil => cases hh
  | cons r1 rt =>
    rename_i v vs d ds
    unfold gsCons at hh
    cases e1 : h d ρ with
    | none => simp only [e1] at hh; cases hh
    | some ρ1 =>
      simp only [e1] at hh
      refine ⟨v, vs, rfl, g2 ρ st σ W v d ρ1 r r1 e1 _ fun σ1 r1' w1 => ?_⟩
      exact k2 ρ1 st σ1 W vs ds ρ' r1' rt hh Q fun σ2 r2' w2 => q σ2 r2' fun us hu => (w2 us fun i hi => hu i (List.mem_append_right _ hi)).trans (w1 us fun i hi => hu i (List.mem_append_left _ hi))
theorem PG.or {g g' : TG} (a : PG X tg g) (b : PG X tg g') : PG X tg (fun v σ H Q => g v σ H Q ∨ g' v σ H Q) := by
  obtain ⟨ha⟩ := a
  obtain ⟨hb⟩ := b
  constructor
  intros
  rename_i q
  rcases q with q | q
  · exact ha _ _ _ _ _ _ _ ‹_› ‹_› q
  · exact hb _ _ _ _ _ _ _ ‹_› ‹_› q
def gSeq (n : Nat) (hs : List D → Env → Option Env) : SemG := fun d ρ => match d with
  | .tup ds => if ds.length = n then hs ds ρ else none
  | .lst ds => if ds.length = n then hs ds ρ else none
  | _ => none
theorem dg_seq {n k : Nat} (hc : X.calm = true) (h : DGs X Γ tgs is hs) (hn : (assignEach tgs X.env).length = n := by rfl) (hst : (assignEach tgs X.env).findIdx? (·.1) = none := by rfl) :
    DG X Γ (.Tuple tgs k pos) is (gSeq n hs) := by
  obtain ⟨g, g1, g2⟩ := h.ex
  refine ⟨_, PG.or (pg_tup hc g1 hn hst) (pg_lst hc g1 hn hst), fun ρ st σ W v d ρ' r rv hh Q q => ?_⟩
  unfold gSeq at hh
  split at hh
  · split at hh
    · rename_i hl
      obtain ⟨a, xs, rfl, ha, ra⟩ := rep_tup rv
      exact .inl ⟨a, xs, rfl, .of ha, by rw [ra.length]; exact hl, g2 ρ st σ W xs _ ρ' r ra hh Q q⟩
    · cases hh
  · split at hh
    · rename_i hl
      obtain ⟨a, xs, rfl, ha, _, ra⟩ := rep_lst rv
      exact .inr ⟨a, xs, rfl, .of ha, by rw [ra.length]; exact hl, g2 ρ st σ W xs _ ρ' r ra hh Q q⟩
    · cases hh
  · cases hh
end

/-! ### what is walked -/
theorem Aft.refl (W : Wd) : Aft W W := ⟨fun _ h => h, fun _ _ _ h => h, Nat.le_refl _, fun _ _ => rfl, fun _ _ e => e⟩
theorem StStep.aft {W W1 : Wd} (ok : W.Ok) (s : StStep W W1) : Aft W W1 := ⟨s.sh, fun a o h e => s.keep a o e (ok.shc a h) fun ⟨i, z⟩ => ok.shr i a h z, s.cn, s.ca, s.tup⟩
theorem Aft.trans {W W1 W2 : Wd} (s : Aft W W1) (t : Aft W1 W2) : Aft W W2 :=
  ⟨fun a h => t.sh a (s.sh a h), fun a o h e => t.keep a o (s.sh a h) (s.keep a o h e), Nat.le_trans s.cn t.cn, fun n h => (t.ca n (Nat.lt_of_lt_of_le h s.cn)).trans (s.ca n h), fun a xs e => t.tup a xs (s.tup a xs e)⟩
theorem Aft.rep {K : PySem.W.Frag} {mg : Str → Option Value} {W W1 : Wd} (s : Aft W W1) {v : V} {d : D} (r : RepS K mg W v d) : RepS K mg W1 v d := Rep.mono s.sh s.keep s.cn s.ca s.sh s.keep r
theorem Aft.reps {K : PySem.W.Frag} {mg : Str → Option Value} {W W1 : Wd} (s : Aft W W1) {v : List V} {d : List D} (r : RepSs K mg W v d) : RepSs K mg W1 v d := RepA.mono s.sh s.keep s.cn s.ca r
/-- J gives the data ds, one after another -/
def Feeds (K : PySem.W.Frag) (mg : Str → Option Value) (W1 : Wd) (J : It) (ds : List D) : Prop :=
  ∀ (i : Nat) (W : Wd), W.Ok → Aft W1 W → (ds.length ≤ i → J.stop i W.H) ∧ ∀ d, ds[i]? = some d → J.go i W.H ∧ ∀ x H', J.yld i W.H x H' → ∃ W', W'.H = H' ∧ Grow W W' ∧ RepL K mg W W' Lk.sh x d
abbrev SemI := Env → Store → Option (List D × Store)
structure DI (X : Cx) (Γ : List Kd) (tg iter : Expr) (f : SemI) : Prop where
  ex : ∃ wi, PI X tg iter wi ∧ ∀ ρ st σ W ds st', Rel X.K X.mg Γ ρ st σ W → f ρ st = some (ds, st') → ∀ R : It → Hp → Prop,
    (∀ J W1, ExStep W W1 → Rel X.K X.mg Γ ρ st' σ W1 → Feeds X.K X.mg W1 J ds → R J W1.H) → wi σ W.H R
section
variable {K : PySem.W.Frag} {mg : Str → Option Value} {W W1 : Wd}
theorem sh_of_S {W W' : Wd} {v : V} {d : D} (r : RepS K mg W' v d) : RepL K mg W W' Lk.sh v d :=
  Rep.mono (fun a z => ⟨.inl ⟨rfl, z⟩, fun q => nomatch q⟩) (fun _ _ _ e => e) (Nat.le_refl _) (fun _ _ => rfl) (fun a z => .inl ⟨rfl, z⟩) (fun _ _ _ e => e) r
theorem feeds_list {a : Addr} {xs : List V} {ds : List D} (ha : W1.H a = some (.lst xs)) (hs : W1.Sh a) (r : RepSs K mg W1 xs ds) : Feeds K mg W1 (Itl K a) ds := by
  intro i W ok s
  have e : W.H a = some (.lst xs) := s.keep a _ hs ha
  have r' := s.reps r
  refine ⟨fun h => ⟨xs, .of e, by rw [r'.length]; exact h⟩, fun d hd => ?_⟩
  obtain ⟨v, ev, rv⟩ := r'.get hd
  refine ⟨⟨xs, v, .of e, ev⟩, fun x H' y => ?_⟩
  obtain ⟨rfl, h⟩ := y
  have := h xs (.of e)
  rw [ev] at this
  cases this
  exact ⟨W, rfl, .refl, sh_of_S rv⟩
theorem feeds_tup {a : Addr} {xs : List V} {ds : List D} (ha : W1.H a = some (.tup xs)) (r : RepSs K mg W1 xs ds) : Feeds K mg W1 (Itt K a) ds := by
  intro i W ok s
  have e : W.H a = some (.tup xs) := s.tup a _ ha
  have r' := s.reps r
  refine ⟨fun h => ⟨xs, .of e, by rw [r'.length]; exact h⟩, fun d hd => ?_⟩
  obtain ⟨v, ev, rv⟩ := r'.get hd
  refine ⟨⟨xs, v, .of e, ev⟩, fun x H' y => ?_⟩
  obtain ⟨rfl, h⟩ := y
  have := h xs (.of e)
  rw [ev] at this
  cases this
  exact ⟨W, rfl, .refl, sh_of_S rv⟩
/-- lo, lo + 1, .. -/
def rangeD (lo : Int) : Nat → List D
  | 0 => []
  | n + 1 => .int lo :: rangeD (lo + 1) n
theorem rangeD_length (lo : Int) : ∀ n, (rangeD lo n).length = n
  | 0 => rfl
  | n + 1 => by unfold rangeD; rw [List.length_cons, rangeD_length (lo + 1) n]
theorem rangeD_get : ∀ (lo : Int) (n i : Nat) (d : D), (rangeD lo n)[i]? = some d → i < n ∧ d = .int (lo + i)
  | _, 0, _, _, h => by simp [rangeD] at h
  | lo, n + 1, 0, d, h => by
    simp [rangeD] at h
    exact ⟨Nat.succ_pos _, by rw [← h]; simp⟩
  | lo, n + 1, i + 1, d, h => by
    have h' : (rangeD (lo + 1) n)[i]? = some d := by simpa [rangeD] using h
    obtain ⟨h1, h2⟩ := rangeD_get (lo + 1) n i d h'
    exact ⟨Nat.succ_lt_succ h1, by rw [h2]; congr 1; omega⟩
theorem feeds_range {lo : Int} {n : Nat} : Feeds K mg W1 (Itr lo n) (rangeD lo n) := by
  intro i W ok s
  refine ⟨fun h => by rw [rangeD_length] at h; exact h, fun d hd => ?_⟩
  obtain ⟨h1, rfl⟩ := rangeD_get lo n i d hd
  refine ⟨h1, fun x H' y => ?_⟩
  obtain ⟨rfl, rfl⟩ := y
  exact ⟨W, rfl, .refl, .int _⟩
theorem feeds_str {z : Str} : Feeds K mg W1 (Its z) (z.cps.toList.map fun c => D.str ⟨#[c]⟩) := by
  intro i W ok s
  refine ⟨fun h => by rw [List.length_map, Array.length_toList] at h; exact h, fun d hd => ?_⟩
  rw [List.getElem?_map] at hd
  cases ec : z.cps.toList[i]? with
  | none => rw [ec] at hd; cases hd
  | some c =>
    rw [ec] at hd
    cases hd
    have hc : z.cps[i]? = some c := by rw [← Array.getElem?_toList]; exact ec
    refine ⟨?_, fun x H' y => ?_⟩
    · rcases Nat.lt_or_ge i z.cps.size with h | h
      · exact h
      · rw [Array.getElem?_eq_none h] at hc; cases hc
    · obtain ⟨rfl, c', e1, rfl⟩ := y
      rw [hc] at e1
      cases e1
      exact ⟨W, rfl, .refl, .str _⟩
theorem grow_tup {T : Addr} {x y : V} {d e : D} {W : Wd} (ok : W.Ok) (hT : W.H T = none) (r1 : RepS K mg W x d) (r2 : RepS K mg W y e) : ∃ W', W'.H = upd W.H T (.tup [x, y]) ∧ Grow W W' ∧ RepL K mg W W' Lk.sh (.ref T) (.tup [d, e]) :=
  ⟨W.put T (.tup [x, y]), rfl, Grow.one hT, tup_put (L := Lk.sh) ok (ExStep.refl W) hT (RepA.at_ (fun a h => .inl ⟨rfl, h⟩) (.cons r1 (.cons r2 .nil)))⟩
def zipD : List D → List D → List D
  | x :: xs, y :: ys => .tup [x, y] :: zipD xs ys
  | _, _ => []
theorem zipD_get : ∀ {xs ys : List D} {i : Nat} {d : D}, (zipD xs ys)[i]? = some d → ∃ x y, xs[i]? = some x ∧ ys[i]? = some y ∧ d = .tup [x, y]
  | [], _, _, _, h => by simp [zipD] at h
  | _ :: _, [], _, _, h => by simp [zipD] at h
  | x :: xs, y :: ys, 0, d, h => by
    simp [zipD] at h
    exact ⟨x, y, rfl, rfl, h.symm⟩
  | x :: xs, y :: ys, i + 1, d, h => by
    have h' : (zipD xs ys)[i]? = some d := by simpa [zipD] using h
    obtain ⟨a, b, e1, e2, e3⟩ := zipD_get h'
    exact ⟨a, b, by simpa using e1, by simpa using e2, e3⟩
theorem zipD_length : ∀ (xs ys : List D), (zipD xs ys).length = min xs.length ys.length
  | [], _ => by simp [zipD]
  | _ :: _, [] => by simp [zipD]
  | x :: xs, y :: ys => by
    unfold zipD
    rw [List.length_cons, zipD_length xs ys, List.length_cons, List.length_cons]
    omega
theorem feeds_zip {a b : Addr} {xs ys : List V} {ds es : List D} (ha : W1.H a = some (.lst xs)) (hs : W1.Sh a) (hb : W1.H b = some (.lst ys)) (hs' : W1.Sh b) (r : RepSs K mg W1 xs ds) (r' : RepSs K mg W1 ys es) : Feeds K mg W1 (Itz K a b) (zipD ds es) := by
  intro i W ok s
  have e : W.H a = some (.lst xs) := s.keep a _ hs ha
  have e' : W.H b = some (.lst ys) := s.keep b _ hs' hb
  have r := s.reps r
  have r' := s.reps r'
  refine ⟨fun h => ⟨xs, ys, .of e, .of e', by rw [zipD_length] at h; rw [r.length, r'.length]; omega⟩, fun d hd => ?_⟩
  obtain ⟨d1, d2, h1, h2, rfl⟩ := zipD_get hd
  obtain ⟨v, ev, rv⟩ := r.get h1
  obtain ⟨u, eu, ru⟩ := r'.get h2
  refine ⟨⟨xs, ys, v, u, .of e, .of e', ev, eu⟩, fun x H' y => ?_⟩
  obtain ⟨T, x1, x2, rfl, hT, rfl, f1, f2⟩ := y
  have := f1 xs (.of e); rw [ev] at this; cases this
  have := f2 ys (.of e'); rw [eu] at this; cases this
  exact grow_tup ok hT rv ru
theorem feeds_zipT {a b : Addr} {xs ys : List V} {ds es : List D} (ha : W1.H a = some (.tup xs)) (hb : W1.H b = some (.tup ys)) (r : RepSs K mg W1 xs ds) (r' : RepSs K mg W1 ys es) : Feeds K mg W1 (RZ.ItzT K a b) (zipD ds es) := by
  intro i W ok s
  have e : W.H a = some (.tup xs) := s.tup a _ ha
  have e' : W.H b = some (.tup ys) := s.tup b _ hb
  have r := s.reps r
  have r' := s.reps r'
  refine ⟨fun h => ⟨xs, ys, .of e, .of e', by rw [zipD_length] at h; rw [r.length, r'.length]; omega⟩, fun d hd => ?_⟩
  obtain ⟨d1, d2, h1, h2, rfl⟩ := zipD_get hd
  obtain ⟨v, ev, rv⟩ := r.get h1
  obtain ⟨u, eu, ru⟩ := r'.get h2
  refine ⟨⟨xs, ys, v, u, .of e, .of e', ev, eu⟩, fun x H' y => ?_⟩
  obtain ⟨T, x1, x2, rfl, hT, rfl, f1, f2⟩ := y
  have := f1 xs (.of e); rw [ev] at this; cases this
  have := f2 ys (.of e'); rw [eu] at this; cases this
  exact grow_tup ok hT rv ru
def enumD (k : Nat) : List D → List D
  | [] => []
  | x :: xs => .tup [.int k, x] :: enumD (k + 1) xs
theorem enumD_length (k : Nat) : ∀ xs : List D, (enumD k xs).length = xs.length := fun xs => by
  induction xs generalizing k with
  | nil => rfl
  | cons x xs ih => unfold enumD; rw [List.length_cons, ih, List.length_cons]
theorem enumD_get : ∀ {xs : List D} {k i : Nat} {d : D}, (enumD k xs)[i]? = some d → ∃ x, xs[i]? = some x ∧ d = .tup [.int (k + i : Nat), x]
  | [], _, _, _, h => by simp [enumD] at h
  | x :: xs, k, 0, d, h => by
    simp [enumD] at h
    exact ⟨x, rfl, h.symm⟩
  | x :: xs, k, i + 1, d, h => by
    have h' : (enumD (k + 1) xs)[i]? = some d := by simpa [enumD] using h
    obtain ⟨a, e1, e2⟩ := enumD_get h'
    refine ⟨a, by simpa using e1, ?_⟩
    rw [e2, show k + 1 + i = k + (i + 1) by omega]
theorem feeds_enum {a : Addr} {xs : List V} {ds : List D} (ha : W1.H a = some (.lst xs)) (hs : W1.Sh a) (r : RepSs K mg W1 xs ds) : Feeds K mg W1 (Ite K a) (enumD 0 ds) := by
  intro i W ok s
  have e : W.H a = some (.lst xs) := s.keep a _ hs ha
  have r := s.reps r
  refine ⟨fun h => ⟨xs, .of e, by rw [enumD_length] at h; rw [r.length]; exact h⟩, fun d hd => ?_⟩
  obtain ⟨d1, h1, rfl⟩ := enumD_get hd
  obtain ⟨v, ev, rv⟩ := r.get h1
  refine ⟨⟨xs, v, .of e, ev⟩, fun x H' y => ?_⟩
  obtain ⟨T, x1, rfl, hT, rfl, f1⟩ := y
  have := f1 xs (.of e); rw [ev] at this; cases this
  rw [Nat.zero_add]
  exact grow_tup ok hT (.int _) rv
end

section
variable {X : Cx} {Wx : WX} {Γ Γ1 : List Kd} {tg e e2 iter elt c : Expr} {elts : List Expr} {L M Lr : Lk} {f h : SemE} {fa : SemA} {fi : SemI} {fb : SemB} {gh : SemG} {g : SemS} {is : List Nat} {pos p tpos : Pos} {kk : Nat} {body : List Stmt}
theorem PI.or {w1 w2 : TI} (a : PI X tg iter w1) (b : PI X tg iter w2) : PI X tg iter (fun σ H R => w1 σ H R ∨ w2 σ H R) := by
  obtain ⟨ha⟩ := a
  obtain ⟨hb⟩ := b
  constructor
  intros
  rename_i q
  rcases q with q | q
  · exact ha _ _ _ _ _ ‹_› q
  · exact hb _ _ _ _ _ ‹_› q
/-- the items of a list, a tuple, a text -/
def cSeqI (f : SemE) : SemI := fun ρ st => match f ρ st with
  | some (.lst ds, s) => some (ds, s)
  | some (.tup ds, s) => some (ds, s)
  | some (.str z, s) => some (z.cps.toList.map fun c => .str ⟨#[c]⟩, s)
  | _ => none
theorem di_seq (he : DE X Γ e L f) (hl : L.free = true := by rfl) : DI X Γ tg e (cSeqI f) := by
  obtain ⟨t, h1, h2⟩ := he.ex
  refine ⟨_, PI.or (pi_list h1) (PI.or (pi_tup h1) (pi_str h1)), fun ρ st σ W ds st' rel hf R q => ?_⟩
  unfold cSeqI at hf
  split at hf
  · rename_i ds' s1 e1
    cases hf
    refine .inl (h2 ρ st σ W _ _ rel e1 _ fun v W1 st1 r1 rv => ?_)
    obtain ⟨a, xs, rfl, ha, hs, ra⟩ := rep_lst (shr_rep (W := W) hl rv)
    exact ⟨a, rfl, ⟨xs, .of ha⟩, q _ (W1.shr W) (shr_step st1) (shr_rel r1) (feeds_list ha hs ra)⟩
  · rename_i ds' s1 e1
    cases hf
    refine .inr (.inl (h2 ρ st σ W _ _ rel e1 _ fun v W1 st1 r1 rv => ?_))
    obtain ⟨a, xs, rfl, ha, ra⟩ := rep_tup (shr_rep (W := W) hl rv)
    exact ⟨a, rfl, ⟨xs, .of ha⟩, q _ (W1.shr W) (shr_step st1) (shr_rel r1) (feeds_tup ha ra)⟩
  · rename_i z s1 e1
    cases hf
    refine .inr (.inr (h2 ρ st σ W _ _ rel e1 _ fun v W1 st1 r1 rv => ?_))
    exact ⟨z, rep_str rv, q _ W1 st1 r1 feeds_str⟩
  · cases hf
def cRng1 (f : SemA) : SemI := fun ρ st => match f ρ st with
  | some ([.int j], s) => if -(2 ^ 62) ≤ j ∧ j < 2 ^ 62 then some (rangeD 0 j.toNat, s) else none
  | _ => none
theorem di_range1 {a : Expr} (ha : DA X Γ [a] L fa) (hm : X.mg "range" = none) (hg : Gl X "range" := by rfl) (hs : starEach [a] X.env = [(false, eval a X.env)] := by rfl) : DI X Γ tg (.Call (.Name "range" p) [a] [] pos) (cRng1 fa) := by
  obtain ⟨t, h1, h2⟩ := ha.ex
  refine ⟨_, pi_range1 hg hm h1 hs, fun ρ st σ W ds st' rel hf R q => ?_⟩
  unfold cRng1 at hf
  split at hf
  · rename_i j s1 e1
    split at hf
    · rename_i hj
      cases hf
      refine h2 ρ st σ W _ _ rel e1 _ fun vs W1 st1 r1 rv => ?_
      cases rv with
      | cons rv rn =>
        cases rn
        cases rep_int rv
        exact ⟨j, rfl, hj.1, hj.2, q _ W1 st1 r1 feeds_range⟩
    · cases hf
  · cases hf
def cRng2 (f : SemA) : SemI := fun ρ st => match f ρ st with
  | some ([.int i, .int j], s) => if -(2 ^ 62) ≤ i ∧ i < 2 ^ 62 ∧ -(2 ^ 62) ≤ j ∧ j < 2 ^ 62 then some (rangeD i (j - i).toNat, s) else none
  | _ => none
theorem di_range2 {a b : Expr} (ha : DA X Γ [a, b] L fa) (hm : X.mg "range" = none) (hg : Gl X "range" := by rfl) (hs : starEach [a, b] X.env = [(false, eval a X.env), (false, eval b X.env)] := by rfl) (hs2 : starEach [b] X.env = [(false, eval b X.env)] := by rfl) :
    DI X Γ tg (.Call (.Name "range" p) [a, b] [] pos) (cRng2 fa) := by
  obtain ⟨t, h1, h2⟩ := ha.ex
  refine ⟨_, pi_range2 hg hm h1 hs hs2, fun ρ st σ W ds st' rel hf R q => ?_⟩
  unfold cRng2 at hf
  split at hf
  · rename_i i j s1 e1
    split at hf
    · rename_i hj
      cases hf
      refine h2 ρ st σ W _ _ rel e1 _ fun vs W1 st1 r1 rv => ?_
      cases rv with
      | cons rv rn =>
        cases rn with
        | cons rv2 rn =>
          cases rn
          cases rep_int rv
          cases rep_int rv2
          exact ⟨i, j, rfl, hj, q _ W1 st1 r1 feeds_range⟩
    · cases hf
  · cases hf
def cZip (f : SemA) : SemI := fun ρ st => match f ρ st with
  | some ([.lst xs, .lst ys], s) => some (zipD xs ys, s)
  | some ([.tup xs, .tup ys], s) => some (zipD xs ys, s)
  | _ => none
theorem di_zip {a b : Expr} (ha : DA X Γ [a, b] L fa) (hm : X.mg "zip" = none) (hl : L.free = true := by rfl) (hg : Gl X "zip" := by rfl) (hs : starEach [a, b] X.env = (false, eval a X.env) :: starEach [b] X.env := by rfl) (hpl : (backTo pos (starEach [b] X.env)).any (·.1) = false := by rfl) :
    DI X Γ (.Tuple elts kk tpos) (.Call (.Name "zip" p) [a, b] [] pos) (cZip fa) := by
  obtain ⟨t, h1, h2⟩ := ha.ex
  refine ⟨_, RZ.pi_zipA hg hm h1 hs hpl, fun ρ st σ W ds st' rel hf R q => ?_⟩
  unfold cZip at hf
  split at hf
  · rename_i xs ys s1 e1
    cases hf
    refine h2 ρ st σ W _ _ rel e1 _ fun vs W1 st1 r1 rv => ?_
    cases rv with
    | cons rv rn =>
      cases rn with
      | cons rv2 rn =>
        cases rn
        obtain ⟨a, xs, rfl, ha, hs, ra⟩ := rep_lst (shr_rep (W := W) hl rv)
        obtain ⟨b, ys, rfl, hb, hs', rb⟩ := rep_lst (shr_rep (W := W) hl rv2)
        exact ⟨a, b, xs, ys, rfl, .inl ⟨.of ha, .of hb, q _ (W1.shr W) (shr_step st1) (shr_rel r1) (feeds_zip ha hs hb hs' ra rb)⟩⟩
  · rename_i xs ys s1 e1
    cases hf
    refine h2 ρ st σ W _ _ rel e1 _ fun vs W1 st1 r1 rv => ?_
    cases rv with
    | cons rv rn =>
      cases rn with
      | cons rv2 rn =>
        cases rn
        obtain ⟨a, xs, rfl, ha, ra⟩ := rep_tup (shr_rep (W := W) hl rv)
        obtain ⟨b, ys, rfl, hb, rb⟩ := rep_tup (shr_rep (W := W) hl rv2)
        exact ⟨a, b, xs, ys, rfl, .inr ⟨.of ha, .of hb, q _ (W1.shr W) (shr_step st1) (shr_rel r1) (feeds_zipT ha hb ra rb)⟩⟩
  · cases hf
def cEnum (f : SemA) : SemI := fun ρ st => match f ρ st with
  | some ([.lst xs], s) => some (enumD 0 xs, s)
  | _ => none
theorem di_enum {a : Expr} (ha : DA X Γ [a] L fa) (hm : X.mg "enumerate" = none) (hl : L.free = true := by rfl) (hg : Gl X "enumerate" := by rfl) (hs : starEach [a] X.env = [(false, eval a X.env)] := by rfl) :
    DI X Γ (.Tuple elts kk tpos) (.Call (.Name "enumerate" p) [a] [] pos) (cEnum fa) := by
  obtain ⟨t, h1, h2⟩ := ha.ex
  refine ⟨_, pi_enum hg hm h1 hs, fun ρ st σ W ds st' rel hf R q => ?_⟩
  unfold cEnum at hf
  split at hf
  · rename_i xs s1 e1
    cases hf
    refine h2 ρ st σ W _ _ rel e1 _ fun vs W1 st1 r1 rv => ?_
    cases rv with
    | cons rv rn =>
      cases rn
      obtain ⟨a, xs, rfl, ha, hs, ra⟩ := rep_lst (shr_rep (W := W) hl rv)
      exact ⟨a, xs, rfl, .of ha, q _ (W1.shr W) (shr_step st1) (shr_rel r1) (feeds_enum ha hs ra)⟩
  · cases hf

/-! ### for -/
def forD (h : SemG) (g : SemS) : List D → Env → Store → Option SR
  | [], ρ, st => some (.nx ρ st)
  | d :: ds, ρ, st => match h d ρ with
    | some ρ1 => match g ρ1 st with
      | some (.nx ρ2 s2) => forD h g ds ρ2 s2
      | r => r
    | none => none
def cFor (f : SemI) (h : SemG) (g : SemS) : SemS := fun ρ st => match f ρ st with
  | some (ds, s) => forD h g ds ρ s
  | none => none
theorem ds_for (hp : PassesOwn (model X.prog X.w) X.A X.env X.xe) (hc : X.calm = true) (hi : DI X Γ tg iter fi) (hg : DG X Γ tg is gh) (hb : DSs X Wx Γ body Γ Lr g) (hs : ∀ x, foldedSetIterable iter X.env x = pure x := by intro _; rfl) : DS X Wx Γ (.For tg iter body [] pos) Γ Lr (cFor fi gh g) := by
  obtain ⟨wi, i1, i2⟩ := hi.ex
  obtain ⟨gt, g1, g2⟩ := hg.ex
  obtain ⟨tb, b1, b2⟩ := hb.ex
  refine ⟨_, ps_for hp hc i1 g1 b1 hs, fun ρ st σ W r rel hf D p => ?_⟩
  unfold cFor at hf
  split at hf
  · rename_i ds s1 e1
    refine i2 ρ st σ W ds s1 rel e1 _ fun J W1 st1 r1 fd => ?_
    refine ⟨fun i m σ H => i ≤ ds.length ∧ m = ds.length - i ∧ ∃ ρi sti Wi, Wi.H = H ∧ StStep W1 Wi ∧ Rel X.K X.mg Γ ρi sti σ Wi ∧ forD gh g (ds.drop i) ρi sti = some r, ⟨_, Nat.zero_le _, rfl, ρ, s1, W1, rfl, StStep.refl _, r1, hf⟩, ?_⟩
    rintro i m σi _ ⟨hil, rfl, ρi, sti, Wi, rfl, si, ri, hfi⟩
    have F := fd i Wi ri.ok (si.aft r1.ok)
    rcases Nat.lt_or_ge i ds.length with hlt | hge
    · obtain ⟨d, hd⟩ : ∃ d, ds[i]? = some d := ⟨ds[i], List.getElem?_eq_getElem hlt⟩
      have hdrop : ds.drop i = d :: ds.drop (i + 1) := by
        rw [List.drop_eq_getElem_cons hlt]
        rw [List.getElem?_eq_getElem hlt] at hd
        rw [Option.some.inj hd]
      rw [hdrop] at hfi
      unfold forD at hfi
      cases eh : gh d ρi with
      | none => rw [eh] at hfi; cases hfi
      | some ρ2 =>
        rw [eh] at hfi
        dsimp only at hfi
        refine .inr ⟨(F.2 d hd).1, fun σ' H' => ∃ ρj stj Wj, Wj.H = H' ∧ StStep W1 Wj ∧ Rel X.K X.mg Γ ρj stj σ' Wj ∧ forD gh g (ds.drop (i + 1)) ρj stj = some r, fun σ' H' ⟨ρj, stj, Wj, e, sj, rj, fj⟩ => ⟨ds.length - (i + 1), by omega, hlt, rfl, ρj, stj, Wj, e, sj, rj, fj⟩, fun x H' y => ?_⟩
        obtain ⟨W', rfl, gr, rx⟩ := (F.2 d hd).2 x H' y
        have rel' : Rel X.K X.mg Γ ρi sti σi (W'.shr Wi) := shr_rel (gr.rel ri)
        have sAll : StStep W1 (W'.shr Wi) := si.trans (shr_step gr.step).st
        refine g2 ρi sti σi (W'.shr Wi) x d ρ2 rel' (shr_rep rfl rx) eh _ fun σ2 r2 _ => ?_
        cases eb : g ρ2 sti with
        | none => rw [eb] at hfi; cases hfi
        | some rb =>
          rw [eb] at hfi
          refine b2 ρ2 sti σ2 (W'.shr Wi) rb r2 eb _ ?_
          have p' : PostS X Wx Γ Lr (W'.shr Wi) D r := p.bwd (st1.st.trans sAll)
          cases rb with
          | nx ρ3 s3 => exact fun σ3 W3 s3' r3 => ⟨ρ3, s3, W3, rfl, sAll.trans s3', r3, hfi⟩
          | rt d s3 => cases hfi; exact p'
          | ex c d s3 => cases hfi; exact p'
    · have e0 : ds.drop i = [] := List.drop_eq_nil_of_le hge
      rw [e0] at hfi
      cases hfi
      exact .inl ⟨F.1 hge, p σi Wi (st1.st.trans si) ri⟩
  · cases hf

/-! ### comprehensions -/
/-- tests of a comprehension -/
structure DTs (X : Cx) (Γ : List Kd) (ifs : List Expr) (f : SemB) : Prop where
  ex : ∃ t, PTs X ifs t ∧ ∀ ρ st σ W b st', Rel X.K X.mg Γ ρ st σ W → f ρ st = some (b, st') → ∀ Q : Bool → Hp → Prop, PostB X Γ ρ st' σ W b Q → t σ W.H Q
def cYes : SemB := fun _ st => some (true, st)
theorem dts_nil : DTs X Γ [] cYes := ⟨_, pts_nil, fun ρ st σ W b st' r hf Q q => by
  cases hf
  exact q W (ExStep.refl W) r⟩
theorem dts_one (h : DB X Γ c fb) : DTs X Γ [c] fb := by
  obtain ⟨t, h1, h2⟩ := h.pt
  exact ⟨_, pts_one h1, h2⟩
def lcD (h : SemG) (b : SemB) (f : SemE) (ρ : Env) : List D → Store → List D → Option (List D × Store)
  | [], st, acc => some (acc, st)
  | d :: ds, st, acc => match h d ρ with
    | some ρ1 => match b ρ1 st with
      | some (true, s1) => match f ρ1 s1 with
        | some (y, s2) => if acc.length < sizeLine then lcD h b f ρ ds s2 (acc ++ [y]) else none
        | none => none
      | some (false, s1) => lcD h b f ρ ds s1 acc
      | none => none
    | none => none
def cLc (own : List Nat) (fi : SemI) (h : SemG) (b : SemB) (f : SemE) : SemE := fun ρ st => match fi ρ st with
  | some (ds, s1) => match lcD h b f (wipeE ρ own) ds s1 [] with
    | some (ys, s2) => some (.lst ys, s2)
    | none => none
  | none => none
end
end DL

set_option Elab.async false
set_option linter.all false
set_option maxRecDepth 100000
/-! DL8: list comprehensions. -/
namespace DL
open PySem PySem.Spec PyProof.Rows L2

theorem PE.imp {X : Cx} {e : Expr} {t t' : TE} (h : PE X e t) (i : ∀ σ H Q, t' σ H Q → t σ H Q) : PE X e t' := ⟨fun pins s σ H Q I w => h.run pins s σ H Q I (i _ _ _ w)⟩
theorem PTs.imp {X : Cx} {e : List Expr} {t t' : TT} (h : PTs X e t) (i : ∀ σ H Q, t' σ H Q → t σ H Q) : PTs X e t' := by
  obtain ⟨h⟩ := h
  constructor
  intros
  exact h _ _ _ _ _ ‹_› (i _ _ _ ‹_›)
theorem PG.imp {X : Cx} {e : Expr} {t t' : TG} (h : PG X e t) (i : ∀ v σ H Q, t' v σ H Q → t v σ H Q) : PG X e t' := by
  obtain ⟨h⟩ := h
  constructor
  intros
  exact h _ _ _ _ _ _ _ ‹_› ‹_› (i _ _ _ _ ‹_›)
theorem PI.imp {X : Cx} {tg e : Expr} {t t' : TI} (h : PI X tg e t) (i : ∀ σ H R, t' σ H R → t σ H R) : PI X tg e t' := by
  obtain ⟨h⟩ := h
  constructor
  intros
  exact h _ _ _ _ _ ‹_› (i _ _ _ ‹_›)

section
variable {K : PySem.W.Frag} {mg : Str → Option Value} {W W1 W2 : Wd} {Γ : List Kd} {ρ : Env} {σ : L2.St} {st : Store} {p : Addr} {o : HO}
/-- a place that was not there at W is written -/
theorem wr_tup {us : List V} (hu : W1.H p = some (.lst us)) : ∀ a xs, W1.H a = some (.tup xs) → upd W1.H p o a = some (.tup xs) := fun a xs e => by
  rw [upd_ne (fun q => by rw [q, hu] at e; cases e)]; exact e
theorem ExStep.wr (s : ExStep W W1) (hp : W.H p = none) : ExStep W (W1.put p o) :=
  ⟨fun a u h c => by show upd W1.H p o a = some u; rw [upd_ne (ne_of_none h hp)]; exact s.keep a u h c, fun a h => upd_dom (s.dom a h), s.sh, s.shb, s.rb, s.cn, s.ca, s.cnew, fun a xs e => (by show upd W1.H p o a = _; rw [upd_ne (ne_of_none e hp)]; exact s.tup a xs e)⟩
theorem own_tupG (hu : ∀ xs, W1.H p ≠ some (.tup xs)) : ∀ a xs, W1.H a = some (.tup xs) → upd W1.H p o a = some (.tup xs) := fun a xs e => by
  rw [upd_ne (fun q => hu xs (by rw [← q]; exact e))]; exact e
theorem wr_relG (hu : ∀ xs, W1.H p ≠ some (.tup xs)) (r : Rel K mg Γ ρ st σ W1) (h1 : ¬ W1.Sh p) (h2 : ¬ W1.RR p) (h3 : ¬ W1.Cl p) : Rel K mg Γ ρ st σ (W1.put p o) := by
  have kS : ∀ a u, W1.Sh a → W1.H a = some u → upd W1.H p o a = some u := fun a u h e => by rw [upd_ne (fun q => h1 (by rw [← q]; exact h))]; exact e
  have kR : ∀ i a u, W1.R i a → W1.H a = some u → upd W1.H p o a = some u := fun i a u h e => by rw [upd_ne (fun q => h2 ⟨i, by rw [← q]; exact h⟩)]; exact e
  refine ⟨put_ok r.ok, fun i d e => ?_, ⟨r.st.len, fun n c e => ?_⟩, r.len⟩
  · obtain ⟨k, v, g1, g2, rv⟩ := r.sl i d e
    refine ⟨k, v, g1, g2, Rep.mono (fun a z => z) (fun a u z e => ?_) (Nat.le_refl _) (fun _ _ => rfl) (fun a z => z) (fun a u z e => ?_) rv (own_tupG hu)⟩
    · have z := z.1
      cases k with
      | sh => exact kS a u z e
      | top => exact kS a u z e
      | all => exact kR i a u z e
    · cases k with
      | sh => exact kS a u z e
      | top => exact kR i a u z e
      | all => exact kR i a u z e
  · have hn : n < W1.N := by rw [← r.st.len]; exact (List.getElem?_eq_some_iff.mp e).1
    have hne : W1.adr n ≠ p := fun q => h3 ⟨n, hn, q.symm⟩
    have m : ∀ {vs : List V} {ds : List D}, RepA K mg W1.adr W1.N W1.H W1.Sh vs ds → RepA K mg W1.adr W1.N (upd W1.H p o) W1.Sh vs ds := fun r => RepA.mono (fun _ z => z) kS (Nat.le_refl _) (fun _ _ => rfl) r (own_tupG hu)
    have k : ∀ u, W1.H (W1.adr n) = some u → upd W1.H p o (W1.adr n) = some u := fun u q => by rw [upd_ne hne]; exact q
    have h := r.st.at_ n c e
    cases c with
    | lst ds => obtain ⟨xs, h1, h2⟩ := h; exact ⟨xs, k _ h1, m h2⟩
    | dK ds => obtain ⟨xs, h1, h2, h3⟩ := h; exact ⟨xs, k _ h1, h2, m h3⟩
    | dT ds => obtain ⟨xs, h1, h2, h3⟩ := h; exact ⟨xs, k _ h1, h2, m h3⟩
    | ins c fs => obtain ⟨C, dx, gs, h0, h1, h2, h3⟩ := h; exact ⟨C, dx, gs, h0, k _ h1, h2, m h3⟩
theorem wr_rel {us : List V} (hu : W1.H p = some (.lst us)) (r : Rel K mg Γ ρ st σ W1) (h1 : ¬ W1.Sh p) (h2 : ¬ W1.RR p) (h3 : ¬ W1.Cl p) : Rel K mg Γ ρ st σ (W1.put p o) := wr_relG (fun xs e => by rw [hu] at e; cases e) r h1 h2 h3
/-- the list that grows: its place P, its items acc -/
structure Acc (K : PySem.W.Frag) (mg : Str → Option Value) (W W1 : Wd) (L : Lk) (P : Addr) (ds : List D) : Prop where
  fr : Fr W W1 P
  ex : ∃ acc, W1.H P = some (.lst acc) ∧ RepA K mg W1.adr W1.N W1.H (fun a => Ch W W1 L a ∧ a ≠ P) acc ds
theorem Acc.fwd {L : Lk} {ds : List D} (h : Acc K mg W W1 L p ds) (ok : W1.Ok) (s : ExStep W1 W2) : Acc K mg W W2 L p ds := by
  obtain ⟨f, acc, e, r⟩ := h
  exact ⟨f.fwd ok s, acc, s.keep p _ e f.2.2.2.2, RepA.mono (fun a z => ⟨z.1.fwd ok s, z.2⟩) (fun a u z e => s.keep a u e (z.1.ncl ok)) s.cn s.ca r⟩
theorem Acc.start {L : Lk} (ok : W1.Ok) (s : ExStep W W1) (hp : W1.H p = none) : Acc K mg W (W1.put p (.lst [])) L p [] :=
  ⟨(put_fr ok hp).bwd s, [], upd_same, .nil⟩
theorem Fr.wr {a : Addr} (h : Fr W W1 a) : Fr W (W1.put p o) a := ⟨h.1, upd_dom h.2.1, h.2.2⟩
theorem Ch.wr {L : Lk} {a : Addr} (h : Ch W W1 L a) : Ch W (W1.put p o) L a := h.elim .inl fun z => z.elim (fun q => .inr (.inl q)) fun q => .inr (.inr q.wr)
/-- one item more: y was reckoned from W1 on, where the list stood already -/
theorem Acc.more {L : Lk} {ds : List D} {acc : List V} {y : V} {d : D} (ok : W2.Ok) (s : ExStep W W1) (hP : W1.H p ≠ none) (h : Acc K mg W W2 L.over p ds) (e : W2.H p = some (.lst acc)) (r : RepL K mg W1 W2 L y d) :
    Acc K mg W (W2.put p (.lst (acc ++ [y]))) L.over p (ds ++ [d]) := by
  obtain ⟨f, acc', e', ra⟩ := h
  rw [e] at e'
  cases e'
  have keep : ∀ a u, a ≠ p → W2.H a = some u → upd W2.H p (.lst (acc ++ [y])) a = some u := fun a u n q => by rw [upd_ne n]; exact q
  refine ⟨f.wr, _, upd_same, RepA.append (RepA.mono (fun a z => ⟨z.1.wr, z.2⟩) (fun a u z e => keep a u z.2 e) (Nat.le_refl _) (fun _ _ => rfl) ra (wr_tup e)) (.cons ?_ .nil)⟩
  have apart : ∀ a, Ch W1 W2 L.over a → a ≠ p := fun a z q => by
    subst q
    rcases z with ⟨_, z⟩ | ⟨_, z⟩ | z
    · exact f.2.2.1 z
    · exact f.2.2.2.1 z
    · exact hP z.1
  have toW : ∀ a, Ch W1 W2 L.over a → Ch W W2 L.over a := fun a z => z.elim .inl fun q => q.elim (fun q => .inr (.inl q)) fun q => .inr (.inr (q.bwd s))
  exact Rep.mono (fun a z => ⟨(toW a z).wr, apart a z⟩) (fun a u z e => keep a u (apart a z) e) (Nat.le_refl _) (fun _ _ => rfl) (fun a z => ⟨(toW a z).wr, apart a z⟩) (fun a u z e => keep a u (apart a z) e) r.under (wr_tup e)
theorem Acc.done {L : Lk} {ds : List D} (h : Acc K mg W W1 L p ds) (hl : L.ts = false) : RepL K mg W W1 L (.ref p) (.lst ds) := by
  obtain ⟨f, acc, e, r⟩ := h
  exact .lst ⟨e, .inr (.inr f)⟩ (r.at_ fun a z => ⟨z.1, fun _ q => by cases q; exact z.2 rfl⟩)
end

section
variable {X : Cx} {Γ : List Kd} {tg iter elt : Expr} {ifs : List Expr} {L : Lk} {f : SemE} {fi : SemI} {fb : SemB} {gh : SemG} {is : List Nat} {pos : Pos} {scope : Scope} {own : List (Str × Nat)}
theorem wipe_le {σ : L2.St} {σ' : L2.St} {vs : List Nat} : wipe σ' vs = wipe (wipe σ vs) vs → wipe σ' vs = wipe σ vs := fun h => by
  rw [h]
  apply List.ext_getElem?
  intro k
  rw [wipe_at, wipe_at, wipe_length]
  by_cases hk : k ∈ vs <;> simp [hk]
/-- a list comprehension's wish, whatever rule asks it -/
theorem lc_sem (hsub : ∀ i ∈ is, i ∈ own.map (·.2))
    (hg : ∀ (s : Shared) (H : Hp) (C : Addr) (cl : List (Str × Addr)) (fp : List Addr), DG (X.blk s H scope (compEnvC scope cl C X.env) fp) Γ tg is gh)
    (ht : ∀ (s : Shared) (H : Hp) (C : Addr) (cl : List (Str × Addr)) (fp : List Addr), DTs (X.blk s H scope (compEnvC scope cl C X.env) fp) Γ ifs fb)
    (he : ∀ (s : Shared) (H : Hp) (C : Addr) (cl : List (Str × Addr)) (fp : List Addr), DE (X.blk s H scope (compEnvC scope cl C X.env) fp) Γ elt L f) {wi : TI}
    (i2 : ∀ ρ st σ W ds st', Rel X.K X.mg Γ ρ st σ W → fi ρ st = some (ds, st') → ∀ R : It → Hp → Prop, (∀ J W1, ExStep W W1 → Rel X.K X.mg Γ ρ st' σ W1 → Feeds X.K X.mg W1 J ds → R J W1.H) → wi σ W.H R) :
    ∃ (gT : TG) (tT : TT) (eT : TE), (∀ s H0 C cl fp, PG (X.blk s H0 scope (compEnvC scope cl C X.env) fp) tg gT) ∧ (∀ s H0 C cl fp, PTs (X.blk s H0 scope (compEnvC scope cl C X.env) fp) ifs tT) ∧ (∀ s H0 C cl fp, PE (X.blk s H0 scope (compEnvC scope cl C X.env) fp) elt eT) ∧
      ∀ ρ st σ W d st', Rel X.K X.mg Γ ρ st σ W → cLc (own.map (·.2)) fi gh fb f ρ st = some (d, st') → ∀ Q : VK, PostE X Γ ρ st' σ W L.over d Q → tLc wi gT tT eT (own.map (·.2)) σ W.H Q := by
  let gT : TG := fun v σ H Q => ∀ s H0 C cl fp, Classical.choose (hg s H0 C cl fp).ex v σ H Q
  let tT : TT := fun σ H Q => ∀ s H0 C cl fp, Classical.choose (ht s H0 C cl fp).ex σ H Q
  let eT : TE := fun σ H Q => ∀ s H0 C cl fp, Classical.choose (he s H0 C cl fp).ex σ H Q
  have pg : ∀ s H0 C cl fp, PG (X.blk s H0 scope (compEnvC scope cl C X.env) fp) tg gT := fun s H0 C cl fp => PG.imp (Classical.choose_spec (hg s H0 C cl fp).ex).1 fun v σ H Q h => h s H0 C cl fp
  have pt : ∀ s H0 C cl fp, PTs (X.blk s H0 scope (compEnvC scope cl C X.env) fp) ifs tT := fun s H0 C cl fp => PTs.imp (Classical.choose_spec (ht s H0 C cl fp).ex).1 fun σ H Q h => h s H0 C cl fp
  have pe : ∀ s H0 C cl fp, PE (X.blk s H0 scope (compEnvC scope cl C X.env) fp) elt eT := fun s H0 C cl fp => PE.imp (Classical.choose_spec (he s H0 C cl fp).ex).1 fun σ H Q h => h s H0 C cl fp
  refine ⟨gT, tT, eT, pg, pt, pe, fun ρ st σ W d st' rel hf Q q => ?_⟩
  unfold cLc at hf
  split at hf
  · rename_i ds s1 e1
    split at hf
    · rename_i ys s2 e2
      cases hf
      refine i2 ρ st σ W ds s1 rel e1 _ fun J W1 st1 r1 fd => ?_
      intro P hP
      have hPW : W.H P = none := none_back (st1.dom P) hP
      refine ⟨fun i m H => i ≤ ds.length ∧ m = ds.length - i ∧ ∃ sti accd Wi, Wi.H = H ∧ ExStep W Wi ∧ Aft W1 Wi ∧ Rel X.K X.mg Γ ρ sti σ Wi ∧ Acc X.K X.mg W Wi L.over P accd ∧ lcD gh fb f (wipeE ρ (own.map (·.2))) (ds.drop i) sti accd = some (ys, st'),
        ⟨_, Nat.zero_le _, rfl, s1, [], W1.put P (.lst []), rfl, st1.wr hPW, (put_step hP).st.aft r1.ok, put_rel hP r1, Acc.start r1.ok st1 hP, e2⟩, ?_⟩
      rintro i m _ ⟨hil, rfl, sti, accd, Wi, rfl, si, ai, ri, hacc, hfi⟩
      have F := fd i Wi ri.ok ai
      have hPi : Wi.H P ≠ none := hacc.fr.2.1
      rcases Nat.lt_or_ge i ds.length with hlt | hge
      · obtain ⟨d, hd⟩ : ∃ d, ds[i]? = some d := ⟨ds[i], List.getElem?_eq_getElem hlt⟩
        have hdrop : ds.drop i = d :: ds.drop (i + 1) := by
          rw [List.drop_eq_getElem_cons hlt]
          rw [List.getElem?_eq_getElem hlt] at hd
          rw [Option.some.inj hd]
        rw [hdrop] at hfi
        unfold lcD at hfi
        cases eh : gh d (wipeE ρ (own.map (·.2))) with
        | none => rw [eh] at hfi; cases hfi
        | some ρ2 =>
          rw [eh] at hfi
          dsimp only at hfi
          refine .inr ⟨(F.2 d hd).1, fun H' => ∃ stj accj Wj, Wj.H = H' ∧ ExStep W Wj ∧ Aft W1 Wj ∧ Rel X.K X.mg Γ ρ stj σ Wj ∧ Acc X.K X.mg W Wj L.over P accj ∧ lcD gh fb f (wipeE ρ (own.map (·.2))) (ds.drop (i + 1)) stj accj = some (ys, st'),
            fun H' ⟨stj, accj, Wj, e, sj, aj, rj, cj, fj⟩ => ⟨ds.length - (i + 1), by omega, hlt, rfl, stj, accj, Wj, e, sj, aj, rj, cj, fj⟩, fun x H' y => ?_⟩
          obtain ⟨W', rfl, gr, rx⟩ := (F.2 d hd).2 x H' y
          have sg : ExStep Wi (W'.shr Wi) := shr_step gr.step
          have rel' : Rel X.K X.mg Γ ρ sti σ (W'.shr Wi) := shr_rel (gr.rel ri)
          have rw' : Rel X.K X.mg Γ (wipeE ρ (own.map (·.2))) sti (wipe σ (own.map (·.2))) (W'.shr Wi) := wipe_rel rel' _
          have aw : Aft W1 (W'.shr Wi) := ai.trans (sg.st.aft ri.ok)
          have cw := hacc.fwd ri.ok sg
          intro b1 b2 b3 b4 b5
          refine (Classical.choose_spec (hg b1 b2 b3 b4 b5).ex).2 _ sti _ (W'.shr Wi) x d ρ2 rw' (shr_rep rfl rx) eh _ fun σ2 r2 w2 => ⟨wipe_le (w2 _ hsub), ?_⟩
          intro c1 c2 c3 c4 c5
          cases eb : fb ρ2 sti with
          | none => rw [eb] at hfi; cases hfi
          | some rb =>
            obtain ⟨bb, s3⟩ := rb
            rw [eb] at hfi
            refine (Classical.choose_spec (ht c1 c2 c3 c4 c5).ex).2 ρ2 sti σ2 (W'.shr Wi) bb s3 r2 eb _ fun W3 st3 r3 => ?_
            have rel3 : Rel X.K X.mg Γ ρ s3 σ W3 := ⟨r3.ok, rel'.sl.step rel'.ok st3, r3.st, rel.len⟩
            have s3' : ExStep W W3 := (si.trans sg).trans st3
            have c3' := cw.fwd rel'.ok st3
            cases bb with
            | false =>
              dsimp only at hfi
              exact iteF ⟨s3, accd, W3, rfl, s3', aw.trans (st3.st.aft rel'.ok), rel3, c3', hfi⟩
            | true =>
              dsimp only at hfi
              refine iteT ?_
              intro d1 d2 d3 d4 d5
              cases ey : f ρ2 s3 with
              | none => rw [ey] at hfi; cases hfi
              | some ry =>
                obtain ⟨y', s4⟩ := ry
                rw [ey] at hfi
                dsimp only at hfi
                split at hfi
                · rename_i hlen
                  refine (Classical.choose_spec (he d1 d2 d3 d4 d5).ex).2 ρ2 s3 σ2 W3 y' s4 r3 ey _ fun u W4 st4 r4 ru => ?_
                  have rel4 : Rel X.K X.mg Γ ρ s4 σ W4 := ⟨r4.ok, rel3.sl.step rel3.ok st4, r4.st, rel.len⟩
                  have c4' := c3'.fwd rel3.ok st4
                  obtain ⟨f4, acc, eP, ra⟩ := c4'
                  have hl : acc.length = accd.length := ra.length
                  refine ⟨acc, eP, by rw [hl]; exact hlen, s4, accd ++ [y'], W4.put P (.lst (acc ++ [u])), rfl, (s3'.trans st4).wr hPW, ?_, wr_rel eP rel4 f4.2.2.1 f4.2.2.2.1 f4.2.2.2.2, ?_, hfi⟩
                  · have a4 : Aft W1 W4 := (aw.trans (st3.st.aft rel'.ok)).trans (st4.st.aft rel3.ok)
                    refine ⟨a4.sh, fun a o h e => ?_, a4.cn, a4.ca, fun a xs e => wr_tup eP a xs (a4.tup a xs e)⟩
                    show upd W4.H P _ a = some o
                    rw [upd_ne (fun q => f4.2.2.1 (by rw [← q]; exact a4.sh a h))]
                    exact a4.keep a o h e
                  · exact Acc.more rel4.ok s3' (c3'.fr.2.1) ⟨f4, acc, eP, ra⟩ eP ru
                · cases hfi
      · have e0 : ds.drop i = [] := List.drop_eq_nil_of_le hge
        rw [e0] at hfi
        cases hfi
        exact .inl ⟨F.1 hge, q _ Wi si ri (hacc.done rfl)⟩
    · cases hf
  · cases hf
theorem de_lc (hc : X.calm = true) (hN : X.N.Nodup) (hi : DI X Γ tg iter fi) (ok : BlkOk X.N X.env.scope scope own) (hsub : ∀ i ∈ is, i ∈ own.map (·.2))
    (hg : ∀ (s : Shared) (H : Hp) (C : Addr) (cl : List (Str × Addr)) (fp : List Addr), DG (X.blk s H scope (compEnvC scope cl C X.env) fp) Γ tg is gh)
    (ht : ∀ (s : Shared) (H : Hp) (C : Addr) (cl : List (Str × Addr)) (fp : List Addr), DTs (X.blk s H scope (compEnvC scope cl C X.env) fp) Γ ifs fb)
    (he : ∀ (s : Shared) (H : Hp) (C : Addr) (cl : List (Str × Addr)) (fp : List Addr), DE (X.blk s H scope (compEnvC scope cl C X.env) fp) Γ elt L f)
    (hs : ∀ x, foldedSetIterable iter X.env x = pure x := by intro _; rfl) :
    DE X Γ (.ListComp elt [⟨tg, iter, ifs, 0⟩] scope pos) L.over (cLc (own.map (·.2)) fi gh fb f) := by
  obtain ⟨wi, i1, i2⟩ := hi.ex
  obtain ⟨gT, tT, eT, pg, pt, pe, sem⟩ := lc_sem hsub hg ht he i2
  exact ⟨_, pe_lc (own := own) hc hN i1 ok pg pt pe hs, sem⟩
end
end DL

set_option Elab.async false
set_option linter.all false
set_option maxRecDepth 100000
/-! DL9: calls of built-ins, methods. -/
namespace DL
open PySem PySem.Spec PyProof.Rows L2

/-- a built-in by values; ℓ: where the answer stands -/
def DCall (X : Cx) (f : Value) (g : List D → Option D) (ℓ : Lk → Lk) : Prop :=
  ∃ r, CallR X f r ∧ ∀ (W0 W : Wd) (xs : List V) (ds : List D) (d : D) (L : Lk), W.Ok → ExStep W0 W → RepLs X.K X.mg W0 W L xs ds → g ds = some d → ∀ Q : VK, PostV X.K X.mg W0 W (ℓ L) d Q → r xs W.H Q
def cFn (g : List D → Option D) (f : SemA) : SemE := fun ρ st => match f ρ st with
  | some (ds, s) => match g ds with
    | some d => some (d, s)
    | none => none
  | none => none
section
variable {X : Cx} {Wx : WX} {Γ Γ1 : List Kd} {e a b c : Expr} {es : List Expr} {L M Lr : Lk} {f h : SemE} {fa : SemA} {fb : SemB} {p pos : Pos} {x : Str} {id T : String} {g : List D → Option D} {ℓ : Lk → Lk}
theorem cFn_some {ρ : Env} {st st' : Store} {d : D} (hf : cFn g fa ρ st = some (d, st')) : ∃ ds, fa ρ st = some (ds, st') ∧ g ds = some d := by
  unfold cFn at hf
  split at hf
  · rename_i ds s e1
    split at hf
    · rename_i d' e2
      cases hf
      exact ⟨ds, e1, e2⟩
    · cases hf
  · cases hf
theorem de_callB (hc : DCall X (.builtin id) g ℓ) (ha : DA X Γ (e :: es) L fa) (hm : X.mg x = none) (hv : bootBuiltins x = some (.builtin id)) (hg : Gl X x := by rfl) (hn : x ≠ "__name__" := by decide) (hdb : (x == ("__debug__" : Str)) = false := by decide)
    (he : starEach (e :: es) X.env = (false, eval e X.env) :: starEach es X.env := by rfl) (hpl : (backTo pos (starEach es X.env)).any (·.1) = false := by rfl) : DE X Γ (.Call (.Name x p) (e :: es) [] pos) (ℓ L) (cFn g fa) := by
  obtain ⟨r, o1, o2⟩ := hc
  obtain ⟨t, h1, h2⟩ := ha.ex
  refine ⟨_, pe_callB o1 hg hm hv h1 hn hdb he hpl, fun ρ st σ W d st' rel hf Q q => ?_⟩
  obtain ⟨ds, e1, e2⟩ := cFn_some hf
  refine h2 ρ st σ W ds _ rel e1 _ fun vs W1 st1 r1 rv => ?_
  exact o2 W W1 vs ds d L r1.ok st1 rv e2 Q fun v' W' gr rv' => q v' W' (st1.trans gr.step) (gr.rel r1) rv'
theorem de_callTy (hc : DCall X (.type T) g ℓ) (ha : DA X Γ (e :: es) L fa) (hm : X.mg x = none) (hv : bootBuiltins x = some (.type T)) (hg : Gl X x := by rfl) (hn : x ≠ "__name__" := by decide) (hdb : (x == ("__debug__" : Str)) = false := by decide)
    (he : starEach (e :: es) X.env = (false, eval e X.env) :: starEach es X.env := by rfl) (hpl : (backTo pos (starEach es X.env)).any (·.1) = false := by rfl) : DE X Γ (.Call (.Name x p) (e :: es) [] pos) (ℓ L) (cFn g fa) := by
  obtain ⟨r, o1, o2⟩ := hc
  obtain ⟨t, h1, h2⟩ := ha.ex
  refine ⟨_, pe_callTy o1 hg hm hv h1 hn hdb he hpl, fun ρ st σ W d st' rel hf Q q => ?_⟩
  obtain ⟨ds, e1, e2⟩ := cFn_some hf
  refine h2 ρ st σ W ds _ rel e1 _ fun vs W1 st1 r1 rv => ?_
  exact o2 W W1 vs ds d L r1.ok st1 rv e2 Q fun v' W' gr rv' => q v' W' (st1.trans gr.step) (gr.rel r1) rv'

def lkF0 : Lk → Lk := fun _ => Lk.f0
theorem reps1 {K : PySem.W.Frag} {mg : Str → Option Value} {W W' : Wd} {vs : List V} {d : D} (h : RepLs K mg W W' L vs [d]) : ∃ v, vs = [v] ∧ RepL K mg W W' L v d := by
  cases h with
  | cons h t => cases t; exact ⟨_, rfl, h⟩
theorem reps2 {K : PySem.W.Frag} {mg : Str → Option Value} {W W' : Wd} {vs : List V} {d e : D} (h : RepLs K mg W W' L vs [d, e]) : ∃ v u, vs = [v, u] ∧ RepL K mg W W' L v d ∧ RepL K mg W W' L u e := by
  cases h with
  | cons h t =>
    cases t with
    | cons h' t => cases t; exact ⟨_, _, rfl, h, h'⟩
/-- max(m, n), min(m, n) -/
def max2D : List D → Option D
  | [.int i, .int j] => some (.int (if j > i then j else i))
  | _ => none
def min2D : List D → Option D
  | [.int i, .int j] => some (.int (if j < i then j else i))
  | _ => none
theorem dc_max2 (hc : X.calm = true) : DCall X (.builtin "max") max2D lkF0 := ⟨_, call_max2 hc, fun W0 W xs ds d L ok s r e Q q => by
  unfold max2D at e
  split at e
  · cases e
    obtain ⟨v, u, rfl, r1, r2⟩ := reps2 r
    exact ⟨_, _, by rw [rep_int r1, rep_int r2], q _ W .refl (.int _)⟩
  · cases e⟩
theorem dc_min2 (hc : X.calm = true) : DCall X (.builtin "min") min2D lkF0 := ⟨_, call_min2 hc, fun W0 W xs ds d L ok s r e Q q => by
  unfold min2D at e
  split at e
  · cases e
    obtain ⟨v, u, rfl, r1, r2⟩ := reps2 r
    exact ⟨_, _, by rw [rep_int r1, rep_int r2], q _ W .refl (.int _)⟩
  · cases e⟩
/-- int(n), int(flag) -/
def int1D : List D → Option D
  | [.int i] => some (.int i)
  | [.bl k] => some (.int (if k then 1 else 0))
  | _ => none
theorem dc_int : DCall X (.type "int") int1D lkF0 := ⟨_, call_int1, fun W0 W xs ds d L ok s r e Q q => by
  unfold int1D at e
  split at e
  · cases e
    obtain ⟨v, rfl, r1⟩ := reps1 r
    exact .inl ⟨_, by rw [rep_int r1], q _ W .refl (.int _)⟩
  · cases e
    obtain ⟨v, rfl, r1⟩ := reps1 r
    exact .inr ⟨_, by rw [rep_bl r1], q _ W .refl (.int _)⟩
  · cases e⟩
/-- len -/
def lenD : List D → Option D
  | [.lst xs] => some (.int xs.length)
  | [.tup xs] => some (.int xs.length)
  | [.fro xs] => some (.int xs.length)
  | [.str z] => if z.length ≤ sizeLine then some (.int z.length) else none
  | _ => none
theorem dc_len : DCall X (.builtin "len") lenD lkF0 := ⟨_, CallR.or call_len_seq call_len_str, fun W0 W xs ds d L ok s r e Q q => by
  unfold lenD at e
  split at e
  · cases e
    obtain ⟨v, rfl, r1⟩ := reps1 r
    obtain ⟨a, xs, rfl, ha, _, ra⟩ := rep_lst r1
    exact .inl ⟨a, xs, rfl, .inl (.of ha), by rw [ra.length]; exact q _ W .refl (.int _)⟩
  · cases e
    obtain ⟨v, rfl, r1⟩ := reps1 r
    obtain ⟨a, xs, rfl, ha, ra⟩ := rep_tup r1
    exact .inl ⟨a, xs, rfl, .inr (.of ha), by rw [ra.length]; exact q _ W .refl (.int _)⟩
  · cases e
    obtain ⟨v, rfl, r1⟩ := reps1 r
    obtain ⟨a, xs, rfl, ha, ra⟩ := rep_fro r1
    exact .inl ⟨a, xs, rfl, .inl ha, by rw [ra.length]; exact q _ W .refl (.int _)⟩
  · split at e
    · rename_i hl
      cases e
      obtain ⟨v, rfl, r1⟩ := reps1 r
      exact .inr ⟨_, by rw [rep_str r1], hl, q _ W .refl (.int _)⟩
    · cases e
  · cases e⟩
/-- lists of ints, of truth values -/
def D.ints : List D → Option (List Int)
  | [] => some []
  | .int i :: ds => match D.ints ds with
    | some is => some (i :: is)
    | none => none
  | _ :: _ => none
def D.bls : List D → Option (List Bool)
  | [] => some []
  | .bl i :: ds => match D.bls ds with
    | some is => some (i :: is)
    | none => none
  | _ :: _ => none
theorem ints_rep {K : PySem.W.Frag} {mg : Str → Option Value} {adr : Nat → Addr} {N : Nat} {H : Hp} {C : Addr → Prop} : ∀ {vs : List V} {ds : List D} {is : List Int}, RepA K mg adr N H C vs ds → D.ints ds = some is → vs = is.map V.int
  | _, _, _, .nil, h => by cases h; rfl
  | _, _, _, .cons (d := d) r t, h => by
    unfold D.ints at h
    split at h
    · rename_i e; cases e
    · rename_i e
      injection e with e1 e2
      subst e1 e2
      split at h
      · rename_i is e
        cases h
        rw [rep_int r, ints_rep t e]
        rfl
      · cases h
    · cases h
theorem bls_rep {K : PySem.W.Frag} {mg : Str → Option Value} {adr : Nat → Addr} {N : Nat} {H : Hp} {C : Addr → Prop} : ∀ {vs : List V} {ds : List D} {is : List Bool}, RepA K mg adr N H C vs ds → D.bls ds = some is → vs = is.map V.bl
  | _, _, _, .nil, h => by cases h; rfl
  | _, _, _, .cons (d := d) r t, h => by
    unfold D.bls at h
    split at h
    · rename_i e; cases e
    · rename_i e
      injection e with e1 e2
      subst e1 e2
      split at h
      · rename_i is e
        cases h
        rw [rep_bl r, bls_rep t e]
        rfl
      · cases h
    · cases h
def sumD : List D → Option D
  | [.lst xs] => match D.ints xs with
    | some is => some (.int is.sum)
    | none => none
  | _ => none
theorem dc_sum (hc : X.calm = true) : DCall X (.builtin "sum") sumD lkF0 := ⟨_, cr_sum hc, fun W0 W xs ds d L ok s r e Q q => by
  unfold sumD at e
  split at e
  · split at e
    · rename_i is ei
      cases e
      obtain ⟨v, rfl, r1⟩ := reps1 r
      obtain ⟨a, xs, rfl, ha, _, ra⟩ := rep_lst r1
      have := ints_rep ra ei
      subst this
      exact ⟨a, is, rfl, .of ha, q _ W .refl (.int _)⟩
    · cases e
  · cases e⟩
def allD : List D → Option D
  | [.lst xs] => match D.bls xs with
    | some is => some (.bl (is.all fun b => b))
    | none => none
  | _ => none
def anyD : List D → Option D
  | [.lst xs] => match D.bls xs with
    | some is => some (.bl (is.any fun b => b))
    | none => none
  | _ => none
theorem dc_all (hc : X.calm = true) : DCall X (.builtin "all") allD lkF0 := ⟨_, cr_all hc, fun W0 W xs ds d L ok s r e Q q => by
  unfold allD at e
  split at e
  · split at e
    · rename_i is ei
      cases e
      obtain ⟨v, rfl, r1⟩ := reps1 r
      obtain ⟨a, xs, rfl, ha, _, ra⟩ := rep_lst r1
      have := bls_rep ra ei
      subst this
      exact ⟨a, is, rfl, .of ha, q _ W .refl (.bl _)⟩
    · cases e
  · cases e⟩
theorem dc_any (hc : X.calm = true) : DCall X (.builtin "any") anyD lkF0 := ⟨_, cr_any hc, fun W0 W xs ds d L ok s r e Q q => by
  unfold anyD at e
  split at e
  · split at e
    · rename_i is ei
      cases e
      obtain ⟨v, rfl, r1⟩ := reps1 r
      obtain ⟨a, xs, rfl, ha, _, ra⟩ := rep_lst r1
      have := bls_rep ra ei
      subst this
      exact ⟨a, is, rfl, .of ha, q _ W .refl (.bl _)⟩
    · cases e
  · cases e⟩
/-- list(x), tuple(x) -/
def listD : List D → Option D
  | [.lst xs] => some (.lst xs)
  | [.tup xs] => some (.lst xs)
  | [.fro xs] => some (.lst xs)
  | _ => none
def tupleD : List D → Option D
  | [.lst xs] => some (.tup xs)
  | _ => none
theorem dc_list : DCall X (.type "list") listD Lk.anew := ⟨_, call_list_of, fun W0 W xs ds d L ok s r e Q q => by
  unfold listD at e
  split at e
  · cases e
    obtain ⟨v, rfl, r1⟩ := reps1 r
    obtain ⟨a, xs, rfl, ha, _, ra⟩ := rep_lst r1
    exact ⟨a, xs, rfl, .inl (.of ha), fun p hp => postV_lst (L := L.anew) ok s (ra.at_ fun _ z => z.1) q p hp⟩
  · cases e
    obtain ⟨v, rfl, r1⟩ := reps1 r
    obtain ⟨a, xs, rfl, ha, ra⟩ := rep_tup r1
    exact ⟨a, xs, rfl, .inr (.of ha), fun p hp => postV_lst (L := L.anew) ok s (ra.at_ fun _ z => z.1) q p hp⟩
  · cases e
    obtain ⟨v, rfl, r1⟩ := reps1 r
    obtain ⟨a, xs, rfl, ha, ra⟩ := rep_fro r1
    exact ⟨a, xs, rfl, .inl ha, fun p hp => postV_lst (L := L.anew) ok s (ra.at_ fun _ z => z.1) q p hp⟩
  · cases e⟩
theorem dc_tuple : DCall X (.type "tuple") tupleD Lk.anew := ⟨_, call_tuple_of, fun W0 W xs ds d L ok s r e Q q => by
  unfold tupleD at e
  split at e
  · cases e
    obtain ⟨v, rfl, r1⟩ := reps1 r
    obtain ⟨a, xs, rfl, ha, _, ra⟩ := rep_lst r1
    exact ⟨a, xs, rfl, .inl ⟨.of ha, fun p hp => postV_tup (L := L.anew) ok s (ra.at_ fun _ z => z.1) q p hp⟩⟩
  · cases e⟩

/-! ### isinstance with built-in classes -/
inductive BT where
  | non | bl | int | str | lst | tup | dic
  deriving DecidableEq
def BT.nm : BT → String
  | .non => "NoneType"
  | .bl => "bool"
  | .int => "int"
  | .str => "str"
  | .lst => "list"
  | .tup => "tuple"
  | .dic => "dict"
def BT.sub : BT → BT → Bool
  | .non, .non => true
  | .bl, .bl => true
  | .bl, .int => true
  | .int, .int => true
  | .str, .str => true
  | .lst, .lst => true
  | .tup, .tup => true
  | .dic, .dic => true
  | _, _ => false
theorem kitB_all (t c : BT) : kitB t.nm c.nm = some (t.sub c) := by
  cases t <;> cases c <;> decide +kernel
def D.bt : D → Option BT
  | .non => some .non
  | .bl _ => some .bl
  | .int _ => some .int
  | .str _ => some .str
  | .lst _ => some .lst
  | .tup _ => some .tup
  | .dK _ => some .dic
  | .dT _ => some .dic
  | _ => none
theorem kit_anyT {K : PySem.W.Frag} {t : BT} : ∀ {cs : List BT}, PySem.W.kitAny K (.type t.nm) (cs.map fun c => Value.type c.nm) = some (cs.any t.sub)
  | [] => rfl
  | c :: cs => by
    rw [List.map_cons, List.any_cons]
    cases e : t.sub c with
    | true => exact kitAny_cons (b := true) (kit_ty ((kitB_all t c).trans (by rw [e]))) (fun z => nomatch z) fun _ => rfl
    | false => exact kitAny_cons (b := false) (kit_ty ((kitB_all t c).trans (by rw [e]))) (fun _ => kit_anyT) fun z => nomatch z
/-- what a value's class is -/
def TyZ (K : PySem.W.Frag) (H : Hp) (x : V) (t : Value) : Prop := TyX K H x t ∨ (t = .type "dict" ∧ ∃ a o kvs, x = .ref a ∧ H a = some (.frz o (.dT kvs)))
theorem kit_ofZ {pins : List (Addr × Obj)} {σ : L2.St} {H : Hp} {s : Shared} {v : V} {u t : Value} (I : Inv X pins σ H s) (rx : RelV v u) (ty : TyZ X.K H v t) : ∃ P : Heap → Prop, PySem.W.KitX X.K u t P ∧ P s.heap ∧ u ≠ .builtin "__main__.__loader__#opaque" := by
  rcases ty with ty | ⟨rfl, a, ob, kvs, rfl, ea⟩
  · exact kit_of I rx ty
  · cases (show u = Value.ref a from rx)
    obtain ⟨_, _, _, xs, _, o, es, ep, h1, h2, _⟩ := (show ObjOk X.prog X.w H s.heap a (.frz ob (.dT kvs)) from I.hok a _ ea)
    exact ⟨_, PySem.W.kitx_dict, ⟨o, h1, h2.1⟩, fun z => nomatch z⟩
theorem rep_tyz {mg : Str → Option Value} {adr : Nat → Addr} {N : Nat} {H : Hp} {C T : Addr → Prop} {v : V} {d : D} {t : BT} (h : Rep X.K mg adr N H C T v d) (e : d.bt = some t) : TyZ X.K H v (.type t.nm) := by
  cases h with
  | non => cases e; exact .inl (.base .non)
  | bl b => cases e; exact .inl (.base (.bl b))
  | int b => cases e; exact .inl (.base (.int b))
  | str b => cases e; exact .inl (.base (.str b))
  | ty _ => cases e
  | cel _ => cases e
  | glo _ => cases e
  | fro _ _ => cases e
  | lst q _ => cases e; exact .inl (.base (.lst q.1))
  | tup q _ => cases e; exact .inl (.base (.tup q))
  | dK q _ _ =>
    cases e
    exact .inl (.base (.dK q.1))
  | dT q _ _ =>
    cases e
    exact .inl (.base (.dT q.1))
def rIsZ (K : PySem.W.Frag) : List V → Hp → VK → Prop := fun xs H Q => ∃ (x : V) (t c : BT), xs = [x, .ty c.nm] ∧ TyZ K H x (.type t.nm) ∧ Q (.bl (t.sub c)) H
theorem call_isZ : CallR X (.builtin "isinstance") (rIsZ X.K) := by
  intro pins s σ H xs us Q I r h
  obtain ⟨x, t, c, rfl, ty, q⟩ := h
  obtain ⟨u1, u2, rfl, r1, r2⟩ := vals2 r
  cases (show u2 = Value.type c.nm from r2)
  obtain ⟨P, Z, p, hx⟩ := kit_ofZ I r1 ty
  exact PySem.W.kia_one Z I.kIn p (kit_ty (kitB_all t c)) hx fun tk => ⟨.bl _, H, I.tok tk, rfl, q⟩
def rIsZT (K : PySem.W.Frag) : List V → Hp → VK → Prop := fun xs H Q => ∃ (x : V) (tp : Addr) (t : BT) (cs : List BT), xs = [x, .ref tp] ∧ H tp = some (.tup (cs.map fun c => V.ty c.nm)) ∧ TyZ K H x (.type t.nm) ∧ Q (.bl (cs.any t.sub)) H
theorem tys_vals : ∀ {cs : List BT} {us : List Value}, Vals (cs.map fun c => V.ty c.nm) us → us = cs.map fun c => Value.type c.nm
  | [], _, h => by cases h; rfl
  | c :: cs, _, h => by
    cases h with
    | cons r t =>
      rw [tys_vals t, List.map_cons]
      cases (show _ = Value.type c.nm from r)
      rfl
theorem call_isZT : CallR X (.builtin "isinstance") (rIsZT X.K) := by
  intro pins s σ H xs us Q I r h
  obtain ⟨x, tp, t, cs, rfl, hT, ty, q⟩ := h
  obtain ⟨u1, u2, rfl, r1, r2⟩ := vals2 r
  cases (show u2 = Value.ref tp from r2)
  obtain ⟨P, Z, p, hx⟩ := kit_ofZ I r1 ty
  obtain ⟨_, its, rv, o, h1, h2, n, h3⟩ := (show ObjOk X.prog X.w H s.heap tp (.tup _) from I.hok tp _ hT)
  have e := tys_vals rv
  subst e
  obtain ⟨cls, dd, dat, sl⟩ := o
  cases h2
  cases h3
  exact PySem.W.kia_tup Z I.kIn p h1 kit_anyT hx fun tk => ⟨.bl _, H, I.tok tk, rfl, q⟩
def cIs (c : BT) (f : SemE) : SemB := fun ρ st => match f ρ st with
  | some (d, s) => match d.bt with
    | some t => some (t.sub c, s)
    | none => none
  | none => none
def cIsT (cs : List BT) (f : SemE) : SemB := fun ρ st => match f ρ st with
  | some (d, s) => match d.bt with
    | some t => some (cs.any t.sub, s)
    | none => none
  | none => none
theorem boot_isi : bootBuiltins "isinstance" = some (.builtin "isinstance") := by decide +kernel
/-- a built-in class's name -/
theorem pe_bt {t : BT} (hm : X.mg (Str.ofString t.nm) = none) (hg : Gl X (Str.ofString t.nm)) (hv : bootBuiltins (Str.ofString t.nm) = some (.type t.nm) := by decide +kernel) (hn : (Str.ofString t.nm) ≠ "__name__" := by decide) (hd : ((Str.ofString t.nm) == ("__debug__" : Str)) = false := by decide) : PE X (.Name (Str.ofString t.nm) pos) (tC (.ty t.nm)) :=
  pe_bltn hg hm hv rfl hn hd
theorem db_is {t : BT} (ha : DE X Γ a L f) (hT : PE X c (tC (.ty t.nm))) (hm : X.mg "isinstance" = none) (hg : Gl X "isinstance" := by rfl)
    (hs0 : starEach [c] X.env = (false, eval c X.env) :: starEach [] X.env := by rfl) (he : starEach [a, c] X.env = (false, eval a X.env) :: starEach [c] X.env := by rfl) (hpl : (backTo pos (starEach [c] X.env)).any (·.1) = false := by rfl)
    (hp : ∀ whole, isTrue (.Call (.Name "isinstance" p) [a, c] [] pos) X.env whole = (do let v ← whole; standAt (Expr.pos (.Call (.Name "isinstance" p) [a, c] [] pos)); holding [v] (truthy v)) := by intro _; rfl) :
    DB X Γ (.Call (.Name "isinstance" p) [a, c] [] pos) (cIs t f) := by
  obtain ⟨u, h1, h2⟩ := ha.ex
  have P := pe_callB (pos := pos) (p := p) call_isZ hg hm boot_isi (pa_cons h1 (pa_cons hT pa_nil hs0) he) (by decide) (by decide) he hpl
  have key : ∀ {ρ st σ W k st'}, Rel X.K X.mg Γ ρ st σ W → cIs t f ρ st = some (k, st') → ∀ Q : VK, PostB X Γ ρ st' σ W k (fun b H => Q (.bl b) H) → (tCB (rIsZ X.K) (tCons u (tCons (tC (.ty t.nm)) tNil))) σ W.H Q := fun {ρ st σ W k st'} rel hf Q q => by
    unfold cIs at hf
    split at hf
    · rename_i d s1 e1
      split at hf
      · rename_i tt e2
        cases hf
        exact h2 ρ st σ W d _ rel e1 _ fun v W1 st1 r1 rv => ⟨v, tt, t, rfl, rep_tyz rv e2, q W1 st1 r1⟩
      · cases hf
    · cases hf
  exact ⟨⟨_, P, fun ρ st σ W b st' r hf Q q => key r hf Q q⟩, ⟨_, pt_val P hp, fun ρ st σ W b st' r hf Q q => key r hf _ fun W' s' r' => ⟨b, rfl, q W' s' r'⟩⟩⟩
def tTys : List BT → TA
  | [] => tNil
  | t :: ts => tCons (tC (.ty t.nm)) (tTys ts)
theorem tTys_run : ∀ {ts : List BT} {σ : L2.St} {H : Hp} {Q : List V → Hp → Prop}, Q (ts.map fun c => V.ty c.nm) H → tTys ts σ H Q
  | [], _, _, _, q => q
  | t :: ts, σ, H, Q, q => tTys_run (ts := ts) (Q := fun xs H2 => Q (.ty t.nm :: xs) H2) q
theorem db_isT {ts : List BT} {cs : List Expr} {k1 : Nat} {tpos : Pos} (ha : DE X Γ a L f) (hT : PA X cs (tTys ts)) (hm : X.mg "isinstance" = none) (hg : Gl X "isinstance" := by rfl) (hlen : ts.length ≤ sizeLine := by decide)
    (hs0 : starEach [(.Tuple cs k1 tpos : Expr)] X.env = (false, eval (.Tuple cs k1 tpos) X.env) :: starEach [] X.env := by rfl) (he : starEach [a, .Tuple cs k1 tpos] X.env = (false, eval a X.env) :: starEach [.Tuple cs k1 tpos] X.env := by rfl) (hpl : (backTo pos (starEach [(.Tuple cs k1 tpos : Expr)] X.env)).any (·.1) = false := by rfl)
    (hp : ∀ whole, isTrue (.Call (.Name "isinstance" p) [a, .Tuple cs k1 tpos] [] pos) X.env whole = (do let v ← whole; standAt (Expr.pos (.Call (.Name "isinstance" p) [a, .Tuple cs k1 tpos] [] pos)); holding [v] (truthy v)) := by intro _; rfl) :
    DB X Γ (.Call (.Name "isinstance" p) [a, .Tuple cs k1 tpos] [] pos) (cIsT ts f) := by
  obtain ⟨u, h1, h2⟩ := ha.ex
  have P := pe_callB (pos := pos) (p := p) call_isZT hg hm boot_isi (pa_cons h1 (pa_cons (pe_tup hT) pa_nil hs0) he) (by decide) (by decide) he hpl
  have key : ∀ {ρ st σ W k st'}, Rel X.K X.mg Γ ρ st σ W → cIsT ts f ρ st = some (k, st') → ∀ Q : VK, PostB X Γ ρ st' σ W k (fun b H => Q (.bl b) H) → (tCB (rIsZT X.K) (tCons u (tCons (tTup (tTys ts)) tNil))) σ W.H Q := fun {ρ st σ W k st'} rel hf Q q => by
    unfold cIsT at hf
    split at hf
    · rename_i d s1 e1
      split at hf
      · rename_i tt e2
        cases hf
        refine h2 ρ st σ W d _ rel e1 _ fun v W1 st1 r1 rv => ?_
        refine tTys_run ⟨by rw [List.length_map]; exact hlen, fun tp hp => ?_⟩
        refine ⟨v, tp, tt, ts, rfl, upd_same, ?_, q (W1.put tp _) (st1.trans (put_step hp)) (put_rel hp r1)⟩
        exact rep_tyz (RepL.fwd r1.ok (put_step hp) rv) e2
      · cases hf
    · cases hf
  exact ⟨⟨_, P, fun ρ st σ W b st' r hf Q q => key r hf Q q⟩, ⟨_, pt_val P hp, fun ρ st σ W b st' r hf Q q => key r hf _ fun W' s' r' => ⟨b, rfl, q W' s' r'⟩⟩⟩
end
end DL

set_option Elab.async false
set_option linter.all false
set_option maxRecDepth 100000
/-! DL10: what a slot owns is changed: append, xs[i] = e, d[k] = e. -/
namespace DL
open PySem PySem.Spec PyProof.Rows L2

/-- the object at a, which slot i owns, becomes o; F: what came new with it -/
def Wd.own (W : Wd) (i : Nat) (k : Kd) (F : Addr → Prop) (a : Addr) (o : HO) : Wd :=
  { W with H := upd W.H a o, Sh := fun b => W.Sh b ∨ (k ≠ .all ∧ F b), R := fun j b => W.R j b ∨ (k = .all ∧ j = i ∧ F b) }
section
variable {K : PySem.W.Frag} {mg : Str → Option Value} {W W1 : Wd} {Γ : List Kd} {ρ : Env} {σ : L2.St} {st : Store} {i : Nat} {k : Kd} {a : Addr} {o : HO}
theorem own_tup (hm : ∀ xs, W1.H a ≠ some (.tup xs)) : ∀ b xs, W1.H b = some (.tup xs) → upd W1.H a o b = some (.tup xs) := fun b xs e => by
  rw [upd_ne (fun q => hm xs (by rw [← q]; exact e))]; exact e
theorem own_step (hm : ∀ xs, W1.H a ≠ some (.tup xs)) (s : ExStep W W1) (ha : W1.R i a) : StStep W (W1.own i k (Fr W W1) a o) where
  keep := fun b u h c r => by
    show upd W1.H a o b = some u
    rw [upd_ne (fun q => r ⟨i, (by rw [q, ← s.rb]; exact ha)⟩)]
    exact s.keep b u h c
  dom := fun b h => upd_dom (s.dom b h)
  sh := fun b h => .inl (s.sh b h)
  shb := fun b h => h.elim (fun z => (s.shb b z).elim .inl fun q => .inr (.inr q)) fun z => .inr (.inr z.2.1)
  rb := fun b ⟨j, z⟩ => z.elim (fun z => .inl ⟨j, by rw [← s.rb]; exact z⟩) fun z => .inr z.2.2.1
  cn := s.cn
  ca := s.ca
  cnew := s.cnew
  tup := fun b xs e => own_tup hm b xs (s.tup b xs e)
theorem own_ok (ok : W1.Ok) : (W1.own i k (Fr W W1) a o).Ok where
  sh := fun b h => h.elim (fun z => upd_dom (ok.sh b z)) fun z => upd_dom z.2.2.1
  r := fun j b h => h.elim (fun z => upd_dom (ok.r j b z)) fun z => upd_dom z.2.2.2.1
  c := fun n h => upd_dom (ok.c n h)
  shr := fun j b h z => by
    rcases h with h | ⟨h1, h2⟩
    · rcases z with z | ⟨_, _, z⟩
      · exact ok.shr j b h z
      · exact z.2.2.1 h
    · rcases z with z | ⟨z, _, _⟩
      · exact h2.2.2.2.1 ⟨j, z⟩
      · exact h1 z
  rr := fun j l b y z => by
    rcases y with y | ⟨_, e, y⟩
    · rcases z with z | ⟨_, _, z⟩
      · exact ok.rr j l b y z
      · exact absurd (show W1.RR b from ⟨j, y⟩) z.2.2.2.1
    · rcases z with z | ⟨_, e', _⟩
      · exact absurd (show W1.RR b from ⟨l, z⟩) y.2.2.2.1
      · exact e.trans e'.symm
  shc := fun b h => h.elim (ok.shc b) fun z => z.2.2.2.2.2
  rc := fun j b h => h.elim (ok.rc j b) fun z => z.2.2.2.2.2.2
  inj := ok.inj
/-- a part of what slot i owns -/
def ownC (W W1 : Wd) (i : Nat) (k : Kd) (a b : Addr) : Prop := (kC W1 i k b ∨ Fr W W1 b) ∧ b ≠ a
theorem own_rel {d : D} {d' : D} (hm : ∀ xs, W1.H a ≠ some (.tup xs)) (r : Rel K mg Γ ρ st σ W1) (s : ExStep W W1) (hk : Γ[i]? = some k) (hns : k ≠ .sh) (hi : ρ[i]? = some (some d)) (hσ : σ[i]? = some (some (.ref a))) (ha : W1.R i a)
    (new : Rep K mg W1.adr W1.N (upd W1.H a o) (ownC W W1 i k a) (fun b => b = a) (.ref a) d') : Rel K mg Γ (ρ.set i (some d')) st σ (W1.own i k (Fr W W1) a o) := by
  have kp : ∀ b u, b ≠ a → W1.H b = some u → upd W1.H a o b = some u := fun b u n e => by rw [upd_ne n]; exact e
  have nS : ∀ b, W1.Sh b → b ≠ a := fun b h q => r.ok.shr i b h (by rw [q]; exact ha)
  refine ⟨own_ok r.ok, fun j d0 e => ?_, ⟨r.st.len, fun n c e => ?_⟩, by rw [List.length_set]; exact r.len⟩
  · by_cases hj : j = i
    · subst hj
      have hl : j < ρ.length := (List.getElem?_eq_some_iff.mp hi).1
      rw [List.getElem?_set_self hl] at e
      cases e
      refine ⟨k, .ref a, hk, hσ, Rep.mono (fun b z => ?_) (fun _ _ _ e => e) (Nat.le_refl _) (fun _ _ => rfl) (fun b z => ?_) (fun _ _ _ e => e) new⟩
      · obtain ⟨z, n⟩ := z
        refine ⟨?_, fun _ q => n (by cases q; rfl)⟩
        cases k with
        | sh => exact absurd rfl hns
        | top => exact z.elim .inl fun z => .inr ⟨(fun q => nomatch q), z⟩
        | all => exact z.elim .inl fun z => .inr ⟨rfl, rfl, z⟩
      · subst z
        cases k with
        | sh => exact absurd rfl hns
        | top => exact .inl ha
        | all => exact .inl ha
    · rw [List.getElem?_set_ne (fun q => hj q.symm)] at e
      obtain ⟨k', u, g1, g2, ru⟩ := r.sl j d0 e
      have nR : ∀ b, W1.R j b → b ≠ a := fun b h q => hj (r.ok.rr j i b h (by rw [q]; exact ha))
      refine ⟨k', u, g1, g2, Rep.mono (fun b z => ?_) (fun b u z e => ?_) (Nat.le_refl _) (fun _ _ => rfl) (fun b z => ?_) (fun b u z e => ?_) ru (own_tup hm)⟩
      · refine ⟨?_, z.2⟩
        have z := z.1
        cases k' with
        | sh => exact .inl z
        | top => exact .inl z
        | all => exact .inl z
      · have z := z.1
        cases k' with
        | sh => exact kp b u (nS b z) e
        | top => exact kp b u (nS b z) e
        | all => exact kp b u (nR b z) e
      · cases k' with
        | sh => exact .inl z
        | top => exact .inl z
        | all => exact .inl z
      · cases k' with
        | sh => exact kp b u (nS b z) e
        | top => exact kp b u (nR b z) e
        | all => exact kp b u (nR b z) e
  · have hn : n < W1.N := by rw [← r.st.len]; exact (List.getElem?_eq_some_iff.mp e).1
    have hne : W1.adr n ≠ a := fun q => r.ok.rc i a ha ⟨n, hn, q.symm⟩
    have m : ∀ {vs : List V} {ds : List D}, RepA K mg W1.adr W1.N W1.H W1.Sh vs ds → RepA K mg W1.adr W1.N (upd W1.H a o) (W1.own i k (Fr W W1) a o).Sh vs ds := fun r => RepA.mono (fun _ z => .inl z) (fun b u z e => kp b u (nS b z) e) (Nat.le_refl _) (fun _ _ => rfl) r (own_tup hm)
    have h := r.st.at_ n c e
    cases c with
    | lst ds => obtain ⟨xs, h1, h2⟩ := h; exact ⟨xs, kp _ _ hne h1, m h2⟩
    | dK ds => obtain ⟨xs, h1, h2, h3⟩ := h; exact ⟨xs, kp _ _ hne h1, h2, m h3⟩
    | dT ds => obtain ⟨xs, h1, h2, h3⟩ := h; exact ⟨xs, kp _ _ hne h1, h2, m h3⟩
    | ins c fs => obtain ⟨C, dx, gs, h0, h1, h2, h3⟩ := h; exact ⟨C, dx, gs, h0, kp _ _ hne h1, h2, m h3⟩
/-- may a value with L be put into what a slot of kind k owns? -/
def Kd.fits (k : Kd) (L : Lk) : Bool := L.free && match k with
  | .sh => false
  | .top => true
  | .all => !L.ts && !L.cs
theorem Kd.fits_of {k : Kd} {L : Lk} (h : k.fits L = true) : L.tr = false ∧ L.cr = false ∧ (L.ts = true → k ≠ .all) ∧ (L.cs = true → k ≠ .all) := by
  obtain ⟨ts, tr, cs, cr⟩ := L
  cases k <;> cases ts <;> cases tr <;> cases cs <;> cases cr <;> first
    | exact absurd h (by decide)
    | (refine ⟨rfl, rfl, ?_, ?_⟩ <;> intro z <;> first | exact absurd z (by decide) | decide)
theorem fits_in {L : Lk} {v : V} {d : D} (hm : ∀ xs, W1.H a ≠ some (.tup xs)) (ok : W1.Ok) (s : ExStep W W1) (ha : W1.R i a) (haW : W.H a ≠ none) (hf : k.fits L = true) (r : RepL K mg W W1 L v d) : Rep K mg W1.adr W1.N (upd W1.H a o) (ownC W W1 i k a) (ownC W W1 i k a) v d := by
  have nS : ∀ b, W1.Sh b → b ≠ a := fun b h q => ok.shr i b h (by rw [q]; exact ha)
  have nF : ∀ b, Fr W W1 b → b ≠ a := fun b h q => haW (by rw [← q]; exact h.1)
  have key : ∀ {t : Bool} {r : Bool} {b : Addr}, (t = true → k ≠ .all) → r = false → ((t = true ∧ W1.Sh b) ∨ (r = true ∧ W1.RR b) ∨ Fr W W1 b) → ownC W W1 i k a b := fun {t r b} ht hr z => by
    rcases z with ⟨z1, z2⟩ | ⟨z1, _⟩ | z
    · refine ⟨.inl ?_, nS b z2⟩
      cases k with
      | sh => exact z2
      | top => exact z2
      | all => exact absurd rfl (ht z1)
    · rw [hr] at z1; cases z1
    · exact ⟨.inr z, nF b z⟩
  have hL := Kd.fits_of hf
  have kp : ∀ b u, ownC W W1 i k a b → W1.H b = some u → upd W1.H a o b = some u := fun b u z e => by rw [upd_ne z.2]; exact e
  refine Rep.mono (fun b z => ?_) (fun b u z e => ?_) (Nat.le_refl _) (fun _ _ => rfl) (fun b z => ?_) (fun b u z e => ?_) r (own_tup hm)
  · exact key hL.2.2.2 hL.2.1 z.1
  · exact kp b u (key hL.2.2.2 hL.2.1 z.1) e
  · exact key hL.2.2.1 hL.1 z
  · exact kp b u (key hL.2.2.1 hL.1 z) e
/-- the old parts behind the change -/
theorem old_in {vs : List V} {ds : List D} (r : RepA K mg W1.adr W1.N W1.H (fun b => kC W1 i k b ∧ (k ≠ .sh → V.ref a ≠ .ref b)) vs ds) (hns : k ≠ .sh) (hm : ∀ xs, W1.H a ≠ some (.tup xs)) : RepA K mg W1.adr W1.N (upd W1.H a o) (ownC W W1 i k a) vs ds :=
  RepA.mono (fun b z => ⟨.inl z.1, fun q => z.2 hns (by rw [q])⟩) (fun b u z e => by rw [upd_ne (fun q => z.2 hns (by rw [q]))]; exact e) (Nat.le_refl _) (fun _ _ => rfl) r (own_tup hm)
end

section
variable {X : Cx} {Wx : WX} {Γ Γ1 : List Kd} {e c b : Expr} {L M Lr : Lk} {f h : SemE} {pos apos cpos np : Pos} {k : Kd} {i : Nat} {x : Str}
/-- x.append(e) -/
def cApp (i : Nat) (f : SemE) : SemS := fun ρ st => match f ρ st with
  | some (d, s) => match ρ[i]? with
    | some (some (.lst xs)) => if xs.length < sizeLine then some (.nx (ρ.set i (some (.lst (xs ++ [d])))) s) else none
    | _ => none
  | none => none
theorem ds_app (he : DE X Γ e L f) (hk : Γ[i]? = some k := by rfl) (hns : k ≠ .sh := by decide) (hf : k.fits L = true := by rfl)
    (hv : PE X (.Name x np) (tVar i) := by exact pv i)
    (hbase : attributeBase (.Name x np) "append" X.env (eval (.Name x np) X.env) = eval (.Name x np) X.env := by rfl)
    (hfew : ((backTo cpos (starEach [e] X.env)).all (fun x => !x.1) && (backToKw cpos (keywordEach [] X.env)).all (fun x => x.1.isSome) && decide ([e].length + ([] : List Keyword).length + (if ([] : List Keyword).isEmpty then 0 else 1) < 30)) = true := by rfl)
    (hline : (apos.endLine == cpos.line) = true := by rfl) (hs : starEach [e] X.env = (false, eval e X.env) :: starEach [] X.env := by rfl) (hplain : (backTo cpos (starEach [] X.env)).any (·.1) = false := by rfl)
    (hsw : swapsWith (.Call (.Attribute (.Name x np) "append" apos) [e] [] cpos) none pos.line X.env = pure false := by rfl) :
    DS X Wx Γ (.Expr (.Call (.Attribute (.Name x np) "append" apos) [e] [] cpos) pos) Γ Lr (cApp i f) := by
  obtain ⟨t, h1, h2⟩ := he.ex
  refine ⟨_, ps_expr (pe_bm PySem.F.plainAttrs_list PySem.F.slot_list_append PySem.F.type_list_append mt_append hv (pa_cons h1 pa_nil hs) hbase hfew hline hs hplain) hsw, fun ρ st σ W r rel hg D p => ?_⟩
  unfold cApp at hg
  split at hg
  · rename_i d s1 e1
    split at hg
    · rename_i xs ei
      split at hg
      · rename_i hlen
        cases hg
        obtain ⟨k', v, g1, g2, rv⟩ := rel.sl i _ ei
        rw [hk] at g1; cases g1
        obtain ⟨a, vs, rfl, ha, hT, ra⟩ := rep_lst rv
        have haR : W.R i a := by
          cases k with
          | sh => exact absurd rfl hns
          | top => exact hT
          | all => exact hT
        refine ⟨.ref a, g2, .inl ⟨rfl, _, .of ha⟩, h2 ρ st σ W d _ rel e1 _ fun u W1 st1 r1 ru => ?_⟩
        have ha1 : W1.H a = some (.lst vs) := st1.keep a _ ha (rel.ok.rc i a haR)
        have haR1 : W1.R i a := by rw [st1.rb]; exact haR
        obtain ⟨k', v', q1, q2, rv1⟩ := r1.sl i _ ei
        rw [hk] at q1; cases q1
        rw [g2] at q2; cases q2
        obtain ⟨a', vs', e', ha', _, ra1⟩ := rep_lst rv1
        cases e'
        rw [ha1] at ha'; cases ha'
        have hm : ∀ xs, W1.H a ≠ some (.tup xs) := fun xs q => by rw [ha1] at q; cases q
        refine ⟨a, vs, u, rfl, rfl, ha1, by rw [ra.length]; exact hlen, ?_⟩
        refine p σ (W1.own i k (Fr W W1) a (.lst (vs ++ [u]))) (own_step hm st1 haR1) (own_rel hm r1 st1 hk hns ei g2 haR1 ?_)
        exact .lst ⟨upd_same, rfl⟩ ((old_in ra1 hns hm).append (.cons (fits_in hm r1.ok st1 haR1 (rel.ok.r i a haR) hf ru) .nil))
      · cases hg
    · cases hg
  · cases hg
end
end DL

set_option Elab.async false
set_option linter.all false
set_option maxRecDepth 100000
/-! DL11: sorted. -/
namespace DL
open PySem PySem.Spec PyProof.Rows L2

def alikeB (ps : List PyData) : Bool := ps.all fun p => ps.all fun q => PySem.W.alike p q
def tup1 : PyData → Bool
  | .tuple (_ :: _) => true
  | _ => false
def notup : PyData → Bool
  | .none => false
  | .tuple _ => false
  | _ => true
def sortB (ps : List PyData) : Bool := alikeB ps && (ps.all tup1 || ps.all notup) && ps.all fun p => decide (p.depth ≤ 50)
theorem sortB_some {ps : List PyData} (h : sortB ps = true) : PySem.W.AllAlike ps ∧ PySem.W.Sortable ps ∧ ∀ p, p ∈ ps → p.depth ≤ 50 := by
  unfold sortB at h
  rw [Bool.and_eq_true, Bool.and_eq_true, Bool.or_eq_true] at h
  obtain ⟨⟨h1, h2⟩, h3⟩ := h
  refine ⟨fun d hd d' hd' => ?_, ?_, fun p hp => of_decide_eq_true (List.all_eq_true.mp h3 p hp)⟩
  · exact List.all_eq_true.mp (List.all_eq_true.mp h1 d hd) d' hd'
  · rcases h2 with h2 | h2
    · refine .inl fun d hd => ?_
      have := List.all_eq_true.mp h2 d hd
      unfold tup1 at this
      split at this
      · exact ⟨_, _, rfl⟩
      · cases this
    · refine .inr fun d hd => ?_
      have := List.all_eq_true.mp h2 d hd
      unfold notup at this
      split at this
      · cases this
      · cases this
      · rename_i n1 n2
        exact ⟨n1, fun xs => n2 xs⟩
/-- data of a value that has some -/
def D.enc (d : D) : PyData := match d.py with
  | some p => p
  | none => .none
def insD {α : Type} (le : α → α → Bool) (a : α) : List α → List α
  | [] => [a]
  | b :: t => if le a b = true then a :: b :: t else b :: insD le a t
/-- sorting that the kernel can run -/
def isort {α : Type} (le : α → α → Bool) : List α → List α
  | [] => []
  | a :: t => insD le a (isort le t)
theorem insD_app {α : Type} {le : α → α → Bool} {a : α} : ∀ {l1 l2 : List α}, (∀ b, b ∈ l1 → (!le a b) = true) → (∀ b, b ∈ l2 → le a b = true) → insD le a (l1 ++ l2) = l1 ++ a :: l2
  | [], [], _, _ => rfl
  | [], b :: t, _, h => by
    show (if le a b = true then a :: b :: t else b :: insD le a t) = _
    rw [if_pos (h b (List.mem_cons_self ..))]; rfl
  | c :: l1, l2, h1, h2 => by
    show (if le a c = true then a :: c :: (l1 ++ l2) else c :: insD le a (l1 ++ l2)) = _
    have := h1 c (List.mem_cons_self ..)
    rw [if_neg (by cases e : le a c <;> simp_all), insD_app (fun b hb => h1 b (List.mem_cons_of_mem _ hb)) h2]
    rfl
theorem mergeSort_isort {α : Type} {le : α → α → Bool} (tr : ∀ a b c, le a b = true → le b c = true → le a c = true) (to : ∀ a b, (le a b || le b a) = true) : ∀ l : List α, l.mergeSort le = isort le l
  | [] => by simp [isort]
  | a :: l => by
    obtain ⟨l1, l2, e1, e2, h⟩ := List.mergeSort_cons (le := le) tr to a l
    have hp := List.pairwise_mergeSort (le := le) tr to (a :: l)
    rw [e1] at hp ⊢
    have h2 : ∀ b, b ∈ l2 → le a b = true := fun b hb => (List.pairwise_cons.mp (List.pairwise_append.mp hp).2.1).1 b hb
    show l1 ++ a :: l2 = insD le a (isort le l)
    rw [← mergeSort_isort tr to l, e2, insD_app h h2]
theorem dataLe_total {β : Type} (k : β → PyData) : PySem.W.TotalLe (PySem.W.dataLe false k) := by
  unfold PySem.W.dataLe
  exact PySem.W.sortLe_total _ _ _
theorem sortD_isort {β : Type} (k : β → PyData) (l : List β) : l.mergeSort (PySem.W.dataLe false k) = isort (PySem.W.dataLe false k) l :=
  mergeSort_isort (fun a b c h1 h2 => (dataLe_total k).trans a b c h1 h2) (fun a b => Bool.or_eq_true_iff.mpr ((dataLe_total k).total a b)) l
def sortL (xs : List D) : List D := isort (PySem.W.dataLe false D.enc) xs
def sortedD : List D → Option D
  | [.lst xs] => match D.pys xs with
    | some ps => if sortB ps = true ∧ xs.length ≤ sizeLine then some (.lst (sortL xs)) else none
    | none => none
  | _ => none
theorem enc_of {d : D} {p : PyData} (h : d.py = some p) : d.enc = p := by unfold D.enc; rw [h]
theorem pys_enc : ∀ {xs : List D} {ps : List PyData}, D.pys xs = some ps → xs.map D.enc = ps ∧ ∀ x, x ∈ xs → x.py = some x.enc
  | [], _, h => by cases h; exact ⟨rfl, fun x hx => by cases hx⟩
  | d :: ds, _, h => by
    unfold D.pys at h
    split at h
    · rename_i p e
      split at h
      · rename_i ps e2
        cases h
        obtain ⟨h1, h2⟩ := pys_enc e2
        refine ⟨by rw [List.map_cons, enc_of e, h1], fun x hx => ?_⟩
        rcases List.mem_cons.mp hx with rfl | hx
        · rw [enc_of e]; exact e
        · exact h2 x hx
      · cases h
    · cases h

section
variable {K : PySem.W.Frag} {mg : Str → Option Value} {adr : Nat → Addr} {N : Nat} {H : Hp} {C : Addr → Prop}
theorem repA_zip : ∀ {vs : List V} {ds : List D}, RepA K mg adr N H C vs ds → ∀ p, p ∈ vs.zip ds → Rep K mg adr N H C C p.1 p.2
  | _, _, .nil, _, h => by simp at h
  | _, _, .cons r t, p, h => by
    rw [List.zip_cons_cons] at h
    rcases List.mem_cons.mp h with rfl | h
    · exact r
    · exact repA_zip t p h
theorem repA_pairs : ∀ (l : List (V × D)), (∀ p, p ∈ l → Rep K mg adr N H C C p.1 p.2) → RepA K mg adr N H C (l.map (·.1)) (l.map (·.2))
  | [], _ => .nil
  | p :: l, h => .cons (h p (List.mem_cons_self ..)) (repA_pairs l fun q hq => h q (List.mem_cons_of_mem _ hq))
end
theorem zip_fst : ∀ {α β : Type} {xs : List α} {ys : List β}, xs.length = ys.length → (xs.zip ys).map (·.1) = xs
  | _, _, [], _, _ => by simp
  | _, _, _ :: _, [], h => by simp at h
  | _, _, x :: xs, y :: ys, h => by
    rw [List.zip_cons_cons, List.map_cons, zip_fst (by simpa using h)]
theorem zip_snd : ∀ {α β : Type} {xs : List α} {ys : List β}, xs.length = ys.length → (xs.zip ys).map (·.2) = ys
  | _, _, [], [], _ => by simp
  | _, _, [], _ :: _, h => by simp at h
  | _, _, _ :: _, [], h => by simp at h
  | _, _, x :: xs, y :: ys, h => by
    rw [List.zip_cons_cons, List.map_cons, zip_snd (by simpa using h)]
theorem each_vals : ∀ {vs : List V} {ds : List D} {us : List Value}, Vals vs us → vs.length = ds.length → PySem.W.EachIs (fun u (p : V × D) => RelV p.1 u) us (vs.zip ds)
  | _, _, _, .nil, h => by
    rw [List.zip_nil_left]; exact .nil
  | _, [], _, .cons r t, h => by simp at h
  | _, d :: ds, _, .cons r t, h => by
    rw [List.zip_cons_cons]
    exact .cons r (each_vals t (by simpa using h))
theorem vals_each : ∀ {us : List Value} {l : List (V × D)}, PySem.W.EachIs (fun u (p : V × D) => RelV p.1 u) us l → Vals (l.map (·.1)) us
  | _, _, .nil => .nil
  | _, _, .cons r t => .cons r (vals_each t)

section
variable {X : Cx}
def rSortedD (K : PySem.W.Frag) : List V → Hp → VK → Prop := fun vs H Q => ∃ (a : Addr) (l : List (V × D)), vs = [V.ref a] ∧ SqL K H a (l.map (·.1)) ∧ (∀ p, p ∈ l → Dp K H p.1 p.2.enc) ∧ sortB (l.map fun p => p.2.enc) = true ∧
  ∀ p, H p = none → Q (.ref p) (upd H p (.lst ((l.mergeSort (PySem.W.dataLe false fun p : V × D => p.2.enc)).map (·.1))))
theorem each_reads {pins : List (Addr × Obj)} {σ : L2.St} {H : Hp} {s : Shared} (I : Inv X pins σ H s) : ∀ {l : List (V × D)} {us : List Value}, Vals (l.map (·.1)) us → (∀ p, p ∈ l → Dp X.K H p.1 p.2.enc) →
    PySem.W.EachIs (fun v (b : V × D) => RelV b.1 v) us l ∧ PySem.W.EachIs (fun v (b : V × D) => ∃ as, Reads s.heap v b.2.enc as) us l
  | [], _, h, _ => by cases h; exact ⟨.nil, .nil⟩
  | p :: l, _, h, hd => by
    rw [List.map_cons] at h
    cases h with
    | cons r t =>
      obtain ⟨h1, h2⟩ := each_reads I t fun q hq => hd q (List.mem_cons_of_mem _ hq)
      exact ⟨.cons r h1, .cons (Dp.reads I _ _ _ (hd p (List.mem_cons_self ..)) r) h2⟩
theorem cr_sortedD (hu : X.A.units + 64 < cLine) : CallR X (.builtin "sorted") (rSortedD X.K) := by
  intro pins s σ H vs us Q I r h
  obtain ⟨a, l, rfl, hs, hd, hb, q⟩ := h
  obtain ⟨its, rv, hl, hz⟩ := I.list hs
  rw [Vals.ref1 r]
  obtain ⟨h1, h2, h3⟩ := sortB_some hb
  obtain ⟨e1, e2⟩ := each_reads I rv hd
  have hlen : l.length ≤ sizeLine := by rw [List.length_map] at hz; exact hz
  refine PySem.W.sorted_data (vs := its) (bs := l) (enc := fun p => p.2.enc) (R := fun v (b : V × D) => RelV b.1 v) hl.isList e1 e2 h1 h2 hlen (fun b hb => ?_) fun out ho he => ?_
  · have := h3 b.2.enc (List.mem_map.mpr ⟨b, hb, rfl⟩)
    omega
  · obtain ⟨ep, he'⟩ := PyProof.Rows.sortedAll_at s.heap its out.toArray
    have hlen' : ((l.mergeSort (PySem.W.dataLe false fun p : V × D => p.2.enc)).map (·.1)).length ≤ sizeLine := by
      rw [List.length_map, List.length_mergeSort]; exact hlen
    exact ⟨.ref _, upd H (s.heap.objs.size + 1) (.lst _), I.laid (t' := s.toks) (fun _ _ => PyProof.Rows.sortedAll_old) (Nat.le_succ _) ⟨hlen', out, ep, vals_each he, he'⟩, rfl, q _ (I.hok.fresh (Nat.le_succ _))⟩
theorem sort_snd (l : List (V × D)) : (l.mergeSort (PySem.W.dataLe false fun p : V × D => p.2.enc)).map (·.2) = sortL (l.map (·.2)) := by
  unfold sortL
  rw [← sortD_isort]
  exact PySem.W.sort_maps (r := PySem.W.dataLe false fun p : V × D => p.2.enc) (s := PySem.W.dataLe false D.enc) (fun p : V × D => p.2) (l := l) fun _ _ _ _ => rfl
theorem dc_sorted (hu : X.A.units + 64 < cLine) : DCall X (.builtin "sorted") sortedD Lk.anew := ⟨_, cr_sortedD hu, fun W0 W xs ds d L ok s r e Q q => by
  unfold sortedD at e
  split at e
  · rename_i xs'
    split at e
    · rename_i ps ep
      split at e
      · rename_i hc
        cases e
        obtain ⟨v, rfl, r1⟩ := reps1 r
        obtain ⟨a, xs, rfl, ha, _, ra⟩ := rep_lst r1
        have hl := ra.length
        obtain ⟨h1, h2⟩ := pys_enc ep
        have e1 : (xs.zip xs').map (·.1) = xs := zip_fst hl
        have e2 : (xs.zip xs').map (·.2) = xs' := zip_snd hl
        have hm : ∀ p, p ∈ xs.zip xs' → Rep X.K X.mg W.adr W.N W.H (ChT W0 W L (.ref a)) (ChT W0 W L (.ref a)) p.1 p.2 := repA_zip ra
        refine ⟨a, xs.zip xs', rfl, by rw [e1]; exact .of ha, fun p hp => (hm p hp).dp (h2 p.2 (by rw [← e2]; exact List.mem_map.mpr ⟨p, hp, rfl⟩)), ?_, fun p hp => ?_⟩
        · have : ((xs.zip xs').map fun p => p.2.enc) = xs'.map D.enc := by rw [← e2, List.map_map]; rw [e2]; rfl
          rw [this, h1]; exact hc.1
        · have hr := repA_pairs ((xs.zip xs').mergeSort (PySem.W.dataLe false fun p : V × D => p.2.enc)) fun q hq => hm q (List.mem_mergeSort.mp hq)
          rw [sort_snd, e2] at hr
          exact postV_lst (L := L.anew) ok s (hr.at_ fun _ z => z.1) q p hp
      · cases e
    · cases e
  · cases e⟩
end
end DL

set_option Elab.async false
set_option linter.all false
set_option maxRecDepth 100000
/-! DL12: dicts. -/
namespace DL
open PySem PySem.Spec PyProof.Rows L2

/-! ### keys -/
def keyD : Key → D
  | .inl i => .int i
  | .inr x => .str x
def D.key : D → Option Key
  | .int i => some (.inl i)
  | .str x => some (.inr x)
  | _ => none
def D.keys : List D → Option (List Key)
  | [] => some []
  | d :: ds => match d.key with
    | some k => match D.keys ds with
      | some ks => some (k :: ks)
      | none => none
    | none => none
section
variable {K : PySem.W.Frag} {mg : Str → Option Value} {adr : Nat → Addr} {N : Nat} {H : Hp} {C T : Addr → Prop}
theorem rep_key {v : V} {d : D} {k : Key} (r : Rep K mg adr N H C T v d) (e : d.key = some k) : v = kV k := by
  cases d <;> first
    | cases e
    | skip
  · rw [rep_int r]; rfl
  · rw [rep_str r]; rfl
theorem rep_keys : ∀ {vs : List V} {ds : List D} {ks : List Key}, RepA K mg adr N H C vs ds → D.keys ds = some ks → vs = ks.map kV
  | _, _, _, .nil, e => by cases e; rfl
  | _, _, _, .cons r t, e => by
    unfold D.keys at e
    split at e
    · rename_i k e1
      split at e
      · rename_i ks e2
        cases e
        rw [rep_key r e1, rep_keys t e2]
        rfl
      · cases e
    · cases e
theorem key_rep (k : Key) : Rep K mg adr N H C T (kV k) (keyD k) := by
  cases k with
  | inl i => exact .int i
  | inr x => exact .str x
theorem keys_rep : ∀ ks : List Key, RepA K mg adr N H C (ks.map kV) (ks.map keyD)
  | [] => .nil
  | k :: ks => .cons (key_rep k) (keys_rep ks)
/-! ### what a dict holds -/
variable {κ : Type} [DecidableEq κ]
def valD (kvs : List (κ × D)) (k : κ) : Option D := (kvs.find? fun kv => decide (kv.1 = k)).map (·.2)
def putD (kvs : List (κ × D)) (k : κ) (v : D) : List (κ × D) :=
  if (kvs.any fun kv => decide (kv.1 = k)) = true then kvs.map (fun kv => if kv.1 = k then (kv.1, v) else kv) else kvs ++ [(k, v)]
/-- the same keys, the values stand for the data -/
abbrev RepKV (K : PySem.W.Frag) (mg : Str → Option Value) (adr : Nat → Addr) (N : Nat) (H : Hp) (C : Addr → Prop) : List (κ × V) → List (κ × D) → Prop := Paired fun p q => p.1 = q.1 ∧ Rep K mg adr N H C C p.2 q.2
theorem repKV_of : ∀ {kvs : List (κ × V)} {dvs : List (κ × D)}, kvs.map (·.1) = dvs.map (·.1) → RepA K mg adr N H C (kvs.map (·.2)) (dvs.map (·.2)) → RepKV K mg adr N H C kvs dvs
  | [], [], _, _ => .nil
  | [], _ :: _, h, _ => by cases h
  | _ :: _, [], h, _ => by cases h
  | p :: kvs, q :: dvs, h, r => by
    rw [List.map_cons, List.map_cons] at h r
    cases r with
    | cons r t =>
      injection h with h1 h2
      exact .cons ⟨h1, r⟩ (repKV_of h2 t)
theorem repKV_fst : ∀ {kvs : List (κ × V)} {dvs : List (κ × D)}, RepKV K mg adr N H C kvs dvs → kvs.map (·.1) = dvs.map (·.1)
  | _, _, .nil => rfl
  | _, _, .cons h t => by rw [List.map_cons, List.map_cons, h.1, repKV_fst t]
theorem repKV_snd : ∀ {kvs : List (κ × V)} {dvs : List (κ × D)}, RepKV K mg adr N H C kvs dvs → RepA K mg adr N H C (kvs.map (·.2)) (dvs.map (·.2))
  | _, _, .nil => .nil
  | _, _, .cons h t => .cons h.2 (repKV_snd t)
theorem repKV_val {k : κ} : ∀ {kvs : List (κ × V)} {dvs : List (κ × D)}, RepKV K mg adr N H C kvs dvs → (∀ d, valD dvs k = some d → ∃ v, valV kvs k = some v ∧ Rep K mg adr N H C C v d) ∧ (valD dvs k = none → valV kvs k = none)
  | _, _, .nil => ⟨(fun d h => by cases h), fun _ => rfl⟩
  | p :: kvs, q :: dvs, .cons h t => by
    obtain ⟨i1, i2⟩ := repKV_val (k := k) t
    by_cases e : q.1 = k
    · have e' : p.1 = k := h.1.trans e
      have ev : valD (q :: dvs) k = some q.2 := by simp [valD, List.find?_cons, e]
      rw [ev, valV_pos e']
      refine ⟨fun d hd => ?_, fun z => nomatch z⟩
      cases hd
      exact ⟨_, rfl, h.2⟩
    · have e' : ¬ p.1 = k := fun z => e (h.1.symm.trans z)
      have ev : valD (q :: dvs) k = valD dvs k := by simp [valD, List.find?_cons, e]
      rw [ev, valV_neg e']
      exact ⟨i1, i2⟩
theorem repKV_any {k : κ} : ∀ {kvs : List (κ × V)} {dvs : List (κ × D)}, RepKV K mg adr N H C kvs dvs → (kvs.any fun kv => decide (kv.1 = k)) = (dvs.any fun kv => decide (kv.1 = k))
  | _, _, .nil => rfl
  | _, _, .cons h t => by rw [List.any_cons, List.any_cons, repKV_any t, h.1]
theorem repKV_app {kvs kvs' : List (κ × V)} {dvs dvs' : List (κ × D)} (h : RepKV K mg adr N H C kvs dvs) (h' : RepKV K mg adr N H C kvs' dvs') : RepKV K mg adr N H C (kvs ++ kvs') (dvs ++ dvs') := by
  induction h with
  | nil => exact h'
  | cons a t ih => exact .cons a ih
theorem repKV_map {k : κ} {v : V} {d : D} (rv : Rep K mg adr N H C C v d) {kvs : List (κ × V)} {dvs : List (κ × D)} (r : RepKV K mg adr N H C kvs dvs) :
    RepKV K mg adr N H C (kvs.map (fun kv => if kv.1 = k then (kv.1, v) else kv)) (dvs.map (fun kv => if kv.1 = k then (kv.1, d) else kv)) := by
  induction r with
  | nil => exact .nil
  | @cons p q ps qs a t ih =>
    rw [List.map_cons, List.map_cons]
    refine .cons ?_ ih
    by_cases e : q.1 = k
    · rw [if_pos e, if_pos (a.1.trans e)]
      exact ⟨a.1, rv⟩
    · rw [if_neg e, if_neg (fun z => e (a.1.symm.trans z))]
      exact a
theorem repKV_put {k : κ} {v : V} {d : D} (rv : Rep K mg adr N H C C v d) {kvs : List (κ × V)} {dvs : List (κ × D)} (r : RepKV K mg adr N H C kvs dvs) : RepKV K mg adr N H C (putK kvs k v) (putD dvs k d) := by
  unfold putK putD
  rw [repKV_any r]
  split
  · exact repKV_map rv r
  · exact repKV_app r (.cons ⟨rfl, rv⟩ .nil)
theorem putD_length (kvs : List (κ × D)) (k : κ) (v : D) : (putD kvs k v).length ≤ kvs.length + 1 := by
  unfold putD
  split
  · rw [List.length_map]; omega
  · rw [List.length_append]; exact Nat.le_refl _
end

/-! ### d[k], k in d: reading -/
/-- what is found at a key, in a dict -/
def getDict (c : D) (k : D) : Option (Option D) := match c with
  | .dK kvs => match k.key with
    | some k => some (valD kvs k)
    | none => none
  | .dT kvs => match k with
    | .tup ds => match D.keys ds with
      | some ks => some (valD kvs ks)
      | none => none
    | _ => none
  | _ => none
section
variable {X : Cx} {W0 W : Wd} {L M : Lk}
theorem getDict_rep {x y : V} {c k : D} {r : Option D} (r1 : RepL X.K X.mg W0 W L x c) (r2 : RepL X.K X.mg W0 W M y k) (e : getDict c k = some r) :
    ∃ a ov, x = .ref a ∧ DGet W.H a y ov ∧ (∀ d, r = some d → ∃ v, ov = some v ∧ RepL X.K X.mg W0 W L.part v d) ∧ (r = none → ov = none) := by
  unfold getDict at e
  split at e
  · rename_i kvs
    split at e
    · rename_i kk ek
      cases e
      cases r1 with
      | @dK T a kvs' dvs q eq ra =>
        have rk := repKV_of eq ra
        obtain ⟨g1, g2⟩ := repKV_val (k := kk) rk
        refine ⟨a, _, rfl, by rw [rep_key r2 ek]; exact DGet.k q.1, fun d hd => ?_, g2⟩
        obtain ⟨v, ev, rv⟩ := g1 d hd
        exact ⟨v, ev, rep_part rv⟩
    · cases e
  · rename_i kvs
    split at e
    · rename_i ds
      split at e
      · rename_i ks ek
        cases e
        cases r1 with
        | @dT T a kvs' dvs q eq ra =>
          obtain ⟨b, xs, rfl, hb, rb⟩ := rep_tup r2
          have := rep_keys rb ek
          subst this
          have rk := repKV_of eq ra
          obtain ⟨g1, g2⟩ := repKV_val (k := ks) rk
          refine ⟨a, _, rfl, DGet.t q.1 hb, fun d hd => ?_, g2⟩
          obtain ⟨v, ev, rv⟩ := g1 d hd
          exact ⟨v, ev, rep_part rv⟩
      · cases e
    · cases e
  · cases e
end
section
variable {X : Cx} {Wx : WX} {Γ : List Kd} {o i e : Expr} {L M Lr : Lk} {f h : SemE} {pos p : Pos}
def gDix : D → D → Option D := fun c k => match getDict c k with
  | some (some d) => some d
  | _ => none
theorem de_dix (hu : X.A.units + 1 < cLine) (ho : DE X Γ o L f) (hi : DE X Γ i M h) (hs : NoSl i := by exact fun _ _ => rfl) : DE X Γ (.Subscript o i pos) L.part (cOp gDix f h) := by
  obtain ⟨t, h1, h2⟩ := ho.ex
  obtain ⟨u, k1, k2⟩ := hi.ex
  refine ⟨_, pe_dget hu h1 k1 hs, fun ρ st σ W d st' rel hf Q q => ?_⟩
  obtain ⟨x, s1, y, e1, e2, e3⟩ := cOp_some hf
  refine h2 ρ st σ W x s1 rel e1 _ fun v W1 st1 r1 rv => ?_
  refine k2 ρ s1 σ W1 y _ r1 e2 _ fun u W2 st2 r2 ru => ?_
  unfold gDix at e3
  split at e3
  · rename_i d' eg
    cases e3
    obtain ⟨a, ov, rfl, g, g1, _⟩ := getDict_rep (rv.fwd r1.ok st2) (ru.bwd st1) eg
    obtain ⟨w, rfl, rw'⟩ := g1 d rfl
    exact ⟨a, w, rfl, g, q w W2 (st1.trans st2) r2 rw'⟩
  · cases e3
def gDin : D → D → Option Bool := fun k c => match getDict c k with
  | some r => some r.isSome
  | none => none
def gDnin : D → D → Option Bool := fun k c => match getDict c k with
  | some r => some (!r.isSome)
  | none => none
theorem db_din (hu : X.A.units + 1 < cLine) (hi : DE X Γ i M h) (ho : DE X Γ o L f) (hb : behindInMarks .In o = false := by rfl) : DB X Γ (.Compare i [.In] [o] pos) (cCmp gDin h f) := by
  obtain ⟨t, h1, h2⟩ := ho.ex
  obtain ⟨u, k1, k2⟩ := hi.ex
  have key : ∀ {ρ st σ W b st'}, Rel X.K X.mg Γ ρ st σ W → cCmp gDin h f ρ st = some (b, st') → ∀ Q : VK, PostB X Γ ρ st' σ W b (fun b H => Q (.bl b) H) → (tDIn u t) σ W.H Q := fun {ρ st σ W b st'} rel hf Q q => by
    obtain ⟨x, s1, y, e1, e2, e3⟩ := cCmp_some hf
    refine k2 ρ st σ W x s1 rel e1 _ fun v W1 st1 r1 rv => ?_
    refine h2 ρ s1 σ W1 y _ r1 e2 _ fun u W2 st2 r2 ru => ?_
    unfold gDin at e3
    split at e3
    · rename_i r eg
      cases e3
      obtain ⟨a, ov, rfl, g, g1, g2⟩ := getDict_rep (ru.bwd st1) (rv.fwd r1.ok st2) eg
      refine ⟨a, ov, rfl, g, ?_⟩
      have : ov.isSome = r.isSome := by
        cases r with
        | none => rw [g2 rfl]; rfl
        | some d => obtain ⟨w, e, _⟩ := g1 d rfl; rw [e]; rfl
      rw [this]
      exact q W2 (st1.trans st2) r2
    · cases e3
  exact ⟨⟨_, pe_cmp (pc_din hu k1 h1) hb, fun ρ st σ W b st' r hf Q q => key r hf Q q⟩, ⟨_, pt_cmp (pc_din hu k1 h1) hb, fun ρ st σ W b st' r hf Q q => key r hf _ fun W' s' r' => ⟨b, rfl, q W' s' r'⟩⟩⟩
theorem db_dnin (hu : X.A.units + 1 < cLine) (hi : DE X Γ i M h) (ho : DE X Γ o L f) (hb : behindInMarks .NotIn o = false := by rfl) : DB X Γ (.Compare i [.NotIn] [o] pos) (cCmp gDnin h f) := by
  obtain ⟨t, h1, h2⟩ := ho.ex
  obtain ⟨u, k1, k2⟩ := hi.ex
  have key : ∀ {ρ st σ W b st'}, Rel X.K X.mg Γ ρ st σ W → cCmp gDnin h f ρ st = some (b, st') → ∀ Q : VK, PostB X Γ ρ st' σ W b (fun b H => Q (.bl b) H) → (tDNotIn u t) σ W.H Q := fun {ρ st σ W b st'} rel hf Q q => by
    obtain ⟨x, s1, y, e1, e2, e3⟩ := cCmp_some hf
    refine k2 ρ st σ W x s1 rel e1 _ fun v W1 st1 r1 rv => ?_
    refine h2 ρ s1 σ W1 y _ r1 e2 _ fun u W2 st2 r2 ru => ?_
    unfold gDnin at e3
    split at e3
    · rename_i r eg
      cases e3
      obtain ⟨a, ov, rfl, g, g1, g2⟩ := getDict_rep (ru.bwd st1) (rv.fwd r1.ok st2) eg
      refine ⟨a, ov, rfl, g, ?_⟩
      have : ov.isSome = r.isSome := by
        cases r with
        | none => rw [g2 rfl]; rfl
        | some d => obtain ⟨w, e, _⟩ := g1 d rfl; rw [e]; rfl
      rw [this]
      exact q W2 (st1.trans st2) r2
    · cases e3
  exact ⟨⟨_, pe_cmp (pc_dnotin hu k1 h1) hb, fun ρ st σ W b st' r hf Q q => key r hf Q q⟩, ⟨_, pt_cmp (pc_dnotin hu k1 h1) hb, fun ρ st σ W b st' r hf Q q => key r hf _ fun W' s' r' => ⟨b, rfl, q W' s' r'⟩⟩⟩
/-- {} -/
theorem de_dnewK : DE X Γ (.Dict [] [] pos) Lk.f0 (cC (.dK [])) := ⟨_, pe_dnewK, fun ρ st σ W d st' rel hf Q q => by
  cases hf
  intro p hp
  exact q (.ref p) (W.put p (.dK [])) (put_step hp) (put_rel hp rel) (.dK ⟨upd_same, .inr (.inr (put_fr rel.ok hp))⟩ rfl .nil)⟩
theorem de_dnewT : DE X Γ (.Dict [] [] pos) Lk.f0 (cC (.dT [])) := ⟨_, pe_dnewT, fun ρ st σ W d st' rel hf Q q => by
  cases hf
  intro p hp
  exact q (.ref p) (W.put p (.dT [])) (put_step hp) (put_rel hp rel) (.dT ⟨upd_same, .inr (.inr (put_fr rel.ok hp))⟩ rfl .nil)⟩
end
end DL

set_option Elab.async false
set_option linter.all false
set_option maxRecDepth 100000
/-! DL13: d[k] = e; a, b = e; a, b = e1, e2; x.bit_length(); lists in the store (cells): made, read, written. -/
namespace DL
open PySem PySem.Spec PyProof.Rows L2

/-! ### d[k] = e on an owned slot -/
def putDict (c k v : D) : Option D := match c with
  | .dK kvs => match k.key with
    | some k => if kvs.length < sizeLine then some (.dK (putD kvs k v)) else none
    | none => none
  | .dT kvs => match k with
    | .tup ds => match D.keys ds with
      | some ks => if kvs.length < sizeLine then some (.dT (putD kvs ks v)) else none
      | none => none
    | _ => none
  | _ => none
def cDput (i : Nat) (h f : SemE) : SemS := fun ρ st => match f ρ st with
  | some (d, s1) => match h ρ s1 with
    | some (k, s2) => match ρ[i]? with
      | some (some c) => match putDict c k d with
        | some c' => some (.nx (ρ.set i (some c')) s2)
        | none => none
      | _ => none
    | none => none
  | none => none
section
variable {X : Cx} {Wx : WX} {Γ : List Kd} {e kx : Expr} {L M Lr : Lk} {f h : SemE} {pos pos' np : Pos} {k : Kd} {i : Nat} {x : Str}
theorem ds_dput (hu : X.A.units + 1 < cLine) (he : DE X Γ e L f) (hx : DE X Γ kx M h) (hk : Γ[i]? = some k := by rfl) (hns : k ≠ .sh := by decide) (hf : k.fits L = true := by rfl)
    (hv : PE X (.Name x np) (tVar i) := by exact pv i) (hs : swapsWith e (some (.Subscript (.Name x np) kx pos')) pos.line X.env = pure false := by rfl) :
    DS X Wx Γ (.Assign [.Subscript (.Name x np) kx pos'] e pos) Γ Lr (cDput i h f) := by
  obtain ⟨t, h1, h2⟩ := he.ex
  obtain ⟨u, k1, k2⟩ := hx.ex
  refine ⟨_, ps_dput hu hv k1 h1 hs, fun ρ st σ W r rel hg D p => ?_⟩
  unfold cDput at hg
  split at hg
  · rename_i d s1 e1
    split at hg
    · rename_i kd s2 e2
      split at hg
      · rename_i c ei
        split at hg
        · rename_i c' ec
          cases hg
          refine h2 ρ st σ W d s1 rel e1 _ fun v W1 st1 r1 rv => ?_
          obtain ⟨k', cv, g1, g2, rc⟩ := r1.sl i _ ei
          rw [hk] at g1; cases g1
          refine ⟨cv, g2, k2 ρ s1 σ W1 kd s2 r1 e2 _ fun kv W2 st2 r2 rk => ?_⟩
          obtain ⟨k', cv', q1, q2, rc2⟩ := r2.sl i _ ei
          rw [hk] at q1; cases q1
          rw [g2] at q2; cases q2
          have rv2 := rv.fwd r1.ok st2
          have s02 := st1.trans st2
          unfold putDict at ec
          split at ec
          · rename_i kvs
            split at ec
            · rename_i kk ek
              split at ec
              · rename_i hlen
                cases ec
                cases rc2 with
                | @dK T a kvs' dvs q eq ra =>
                  have haR2 : W2.R i a := by
                    cases k with
                    | sh => exact absurd rfl hns
                    | top => exact q.2
                    | all => exact q.2
                  have haR : W.R i a := by rw [← s02.rb]; exact haR2
                  have hm : ∀ xs, W2.H a ≠ some (.tup xs) := fun xs z => by rw [q.1] at z; cases z
                  have hl : kvs'.length = kvs.length := by
                    have := congrArg List.length eq
                    rw [List.length_map, List.length_map] at this; exact this
                  rw [rep_key rk ek]
                  refine ⟨a, _, rfl, DPut.k q.1 (by rw [hl]; exact hlen), ?_⟩
                  refine p σ (W2.own i k (Fr W W2) a (.dK (putK kvs' kk v))) (own_step hm s02 haR2) (own_rel hm r2 s02 hk hns ei g2 haR2 ?_)
                  have rr := repKV_put (k := kk) (fits_in (o := .dK (putK kvs' kk v)) hm r2.ok s02 haR2 (rel.ok.r i a haR) hf rv2) (repKV_of eq (old_in ra hns hm))
                  exact .dK ⟨upd_same, rfl⟩ (repKV_fst rr) (repKV_snd rr)
              · cases ec
            · cases ec
          · rename_i kvs
            split at ec
            · rename_i ds
              split at ec
              · rename_i ks ek
                split at ec
                · rename_i hlen
                  cases ec
                  cases rc2 with
                  | @dT T a kvs' dvs q eq ra =>
                    have haR2 : W2.R i a := by
                      cases k with
                      | sh => exact absurd rfl hns
                      | top => exact q.2
                      | all => exact q.2
                    have haR : W.R i a := by rw [← s02.rb]; exact haR2
                    have hm : ∀ xs, W2.H a ≠ some (.tup xs) := fun xs z => by rw [q.1] at z; cases z
                    have hl : kvs'.length = kvs.length := by
                      have := congrArg List.length eq
                      rw [List.length_map, List.length_map] at this; exact this
                    obtain ⟨b, xs, rfl, hb, rb⟩ := rep_tup rk
                    have := rep_keys rb ek
                    subst this
                    refine ⟨a, _, rfl, DPut.t q.1 hb (by rw [hl]; exact hlen), ?_⟩
                    refine p σ (W2.own i k (Fr W W2) a (.dT (putK kvs' ks v))) (own_step hm s02 haR2) (own_rel hm r2 s02 hk hns ei g2 haR2 ?_)
                    have rr := repKV_put (k := ks) (fits_in (o := .dT (putK kvs' ks v)) hm r2.ok s02 haR2 (rel.ok.r i a haR) hf rv2) (repKV_of eq (old_in ra hns hm))
                    exact .dT ⟨upd_same, rfl⟩ (repKV_fst rr) (repKV_snd rr)
                · cases ec
              · cases ec
            · cases ec
          · cases ec
        · cases hg
      · cases hg
    · cases hg
  · cases hg
end

/-! ### targets -/
def cAsg (h : SemG) (f : SemE) : SemS := fun ρ st => match f ρ st with
  | some (d, s) => match h d ρ with
    | some ρ' => some (.nx ρ' s)
    | none => none
  | none => none
def cPar (i j : Nat) (f : SemA) : SemS := fun ρ st => match f ρ st with
  | some ([d, e], s) => some (.nx ((ρ.set i (some d)).set j (some e)) s)
  | _ => none
def cBits (f : SemE) : SemE := fun ρ st => match f ρ st with
  | some (.int i, s) => some (.int (Builtin.Int.intBits i : Nat), s)
  | _ => none
section
variable {X : Cx} {Wx : WX} {Γ : List Kd} {e a b tg : Expr} {L M Lr : Lk} {f h : SemE} {fa : SemA} {gh : SemG} {is : List Nat} {pos pos' apos : Pos} {i j : Nat} {x y : Str}
theorem ds_asg (he : DE X Γ e L f) (hg : DG X Γ tg is gh) (hl : L.free = true := by rfl) (hs : swapsWithSole [tg] e pos.line X.env = pure false := by rfl) (hw : swappedStores [tg] e X.env = pure none := by rfl)
    (h1 : (assignEach [tg] X.env).map (·.2) = [assign tg X.env] := by rfl) : DS X Wx Γ (.Assign [tg] e pos) Γ Lr (cAsg gh f) := by
  obtain ⟨t, t1, t2⟩ := he.ex
  obtain ⟨g, g1, g2⟩ := hg.ex
  refine ⟨_, ps_asg t1 g1 hs hw h1, fun ρ st σ W r rel hf D p => ?_⟩
  unfold cAsg at hf
  split at hf
  · rename_i d s1 e1
    split at hf
    · rename_i ρ' e2
      cases hf
      refine t2 ρ st σ W d _ rel e1 _ fun v W1 st1 r1 rv => ?_
      exact g2 ρ _ σ (W1.shr W) v d ρ' (shr_rel r1) (shr_rep hl rv) e2 _ fun σ' r' _ => p σ' (W1.shr W) (shr_step st1).st r'
    · cases hf
  · cases hf
theorem ds_par {px py pt : Pos} {kt k2 pt2} (hc : X.calm = true) (hN : X.N.Nodup) (ha : DA X Γ [a, b] L fa) (hl : L.free = true := by rfl) (hi : X.N[i]? = some x := by rfl) (hj : X.N[j]? = some y := by rfl) (hij : i ≠ j := by decide)
    (hki : Γ[i]? = some .sh := by rfl) (hkj : Γ[j]? = some .sh := by rfl)
    (hx : X.env.scope.names.lookup x = some .local := by rfl) (hy : X.env.scope.names.lookup y = some .local := by rfl)
    (hw : swappedStores [.Tuple [.Name x px, .Name y py] kt pt] (.Tuple [a, b] k2 pt2) X.env = pure (some [x, y]) := by rfl)
    (hs : swapsWithSole [.Tuple [.Name x px, .Name y py] kt pt] (.Tuple [a, b] k2 pt2) pos.line X.env = pure false := by rfl) :
    DS X Wx Γ (.Assign [.Tuple [.Name x px, .Name y py] kt pt] (.Tuple [a, b] k2 pt2) pos) Γ Lr (cPar i j fa) := by
  obtain ⟨t, t1, t2⟩ := ha.ex
  refine ⟨_, ps_par hc hN hi hj hij hx hy t1 hw hs, fun ρ st σ W r rel hf D p => ?_⟩
  unfold cPar at hf
  split at hf
  · rename_i d e s1 e1
    cases hf
    refine t2 ρ st σ W _ _ rel e1 _ fun vs W1 st1 r1 rv => ?_
    obtain ⟨v, u, rfl, rv, ru⟩ := reps2 rv
    refine ⟨v, u, rfl, p _ (W1.shr W) (shr_step st1).st (set_rel (set_rel (shr_rel r1) (shr_rep hl rv) hki) (shr_rep hl ru) hkj)⟩
  · cases hf
theorem de_bits (he : DE X Γ e L f) (hbase : attributeBase e "bit_length" X.env (eval e X.env) = eval e X.env := by rfl) (hline : (apos.endLine == pos.line) = true := by rfl) : DE X Γ (.Call (.Attribute e "bit_length" apos) [] [] pos) Lk.f0 (cBits f) := by
  obtain ⟨t, t1, t2⟩ := he.ex
  refine ⟨_, pe_bits t1 hbase hline, fun ρ st σ W d st' rel hf Q q => ?_⟩
  unfold cBits at hf
  split at hf
  · rename_i i s1 e1
    cases hf
    refine t2 ρ st σ W _ _ rel e1 _ fun v W1 st1 r1 rv => ?_
    exact ⟨i, rep_int rv, q _ W1 st1 r1 (.int _)⟩
  · cases hf
end

/-! ### cells -/
section
variable {K : PySem.W.Frag} {mg : Str → Option Value} {W W1 W2 : Wd} {Γ : List Kd} {ρ : Env} {σ : L2.St} {st : Store} {p : Addr} {o : HO} {c : Cel} {n : Nat}
def Wd.cell (W : Wd) (p : Addr) (o : HO) : Wd := { W with H := upd W.H p o, adr := fun n => if n = W.N then p else W.adr n, N := W.N + 1 }
theorem cell_adr (h : n < W.N) : (W.cell p o).adr n = W.adr n := if_neg (Nat.ne_of_lt h)
theorem cell_adrN : (W.cell p o).adr W.N = p := if_pos rfl
theorem cell_cl {a : Addr} (h : (W.cell p o).Cl a) : W.Cl a ∨ a = p := by
  obtain ⟨n, hn, rfl⟩ := h
  have hn : n < W.N + 1 := hn
  rcases Nat.lt_or_ge n W.N with h | h
  · exact .inl ⟨n, h, cell_adr h⟩
  · exact .inr (by rw [show n = W.N by omega]; exact cell_adrN)
theorem cell_step (hp : W.H p = none) : ExStep W (W.cell p o) where
  keep := fun a u h _ => put_keep hp h
  dom := fun _ h => upd_dom h
  sh := fun _ h => h
  shb := fun _ h => .inl h
  rb := rfl
  cn := Nat.le_succ _
  ca := fun n h => cell_adr h
  cnew := fun n h1 h2 => by
    have h2 : n < W.N + 1 := h2
    rw [show n = W.N by omega, cell_adrN]
    exact hp
  tup := put_tup hp
theorem cell_ok (ok : W.Ok) (hp : W.H p = none) : (W.cell p o).Ok where
  sh := fun a h => upd_dom (ok.sh a h)
  r := fun i a h => upd_dom (ok.r i a h)
  c := fun n h => by
    have h : n < W.N + 1 := h
    rcases Nat.lt_or_ge n W.N with q | q
    · rw [cell_adr q]; exact upd_dom (ok.c n q)
    · rw [show n = W.N by omega, cell_adrN]
      show upd W.H p o p ≠ none
      rw [upd_same]; exact fun z => nomatch z
  shr := ok.shr
  rr := ok.rr
  shc := fun a h z => (cell_cl z).elim (ok.shc a h) fun q => ok.sh a h (by rw [q]; exact hp)
  rc := fun i a h z => (cell_cl z).elim (ok.rc i a h) fun q => ok.r i a h (by rw [q]; exact hp)
  inj := fun m n hm hn e => by
    have hm : m < W.N + 1 := hm
    have hn : n < W.N + 1 := hn
    rcases Nat.lt_or_ge m W.N with q | q
    · rw [cell_adr q] at e
      rcases Nat.lt_or_ge n W.N with r | r
      · rw [cell_adr r] at e
        exact ok.inj m n q r e
      · rw [show n = W.N by omega, cell_adrN] at e
        exact absurd hp (by rw [← e]; exact ok.c m q)
    · rw [show m = W.N by omega, cell_adrN] at e
      rcases Nat.lt_or_ge n W.N with r | r
      · rw [cell_adr r] at e
        exact absurd hp (by rw [e]; exact ok.c n r)
      · omega
theorem cell_rel (hp : W.H p = none) (r : Rel K mg Γ ρ st σ W) (hc : CellOk K mg (W.cell p o) p c) : Rel K mg Γ ρ (st ++ [c]) σ (W.cell p o) := by
  refine ⟨cell_ok r.ok hp, r.sl.step r.ok (cell_step hp), ⟨by rw [List.length_append, r.st.len]; rfl, fun n c' e => ?_⟩, r.len⟩
  rcases Nat.lt_or_ge n st.length with h | h
  · rw [List.getElem?_append_left h] at e
    rw [cell_adr (by rw [← r.st.len]; exact h)]
    exact (r.st.at_ n c' e).step r.ok (cell_step hp) fun u q => put_keep hp q
  · rw [List.getElem?_append_right h] at e
    have : n - st.length = 0 := by
      rcases Nat.eq_zero_or_pos (n - st.length) with z | z
      · exact z
      · rw [List.getElem?_eq_none (show [c].length ≤ n - st.length from z)] at e; cases e
    rw [this] at e
    cases e
    rw [show n = W.N by rw [← r.st.len]; omega, cell_adrN]
    exact hc
/-- a cell is written -/
def Wd.cput (W : Wd) (n : Nat) (o : HO) : Wd := { W with H := upd W.H (W.adr n) o }
theorem cput_step (hn : n < W.N) (hm : ∀ xs, W.H (W.adr n) ≠ some (.tup xs)) : ExStep W (W.cput n o) where
  keep := fun a u h c => by
    show upd W.H (W.adr n) o a = some u
    rw [upd_ne (fun q => c ⟨n, hn, q⟩)]; exact h
  dom := fun _ h => upd_dom h
  sh := fun _ h => h
  shb := fun _ h => .inl h
  rb := rfl
  cn := Nat.le_refl _
  ca := fun _ _ => rfl
  cnew := fun n h1 h2 => absurd (Nat.lt_of_lt_of_le h2 h1) (Nat.lt_irrefl _)
  tup := own_tup hm
theorem cput_rel (hn : n < W.N) (hm : ∀ xs, W.H (W.adr n) ≠ some (.tup xs)) (r : Rel K mg Γ ρ st σ W) (hc : CellOk K mg (W.cput n o) (W.adr n) c) : Rel K mg Γ ρ (st.set n c) σ (W.cput n o) := by
  refine ⟨put_ok r.ok, r.sl.step r.ok (cput_step hn hm), ⟨by rw [List.length_set]; exact r.st.len, fun m c' e => ?_⟩, r.len⟩
  by_cases h : m = n
  · subst h
    rw [List.getElem?_set_self (by rw [r.st.len]; exact hn)] at e
    cases e
    exact hc
  · rw [List.getElem?_set_ne (fun q => h q.symm)] at e
    have hm' : m < W.N := by rw [← r.st.len]; exact (List.getElem?_eq_some_iff.mp e).1
    refine (r.st.at_ m c' e).step r.ok (cput_step hn hm) fun u q => ?_
    show upd W.H (W.adr n) o (W.adr m) = some u
    rw [upd_ne (fun z => h (r.ok.inj m n hm' hn z))]; exact q
theorem rep_cel {adr : Nat → Addr} {N : Nat} {H : Hp} {C T : Addr → Prop} {v : V} {n : Nat} (h : Rep K mg adr N H C T v (.cel n)) : v = .ref (adr n) ∧ n < N := by
  cases h with
  | cel h => exact ⟨rfl, h⟩
end
/-- [..] as a new cell, of atoms -/
def cCnew (f : SemA) : SemE := fun ρ st => match f ρ st with
  | some (ds, s1) => if ds.length ≤ sizeLine ∧ ds.all D.atom = true then some (.cel s1.length, s1 ++ [.lst ds]) else none
  | none => none
def cCix (f h : SemE) : SemE := fun ρ st => match f ρ st with
  | some (.cel n, s1) => match h ρ s1 with
    | some (.int i, s2) => match s2[n]? with
      | some (.lst ds) => match atI ds i with
        | some d => some (d, s2)
        | none => none
      | _ => none
    | _ => none
  | _ => none
def cCset (fo h f : SemE) : SemS := fun ρ st => match f ρ st with
  | some (d, s1) => match fo ρ s1 with
    | some (.cel n, s2) => match h ρ s2 with
      | some (.int i, s3) => match s3[n]? with
        | some (.lst ds) => match ixN ds.length i with
          | some j => if d.atom = true then some (.nx ρ (s3.set n (.lst (ds.set j d)))) else none
          | none => none
        | _ => none
      | _ => none
    | _ => none
  | none => none
section
variable {X : Cx} {Wx : WX} {Γ : List Kd} {e a b o ix : Expr} {es : List Expr} {L M L' Lr : Lk} {f fo h : SemE} {fa : SemA} {pos pos' : Pos}
theorem RepLs.atoms {K : PySem.W.Frag} {mg : Str → Option Value} {W W1 : Wd} {C : Addr → Prop} {vs : List V} {ds : List D} (r : RepLs K mg W W1 L vs ds) (h : ds.all D.atom = true) : RepA K mg W1.adr W1.N W1.H C vs ds := (RepLs.under r).atom h
theorem de_cnew (ha : DA X Γ es L fa) : DE X Γ (.List es pos) Lk.f0 (cCnew fa) := by
  obtain ⟨t, h1, h2⟩ := ha.ex
  refine ⟨_, pe_lst h1, fun ρ st σ W d st' r hf Q q => ?_⟩
  unfold cCnew at hf
  split at hf
  · rename_i ds s1 e1
    split at hf
    · rename_i hl
      cases hf
      refine h2 ρ st σ W ds _ r e1 _ fun vs W1 st1 r1 rvs => ⟨by rw [Paired.len rvs]; exact hl.1, fun p hp => ?_⟩
      have hc : CellOk X.K X.mg (W1.cell p (.lst vs)) p (.lst ds) := ⟨vs, upd_same, RepA.mono (fun _ h => h) (fun a o _ e => put_keep hp e) (Nat.le_succ _) (fun n h => cell_adr h) (RepLs.atoms (C := W1.Sh) rvs hl.2) (put_tup hp)⟩
      refine q (.ref p) (W1.cell p (.lst vs)) (st1.trans (cell_step hp)) (cell_rel hp r1 hc) ?_
      have e : s1.length = W1.N := r1.st.len
      rw [e]
      have : V.ref p = V.ref ((W1.cell p (.lst vs)).adr W1.N) := by rw [cell_adrN]
      rw [this]
      exact .cel (Nat.lt_succ_self _)
    · cases hf
  · cases hf
theorem de_cix (ha : DE X Γ a L f) (hb : DE X Γ b M h) (hs : PlainIx b := by exact fun _ _ => rfl) : DE X Γ (.Subscript a b pos) Lk.sh (cCix f h) := by
  obtain ⟨t, h1, h2⟩ := ha.ex
  obtain ⟨u, k1, k2⟩ := hb.ex
  refine ⟨_, pe_ix ix_seq h1 k1 hs, fun ρ st σ W d st' rel hf Q q => ?_⟩
  unfold cCix at hf
  split at hf
  · rename_i n s1 e1
    split at hf
    · rename_i i s2 e2
      split at hf
      · rename_i ds e3
        split at hf
        · rename_i d' e4
          cases hf
          refine h2 ρ st σ W _ s1 rel e1 _ fun v W1 st1 r1 rv => ?_
          refine k2 ρ s1 σ W1 _ _ r1 e2 _ fun u W2 st2 r2 ru => ?_
          obtain ⟨rfl, hn⟩ := rep_cel (rv.fwd r1.ok st2)
          obtain ⟨xs, hx, rx⟩ := r2.st.at_ n _ e3
          obtain ⟨y, ey, ry⟩ := atI_rep rx e4
          exact .inl ⟨_, xs, i, y, rfl, rep_int ru, .of hx, ey, q y W2 (st1.trans st2) r2 (sh_of_S ry)⟩
        · cases hf
      · cases hf
    · cases hf
  · cases hf
theorem ds_cset (he : DE X Γ e L f) (ho : DE X Γ o M fo) (hi : DE X Γ ix L' h)
    (ha : ∀ v, assign (.Subscript o ix pos') X.env v = (do
      let ov ← holding [v] (eval o X.env)
      let iv ← holding [v, ov] (eval ix X.env)
      standAt pos'
      holding [v, ov, iv] (setItem ov iv v)
      release [v, ov, iv] []) := by intro _; rfl)
    (hs : swapsWithSole [.Subscript o ix pos'] e pos.line X.env = pure false := by rfl) (hw : swappedStores [.Subscript o ix pos'] e X.env = pure none := by rfl)
    (h1 : (assignEach [.Subscript o ix pos'] X.env).map (·.2) = [assign (.Subscript o ix pos') X.env] := by rfl) :
    DS X Wx Γ (.Assign [.Subscript o ix pos'] e pos) Γ Lr (cCset fo h f) := by
  obtain ⟨t, t1, t2⟩ := he.ex
  obtain ⟨u, u1, u2⟩ := ho.ex
  obtain ⟨w, w1, w2⟩ := hi.ex
  refine ⟨_, ps_asg t1 (pg_sub u1 w1 set_list ha) hs hw h1, fun ρ st σ W r rel hf D p => ?_⟩
  unfold cCset at hf
  split at hf
  · rename_i d s1 e1
    split at hf
    · rename_i n s2 e2
      split at hf
      · rename_i i s3 e3
        split at hf
        · rename_i ds e4
          split at hf
          · rename_i j e5
            split at hf
            · rename_i hat
              cases hf
              refine t2 ρ st σ W _ s1 rel e1 _ fun v W1 st1 r1 rv => ?_
              refine u2 ρ s1 σ W1 _ s2 r1 e2 _ fun ov W2 st2 r2 ro => ?_
              refine w2 ρ s2 σ W2 _ s3 r2 e3 _ fun iv W3 st3 r3 ri => ?_
              obtain ⟨rfl, hn⟩ := rep_cel (ro.fwd r2.ok st3)
              obtain ⟨xs, hx, rx⟩ := r3.st.at_ n _ e4
              have hm : ∀ ys, W3.H (W3.adr n) ≠ some (.tup ys) := fun ys z => by rw [hx] at z; cases z
              refine ⟨_, xs, i, j, rfl, rep_int ri, hx, by rw [rx.length]; exact e5, ?_⟩
              refine p σ (W3.cput n (.lst (xs.set j v))) ((st1.trans st2).trans (st3.trans (cput_step hn hm))).st (cput_rel hn hm r3 ⟨_, upd_same, ?_⟩)
              have rv3 : Rep X.K X.mg W3.adr W3.N W3.H W3.Sh W3.Sh v d := ((rv.fwd r1.ok st2).fwd r2.ok st3).atom hat
              exact RepA.mono (fun _ h => h) (fun a o z e => by
                show upd W3.H (W3.adr n) _ a = some o
                rw [upd_ne (fun q => r3.ok.shc a z ⟨n, hn, q⟩)]; exact e) (Nat.le_refl _) (fun _ _ => rfl) (rx.set rv3 j) (own_tup hm)
            · cases hf
          · cases hf
        · cases hf
      · cases hf
    · cases hf
  · cases hf
end
end DL

set_option Elab.async false
set_option linter.all false
set_option maxRecDepth 100000
/-! DL14: own exceptions with a field value: made, raised; calls that may raise. -/
namespace DL
open PySem PySem.Spec PyProof.Rows L2

/-- what the written part says of such a class -/
structure XCls (K : PySem.W.Frag) (mg : Str → Option Value) (c : Str) (C fI : Addr) : Prop where
  gC : mg c = some (.ref C)
  T : OexC K C
  iC : PySem.W.findIn K (.ref C) "__init__" = some (some (.ref fI))
  tI : PySem.W.typeIn K (.ref fI) = some (.type "function")
  nv : PySem.W.findIn K (.ref C) "value" = some none
def initN : List Str := ["self", "value"]
/-- the promise of __init__ -/
def spInit (K : PySem.W.Frag) : Sp := fun vs H Q _ => vs.length = initN.length ∧ ∃ (C a : Addr) (v : V), vs = [.ref a, v] ∧ OexC K C ∧ PySem.W.findIn K (.ref C) "value" = some none ∧ H a = some (exo a C none) ∧
  ∀ dx, H dx = none → dx ≠ a → Q .non (upd (upd H dx (exd dx [("value", v)])) a (exo a C (some dx)))
section
variable {P : Program} {w : World} {K : PySem.W.Frag} {mg : Str → Option Value} {base : Heap}
theorem init_ok {CX : CXT} {qual : Str} {params : Arguments} {scope : Scope} {dvs : List V} {kws : List (Str × V)} {fI : Addr} {fd : FuncData} {k : Nat} {q1 q2 q3 q4 : Pos}
    (F : FunD K "__init__" qual params [.Assign [.Attribute (.Name "self" q1) "value" q2] (.Name "value" q3) q4] scope dvs kws fI fd) (S : FnScope initN initN scope)
    (h1 : scope.names.lookup ("self" : Str) = some .local) (h2 : scope.names.lookup ("value" : Str) = some .local) : FnOk P w K mg base CX (k + 1) fI fd initN (spInit K) := by
  refine F.ok S (fun vs H Q E h => h.1) fun cdv A outer s H vs Q E hr h => ?_
  obtain ⟨_, C, a, v, rfl, T, nv, ha, q⟩ := h
  refine ⟨_, pss_one (ps_ost (pe_var (i := 0) rfl (.inl h1) (by decide) (by decide)) (pe_var (i := 1) rfl (.inl h2) (by decide) (by decide))), ?_⟩
  exact ⟨v, rfl, .ref a, rfl, a, C, rfl, T, nv, .inl ⟨ha, fun dx hd hne => q dx hd hne⟩⟩
end

/-- C(e, ..): the exception's context is None -/
theorem pmk_oexN {X : Cx} {CX : CXT} {c : Str} {C fI : Addr} {k : Nat} {fd : FuncData} {prm : List Str} {sp : Sp} {e : Expr} {es : List Expr} {tA : TA} {np cp : Pos} (T : OexC X.K C) (hi : PySem.W.findIn X.K (.ref C) "__init__" = some (some (.ref fI))) (ht : PySem.W.typeIn X.K (.ref fI) = some (.type "function"))
    (G : FnOk X.prog X.w X.K X.mg X.base CX k fI fd prm sp) (room : Room (k + 1) X.A) (hb : Binds X.K fd prm []) (pass : Passes CX X (fun _ _ _ => False)) (gl : Gl X c) (gC : X.mg c = some (.ref C)) (pa : PA X (e :: es) tA)
    (nd : (c == ("__debug__" : Str)) = false) (st : starEach (e :: es) X.env = (false, eval e X.env) :: starEach es X.env) (pl : (backTo cp (starEach es X.env)).any (·.1) = false) :
    L2N.PMk X (.Call (.Name c np) (e :: es) [] cp) (tMkO C sp [] tA) := fun pins s0 σ H Q I0 wish => by
  obtain ⟨cn, cq, cN, cb, cm, c1, c2, c3, c4, c5, d0, d1, d2, d3, d5, hC, mro⟩ := T.cls
  refine wpAny_Call_Name_kw (ld_glob I0 gl gC (PySem.W.callWith_K (h₀ := X.base) I0.ok.mod.kin T.kC (thn (pa.run cp pins s0 σ H _ I0 wish) fun us s1 ⟨vs, H1, I1, rv, few, z⟩ => ⟨I1.kIn, ?_⟩) st pl) nd)
  obtain ⟨hp, ge, dw, tk, os⟩ := s1
  let x : Addr := hp.objs.size + 1
  let h2 : Heap := (hp.push (PySem.W.kdv_tup us)).push (PySem.HandSPX.excO C hp.objs.size)
  have le1 : hp.objs.size ≤ x := Nat.le_succ _
  have z1 := z x (I1.hok.fresh le1)
  rw [List.append_nil] at z1
  have kp : ∀ b o, hp.get? b = some o → h2.get? b = some o := fun b o y => Heap.get?_push_of_some _ (Heap.get?_push_of_some _ y)
  have gx : h2.get? x = some (PySem.HandSPX.excO C hp.objs.size) := by
    show ((hp.push (PySem.W.kdv_tup us)).push (PySem.HandSPX.excO C hp.objs.size)).get? (hp.objs.size + 1) = _
    heap_get
  have J : Inv X pins σ (upd H1 x (exo x C none)) ⟨h2, ge, dw, tk, os⟩ := I1.laid (t' := tk) kp le1 (exo_ok gx)
  have rv2 : Vals (V.ref x :: vs) (Value.ref x :: us) := .cons rfl rv
  have len2 : (Value.ref x :: us).length = prm.length := rv2.length.symm.trans (G.len _ _ _ _ z1)
  have lu : us.length ≤ sizeLine := by rw [← Paired.length rv, sizeLine_eq]; omega
  have bd := hb ⟨h2, ge, dw, tk, os⟩ (Value.ref x :: us) J.kIn (by rw [List.append_nil]; exact len2)
  rw [List.append_nil] at bd
  show wpAny _ _ (call (.ref C) us) _ _ _
  refine wpAny_call (PySem.HandSPX.call_own F.excBase_ValueError (fun Y => PySem.HandSPX.refsVE_contains Y cm mro) (I1.kIn _ _ hC) (PySem.W.looks_findIn I1.kIn hi) (fun self => PySem.W.bind_fn I1.kIn self ht) lu ?_)
  refine codeAny_mono (G.run _ X.stack _ _ ⟨Value.ref x :: us, []⟩ (Value.ref x :: us) _ _ (fun _ _ _ => False) (room.make C us []) (J.env0.make C us []) bd rv2 z1) fun r s' back => ?_
  cases r with
  | error er => exact pass pins σ _ _ er s' J back
  | ok fl => cases fl with
    | next => exact back.elim
    | brk => exact back.elim
    | cont => exact back.elim
    | ret u =>
      obtain ⟨v, H2, o2, b2, u2, k2, ru, ev, d, fs, ea, ed, en, z2⟩ := back
      subst ev
      obtain ⟨hq, gq, dq, tq, oq⟩ := s'
      obtain ⟨t0, GG, JJ, kG, gG, obj, na⟩ := mk_end0 (d2 := dq) (t2 := tq) I1 le1 kp u2 k2 o2 b2 ea ed en
      exact ⟨ru, ⟨x, _, _, ⟨GG, gq, dq, tq, oq⟩, _, .ref C, some d, rfl, JJ, kG, gG, obj, ⟨rfl, rfl, fun ws hw => by cases hw; rfl⟩, rfl, rfl, na, rfl, b2, raises_own T.exC T.tyC, z2⟩⟩

/-- what stays behind C(v) -/
theorem made_heap {H : Hp} {a dx : Addr} {C : Addr} {fs : List (Str × V)} (ha : H a = none) (hne : dx ≠ a) :
    upd (del (upd (upd (upd H a (exo a C none)) dx (exd dx fs)) a (exo a C (some dx))) a) dx (.xd fs) = upd H dx (.xd fs) := by
  funext b
  by_cases h1 : b = dx
  · subst h1; rw [upd_same, upd_same]
  · rw [upd_ne h1, upd_ne h1]
    by_cases h2 : b = a
    · subst h2; rw [del_same, ha]
    · rw [del_ne h2, upd_ne h2, upd_ne h1, upd_ne h2]
def cRaise (c : Str) (f : SemA) : SemS := fun ρ st => match f ρ st with
  | some ([d], s) => some (.ex c d s)
  | _ => none
section
variable {X : Cx} {Wx : WX} {Γ Γ1 : List Kd} {e : Expr} {es : List Expr} {L Lf Lr : Lk} {fa : SemA} {pos pos' p np : Pos} {c : Str}
theorem RepL.any {K : PySem.W.Frag} {mg : Str → Option Value} {W W' : Wd} {v : V} {d : D} (r : RepL K mg W W' L v d) : RepL K mg W W' Lk.any v d := r.le (by
  unfold Lk.le Lk.any
  cases L.ts <;> cases L.tr <;> cases L.cs <;> cases L.cr <;> rfl)
theorem ds_raise {C fI : Addr} {fd : FuncData} {k : Nat} {CX : CXT} (hc : X.calm = true) (tk : L2N.Takes X Wx) (XC : XCls X.K X.mg c C fI) (G : FnOk X.prog X.w X.K X.mg X.base CX k fI fd initN (spInit X.K)) (hr : Room (k + 1) X.A) (hb : Binds X.K fd initN []) (hx : Passes CX X (fun _ _ _ => False))
    (ha : DA X Γ [e] L fa) (hg : Gl X c := by rfl) (hdb : (c == ("__debug__" : Str)) = false := by decide) (he : starEach [e] X.env = (false, eval e X.env) :: starEach [] X.env := by rfl) (hpl : (backTo pos (starEach [] X.env)).any (·.1) = false := by rfl) :
    DS X Wx Γ (.Raise (some (.Call (.Name c np) [e] [] pos)) none pos') Γ1 Lr (cRaise c fa) := by
  obtain ⟨t, h1, h2⟩ := ha.ex
  refine ⟨_, L2N.ps_raise hc tk (pmk_oexN XC.T XC.iC XC.tI G hr hb hx hg XC.gC h1 hdb he hpl), fun ρ st σ W r rel hf D q => ?_⟩
  unfold cRaise at hf
  split at hf
  · rename_i d s1 e1
    cases hf
    refine h2 ρ st σ W _ _ rel e1 _ fun vs W1 st1 r1 rvs => ?_
    obtain ⟨v, rfl, rv⟩ := reps1 rvs
    refine ⟨(by show 1 ≤ 1000; decide), fun a ha => ⟨rfl, C, a, v, rfl, XC.T, XC.nv, upd_same, fun dx hdx hne => ⟨rfl, dx, [("value", v)], upd_same, ?_, ?_, ?_⟩⟩⟩
    · rw [upd_ne hne, upd_same]
    · rw [upd_ne hne] at hdx; exact hdx
    · rw [made_heap ha hne]
      rw [upd_ne hne] at hdx
      exact q C dx v σ (W1.put dx (.xd [("value", v)])) (st1.trans (put_step hdx)).st (put_ok r1.ok) (put_rel hdx r1).st XC.gC ⟨none_back (st1.dom _) hdx, (put_fr r1.ok hdx).2.2.2.2⟩ upd_same (RepL.any (rv.fwd r1.ok (put_step hdx)))
  · cases hf

/-! ### calls that may raise, as statements -/
/-- what a call gives, and the store behind it (its cells flat) -/
def cCallX (F : Fn) (f : SemA) (g : D → Env → Store → Option SR) : SemS := fun ρ st => match f ρ st with
  | some (ds, s1) => match F ds s1 with
    | some (.ok d s2) => if flatSt s2 = true then g d ρ s2 else none
    | some (.ex c d s2) => if flatSt s2 = true then some (.ex c d s2) else none
    | none => none
  | none => none
def gDrop : D → Env → Store → Option SR := fun _ ρ st => some (.nx ρ st)
def gRet : D → Env → Store → Option SR := fun d _ st => some (.rt d st)
def gPut (i : Nat) : D → Env → Store → Option SR := fun d ρ st => some (.nx (ρ.set i (some d)) st)
/-- what is wanted of an exception, whatever the slots hold -/
abbrev WA (Wx : WX) : XK := fun cls d H => ∀ σ, Wx cls d σ H
theorem passA {X : Cx} {Wx : WX} (tk : L2N.Takes X Wx) : Passes (L2N.CX X.prog X.w) X (WA Wx) := fun pins σ H s e s' I c => L2N.passes_call (E := WA Wx) tk (fun _ _ σ _ h => h σ) pins σ H s e s' I c
theorem call_coreX {t : TA} {F : Fn} {g : D → Env → Store → Option SR} {n : Nat} (tk : L2N.Takes X Wx)
    (sem : ∀ ρ st σ W ds st', Rel X.K X.mg Γ ρ st σ W → fa ρ st = some (ds, st') → ∀ Q : List V → Hp → Prop, (∀ vs W', ExStep W W' → Rel X.K X.mg Γ ρ st' σ W' → RepLs X.K X.mg W W' L vs ds → Q vs W'.H) → t σ W.H Q)
    {ρ : Env} {st : Store} {σ : L2.St} {W : Wd} {r : SR} {D : Ends} {Q : VK} (rel : Rel X.K X.mg Γ ρ st σ W) (hf : cCallX F fa g ρ st = some r) (hn : ∀ ds s r, F ds s = some r → ds.length = n)
    (p : PostS X Wx Γ1 Lr W D r) (hq : ∀ d s2, g d ρ s2 = some r → PostE X Γ ρ s2 σ W (Lf.call L) d Q) : t σ W.H (fun vs H1 => spD X.K X.mg n F Lf vs H1 Q (WA Wx)) := by
  unfold cCallX at hf
  cases e1 : fa ρ st with
  | none => rw [e1] at hf; cases hf
  | some y =>
    obtain ⟨ds, s1⟩ := y
    rw [e1] at hf
    dsimp only at hf
    refine sem ρ st σ W ds s1 rel e1 _ fun vs W1 st1 r1 rvs => ?_
    have hN : s1.length = W1.N := r1.st.len
    have hl : vs.length = ds.length := Paired.len rvs
    cases e2 : F ds s1 with
    | none => rw [e2] at hf; cases hf
    | some fr =>
      rw [e2] at hf
      refine ⟨hl.trans (hn _ _ _ e2), (W.lend W1 L.bor).Sh, W1.adr, ds, s1, fr, ?_, ?_, ?_, e2, ?_⟩
      · rw [hN]; exact lend_ok r1.ok
      · rw [hN]; exact lend_st r1.st
      · rw [hN]; exact lend_args rvs
      · rw [hN]
        cases fr with
        | ok d s2 =>
          dsimp only at hf
          split at hf
          · rename_i hfl
            intro v W2 t2 ok2 hR so2 rv
            exact hq d s2 hf v (W1.back W2) (st1.trans (back_step r1.ok t2)) (back_rel r1 t2 ok2 so2 hfl) (back_rep st1 r1.ok t2 ok2 hR rv)
          · cases hf
        | ex c d s2 =>
          dsimp only at hf
          split at hf
          · rename_i hfl
            cases hf
            intro C dx v W2 t2 ok2 hR so2 hm hn hx rv σ2
            exact p C dx v σ2 (W1.back W2) (st1.trans (back_step r1.ok t2)).st (back_ok r1.ok t2 ok2) (so2.flat hfl) hm ⟨none_back (st1.dom _) hn.1, hn.2⟩ hx (RepL.any (back_rep st1 r1.ok t2 ok2 hR rv))
          · cases hf
variable {k : Nat} {x : Str} {f : Addr} {fd : FuncData} {ps : List Str} {F : Fn} {n : Nat}
/-- the call as an expression that may raise -/
structure DX (X : Cx) (Wx : WX) (Γ : List Kd) (e : Expr) (L : Lk) (h : (D → Env → Store → Option SR) → SemS) : Prop where
  ex : ∃ t, PE X e t ∧ ∀ (Γ1 : List Kd) (Lr : Lk) (g : D → Env → Store → Option SR) ρ st σ W r D (Q : VK), Rel X.K X.mg Γ ρ st σ W → h g ρ st = some r → PostS X Wx Γ1 Lr W D r → (∀ d s2, g d ρ s2 = some r → PostE X Γ ρ s2 σ W L d Q) → t σ W.H Q
theorem dx_call (tk : L2N.Takes X Wx) (G : FnOk X.prog X.w X.K X.mg X.base (L2N.CX X.prog X.w) k f fd ps (spD X.K X.mg n F Lf)) (hr : Room k X.A) (hm : X.mg x = some (.ref f)) (hk : PySem.W.keepIn X.K (.ref f) = true) (hb : Binds X.K fd ps []) (hF : ∀ ds s r, F ds s = some r → ds.length = n)
    (ha : DA X Γ (e :: es) L fa) (hg : Gl X x := by rfl) (hdb : (x == ("__debug__" : Str)) = false := by decide) (he : starEach (e :: es) X.env = (false, eval e X.env) :: starEach es X.env := by rfl) (hpl : (backTo pos (starEach es X.env)).any (·.1) = false := by rfl) :
    DX X Wx Γ (.Call (.Name x p) (e :: es) [] pos) (Lf.call L) (cCallX F fa) := by
  obtain ⟨t, h1, h2⟩ := ha.ex
  refine ⟨_, pe_call G hr hg hm hk hb .nil (passA tk) h1 hdb he hpl, fun Γ1 Lr g ρ st σ W r D Q rel hf q hq => ?_⟩
  show t σ W.H (fun vs H1 => spD X.K X.mg n F Lf (vs ++ []) H1 Q (WA Wx))
  simp only [List.append_nil]
  exact call_coreX tk h2 rel hf hF q hq
variable {h : (D → Env → Store → Option SR) → SemS} {i : Nat}
theorem dsx_expr (hd : DX X Wx Γ e L h) (hs : swapsWith e none pos.line X.env = pure false := by rfl) : DS X Wx Γ (.Expr e pos) Γ Lr (h gDrop) := by
  obtain ⟨t, h1, h2⟩ := hd.ex
  refine ⟨_, ps_expr h1 hs, fun ρ st σ W r rel hf D q => ?_⟩
  refine h2 Γ Lr gDrop ρ st σ W r D _ rel hf q fun d s2 e2 v W1 st1 r1 rv => ?_
  cases e2
  exact q σ W1 st1.st r1
theorem dsx_ret (hd : DX X Wx Γ e L h) (hl : L.le Lr = true := by rfl) : DS X Wx Γ (.Return (some e) pos) Γ1 Lr (h gRet) := by
  obtain ⟨t, h1, h2⟩ := hd.ex
  refine ⟨_, ps_ret h1, fun ρ st σ W r rel hf D q => ?_⟩
  refine h2 Γ1 Lr gRet ρ st σ W r D _ rel hf q fun d s2 e2 v W1 st1 r1 rv => ?_
  cases e2
  exact q v W1 st1.st r1.ok r1.st (rv.le hl)
theorem dsx_set {pos2 : Pos} (hN : X.N.Nodup) (hd : DX X Wx Γ e L h) (hl : L.free = true := by rfl) (hi : X.N[i]? = some x := by rfl) (hx : Loc X.env.scope x := by first | exact Or.inl rfl | exact Or.inr rfl) (hk : i < Γ.length := by decide)
    (hs : swapsWith e (some (.Name x pos2)) pos.line X.env = pure false := by rfl) (hf : X.fn x = true ∨ X.env.scope.names.lookup x = some .local := by first | exact .inl rfl | exact .inr rfl) :
    DS X Wx Γ (.Assign [.Name x pos2] e pos) (Γ.set i L.kd) Lr (h (gPut i)) := by
  obtain ⟨t, h1, h2⟩ := hd.ex
  refine ⟨_, ps_set hN hi hx h1 hs hf, fun ρ st σ W r rel hg D q => ?_⟩
  have hl' : L.tr = false ∧ L.cr = false := by
    unfold Lk.free at hl
    cases e1 : L.tr <;> cases e2 : L.cr <;> simp_all
  refine h2 (Γ.set i L.kd) Lr (gPut i) ρ st σ W r D _ rel hg q fun d s2 e2 v W1 st1 r1 rv => ?_
  cases e2
  exact q (σ.set i (some v)) (W1.take i (Fr W W1) (ownP L.kd v)) (take_step st1) (take_rel r1 rv hl'.1 hl'.2 hk)
end
/-- a row of code that is never reached with a meaning -/
def cStuck : SemS := fun _ _ => none
theorem ps_dead {X : Cx} {s : Stmt} : PS X s (fun _ _ _ => False) := ⟨fun _ _ _ _ _ _ h => h.elim⟩
theorem ds_dead {X : Cx} {Wx : WX} {Γ Γ1 : List Kd} {s : Stmt} {Lr : Lk} : DS X Wx Γ s Γ1 Lr cStuck := ⟨_, ps_dead, fun _ _ _ _ _ _ h _ _ => nomatch h⟩
end DL

set_option Elab.async false
set_option linter.all false
set_option maxRecDepth 100000
/-! DL15: a list comprehension over a range where an exception is handled. -/
namespace DL
open PySem PySem.Spec PyProof.Rows L2 L2H

section
variable {B : Cx} {q : Addr × Obj} {r : List (Addr × Obj)} {σ : L2.St} {H : Hp} {s : Shared}
theorem pin_in (hb : B.pn = []) (I : Inv B (q :: r) σ H s) : Inv { B with pn := [q] } r σ H s :=
  ⟨⟨I.ok.mod, I.ok.kind, I.ok.glob, I.ok.blt, I.ok.above, I.ok.inj, I.ok.has, I.ok.cab, I.ok.hd, I.ok.frames, I.ok.stk, I.ok.exf, I.ok.bs, I.ok.bsz, I.ok.noex, I.ok.exfs, I.ok.funs, I.ok.frf⟩, I.os, I.bare, I.base, I.loc, I.cell, I.free, I.freeC,
    fun p hp => I.pin p (by rw [hb]; exact hp), I.hok, I.len⟩
theorem pin_out (hb : B.pn = []) (I : Inv { B with pn := [q] } r σ H s) : Inv B (q :: r) σ H s :=
  ⟨⟨I.ok.mod, I.ok.kind, I.ok.glob, I.ok.blt, I.ok.above, I.ok.inj, I.ok.has, I.ok.cab, I.ok.hd, I.ok.frames, I.ok.stk, I.ok.exf, I.ok.bs, I.ok.bsz, I.ok.noex, I.ok.exfs, I.ok.funs, I.ok.frf⟩, I.os, I.bare, I.base, I.loc, I.cell, I.free, I.freeC,
    fun p hp => I.pin p (by rw [hb] at hp; exact hp), I.hok, I.len⟩
end

section
variable {X : Cx} {elt tg iter : Expr} {ifs : List Expr} {scope : Scope} {own : List (Str × Nat)} {cpos : Pos} {wi : TI} {g : TG} {tt : TT} {te : TE}
theorem pe_lcH (hot : HotC X) (hN : X.N.Nodup) (hi : PIH X tg iter wi) (bk : BlkOk X.N X.env.scope scope own)
    (G : ∀ (s : Shared) (H : Hp) (C : Addr) (cl : List (Str × Addr)) (fp : List Addr), PG (X.blk s H scope (compEnvC scope cl C X.env) fp) tg g)
    (T : ∀ (s : Shared) (H : Hp) (C : Addr) (cl : List (Str × Addr)) (fp : List Addr), PTs (X.blk s H scope (compEnvC scope cl C X.env) fp) ifs tt)
    (E : ∀ (s : Shared) (H : Hp) (C : Addr) (cl : List (Str × Addr)) (fp : List Addr), PE (X.blk s H scope (compEnvC scope cl C X.env) fp) elt te)
    (nf : ∀ x, foldedSetIterable iter X.env x = pure x := by intro _; rfl) : PE X (.ListComp elt [⟨tg, iter, ifs, 0⟩] scope cpos) (tLc wi g tt te (own.map (·.2))) := by
  refine ⟨fun pins s0 σ0 H0 Q I0 wish => ?_⟩
  obtain ⟨q, hotq, qin⟩ := hot
  have free0 : ∀ y ∈ scope.names, y.2 = .free → ∃ c, X.env.cells.lookup y.1 = some c := fun y hy e => (bk.free y hy e).elim (fun k => I0.ok.has _ (.inl k)) fun k => I0.ok.has _ (.inr k)
  rw [eval_ListComp]
  refine wpAny_comprehension_free rfl nf (closure_ok free0) bk.kind (fun y hy e => by rw [bk.uniq y hy, e]) (thn (hi.run pins s0 σ0 H0 _ I0 wish) fun xv s1 hx => thn hx fun itv s2 h2 => ?_)
  obtain ⟨it, fp, tn, J, Ha, rfl, Ia, Tu, ta, fa, w⟩ := h2
  refine wpAny_newObj_type (newEnv_comp ?_) (by show 0 ≤ sizeLine; decide)
  generalize eD : s2.heap.objs.size = acc
  have accN : Ha acc = none := Ia.hok.fresh (Nat.le_of_eq eD)
  obtain ⟨Wm, ⟨m0, w0⟩, step⟩ := w acc accN
  generalize es : ({ s2 with heap := s2.heap.push { cls := .type "list", data := .seq ([] : List Value).toArray } } : Shared) = s3
  have eh : s3.heap = s2.heap.push { cls := .type "list", data := .seq ([] : List Value).toArray } := by rw [← es]
  have Ib : Inv X pins σ0 (upd Ha acc (.lst [])) s3 := by
    rw [← es]
    refine Ia.laid (t' := s2.toks) (fun b o z => Heap.get?_push_of_some _ z) (Nat.le_of_eq eD) ⟨Nat.zero_le _, [], 0, .nil, ?_⟩
    rw [← eD]; exact Heap.get?_push_size _ rfl
  have small : ∀ b ∈ fp, b < s2.heap.objs.size := fun b hb => by
    obtain ⟨o, z, _⟩ := Tu.obj _ _ ta b hb
    exact Heap.lt_size z
  have fb : ∀ b ∈ fp, FpOk X pins (upd Ha acc (.lst [])) b ∧ b < s3.heap.objs.size := fun b hb => by
    have lt := small b hb
    refine ⟨⟨?_, (fa b hb).2⟩, by rw [eh, Heap.size_push]; exact Nat.lt_succ_of_lt lt⟩
    rw [upd_ne (by rw [← eD]; exact Nat.ne_of_lt lt)]; exact (fa b hb).1
  have tb : tn 0 s3.heap := Tu.keep _ _ _ ta fun b _ o z => by rw [eh]; exact Heap.get?_push_of_some _ z
  have Ic := block_start Ib bk hN fb
  have pg := G s3 (upd Ha acc (.lst [])) s3.heap.objs.size (cellsFrom (s3.heap.objs.size + 1) scope.names (cloFrom X.env.cells scope.names [])) fp
  have pt := T s3 (upd Ha acc (.lst [])) s3.heap.objs.size (cellsFrom (s3.heap.objs.size + 1) scope.names (cloFrom X.env.cells scope.names [])) fp
  have pe := E s3 (upd Ha acc (.lst [])) s3.heap.objs.size (cellsFrom (s3.heap.objs.size + 1) scope.names (cloFrom X.env.cells scope.names [])) fp
  have nones : ∀ b ∈ fp, (upd Ha acc (.lst [])) b = none := fun b hb => (fb b hb).1.1
  have pq := Ib.pin q (List.mem_append_left _ qin)
  have qlt : q.1 < s3.heap.objs.size := Heap.lt_size pq.1
  have qst : q.1 ∉ frs X.stack := fun z => (List.mem_cons.mp (Ib.stkSub q.1 z)).elim pq.2.2.1 pq.2.2.2.1
  show codeAny _ _ (.compStart (.ListComp elt [⟨tg, iter, ifs, 0⟩] scope cpos) 0 (.ref it) (.ref acc) (compEnvC scope (cellsFrom (s3.heap.objs.size + 1) scope.names (cloFrom X.env.cells scope.names [])) s3.heap.objs.size X.env)) _ { s3 with heap := pushCells (s3.heap.push { cls := .type "dict", data := .dict #[] }) scope.names }
  generalize ec : compEnvC scope (cellsFrom (s3.heap.objs.size + 1) scope.names (cloFrom X.env.cells scope.names [])) s3.heap.objs.size X.env = ce at Ic pg pt pe ⊢
  have lc : ce.locals = s3.heap.objs.size := by subst ec; rfl
  generalize eH : upd Ha acc (.lst []) = Hb at Ib Ic pg pt pe w0 nones fb pq
  generalize e4 : ({ s3 with heap := pushCells (s3.heap.push { cls := .type "dict", data := .dict #[] }) scope.names } : Shared) = s4 at Ic ⊢
  have td : tn 0 s4.heap := Tu.keep _ _ _ tb fun b _ o z => by rw [← e4]; exact pushCells_keeps _ _ _ _ (Heap.get?_push_of_some _ z)
  have Id : Inv (X.blk s3 Hb scope ce fp) [q] (wipe σ0 (own.map (·.2))) Hb s4 := Ic.pins_of fun p hp => by
    have ep : p = q := by simpa using hp
    subst ep
    refine ⟨by rw [← e4]; exact pushCells_keeps _ _ _ _ (Heap.get?_push_of_some _ pq.1), pq.2.1, ?_, qst, pq.2.2.2.2⟩
    show p.1 ≠ ce.locals
    rw [lc]; exact Nat.ne_of_lt qlt
  have hq1 : HotC { X.blk s3 Hb scope ce fp with pn := [q] } := ⟨q, hotq, List.mem_cons_self⟩
  have nofp : ∀ b ∈ fp, q.1 ≠ b := fun b hb => (fb b hb).1.2.2.2.2.2 q (List.mem_append_left _ qin)
  have stat : ∀ {σ' : L2.St} {H' : Hp} {s' : Shared}, Inv (X.blk s3 Hb scope ce fp) [q] σ' H' s' → (∀ b ∈ fp, H' b = none) → ∀ b ∈ fp, FpOk (X.blk s3 Hb scope ce fp) [q] H' b := fun {σ' H' s'} I' hn b hb =>
    ⟨hn b hb, (I'.ok.exf b hb).1, I'.ok.exfs b hb, .inl hb, fun x c z => (I'.ok.exf b hb).2 x c z, fun p hp => by
      have ep : p = q := by simpa using hp
      subst ep; exact nofp b hb⟩
  refine (fun lp => codeAny_compStart_list lp (Tu.self X.A 0 _ _ _ td lp)) ?_
  · refine compLoop_any (fun n s' => ∃ i H', Inv (X.blk s3 Hb scope ce fp) [q] (wipe σ0 (own.map (·.2))) H' s' ∧ tn i s'.heap ∧ (∀ b ∈ fp, H' b = none) ∧ Wm i n H') ?_ m0 ⟨0, Hb, Id, td, nones, w0⟩
    rintro n s5 ⟨i, H5, I5, t5, n5, w5⟩
    rcases step i n H5 w5 with ⟨stop, fin⟩ | ⟨go, Nx, hNx, turn⟩
    · refine thnF (Tu.done { X.blk s3 Hb scope ce fp with pn := [q] } rfl rfl rfl hq1 i [] s5 _ H5 (fun _ _ => False) (pin_in rfl I5) (stat I5 n5) t5 stop) fun o s6 ⟨ho, I6'⟩ => ?_
      subst ho
      have I6 := pin_out (B := X.blk s3 Hb scope ce fp) rfl I6'
      have I7 : Inv X pins σ0 H5 s6 := Ib.call' (ch := fp) I6.os I6.base I6.hok I6.bare fun b hb => ⟨(fb b hb).1.2.2.2.1, (fb b hb).1.2.1, (fb b hb).1.2.2.2.2.1, (fb b hb).1.2.2.2.2.2⟩
      obtain ⟨m, hm, _⟩ := I6.loc
      have hm' : s6.heap.Ns ce.locals m := hm
      have nl : H5 ce.locals = none := I6.free
      rw [lc] at hm' nl
      refine ⟨m, hm', fun h'' sb => ?_⟩
      obtain ⟨f0, f1, f2, f3, f4, f5⟩ := Ib.fpOk (Nat.le_refl _) nl
      exact ⟨.ref acc, H5, I7.turned (t' := s6.toks) (fun b o hb z => (sb.2 b hb).trans z) f0 f1 f3 f4 f5, rfl, fin⟩
    · refine thnF (Tu.item { X.blk s3 Hb scope ce fp with pn := [q] } rfl rfl rfl hq1 i [] s5 _ H5 (fun _ _ => False) (pin_in rfl I5) (stat I5 n5) t5 go) fun o s6 ⟨u, ho, more⟩ => ?_
      subst ho
      refine thnF more fun _ s7 ⟨x, H7, I7', r7, y7, t7, n7⟩ => ?_
      have I7 := pin_out (B := X.blk s3 Hb scope ce fp) rfl I7'
      refine thnF (pg.run _ s7 _ H7 x u _ (I7.pinned (stat I7 n7) (Tu.obj _ _ t7)) r7 (turn x H7 y7)) fun _ s8 ⟨σ8, H8, I8, same, q8⟩ => ?_
      refine thnF (pt.run _ s8 σ8 H8 _ I8 q8) fun b s9 ⟨H9, I9, q9⟩ => ?_
      have next : ∀ {s' : Shared} {H' : Hp}, Inv (X.blk s3 Hb scope ce fp) ([q] ++ pinsAt fp s7.heap) σ8 H' s' → Nx H' → ∃ m, m < n ∧ ∃ i H', Inv (X.blk s3 Hb scope ce fp) [q] (wipe σ0 (own.map (·.2))) H' s' ∧ tn i s'.heap ∧ (∀ b ∈ fp, H' b = none) ∧ Wm i m H' := fun {s' H'} I' nx => by
        obtain ⟨m', lt, w'⟩ := hNx H' nx
        have pin' : ∀ b ∈ fp, ∀ o, s7.heap.get? b = some o → s'.heap.get? b = some o ∧ H' b = none := fun b hb o z =>
          have zz := I'.pin (b, o) (List.mem_append_right _ (List.mem_append_right _ (mem_pinsAt hb z)))
          ⟨zz.1, zz.2.1⟩
        refine ⟨m', lt, i + 1, H', (I'.unpinned (pins := [q])).weak (by rw [← same, wipe_length]) (fun j v z => ?_), Tu.keep _ _ _ t7 fun b hb o z => (pin' b hb o z).1, fun b hb => ?_, w'⟩
        · rw [← same] at z
          exact (wipe_some z).1
        · obtain ⟨o, z, _⟩ := Tu.obj _ _ t7 b hb
          exact (pin' b hb o z).2
      cases b with
      | false =>
        rw [if_neg Bool.false_ne_true] at q9 ⊢
        exact next I9 q9
      | true =>
        rw [if_pos rfl] at q9 ⊢
        refine thnF (pe.run _ s9 σ8 H9 _ I9 q9) fun z s10 ⟨yv, H10, I10, r10, ac, hac, few, nx⟩ => ?_
        exact app_ok (X := X.blk s3 Hb scope ce fp) I10 hac few r10 fun s11 I11 => next I11 nx
end
end DL

set_option Elab.async false
set_option linter.all false
set_option maxRecDepth 100000
/-! DL16: try: .. except B as e: .. -/
namespace DL
open PySem PySem.Spec PyProof.Rows L2 L2H

/-- slot i holds the caught exception at a; its dict stands at dx, its field value is w, which stands for dv -/
structure SuJ (K : PySem.W.Frag) (mg : Str → Option Value) (i : Nat) (a dx : Addr) (w : V) (dv : D) (σ : L2.St) (W : Wd) : Prop where
  sl : σ[i]? = some (some (.ref a))
  hx : W.H dx = some (.xd [("value", w)])
  sh : W.Sh dx
  rep : RepS K mg W w dv
section
variable {K : PySem.W.Frag} {mg : Str → Option Value} {i j : Nat} {a dx : Addr} {w : V} {dv : D} {σ : L2.St} {W W1 : Wd}
theorem SuJ.step (h : SuJ K mg i a dx w dv σ W) (ok : W.Ok) (s : ExStep W W1) : SuJ K mg i a dx w dv σ W1 :=
  ⟨h.sl, s.keep dx _ h.hx (ok.shc dx h.sh), s.sh dx h.sh, (s.st.aft ok).rep h.rep⟩
theorem SuJ.take {x : Option V} {F O : Addr → Prop} (h : SuJ K mg i a dx w dv σ W) (hij : j ≠ i) : SuJ K mg i a dx w dv (σ.set j x) (W.take j F O) :=
  ⟨by rw [List.getElem?_set_ne hij]; exact h.sl, h.hx, .inl h.sh, Rep.mono (fun _ z => .inl z) (fun _ _ _ e => e) (Nat.le_refl _) (fun _ _ => rfl) (fun _ z => .inl z) (fun _ _ _ e => e) h.rep⟩
end
structure DEx (X : Cx) (i : Nat) (a dx : Addr) (w : V) (dv : D) (Γ : List Kd) (e : Expr) (L : Lk) (f : SemE) : Prop where
  ex : ∃ t, PE X e t ∧ ∀ ρ st σ W d st', Rel X.K X.mg Γ ρ st σ W → SuJ X.K X.mg i a dx w dv σ W → f ρ st = some (d, st') → ∀ Q : VK, PostE X Γ ρ st' σ W L d Q → t σ W.H Q
structure DAx (X : Cx) (i : Nat) (a dx : Addr) (w : V) (dv : D) (Γ : List Kd) (es : List Expr) (L : Lk) (f : SemA) : Prop where
  ex : ∃ t, PA X es t ∧ ∀ ρ st σ W ds st', Rel X.K X.mg Γ ρ st σ W → SuJ X.K X.mg i a dx w dv σ W → f ρ st = some (ds, st') → ∀ Q : List V → Hp → Prop,
    (∀ vs W', ExStep W W' → Rel X.K X.mg Γ ρ st' σ W' → RepLs X.K X.mg W W' L vs ds → Q vs W'.H) → t σ W.H Q
structure DSsx (X : Cx) (i : Nat) (a dx : Addr) (w : V) (dv : D) (Γ : List Kd) (ss : List Stmt) (Γ' : List Kd) (Lr : Lk) (g : SemS) : Prop where
  ex : ∃ t, PSs X ss t ∧ ∀ ρ st σ W r, Rel X.K X.mg Γ ρ st σ W → SuJ X.K X.mg i a dx w dv σ W → g ρ st = some r → ∀ D : Ends, PostS X (fun _ _ _ _ => False) Γ' Lr W D r → t D σ W.H
section
variable {X : Cx} {Γ Γ1 : List Kd} {i j : Nat} {a dx : Addr} {w : V} {dv : D} {e c : Expr} {es : List Expr} {L M Lr : Lk} {f : SemE} {fa : SemA} {g : SemS} {pos p np : Pos} {x : Str} {ss : List Stmt}
theorem dex_of (h : DE X Γ e L f) : DEx X i a dx w dv Γ e L f := by
  obtain ⟨t, h1, h2⟩ := h.ex
  exact ⟨t, h1, fun ρ st σ W d st' r _ hf Q q => h2 ρ st σ W d st' r hf Q q⟩
theorem dax_nil : DAx X i a dx w dv Γ [] Lk.f0 cNil := ⟨_, pa_nil, fun ρ st σ W ds st' r _ hf Q q => by
  cases hf
  exact q [] W (ExStep.refl W) r .nil⟩
theorem dax_cons (he : DEx X i a dx w dv Γ e L f) (hr : DAx X i a dx w dv Γ es M fa) (hs : starEach (e :: es) X.env = (false, eval e X.env) :: starEach es X.env := by rfl) : DAx X i a dx w dv Γ (e :: es) (L.join M) (cCons f fa) := by
  obtain ⟨t, h1, h2⟩ := he.ex
  obtain ⟨u, k1, k2⟩ := hr.ex
  refine ⟨_, pa_cons h1 k1 hs, fun ρ st σ W ds st' r J hf Q q => ?_⟩
  unfold cCons at hf
  cases ef : f ρ st with
  | none => rw [ef] at hf; cases hf
  | some x =>
    obtain ⟨d, s1⟩ := x
    rw [ef] at hf
    dsimp only at hf
    cases eg : fa ρ s1 with
    | none => rw [eg] at hf; cases hf
    | some y =>
      obtain ⟨ds', s2⟩ := y
      rw [eg] at hf
      cases hf
      refine h2 ρ st σ W d s1 r J ef _ fun v W1 st1 r1 rv => ?_
      refine k2 ρ s1 σ W1 ds' _ r1 (J.step r.ok st1) eg _ fun vs W2 st2 r2 rvs => ?_
      exact q (v :: vs) W2 (st1.trans st2) r2 (.cons ((rv.fwd r1.ok st2).le (L.le_join1 M)) ((rvs.bwd st1).le (L.le_join2 M)))
theorem dex_lst (ha : DAx X i a dx w dv Γ es L fa) : DEx X i a dx w dv Γ (.List es pos) L.over (cLst fa) := by
  obtain ⟨t, h1, h2⟩ := ha.ex
  refine ⟨_, pe_lst h1, fun ρ st σ W d st' r J hf Q q => ?_⟩
  unfold cLst at hf
  cases ef : fa ρ st with
  | none => rw [ef] at hf; cases hf
  | some x =>
    obtain ⟨ds, s1⟩ := x
    rw [ef] at hf
    dsimp only at hf
    split at hf
    · rename_i hl
      cases hf
      refine h2 ρ st σ W ds _ r J ef _ fun vs W1 st1 r1 rvs => ⟨by rw [Paired.len rvs]; exact hl, fun p hp => ?_⟩
      exact q (.ref p) (W1.put p (.lst vs)) (st1.trans (put_step hp)) (put_rel hp r1) (lst_put r1.ok st1 hp rvs.under)
    · cases hf
theorem dssx_ret (he : DEx X i a dx w dv Γ e L f) (hl : L.le Lr = true := by rfl) : DSsx X i a dx w dv Γ [.Return (some e) pos] Γ1 Lr (cRet f) := by
  obtain ⟨t, h1, h2⟩ := he.ex
  refine ⟨_, pss_one (ps_ret h1), fun ρ st σ W r rel J hg D q => ?_⟩
  unfold cRet at hg
  cases ef : f ρ st with
  | none => rw [ef] at hg; cases hg
  | some y =>
    obtain ⟨d, s1⟩ := y
    rw [ef] at hg
    cases hg
    exact h2 ρ st σ W d s1 rel J ef _ fun v W1 st1 r1 rv => q v W1 st1.st r1.ok r1.st (rv.le hl)
theorem dssx_set {pos' : Pos} (hN : X.N.Nodup) (he : DEx X i a dx w dv Γ e L f) (hr : DSsx X i a dx w dv (Γ.set j L.kd) ss Γ1 Lr g) (hji : j ≠ i := by decide) (hl : L.free = true := by rfl) (hj : X.N[j]? = some x := by rfl) (hx : Loc X.env.scope x := by first | exact Or.inl rfl | exact Or.inr rfl) (hk : j < Γ.length := by decide)
    (hs : swapsWith e (some (.Name x pos')) pos.line X.env = pure false := by rfl) (hf : X.fn x = true ∨ X.env.scope.names.lookup x = some .local := by first | exact .inl rfl | exact .inr rfl) :
    DSsx X i a dx w dv Γ (.Assign [.Name x pos'] e pos :: ss) Γ1 Lr (cSeq (cSet j f) g) := by
  obtain ⟨t, h1, h2⟩ := he.ex
  obtain ⟨u, k1, k2⟩ := hr.ex
  refine ⟨_, pss_cons (ps_set hN hj hx h1 hs hf) k1, fun ρ st σ W r rel J hg D q => ?_⟩
  unfold cSeq cSet at hg
  cases ef : f ρ st with
  | none => rw [ef] at hg; cases hg
  | some y =>
    obtain ⟨d, s1⟩ := y
    rw [ef] at hg
    have hl' : L.tr = false ∧ L.cr = false := by
      unfold Lk.free at hl
      cases e1 : L.tr <;> cases e2 : L.cr <;> simp_all
    refine h2 ρ st σ W d s1 rel J ef _ fun v W1 st1 r1 rv => ?_
    exact k2 _ s1 _ (W1.take j (Fr W W1) (ownP L.kd v)) r (take_rel r1 rv hl'.1 hl'.2 hk) ((J.step rel.ok st1).take hji) hg D (q.bwd (take_step st1))
end

/-! ### the caught exception -/
section
variable {X : Cx} {Γ : List Kd} {i : Nat} {a dx C : Addr} {oe : Obj} {pn : List (Addr × Obj)} {w : V} {dv : D} {c : Expr} {pos p np apos : Pos} {n : Str}
def rIsED (K : PySem.W.Frag) (C a dx : Addr) : List V → Hp → VK → Prop := fun xs H Q => ∃ (c : V) (cv : Value) (b : Bool) (fs : List (Str × V)), xs = [.ref a, c] ∧ (∀ u, RelV c u → u = cv) ∧ PySem.W.kitOne K (.ref C) cv = some b ∧ H dx = some (.xd fs) ∧ Q (.bl b) H
theorem call_isED (EC : ExcC X.K C) (hz : Zc (.ref C) (some dx) oe) (hf : ∃ vs, oe.data = .fields vs) : CallR (X.suite a ((a, oe) :: pn)) (.builtin "isinstance") (rIsED X.K C a dx) := by
  intro pins s σ H xs us Q I r h
  obtain ⟨c, cv, b, fs, rfl, one, e, hd, q⟩ := h
  cases r with
  | cons rx rr => cases rr with
    | cons rt rr =>
      cases rr
      cases rx
      have ec := one _ rt
      subst ec
      obtain ⟨at_, _⟩ := I.pin (a, oe) (List.mem_append.mpr (.inl List.mem_cons_self))
      obtain ⟨vs, hv⟩ := hf
      have xd : ObjOk X.prog X.w H s.heap dx (.xd fs) := I.hok dx _ hd
      obtain ⟨mA, hns, _⟩ := xd
      obtain ⟨od, ho, _⟩ := lookIn_ns hns
      have J : PySem.W.InstAt s.heap a oe C (some od) := ⟨at_, hz.1, by unfold PySem.W.notCls; rw [hv], by rw [hz.2]; exact ho⟩
      have hcl : (PySem.W.clsIn X.K C).isSome = true := by
        obtain ⟨cd, hcd, _⟩ := PySem.W.any_some EC.hd
        rw [hcd]; rfl
      exact PySem.W.kia_one (PySem.W.kitx_exc hcl EC.hg EC.hk EC.hs EC.ha EC.hn EC.ht EC.hm) I.kIn J e (fun z => nomatch z) fun tk => ⟨.bl b, H, I.kept (t' := tk) fun _ _ z => z, rfl, q⟩
/-- isinstance(e, K) -/
theorem dex_is {v : V} {cv : Value} {b : Bool} (EC : ExcC X.K C) (hz : L2N.Zn (.ref C) (some dx) oe) (hf : ∃ vs, oe.data = .fields vs) (hT : PE (X.suite a ((a, oe) :: pn)) c (tC v)) (hv1 : ∀ u, RelV v u → u = cv) (hb : PySem.W.kitOne X.K (.ref C) cv = some b)
    (hm : X.mg "isinstance" = none) (hN : X.N[i]? = some n := by rfl) (hvi : Vis X.env.scope n := by first | exact Or.inl rfl | exact Or.inr (Or.inl rfl) | exact Or.inr (Or.inr rfl))
    (hd : (n == ("__debug__" : Str)) = false := by decide) (hcd : (n == ("__classdict__" : Str)) = false := by decide) (hg : Gl X "isinstance" := by rfl)
    (hs0 : starEach [c] X.env = (false, eval c X.env) :: starEach [] X.env := by rfl) (he : starEach [.Name n np, c] X.env = (false, eval (.Name n np) X.env) :: starEach [c] X.env := by rfl) (hpl : (backTo pos (starEach [c] X.env)).any (·.1) = false := by rfl) :
    DEx (X.suite a ((a, oe) :: pn)) i a dx w dv Γ (.Call (.Name "isinstance" p) [.Name n np, c] [] pos) Lk.f0 (cC (.bl b)) := by
  have V := pe_var (X := X.suite a ((a, oe) :: pn)) (pos := np) hN hvi hd hcd
  refine ⟨_, pe_callB (X := X.suite a ((a, oe) :: pn)) (pos := pos) (p := p) (call_isED EC hz.zc hf) hg hm boot_isi (pa_cons V (pa_cons hT pa_nil hs0) he) (by decide) (by decide) he hpl, fun ρ st σ W d st' rel J hf Q q => ?_⟩
  cases hf
  exact ⟨_, J.sl, v, cv, b, _, rfl, hv1, hb, J.hx, q _ W (ExStep.refl W) rel (.bl b)⟩
/-- e.value -/
theorem dex_val (T : XfC X.K C) (nv : PySem.W.findIn X.K (.ref C) "value" = some none) (hz : L2N.Zn (.ref C) (some dx) oe) (hf : ∃ vs, oe.data = .fields vs)
    (hN : X.N[i]? = some n := by rfl) (hvi : Vis X.env.scope n := by first | exact Or.inl rfl | exact Or.inr (Or.inl rfl) | exact Or.inr (Or.inr rfl))
    (hd : (n == ("__debug__" : Str)) = false := by decide) (hcd : (n == ("__classdict__" : Str)) = false := by decide) (hb : attributeBase (.Name n np) "value" X.env (eval (.Name n np) X.env) = eval (.Name n np) X.env := by rfl) :
    DEx (X.suite a ((a, oe) :: pn)) i a dx w dv Γ (.Attribute (.Name n np) "value" apos) Lk.sh (cC dv) := by
  have V := pe_var (X := X.suite a ((a, oe) :: pn)) (pos := np) hN hvi hd hcd
  refine ⟨_, pe_xf T nv hz.zc hf V hb, fun ρ st σ W d st' rel J hf Q q => ?_⟩
  cases hf
  exact ⟨_, J.sl, rfl, rfl, dx, _, w, rfl, J.hx, (by simp [List.lookup]), q w W (ExStep.refl W) rel (sh_of_S J.rep)⟩
end

/-! ### try -/
/-- cs: the classes that the clause takes -/
def cTry (cs : List Str) (i : Nat) (g : SemS) (gs : Str → D → SemS) : SemS := fun ρ st => match g ρ st with
  | some (.ex c d s1) => if c ∈ cs then match gs c d (List.replicate ρ.length none) s1 with
    | some (.nx ρ' s2) => some (.nx (ρ'.set i none) s2)
    | some (.rt d' s2) => some (.rt d' s2)
    | _ => none
    else none
  | r => r
def Wd.calmed (W W' : Wd) : Wd := { W' with Sh := fun a => W'.Sh a ∨ W'.RR a ∨ Fr W W' a, R := noR }
section
variable {K : PySem.W.Frag} {mg : Str → Option Value} {W W' : Wd} {Γ : List Kd} {ρ : Env} {σ : L2.St} {st : Store}
theorem calmed_step (s : StStep W W') : StStep W (W.calmed W') where
  keep := s.keep
  dom := s.dom
  sh := fun a h => .inl (s.sh a h)
  shb := fun a h => by
    rcases h with h | h | h
    · exact s.shb a h
    · exact (s.rb a h).elim (fun z => .inr (.inl z)) fun z => .inr (.inr z)
    · exact .inr (.inr h.1)
  rb := fun a ⟨_, z⟩ => z.elim
  cn := s.cn
  ca := s.ca
  cnew := s.cnew
  tup := s.tup
theorem calmed_ok (ok : W'.Ok) : (W.calmed W').Ok where
  sh := fun a h => by
    rcases h with h | ⟨i, h⟩ | h
    · exact ok.sh a h
    · exact ok.r i a h
    · exact h.2.1
  r := fun _ _ z => z.elim
  c := ok.c
  shr := fun _ _ _ z => z.elim
  rr := fun _ _ _ z => z.elim
  shc := fun a h => by
    rcases h with h | ⟨i, h⟩ | h
    · exact ok.shc a h
    · exact ok.rc i a h
    · exact h.2.2.2.2
  rc := fun _ _ z => z.elim
  inj := ok.inj
theorem calmed_rep {L : Lk} {v : V} {d : D} (r : RepL K mg W W' L v d) : RepS K mg (W.calmed W') v d :=
  Rep.mono (fun a h => by
      rcases h.1 with z | z | z
      · exact .inl z.2
      · exact .inr (.inl z.2)
      · exact .inr (.inr z)) (fun _ _ _ e => e) (Nat.le_refl _) (fun _ _ => rfl) (fun a h => by
      rcases h with z | z | z
      · exact .inl z.2
      · exact .inr (.inl z.2)
      · exact .inr (.inr z)) (fun _ _ _ e => e) r
theorem blank_rel {n : Nat} (ok : W.Ok) (so : StOk K mg W st) (h : n = σ.length) : Rel K mg Γ (List.replicate n none) st σ W :=
  ⟨ok, fun i d e => (by
    rw [List.getElem?_replicate] at e
    split at e
    · cases e
    · cases e), so, by rw [List.length_replicate]; exact h⟩
theorem unset_rel (i : Nat) (r : Rel K mg Γ ρ st σ W) : Rel K mg Γ (ρ.set i none) st (σ.set i none) W := by
  refine ⟨r.ok, fun j d e => ?_, r.st, by rw [List.length_set, List.length_set]; exact r.len⟩
  by_cases hj : j = i
  · subst hj
    rcases Nat.lt_or_ge j ρ.length with h | h
    · rw [List.getElem?_set_self h] at e; cases e
    · rw [List.getElem?_eq_none (by rw [List.length_set]; exact h)] at e; cases e
  · rw [List.getElem?_set_ne (fun q => hj q.symm)] at e
    obtain ⟨k, v, h1, h2, rv⟩ := r.sl j d e
    exact ⟨k, v, h1, by rw [List.getElem?_set_ne (fun q => hj q.symm)]; exact h2, rv⟩
end
section
variable {X : Cx} {Wx : WX} {Γ Γs Γ1 : List Kd} {Lr : Lk} {g : SemS} {gs : Str → D → SemS} {cs : List Str} {i : Nat} {n bx : Str} {cB : Value} {body suite : List Stmt} {b₀ : Stmt} {np pos pos' : Pos}
theorem PS.len {s : Stmt} {t : TS} (h : PS X s t) : PS X s (fun D σ H => σ.length = X.N.length → t D σ H) := ⟨fun pins s σ H D I z => h.run pins s σ H D I (z I.len)⟩
theorem PSs.imp {s : List Stmt} {t t' : TS} (h : PSs X s t) (k : ∀ D σ H, t' D σ H → t D σ H) : PSs X s t' := ⟨fun pins s σ H D I z => h.run pins s σ H D I (k D σ H z)⟩
theorem ds_try (hs : X.stack = X.env :: X.outer) (hf : X.env.frame = some X.env.locals) (hN : X.N.Nodup) (hi : X.N[i]? = some n) (hln : X.env.kindOf n = some .local) (hc : Names X bx cB) (tk : L2N.Takes X Wx)
    (hb : ∀ (W : WX) (pn : List (Addr × Obj)) (xe : Value → Shared → Prop), L2N.Takes (X.tr pn xe) W → PassesOwn (model X.prog X.w) X.A X.env xe → DSs (X.tr pn xe) W Γ body Γ1 Lr g)
    (hm : ∀ c, c ∈ cs → ∀ C, X.mg c = some (.ref C) → PySem.W.exmOne X.K (.ref C) cB = some true)
    (hsu : ∀ c, c ∈ cs → ∀ C, X.mg c = some (.ref C) → ∀ (a : Addr) (oe : Obj) (dx : Addr) (pn : List (Addr × Obj)) (w : V) (dv : D), L2N.Zn (.ref C) (some dx) oe → (∃ vs, oe.data = .fields vs) → DSsx (X.suite a ((a, oe) :: pn)) i a dx w dv Γs (b₀ :: suite) Γ1 Lr (gs c dv)) :
    DS X Wx Γ (.Try body [.ExceptHandler (some (.Name bx np)) (some n) (b₀ :: suite) pos'] [] [] pos) Γ1 Lr (cTry cs i g gs) := by
  let tB : WX → TS := fun W D σ H => ∀ pn xe (t1 : L2N.Takes (X.tr pn xe) W) (t2 : PassesOwn (model X.prog X.w) X.A X.env xe), Classical.choose (hb W pn xe t1 t2).ex D σ H
  let tS : Addr → Value → Option Addr → TS := fun a cls d Ee σ H => ∃ (c : Str) (C dx : Addr) (w : V) (dv : D) (hc : c ∈ cs) (hC : X.mg c = some (.ref C)) (_ : cls = .ref C ∧ d = some dx),
    σ.length = X.N.length → ∀ (oe : Obj) (pn : List (Addr × Obj)) (hz : L2N.Zn (.ref C) (some dx) oe) (hf : ∃ vs, oe.data = .fields vs), Classical.choose (hsu c hc C hC a oe dx pn w dv hz hf).ex Ee σ H
  have P := L2N.ps_try_as (pos := pos) (np := np) (pos' := pos') (tb := tB) (ts := tS) hs hf hN hi hln hc tk (fun W pn xe t1 t2 => PSs.imp (Classical.choose_spec (hb W pn xe t1 t2).ex).1 fun D σ H z => z pn xe t1 t2)
    (fun a oe cls d pn hz hfl => ⟨fun pins s σ H D I ⟨c, C, dx, w, dv, hc, hC, e, z⟩ => by
      obtain ⟨rfl, rfl⟩ := e
      exact (Classical.choose_spec (hsu c hc C hC a oe dx pn w dv hz hfl).ex).1.run pins s σ H D I (z I.len oe pn hz hfl)⟩)
  refine ⟨_, PS.len P, fun ρ st σ W r rel hg D p hl pn xe t1 t2 => ?_⟩
  have run := (Classical.choose_spec (hb _ pn xe t1 t2).ex).2
  unfold cTry at hg
  cases eg : g ρ st with
  | none => rw [eg] at hg; cases hg
  | some r0 =>
    rw [eg] at hg
    refine run ρ st σ W r0 rel eg D ?_
    cases r0 with
    | nx ρ1 s1 => cases hg; exact p
    | rt d s1 => cases hg; exact p
    | ex c d s1 =>
      dsimp only at hg
      split at hg
      · rename_i hcs
        intro C dx v σ' W' s' ok so hmg hn hx rv
        have hmg : X.mg c = some (.ref C) := hmg
        refine ⟨true, hm c hcs C hmg, fun _ a ha => ⟨c, C, dx, v, d, hcs, hmg, ⟨rfl, rfl⟩, fun hlen oe pn hz hfl => ?_⟩, fun z => nomatch z⟩
        have ss := (Classical.choose_spec (hsu c hcs C hmg a oe dx pn v d hz hfl).ex).2
        have hlen' : σ'.length = X.N.length := by rw [List.length_set] at hlen; exact hlen
        have dxs : (W.calmed W').Sh dx := by
          by_cases h1 : W'.Sh dx
          · exact .inl h1
          · by_cases h2 : W'.RR dx
            · exact .inr (.inl h2)
            · exact .inr (.inr ⟨hn.1, (by rw [hx]; exact fun z => (nomatch z)), h1, h2, hn.2⟩)
        have hii : i < σ'.length := by
          rw [hlen']
          exact (List.getElem?_eq_some_iff.mp hi).1
        have so' : StOk X.K X.mg (W.calmed W') s1 := StOk.more (Sh := (W.calmed W').Sh) (R := noR) (fun _ z => .inl z) so
        have rb : Rel X.K X.mg Γs (List.replicate ρ.length none) s1 (σ'.set i (some (.ref a))) (W.calmed W') := blank_rel (calmed_ok ok) so' (by rw [List.length_set, hlen', rel.len, hl])
        have J : SuJ X.K X.mg i a dx v d (σ'.set i (some (.ref a))) (W.calmed W') := ⟨List.getElem?_set_self hii, hx, dxs, calmed_rep rv⟩
        cases eg2 : gs c d (List.replicate ρ.length none) s1 with
        | none => rw [eg2] at hg; cases hg
        | some r1 =>
          rw [eg2] at hg
          refine ss _ s1 _ (W.calmed W') r1 rb J eg2 _ ?_
          cases r1 with
          | nx ρ2 s2 => cases hg; exact fun σ2 W2 st2 r2 => p _ W2 ((calmed_step s').trans st2) (unset_rel i r2)
          | rt d2 s2 => cases hg; exact fun v2 W2 st2 ok2 so2 rv2 => p v2 W2 ((calmed_step s').trans st2) ok2 so2 (rv2.sbwd (calmed_step s'))
          | ex c2 d2 s2 => cases hg
      · cases hg
end
end DL

set_option Elab.async false
set_option linter.all false
set_option maxRecDepth 100000
/-! DL17: calls: defaults, keywords, defs as values. -/
namespace DL
open PySem PySem.Spec PyProof.Rows L2

section
variable {X : Cx} {Wx : WX} {Γ : List Kd} {e fn : Expr} {es : List Expr} {kws : List Keyword} {L M Lf : Lk} {fa fk : SemA} {f : SemE} {pos p kpos : Pos} {k n : Nat} {x : Str} {a : Addr} {fd : FuncData} {ps ks : List Str} {F : Fn} {dvs : List V} {dds : List D} {dus : List Value} {is : List Nat} {nm : Option Str}
/-! ### defaults -/
/-- values that need no place -/
def AtomsOf (mg : Str → Option Value) (dvs : List V) (dds : List D) : Prop := ∀ (K : PySem.W.Frag) (W W' : Wd) (L : Lk), RepLs K mg W W' L dvs dds
def tDf (dvs : List V) (t : TA) : TA := fun σ H Q => t σ H fun vs H1 => Q (vs ++ dvs) H1
theorem RepLs.append {K : PySem.W.Frag} {mg : Str → Option Value} {W W' : Wd} : ∀ {vs us : List V} {ds es : List D}, RepLs K mg W W' L vs ds → RepLs K mg W W' L us es → RepLs K mg W W' L (vs ++ us) (ds ++ es)
  | _, _, _, _, .nil, s => s
  | _, _, _, _, .cons r t, s => .cons r (RepLs.append t s)
/-- the meaning of the arguments, as a reading of their values -/
def ASem (X : Cx) (Γ : List Kd) (L : Lk) (fa : SemA) (t : TA) : Prop := ∀ ρ st σ W ds st', Rel X.K X.mg Γ ρ st σ W → fa ρ st = some (ds, st') → ∀ Q : List V → Hp → Prop,
    (∀ vs W', ExStep W W' → Rel X.K X.mg Γ ρ st' σ W' → RepLs X.K X.mg W W' L vs ds → Q vs W'.H) → t σ W.H Q
theorem asem_df {t : TA} (h : ASem X Γ L fa t) (hd : AtomsOf X.mg dvs dds) : ASem X Γ L (cDfl dds fa) (tDf dvs t) := fun ρ st σ W ds st' rel hf Q q => by
  unfold cDfl at hf
  cases e1 : fa ρ st with
  | none => rw [e1] at hf; cases hf
  | some y =>
    obtain ⟨ds1, s1⟩ := y
    rw [e1] at hf
    cases hf
    exact h ρ st σ W ds1 _ rel e1 _ fun vs W1 st1 r1 rv => q _ W1 st1 r1 (RepLs.append rv (hd X.K W W1 L))
theorem de_callD (G : FnOk X.prog X.w X.K X.mg X.base (L2N.CX X.prog X.w) k a fd ps (spD X.K X.mg n F Lf)) (hr : Room k X.A) (hm : X.mg x = some (.ref a)) (hk : PySem.W.keepIn X.K (.ref a) = true) (hb : Binds X.K fd ps dus) (hv : Vals dvs dus) (hd : AtomsOf X.mg dvs dds) (hF : ∀ ds s r, F ds s = some r → ds.length = n)
    (ha : DA X Γ (e :: es) L fa) (hg : Gl X x := by rfl) (hdb : (x == ("__debug__" : Str)) = false := by decide) (he : starEach (e :: es) X.env = (false, eval e X.env) :: starEach es X.env := by rfl) (hpl : (backTo pos (starEach es X.env)).any (·.1) = false := by rfl) :
    DE X Γ (.Call (.Name x p) (e :: es) [] pos) (Lf.call L) (cCall F (cDfl dds fa)) := by
  obtain ⟨t, h1, h2⟩ := ha.ex
  refine ⟨_, pe_call G hr hg hm hk hb hv passN h1 hdb he hpl, fun ρ st σ W d st' rel hf Q q => ?_⟩
  exact call_core (t := tDf dvs t) (asem_df h2 hd) rel hf hF q
theorem dx_callD (tk : L2N.Takes X Wx) (G : FnOk X.prog X.w X.K X.mg X.base (L2N.CX X.prog X.w) k a fd ps (spD X.K X.mg n F Lf)) (hr : Room k X.A) (hm : X.mg x = some (.ref a)) (hk : PySem.W.keepIn X.K (.ref a) = true) (hb : Binds X.K fd ps dus) (hv : Vals dvs dus) (hd : AtomsOf X.mg dvs dds) (hF : ∀ ds s r, F ds s = some r → ds.length = n)
    (ha : DA X Γ (e :: es) L fa) (hg : Gl X x := by rfl) (hdb : (x == ("__debug__" : Str)) = false := by decide) (he : starEach (e :: es) X.env = (false, eval e X.env) :: starEach es X.env := by rfl) (hpl : (backTo pos (starEach es X.env)).any (·.1) = false := by rfl) :
    DX X Wx Γ (.Call (.Name x p) (e :: es) [] pos) (Lf.call L) (cCallX F (cDfl dds fa)) := by
  obtain ⟨t, h1, h2⟩ := ha.ex
  refine ⟨_, pe_call G hr hg hm hk hb hv (passA tk) h1 hdb he hpl, fun Γ1 Lr g ρ st σ W r D Q rel hf q hq => ?_⟩
  exact call_coreX (t := tDf dvs t) tk (asem_df h2 hd) rel hf hF q hq

/-! ### keywords -/
def permL {α : Type} (is : List Nat) (xs : List α) : List α := is.filterMap fun i => xs[i]?
theorem paired_get {α β : Type} {P : α → β → Prop} : ∀ {xs : List α} {ys : List β} (i : Nat), Paired P xs ys → (xs[i]? = none ∧ ys[i]? = none) ∨ ∃ x y, xs[i]? = some x ∧ ys[i]? = some y ∧ P x y
  | _, _, _, .nil => .inl ⟨rfl, rfl⟩
  | _, _, 0, .cons h _ => .inr ⟨_, _, rfl, rfl, h⟩
  | _, _, i + 1, .cons _ t => paired_get i t
theorem paired_perm {α β : Type} {P : α → β → Prop} {xs : List α} {ys : List β} (h : Paired P xs ys) : ∀ is : List Nat, Paired P (permL is xs) (permL is ys)
  | [] => .nil
  | i :: is => by
    unfold permL
    rcases paired_get i h with ⟨e1, e2⟩ | ⟨x, y, e1, e2, hp⟩
    · rw [List.filterMap_cons_none (by simpa using e1), List.filterMap_cons_none (by simpa using e2)]
      exact paired_perm h is
    · rw [List.filterMap_cons_some (by simpa using e1), List.filterMap_cons_some (by simpa using e2)]
      exact .cons hp (paired_perm h is)
structure DK (X : Cx) (Γ : List Kd) (kws : List Keyword) (L : Lk) (f : SemA) : Prop where
  ex : ∃ t, PK X kws t ∧ ASem X Γ L f t
theorem dk_nil : DK X Γ [] Lk.f0 cNil := ⟨_, pk_nil, fun ρ st σ W ds st' r hf Q q => by
  cases hf
  exact q [] W (ExStep.refl W) r .nil⟩
theorem dk_cons (he : DE X Γ e L f) (hr : DK X Γ kws M fa) : DK X Γ (⟨nm, e, kpos⟩ :: kws) (L.join M) (cCons f fa) := by
  obtain ⟨t, h1, h2⟩ := he.ex
  obtain ⟨u, k1, k2⟩ := hr.ex
  refine ⟨_, pk_cons h1 k1, fun ρ st σ W ds st' r hf Q q => ?_⟩
  unfold cCons at hf
  cases ef : f ρ st with
  | none => rw [ef] at hf; cases hf
  | some x =>
    obtain ⟨d, s1⟩ := x
    rw [ef] at hf
    dsimp only at hf
    cases eg : fa ρ s1 with
    | none => rw [eg] at hf; cases hf
    | some y =>
      obtain ⟨ds', s2⟩ := y
      rw [eg] at hf
      cases hf
      refine h2 ρ st σ W d s1 r ef _ fun v W1 st1 r1 rv => ?_
      refine k2 ρ s1 σ W1 ds' _ r1 eg _ fun vs W2 st2 r2 rvs => ?_
      exact q (v :: vs) W2 (st1.trans st2) r2 (.cons ((rv.fwd r1.ok st2).le (L.le_join1 M)) ((rvs.bwd st1).le (L.le_join2 M)))
def cPerm (m : Nat) (is : List Nat) (f : SemA) : SemA := fun ρ st => match f ρ st with
  | some (ds, s) => if ds.length = m then some (permL is ds, s) else none
  | none => none
def tPm (m : Nat) (is : List Nat) (t : TA) : TA := fun σ H Q => t σ H fun vs H1 => vs.length = m ∧ Q (permL is vs) H1
theorem asem_pm {t : TA} {m : Nat} (h : ASem X Γ L fa t) : ASem X Γ L (cPerm m is fa) (tPm m is t) := fun ρ st σ W ds st' rel hf Q q => by
  unfold cPerm at hf
  cases e1 : fa ρ st with
  | none => rw [e1] at hf; cases hf
  | some y =>
    obtain ⟨ds1, s1⟩ := y
    rw [e1] at hf
    dsimp only at hf
    split at hf
    · rename_i hm
      cases hf
      exact h ρ st σ W ds1 _ rel e1 _ fun vs W1 st1 r1 rv => ⟨(Paired.len rv).trans hm, q _ W1 st1 r1 (paired_perm rv is)⟩
    · cases hf
/-- how keywords alone bind: the parameters get the is-th values -/
def KPerm (K : PySem.W.Frag) (fd : FuncData) (ps ks : List Str) (is : List Nat) : Prop := ∀ (s : Shared) (ws : List Value), K.In s.heap → ws.length = ks.length → BindsTo s fd ⟨[], ks.zip ws⟩ (ps.zip (permL is ws))
theorem pe_callKW {sp : Sp} {CX : CXT} {E : XK} {t : TA} (G : FnOk X.prog X.w X.K X.mg X.base CX k a fd ps sp) (hr : Room k X.A) (hg : Gl X x) (hm : X.mg x = some (.ref a)) (hk : PySem.W.keepIn X.K (.ref a) = true) (hb : KPerm X.K fd ps ks is) (hx : Passes CX X E) (hkw : PK X kws t)
    (hall : (backToKw pos (keywordEach kws X.env)).all (·.1.isSome) = true) (hks : (backToKw pos (keywordEach kws X.env)).filterMap (·.1) = ks) (hdb : (x == ("__debug__" : Str)) = false)
    (hpl : ((backTo pos (starEach [] X.env)).any (·.1) || (backToKw pos (keywordEach kws X.env)).any (·.1.isNone)) = false) :
    PE X (.Call (.Name x p) [] kws pos) (fun σ H Q => tPm ks.length is t σ H fun vs H1 => sp vs H1 Q E) := ⟨fun pins s σ H Q I z => by
  refine wpAny_Call_Name_kw (ld_glob I hg hm (PySem.W.callWith_KW0 (h₀ := X.base) I.ok.mod.kin hk hall (thn (hkw.run pos pins s σ H _ I z) fun ws s1 ⟨zs, H1, I1, rz, l1, q1⟩ => ⟨I1.kIn, ?_⟩) hpl) hdb)
  rw [hks]
  have r2 : Vals (permL is zs) (permL is ws) := paired_perm rz is
  refine wpAny_call (codeAny_mono (G.run X.A X.stack s1 H1 ⟨[], ks.zip ws⟩ (permL is ws) (permL is zs) Q E hr I1.env0 (hb s1 ws I1.kIn (rz.length.symm.trans l1)) r2 q1) fun r s' hq => ?_)
  cases r with
  | error er => exact hx pins σ H1 s1 er s' I1 hq
  | ok fl => cases fl with
    | ret u => exact I1.after hq
    | next => exact hq.elim
    | brk => exact hq.elim
    | cont => exact hq.elim⟩
theorem de_callK (G : FnOk X.prog X.w X.K X.mg X.base (L2N.CX X.prog X.w) k a fd ps (spD X.K X.mg n F Lf)) (hr : Room k X.A) (hm : X.mg x = some (.ref a)) (hk : PySem.W.keepIn X.K (.ref a) = true) (hb : KPerm X.K fd ps ks is) (hF : ∀ ds s r, F ds s = some r → ds.length = n)
    (ha : DK X Γ kws L fa) (hg : Gl X x := by rfl) (hall : (backToKw pos (keywordEach kws X.env)).all (·.1.isSome) = true := by rfl) (hks : (backToKw pos (keywordEach kws X.env)).filterMap (·.1) = ks := by rfl) (hdb : (x == ("__debug__" : Str)) = false := by decide)
    (hpl : ((backTo pos (starEach [] X.env)).any (·.1) || (backToKw pos (keywordEach kws X.env)).any (·.1.isNone)) = false := by rfl) :
    DE X Γ (.Call (.Name x p) [] kws pos) (Lf.call L) (cCall F (cPerm ks.length is fa)) := by
  obtain ⟨t, h1, h2⟩ := ha.ex
  refine ⟨_, pe_callKW G hr hg hm hk hb passN h1 hall hks hdb hpl, fun ρ st σ W d st' rel hf Q q => ?_⟩
  exact call_core (asem_pm h2) rel hf hF q

/-! ### a def as a value -/
/-- the def named x keeps its promise -/
structure Dn (X : Cx) (x : Str) (n : Nat) (F : Fn) (Lf : Lk) : Prop where
  ex : ∃ (k : Nat) (a : Addr) (fd : FuncData) (ps : List Str), FnOk X.prog X.w X.K X.mg X.base (L2N.CX X.prog X.w) k a fd ps (spD X.K X.mg n F Lf) ∧ Room k X.A ∧ X.mg x = some (.ref a) ∧ PySem.W.keepIn X.K (.ref a) = true ∧ Binds X.K fd ps []
  len : ∀ ds s r, F ds s = some r → ds.length = n
theorem pe_callV {te : TE} {t : TA} {E : XK} (S : Addr → Sp → Prop) (A : ∀ a sp, S a sp → ∃ (k : Nat) (fd : FuncData) (ps : List Str), FnOk X.prog X.w X.K X.mg X.base (L2N.CX X.prog X.w) k a fd ps sp ∧ Room k X.A ∧ PySem.W.keepIn X.K (.ref a) = true ∧ Binds X.K fd ps [])
    (hx : Passes (L2N.CX X.prog X.w) X E) (hf : PE X fn te) (ha : PA X (e :: es) t)
    (hev : eval (.Call fn (e :: es) [] pos) X.env = (do callWith pos (← eval fn X.env) [] (backTo pos (starEach (e :: es) X.env)) (backToKw pos (keywordEach [] X.env))))
    (he : starEach (e :: es) X.env = (false, eval e X.env) :: starEach es X.env) (hpl : (backTo pos (starEach es X.env)).any (·.1) = false) :
    PE X (.Call fn (e :: es) [] pos) (fun σ H Q => te σ H fun u H1 => ∃ a sp, u = .ref a ∧ S a sp ∧ t σ H1 fun vs H2 => sp vs H2 Q E) := ⟨fun pins s σ H Q I z => by
  rw [hev]
  refine wpAny_bind (thn (hf.run pins s σ H _ I z) fun u s1 ⟨v, H1, I1, rv, a, sp, ev, hS, q1⟩ => ?_)
  subst ev
  cases rv
  obtain ⟨k, fd, ps, G, hr, hk, hb⟩ := A a sp hS
  refine PySem.W.callWith_K (h₀ := X.base) I1.ok.mod.kin hk (thn (ha.run pos pins s1 σ _ _ I1 q1) fun us s2 ⟨vs, H2, I2, r, q⟩ => ⟨I2.kIn, ?_⟩) he hpl
  refine run_fn (dvs := []) (ds := []) G hr hb .nil hx I2 r ?_
  rw [List.append_nil]
  exact q⟩
/-- the table of the defs that a value may be -/
def cCallV (Fs : Str → Option Fn) (f : SemE) (fa : SemA) (g : D → Env → Store → Option SR) : SemS := fun ρ st => match f ρ st with
  | some (.glo x, s1) => match Fs x with
    | some F => cCallX F fa g ρ s1
    | none => none
  | _ => none
theorem dx_callV (tk : L2N.Takes X Wx) {Fs : Str → Option Fn} {n : Nat} {Lf M : Lk} (hS : ∀ x F, Fs x = some F → Dn X x n F Lf) (hf : DE X Γ fn M f) (ha : DA X Γ (e :: es) L fa)
    (hev : eval (.Call fn (e :: es) [] pos) X.env = (do callWith pos (← eval fn X.env) [] (backTo pos (starEach (e :: es) X.env)) (backToKw pos (keywordEach [] X.env))) := by rfl)
    (he : starEach (e :: es) X.env = (false, eval e X.env) :: starEach es X.env := by rfl) (hpl : (backTo pos (starEach es X.env)).any (·.1) = false := by rfl) :
    DX X Wx Γ (.Call fn (e :: es) [] pos) (Lf.call L) (cCallV Fs f fa) := by
  obtain ⟨te, f1, f2⟩ := hf.ex
  obtain ⟨t, h1, h2⟩ := ha.ex
  refine ⟨_, pe_callV (fun a sp => ∃ x F, Fs x = some F ∧ X.mg x = some (.ref a) ∧ sp = spD X.K X.mg n F Lf) (fun a sp ⟨x, F, eF, ex, es⟩ => ?_) (passA tk) f1 h1 hev he hpl, fun Γ1 Lr g ρ st σ W r D Q rel hf q hq => ?_⟩
  · obtain ⟨⟨k, a', fd, ps, G, hr, hm, hk, hb⟩, _⟩ := hS x F eF
    have : a' = a := by rw [hm] at ex; cases ex; rfl
    subst this
    subst es
    exact ⟨k, fd, ps, G, hr, hk, hb⟩
  · unfold cCallV at hf
    split at hf
    · rename_i x s1 e1
      split at hf
      · rename_i F eF
        refine f2 ρ st σ W _ s1 rel e1 _ fun u W1 st1 r1 ru => ?_
        cases ru with
        | @glo _ _ a hm =>
          refine ⟨a, _, rfl, ⟨x, F, eF, hm, rfl⟩, ?_⟩
          exact call_coreX tk h2 r1 hf (hS x F eF).len (q.bwd st1.st) fun d s2 eg v W2 st2 r2 rv => hq d s2 eg v W2 (st1.trans st2) r2 (rv.bwd st1)
      · cases hf
    · cases hf
end
end DL

set_option Elab.async false
set_option linter.all false
set_option maxRecDepth 100000
/-! DL18: sorted(d), d a dict with tuples as keys. -/
namespace DL
open PySem PySem.Spec PyProof.Rows L2

def keysD (k : List Key) : D := .tup (k.map keyD)
def sortK (ks : List (List Key)) : List (List Key) := isort (PySem.W.dataLe false fun k => (keysD k).enc) ks
def rSortedDT : List V → Hp → VK → Prop := fun vs H Q => ∃ (a : Addr) (kvs : List (List Key × V)), vs = [V.ref a] ∧ H a = some (.dT kvs) ∧ sortB (kvs.map fun p => (keysD p.1).enc) = true ∧
  ∀ (zs : List (Addr × List Key)) (p : Addr), zs.map (·.2) = sortK (kvs.map (·.1)) → (∀ z, z ∈ zs → H z.1 = some (.tup (z.2.map kV))) → H p = none → Q (.ref p) (upd H p (.lst (zs.map fun z => V.ref z.1)))
section
variable {K : PySem.W.Frag} {mg : Str → Option Value}
theorem key_py (k : Key) : ∃ p, (keyD k).py = some p := by
  cases k with
  | inl i => exact ⟨_, rfl⟩
  | inr x => exact ⟨_, rfl⟩
theorem keys_pys : ∀ ks : List Key, ∃ ps, D.pys (ks.map keyD) = some ps
  | [] => ⟨[], rfl⟩
  | k :: ks => by
    obtain ⟨p, h1⟩ := key_py k
    obtain ⟨ps, h2⟩ := keys_pys ks
    exact ⟨p :: ps, by rw [List.map_cons]; unfold D.pys; rw [h1, h2]⟩
theorem keysD_py (ks : List Key) : (keysD ks).py = some (keysD ks).enc := by
  obtain ⟨ps, h⟩ := keys_pys ks
  have : (keysD ks).py = some (.tuple ps) := by unfold keysD D.py; rw [h]
  rw [enc_of this]; exact this
theorem keysD_dp {H : Hp} {a : Addr} {ks : List Key} (h : H a = some (.tup (ks.map kV))) : Dp K H (.ref a) (keysD ks).enc :=
  (Rep.tup (K := K) (mg := fun _ => none) (adr := fun _ => 0) (N := 0) (C := fun _ => True) (T := fun _ => True) h (keys_rep ks)).dp (keysD_py ks)
end
section
variable {X : Cx}
theorem kt_vals {H : Hp} : ∀ {kvs : List (List Key × V)} {xs : List (List Key × Addr × Value)}, L2.KT H kvs xs → xs.map (·.1) = kvs.map (·.1) ∧ ∀ x, x ∈ xs → H x.2.1 = some (.tup (x.1.map kV))
  | _, _, .nil => ⟨rfl, fun _ h => nomatch h⟩
  | p :: kvs, q :: xs, .cons h t => by
    obtain ⟨h1, h2⟩ := kt_vals t
    refine ⟨by rw [List.map_cons, List.map_cons, h1, h.1], fun x hx => ?_⟩
    rcases List.mem_cons.mp hx with rfl | hx
    · rw [← h.1]; exact h.2.1
    · exact h2 x hx
theorem vals_refs : ∀ {us : List Value} {l : List (V × D)}, us.length = l.length → (∀ (j : Nat) (u : Value), us[j]? = some u → ∃ p, l[j]? = some p ∧ RelV p.1 u) → Vals (l.map (·.1)) us
  | [], [], _, _ => .nil
  | u :: us, p :: l, hl, h => by
    obtain ⟨p', e1, e2⟩ := h 0 u rfl
    cases e1
    exact .cons e2 (vals_refs (by simpa using hl) fun j v e => h (j + 1) v e)
  | [], _ :: _, hl, _ => by simp at hl
  | _ :: _, [], hl, _ => by simp at hl
theorem cr_sortedDT (hc : X.calm = true) (hu : X.A.units + 64 < cLine) : CallR X (.builtin "sorted") rSortedDT := by
  intro pins s σ H vs us Q I r h
  obtain ⟨a, kvs, rfl, ha, hb, q⟩ := h
  rw [Vals.ref1 r]
  obtain ⟨z, lo, xs, rel, o, es, ep, ho, hx, hd, hes, _, _⟩ := dt_of I.hok ha
  obtain ⟨k1, k2⟩ := kt_vals rel
  have lxs : es.size = xs.length := size_of_entries hes
  have lk : kvs.length = xs.length := Paired.len rel
  have lz : es.size ≤ sizeLine := by rw [lxs, ← lk]; exact z
  obtain ⟨h1, h2, h3⟩ := sortB_some hb
  refine Calls.call_function_entry PyProof.Rows.kind_sorted PyProof.Rows.plain_sorted PyProof.Rows.entry_sorted (PyProof.Rows.args_sorted1 _) ?_
  unfold Builtin.«sorted»
  refine wpAny_bind (m := checkCount "sorted" 1 1 _) (wpAny_pure ?_)
  refine wpAny_bind (PySem.W.kdu_collect (A := X.A.in1) (kdl_raw (ep := ep) (es := es) lo hx hd) (I.ok.hd hc) ho lz fun h' tk acc hk hacc => ?_)
  let l : List (V × D) := xs.map fun x => (V.ref x.2.1, keysD x.1)
  have hal : acc.toList.length = l.length := by rw [Array.length_toList, hacc.1, lxs, List.length_map]
  have I1 : Inv X pins σ H { s with heap := h', toks := tk } := I.kept hk
  have hv : Vals (l.map (·.1)) acc.toList := vals_refs hal fun j v e => by
    obtain ⟨en, e1, e2⟩ := hacc.2 j v (by rw [← Array.getElem?_toList]; exact e)
    rw [entry_at hes j] at e1
    cases ex : xs[j]? with
    | none => rw [ex] at e1; cases e1
    | some x =>
      rw [ex] at e1
      cases e1
      refine ⟨(V.ref x.2.1, keysD x.1), by rw [List.getElem?_map, ex]; rfl, ?_⟩
      subst e2
      rfl
  have hdp : ∀ p, p ∈ l → Dp X.K H p.1 p.2.enc := fun p hp => by
    obtain ⟨x, hx, rfl⟩ := List.mem_map.mp hp
    exact keysD_dp (k2 x hx)
  have enc_eq : (l.map fun p => p.2.enc) = kvs.map fun p => (keysD p.1).enc := by
    have a1 : (l.map fun p => p.2.enc) = (xs.map (·.1)).map (fun k => (keysD k).enc) := by
      show (xs.map _).map _ = _
      rw [List.map_map, List.map_map]; rfl
    have a2 : (kvs.map fun p => (keysD p.1).enc) = (kvs.map (·.1)).map fun k => (keysD k).enc := by rw [List.map_map]; rfl
    rw [a1, a2, k1]
  obtain ⟨e1, e2⟩ := each_reads I1 hv hdp
  have hsz : acc.toList.length ≤ sizeLine := by rw [Array.length_toList, hacc.1]; exact lz
  refine wpAny_bind (wpAny_newList ?_ hsz)
  have hoL : (h'.push (seqObj "list" acc.toList.toArray 0)).get? h'.objs.size = some (seqObj "list" acc.toList.toArray 0) := Heap.get?_push_size _ rfl
  have old : ∀ b o, h'.get? b = some o → (PySem.W.sortingHeap (h'.push (seqObj "list" acc.toList.toArray 0)) h'.objs.size acc.toList).get? b = some o := fun b o e => PySem.W.sortingHeap_old (Nat.ne_of_lt (Heap.lt_size e)) (Heap.get?_push_of_some _ e)
  have er : PySem.W.EachIs (fun v (b : V × D) => ∃ as, Reads (PySem.W.sortingHeap (h'.push (seqObj "list" acc.toList.toArray 0)) h'.objs.size acc.toList) v b.2.enc as) acc.toList l := e2.mono fun _ _ ⟨as, r⟩ => ⟨as, PyProof.Rows.Reads.keeps old r⟩
  have hal2 : PySem.W.AllAlike (l.map fun p => p.2.enc) := by rw [enc_eq]; exact h1
  have srt : PySem.W.Sortable (l.map fun p => p.2.enc) := by rw [enc_eq]; exact h2
  have bnd : ∀ d, d ∈ (l.map fun p => p.2.enc) → X.A.in1.in1.units + d.depth < cLine := fun d hd => by
    rw [enc_eq] at hd
    have := h3 d hd
    show X.A.units + 1 + 1 + d.depth < cLine
    omega
  show wpAny _ _ _ _ _ { s with heap := h'.push (seqObj "list" acc.toList.toArray 0), toks := tk }
  refine wpAny_bind (wpAny_holding (wpAny_call_entry PyProof.Rows.slot_list_sort ⟨_, hoL, rfl⟩ PyProof.Rows.entry_list_sort
    (PySem.W.list_sort_vals hoL (PySem.W.SortsAt.data (PySem.W.each_map (R := fun v d => ∃ as, Reads (PySem.W.sortingHeap (h'.push (seqObj "list" acc.toList.toArray 0)) h'.objs.size acc.toList) v d as) (fun p : V × D => p.2.enc) er) hal2 srt bnd) hsz ⟨_, rfl, ?_⟩) (PyProof.Rows.args_list_sort _)))
  have he := PySem.W.sortVals_data (enc := fun p : V × D => p.2.enc) false e1 er hal2
  have hv2 := vals_each he
  let ps := l.mergeSort (PySem.W.dataLe false fun p : V × D => p.2.enc)
  -- the sorted keys with their places
  let xs' := xs.mergeSort (PySem.W.dataLe false fun x : List Key × Addr × Value => (keysD x.1).enc)
  have sx : xs'.map (fun x => (V.ref x.2.1, keysD x.1)) = ps := PySem.W.sort_maps (r := PySem.W.dataLe false fun x : List Key × Addr × Value => (keysD x.1).enc) (s := PySem.W.dataLe false fun p : V × D => p.2.enc) (fun x : List Key × Addr × Value => (V.ref x.2.1, keysD x.1)) (l := xs) fun _ _ _ _ => rfl
  have sk : xs'.map (·.1) = sortK (xs.map (·.1)) := by
    unfold sortK
    rw [← sortD_isort]
    exact PySem.W.sort_maps (r := PySem.W.dataLe false fun x : List Key × Addr × Value => (keysD x.1).enc) (s := PySem.W.dataLe false fun k => (keysD k).enc) (fun x : List Key × Addr × Value => x.1) (l := xs) fun _ _ _ _ => rfl
  let zs : List (Addr × List Key) := xs'.map fun x => (x.2.1, x.1)
  have z1 : zs.map (·.2) = sortK (kvs.map (·.1)) := by
    rw [← k1, ← sk]
    show (xs'.map _).map _ = _
    rw [List.map_map]; rfl
  have z2 : ∀ y, y ∈ zs → H y.1 = some (.tup (y.2.map kV)) := fun y hy => by
    obtain ⟨x, hx, rfl⟩ := List.mem_map.mp hy
    exact k2 x (List.mem_mergeSort.mp hx)
  have z3 : ps.map (·.1) = zs.map fun z => V.ref z.1 := by
    rw [← sx]
    show (xs'.map _).map _ = (xs'.map _).map _
    rw [List.map_map, List.map_map]; rfl
  rw [show (List.map (fun x : V × D => x.1) (l.mergeSort (PySem.W.dataLe false fun p : V × D => p.2.enc))) = zs.map (fun z => V.ref z.1) from z3] at hv2
  have hv3 := hv2
  obtain ⟨e', he'⟩ := PyProof.Rows.sortedHeap_at (vs := acc.toList) (out := (PySem.W.sortVals (PySem.W.dataKind (PySem.W.sortingHeap (h'.push (seqObj "list" acc.toList.toArray 0)) h'.objs.size acc.toList) (l.map fun p => p.2.enc)) false acc.toList acc.toList).toArray) hoL
  have hlen : (zs.map fun z => V.ref z.1).length ≤ sizeLine := by
    rw [hv3.length, PySem.W.sortVals_length false rfl]; exact hsz
  refine wpAny_pure ⟨_, rfl, .ref h'.objs.size, upd H h'.objs.size (.lst (zs.map fun z => V.ref z.1)), I1.laid (t' := tk) (fun b u e => ?_) (Nat.le_refl _)
    (show ObjOk X.prog X.w _ _ _ (.lst (zs.map fun z => V.ref z.1)) from ⟨hlen, _, e', hv3, he'⟩), rfl, q zs _ z1 z2 (I1.hok.fresh (Nat.le_refl _))⟩
  have hb : b < h'.objs.size := Heap.lt_size e
  rw [PyProof.Rows.sortedHeap_old (Nat.ne_of_lt hb) (by rw [size_push']; exact Nat.lt_succ_of_lt hb)]
  exact Heap.get?_push_of_some _ e
/-- sorted of a list, of a dict with tuples as keys -/
def sortedXD : List D → Option D
  | [.dT kvs] => if sortB (kvs.map fun p => (keysD p.1).enc) = true then some (.lst ((sortK (kvs.map (·.1))).map keysD)) else none
  | _ => none
theorem refs_rep {K : PySem.W.Frag} {mg : Str → Option Value} {adr : Nat → Addr} {N : Nat} {H : Hp} {C : Addr → Prop} : ∀ {zs : List (Addr × List Key)}, (∀ z, z ∈ zs → H z.1 = some (.tup (z.2.map kV))) → RepA K mg adr N H C (zs.map fun z => V.ref z.1) ((zs.map (·.2)).map keysD)
  | [], _ => .nil
  | z :: zs, h => .cons (.tup (h z (List.mem_cons_self ..)) (keys_rep z.2)) (refs_rep fun y hy => h y (List.mem_cons_of_mem _ hy))
theorem dc_sortedDT (hc : X.calm = true) (hu : X.A.units + 64 < cLine) : DCall X (.builtin "sorted") sortedXD lkF0 := ⟨_, cr_sortedDT hc hu, fun W0 W xs ds d L ok s r e Q q => by
  unfold sortedXD at e
  split at e
  · rename_i dvs
    split at e
    · rename_i hb
      cases e
      obtain ⟨v, rfl, r1⟩ := reps1 r
      cases r1 with
      | @dT T a kvs dvs h eq ra =>
        refine ⟨a, kvs, rfl, h.1, ?_, fun zs p z1 z2 hp => ?_⟩
        · have a1 : (kvs.map fun p => (keysD p.1).enc) = (kvs.map (·.1)).map fun k => (keysD k).enc := by rw [List.map_map]; rfl
          have a2 : (dvs.map fun p => (keysD p.1).enc) = (dvs.map (·.1)).map fun k => (keysD k).enc := by rw [List.map_map]; rfl
          rw [a1, eq, ← a2]; exact hb
        · refine q _ (W.put p _) (Grow.one hp) ?_
          have := refs_rep (K := X.K) (mg := X.mg) (adr := W.adr) (N := W.N) (H := W.H) (C := Ch W0 W Lk.f0) z2
          rw [z1, eq] at this
          exact lst_put ok s hp this
    · cases e
  · cases e⟩
end
end DL

set_option Elab.async false
set_option linter.all false
set_option maxRecDepth 100000
/-! DL19: xs[::-1], -x, {k: v, ..}, told[0][0].append('more'). -/
namespace DL
open PySem PySem.Spec PyProof.Rows L2

def cRev (f : SemE) : SemE := fun ρ st => match f ρ st with
  | some (.lst xs, s) => some (.lst xs.reverse, s)
  | _ => none
def cNeg (f : SemE) : SemE := fun ρ st => match f ρ st with
  | some (.int i, s) => some (.int (-i), s)
  | _ => none
section
variable {X : Cx} {Γ : List Kd} {e : Expr} {L M : Lk} {f : SemE} {pos p1 p2 p3 : Pos} {k : Nat}
theorem de_rev (he : DE X Γ e L f) : DE X Γ (.Subscript e (.Slice none none (some (.UnaryOp .USub (.Constant (.int 1) k p1) p2)) p3) pos) L.anew (cRev f) := by
  obtain ⟨t, h1, h2⟩ := he.ex
  refine ⟨_, pe_revL h1, fun ρ st σ W d st' rel hf Q q => ?_⟩
  unfold cRev at hf
  split at hf
  · rename_i xs s1 e1
    cases hf
    refine h2 ρ st σ W _ _ rel e1 _ fun v W1 st1 r1 rv => ?_
    obtain ⟨a, vs, rfl, ha, _, ra⟩ := rep_lst rv
    refine ⟨a, vs, rfl, .of ha, fun p hp => ?_⟩
    exact q _ (W1.put p _) (st1.trans (put_step hp)) (put_rel hp r1) (lst_put (L := L.anew) r1.ok st1 hp (ra.reverse.at_ fun _ z => z.1))
  · cases hf
theorem de_neg (he : DE X Γ e L f) : DE X Γ (.UnaryOp .USub e pos) Lk.f0 (cNeg f) := by
  obtain ⟨t, h1, h2⟩ := he.ex
  refine ⟨_, pe_un un_neg h1, fun ρ st σ W d st' rel hf Q q => ?_⟩
  unfold cNeg at hf
  split at hf
  · rename_i i s1 e1
    cases hf
    refine h2 ρ st σ W _ _ rel e1 _ fun v W1 st1 r1 rv => ?_
    exact ⟨i, rep_int rv, q _ W1 st1 r1 (.int _)⟩
  · cases hf
end

/-! ### displays of dicts -/
abbrev SemP := Env → Store → Option (List (Key × D) × Store)
def cPnil : SemP := fun _ st => some ([], st)
def cPcons (f h : SemE) (g : SemP) : SemP := fun ρ st => match f ρ st with
  | some (x, s1) => match x.key with
    | some k => match h ρ s1 with
      | some (d, s2) => match g ρ s2 with
        | some (ps, s3) => some ((k, d) :: ps, s3)
        | none => none
      | none => none
    | none => none
  | none => none
def mergeD (kvs more : List (Key × D)) : List (Key × D) := more.foldl (fun acc kv => putD acc kv.1 kv.2) kvs
def cDisp (g : SemP) : SemE := fun ρ st => match g ρ st with
  | some (ps, s) => some (.dK (mergeD [] ps), s)
  | none => none
abbrev RepPs (K : PySem.W.Frag) (mg : Str → Option Value) (W W' : Wd) (L : Lk) : List (Key × V) → List (Key × D) → Prop := Paired fun p q => p.1 = q.1 ∧ RepL K mg W W' L p.2 q.2
structure DP (X : Cx) (Γ : List Kd) (pos : Pos) (keys : List (Option Expr)) (vals : List Expr) (L : Lk) (g : SemP) : Prop where
  ex : ∃ trs, PPs X pos keys vals trs ∧ ∀ ρ st σ W ds st', Rel X.K X.mg Γ ρ st σ W → g ρ st = some (ds, st') → ∀ Q : List (V × V) → Hp → Prop,
    (∀ kvs W', ExStep W W' → Rel X.K X.mg Γ ρ st' σ W' → RepPs X.K X.mg W W' L kvs ds → Q (kvs.map fun kv => (kV kv.1, kv.2)) W'.H) → tPairs trs σ W.H Q
section
variable {K : PySem.W.Frag} {mg : Str → Option Value} {W W1 W2 : Wd}
theorem RepPs.fwd (ok : W1.Ok) (s : ExStep W1 W2) {L : Lk} : ∀ {vs : List (Key × V)} {ds : List (Key × D)}, RepPs K mg W W1 L vs ds → RepPs K mg W W2 L vs ds
  | _, _, .nil => .nil
  | _, _, .cons r t => .cons ⟨r.1, RepL.fwd ok s r.2⟩ (RepPs.fwd ok s t)
theorem RepPs.bwd (s : ExStep W W1) {L : Lk} : ∀ {vs : List (Key × V)} {ds : List (Key × D)}, RepPs K mg W1 W2 L vs ds → RepPs K mg W W2 L vs ds
  | _, _, .nil => .nil
  | _, _, .cons r t => .cons ⟨r.1, RepL.bwd s r.2⟩ (RepPs.bwd s t)
theorem RepPs.le {L M : Lk} (h : L.le M = true) : ∀ {vs : List (Key × V)} {ds : List (Key × D)}, RepPs K mg W W1 L vs ds → RepPs K mg W W1 M vs ds
  | _, _, .nil => .nil
  | _, _, .cons r t => .cons ⟨r.1, RepL.le h r.2⟩ (RepPs.le h t)
theorem repKV_merge {adr : Nat → Addr} {N : Nat} {H : Hp} {C : Addr → Prop} : ∀ {more : List (Key × V)} {dm : List (Key × D)} {kvs : List (Key × V)} {dvs : List (Key × D)}, RepKV K mg adr N H C more dm → RepKV K mg adr N H C kvs dvs → RepKV K mg adr N H C (mergeK kvs more) (mergeD dvs dm)
  | _, _, _, _, .nil, s => s
  | p :: _, q :: _, _, _, .cons h t, s => by
    show RepKV K mg adr N H C (mergeK (putK _ p.1 p.2) _) (mergeD (putD _ q.1 q.2) _)
    have := repKV_put (k := q.1) h.2 s
    rw [h.1]
    exact repKV_merge t this
end
section
variable {X : Cx} {Γ : List Kd} {e v : Expr} {keys : List (Option Expr)} {vals : List Expr} {L M N : Lk} {f h : SemE} {g : SemP} {pos : Pos}
theorem dp_nil : DP X Γ pos [] [] Lk.f0 cPnil := ⟨_, pps_nil, fun ρ st σ W ds st' r hf Q q => by
  cases hf
  exact q [] W (ExStep.refl W) r .nil⟩
theorem dp_cons (he : DE X Γ e N f) (hv : DE X Γ v L h) (hr : DP X Γ pos keys vals M g) : DP X Γ pos (some e :: keys) (v :: vals) (L.join M) (cPcons f h g) := by
  obtain ⟨t, h1, h2⟩ := he.ex
  obtain ⟨u, k1, k2⟩ := hv.ex
  obtain ⟨trs, j1, j2⟩ := hr.ex
  refine ⟨_, pps_cons h1 k1 j1, fun ρ st σ W ds st' rel hf Q q => ?_⟩
  unfold cPcons at hf
  split at hf
  · rename_i x s1 e1
    split at hf
    · rename_i k ek
      split at hf
      · rename_i d s2 e2
        split at hf
        · rename_i ps s3 e3
          cases hf
          refine h2 ρ st σ W x s1 rel e1 _ fun kv W1 st1 r1 rk => ?_
          refine k2 ρ s1 σ W1 d s2 r1 e2 _ fun w W2 st2 r2 rw' => ?_
          refine j2 ρ s2 σ W2 ps _ r2 e3 _ fun kvs W3 st3 r3 rs => ?_
          rw [rep_key rk ek]
          exact q ((k, w) :: kvs) W3 ((st1.trans st2).trans st3) r3 (.cons ⟨rfl, (((rw'.fwd r2.ok st3).bwd st1).le (L.le_join1 M))⟩ ((rs.bwd (st1.trans st2)).le (L.le_join2 M)))
        · cases hf
      · cases hf
    · cases hf
  · cases hf
theorem de_disp (hp : DP X Γ pos keys vals L g) (hall : keys.all (·.isSome) = true := by rfl) (hl : keys.length = vals.length := by rfl) (h0 : keys ≠ [] := by exact fun z => nomatch z) (h15 : keys.length ≤ 15 := by decide)
    (hg : ∀ ρ st ps s, g ρ st = some (ps, s) → ps.length ≤ 15) : DE X Γ (.Dict keys vals pos) L.over (cDisp g) := by
  obtain ⟨trs, j1, j2⟩ := hp.ex
  refine ⟨_, pe_disp j1 hall hl h0 h15, fun ρ st σ W d st' rel hf Q q => ?_⟩
  unfold cDisp at hf
  split at hf
  · rename_i ps s1 e1
    cases hf
    intro p hp
    refine j2 ρ st σ (W.put p (.dK [])) ps _ (put_rel hp rel) e1 _ fun kvs W2 st2 r2 rs => ?_
    have f2 : Fr W W2 p := (put_fr rel.ok hp).fwd (put_ok rel.ok) st2
    have e2 : W2.H p = some (.dK []) := st2.keep p _ upd_same fun z => (put_fr rel.ok hp).2.2.2.2 z
    have lk : kvs.length = ps.length := Paired.len rs
    refine ⟨e2, kvs, rfl, by rw [lk]; exact hg _ _ _ _ e1, ?_⟩
    have hm : ∀ xs, W2.H p ≠ some (.tup xs) := fun xs z => by rw [e2] at z; cases z
    have hP : (W.put p (.dK [])).H p ≠ none := by show upd W.H p _ p ≠ none; rw [upd_same]; exact fun z => nomatch z
    have apart : ∀ a, Ch (W.put p (.dK [])) W2 L.over a → a ≠ p := fun a z y => by
      subst y
      rcases z with ⟨_, z⟩ | ⟨_, z⟩ | z
      · exact f2.2.2.1 z
      · exact f2.2.2.2.1 z
      · exact hP z.1
    have toW : ∀ a, Ch (W.put p (.dK [])) W2 L.over a → Ch W W2 L.over a := fun a z => z.elim .inl fun y => y.elim (fun y => .inr (.inl y)) fun y => .inr (.inr (y.bwd (put_step hp)))
    let o : HO := .dK (mergeK [] kvs)
    let C : Addr → Prop := fun a => Ch W (W2.put p o) L.over a ∧ a ≠ p
    have one : ∀ {v : V} {d : D}, RepL X.K X.mg (W.put p (.dK [])) W2 L v d → Rep X.K X.mg W2.adr W2.N (upd W2.H p o) C C v d := fun {v d} r =>
      Rep.mono (fun a z => ⟨(toW a z).wr, apart a z⟩) (fun a u z e => by rw [upd_ne (apart a z)]; exact e) (Nat.le_refl _) (fun _ _ => rfl) (fun a z => ⟨(toW a z).wr, apart a z⟩) (fun a u z e => by rw [upd_ne (apart a z)]; exact e) r.under (own_tupG hm)
    have rk : RepKV X.K X.mg W2.adr W2.N (upd W2.H p o) C kvs ps := by
      have go : ∀ {kvs : List (Key × V)} {ps : List (Key × D)}, RepPs X.K X.mg (W.put p (.dK [])) W2 L kvs ps → RepKV X.K X.mg W2.adr W2.N (upd W2.H p o) C kvs ps := fun {kvs ps} r => by
        induction r with
        | nil => exact .nil
        | cons h _ ih => exact .cons ⟨h.1, one h.2⟩ ih
      exact go rs
    have r0 : RepKV X.K X.mg W2.adr W2.N (upd W2.H p o) C ([] : List (Key × V)) [] := .nil
    have rm := repKV_merge rk r0
    have s2 : ExStep W (W2.put p o) := ((put_step hp).trans st2).wr hp
    refine q _ (W2.put p o) s2 (wr_relG hm r2 f2.2.2.1 f2.2.2.2.1 f2.2.2.2.2) ?_
    exact .dK ⟨upd_same, .inr (.inr f2.wr)⟩ (repKV_fst rm) ((repKV_snd rm).at_ fun a z => ⟨z.1, fun _ y => z.2 (by cases y; rfl)⟩)
  · cases hf
end
end DL

set_option Elab.async false
set_option linter.all false
set_option maxRecDepth 100000
/-! DL20: told[0][0].append('more'): what was told is spoilt, the slot is not looked at any more. -/
namespace DL
open PySem PySem.Spec PyProof.Rows L2

/-- from v by the places p one comes to the object at b -/
def Pth (H : Hp) : List Nat → V → Addr → Prop
  | [], v, b => v = .ref b
  | k :: p, v, b => ∃ a xs x, v = .ref a ∧ H a = some (.lst xs) ∧ xs[k]? = some x ∧ Pth H p x b
def D.path : List Nat → D → Option D
  | [], d => some d
  | k :: p, .lst xs => match xs[k]? with
    | some d => D.path p d
    | none => none
  | _ :: _, _ => none
theorem Pth.ext {H H' : Hp} (h : ∀ a xs, H a = some (.lst xs) → ∃ ys, H' a = some (.lst (xs ++ ys))) : ∀ {p : List Nat} {v : V} {b : Addr}, Pth H p v b → Pth H' p v b
  | [], _, _, e => e
  | k :: p, v, b, ⟨a, xs, x, e1, e2, e3, e4⟩ => by
    obtain ⟨ys, e5⟩ := h a xs e2
    refine ⟨a, xs ++ ys, x, e1, e5, ?_, Pth.ext h e4⟩
    rw [List.getElem?_append_left (List.getElem?_eq_some_iff.mp e3).1]; exact e3
theorem Pth.snoc {H : Hp} {k : Nat} {b : Addr} : ∀ {p : List Nat} {v : V}, Pth H (p ++ [k]) v b → ∃ a xs, Pth H p v a ∧ H a = some (.lst xs) ∧ xs[k]? = some (.ref b)
  | [], v, ⟨a, xs, x, e1, e2, e3, e4⟩ => ⟨a, xs, e1, e2, by rw [e3]; exact congrArg some e4⟩
  | j :: p, v, ⟨a, xs, x, e1, e2, e3, e4⟩ => by
    obtain ⟨a', xs', h1, h2, h3⟩ := Pth.snoc (p := p) e4
    exact ⟨a', xs', ⟨a, xs, x, e1, e2, e3, h1⟩, h2, h3⟩
theorem rep_path {K : PySem.W.Frag} {mg : Str → Option Value} {adr : Nat → Addr} {N : Nat} {H : Hp} {C : Addr → Prop} {Rg : Addr → Prop} (hC : ∀ a, C a → Rg a) {ys : List D} : ∀ {p : List Nat} {T : Addr → Prop} {v : V} {d : D}, (∀ a, T a → Rg a) → Rep K mg adr N H C T v d → D.path p d = some (.lst ys) →
    ∃ b vs, Pth H p v b ∧ Rg b ∧ H b = some (.lst vs) ∧ vs.length = ys.length
  | [], T, v, d, hT, r, e => by
    cases e
    obtain ⟨a, xs, rfl, ha, ht, ra⟩ := rep_lst r
    exact ⟨a, xs, rfl, hT a ht, ha, ra.length⟩
  | k :: p, T, v, d, hT, r, e => by
    cases d <;> first
      | (unfold D.path at e; cases e; done)
      | skip
    rename_i ds
    unfold D.path at e
    split at e
    · rename_i d' e1
      obtain ⟨a, xs, rfl, ha, ht, ra⟩ := rep_lst r
      obtain ⟨x, ex, rx⟩ := ra.get e1
      obtain ⟨b, vs, h1, h2⟩ := rep_path hC (p := p) hC rx e
      exact ⟨b, vs, ⟨a, xs, x, rfl, ha, ex, h1⟩, h2⟩
    · cases e
/-- slot i holds something of the shape qs, all of it its own -/
def Wsh (W : Wd) (σ : L2.St) (i : Nat) (qs : List (List Nat)) (n : Nat) : Prop := ∃ v, σ[i]? = some (some v) ∧ ∀ p, p ∈ qs → ∃ b xs, Pth W.H p v b ∧ W.R i b ∧ W.H b = some (.lst xs) ∧ xs.length + n ≤ sizeLine
structure DSp (X : Cx) (Wx : WX) (Γ : List Kd) (i : Nat) (qs : List (List Nat)) (n : Nat) (ss : List Stmt) (Γ' : List Kd) (Lr : Lk) (g : SemS) : Prop where
  ex : ∃ t, PSs X ss t ∧ ∀ ρ st σ W r, Rel X.K X.mg Γ ρ st σ W → (∀ d, ρ[i]? ≠ some (some d)) → Wsh W σ i qs n → g ρ st = some r → ∀ D : Ends, PostS X Wx Γ' Lr W D r → t D σ W.H
section
variable {K : PySem.W.Frag} {mg : Str → Option Value} {W : Wd} {Γ : List Kd} {ρ : Env} {σ : L2.St} {st : Store} {i : Nat} {a : Addr} {o : HO}
theorem own_rel0 (hm : ∀ xs, W.H a ≠ some (.tup xs)) (r : Rel K mg Γ ρ st σ W) (ha : W.R i a) (hd : ∀ d, ρ[i]? ≠ some (some d)) : Rel K mg Γ ρ st σ (W.own i .all (Fr W W) a o) := by
  have kp : ∀ b u, b ≠ a → W.H b = some u → upd W.H a o b = some u := fun b u n e => by rw [upd_ne n]; exact e
  have nS : ∀ b, W.Sh b → b ≠ a := fun b h q => r.ok.shr i b h (by rw [q]; exact ha)
  refine ⟨own_ok r.ok, fun j d0 e => ?_, ⟨r.st.len, fun n c e => ?_⟩, r.len⟩
  · have hj : j ≠ i := fun q => hd d0 (by rw [← q]; exact e)
    obtain ⟨k', u, g1, g2, ru⟩ := r.sl j d0 e
    have nR : ∀ b, W.R j b → b ≠ a := fun b h q => hj (r.ok.rr j i b h (by rw [q]; exact ha))
    refine ⟨k', u, g1, g2, Rep.mono (fun b z => ?_) (fun b u z e => ?_) (Nat.le_refl _) (fun _ _ => rfl) (fun b z => ?_) (fun b u z e => ?_) ru (own_tup hm)⟩
    · refine ⟨?_, z.2⟩
      have z := z.1
      cases k' with
      | sh => exact .inl z
      | top => exact .inl z
      | all => exact .inl z
    · have z := z.1
      cases k' with
      | sh => exact kp b u (nS b z) e
      | top => exact kp b u (nS b z) e
      | all => exact kp b u (nR b z) e
    · cases k' with
      | sh => exact .inl z
      | top => exact .inl z
      | all => exact .inl z
    · cases k' with
      | sh => exact kp b u (nS b z) e
      | top => exact kp b u (nR b z) e
      | all => exact kp b u (nR b z) e
  · have hn : n < W.N := by rw [← r.st.len]; exact (List.getElem?_eq_some_iff.mp e).1
    have hne : W.adr n ≠ a := fun q => r.ok.rc i a ha ⟨n, hn, q.symm⟩
    have m : ∀ {vs : List V} {ds : List D}, RepA K mg W.adr W.N W.H W.Sh vs ds → RepA K mg W.adr W.N (upd W.H a o) (W.own i .all (Fr W W) a o).Sh vs ds := fun r => RepA.mono (fun _ z => .inl z) (fun b u z e => kp b u (nS b z) e) (Nat.le_refl _) (fun _ _ => rfl) r (own_tup hm)
    have h := r.st.at_ n c e
    cases c with
    | lst ds => obtain ⟨xs, h1, h2⟩ := h; exact ⟨xs, kp _ _ hne h1, m h2⟩
    | dK ds => obtain ⟨xs, h1, h2, h3⟩ := h; exact ⟨xs, kp _ _ hne h1, h2, m h3⟩
    | dT ds => obtain ⟨xs, h1, h2, h3⟩ := h; exact ⟨xs, kp _ _ hne h1, h2, m h3⟩
    | ins c fs => obtain ⟨C, dx, gs, h0, h1, h2, h3⟩ := h; exact ⟨C, dx, gs, h0, kp _ _ hne h1, h2, m h3⟩
end
section
variable {X : Cx} {Wx : WX} {Γ Γ' : List Kd} {e : Expr} {Lr : Lk} {g : SemS} {i k n : Nat} {p : List Nat} {qs : List (List Nat)} {ss : List Stmt} {pos apos cpos np : Pos} {x y : Str}
/-- a place within what slot i holds -/
def tPth (i : Nat) (p : List Nat) : TE := fun σ H Q => ∃ v b, σ[i]? = some (some v) ∧ Pth H p v b ∧ Q (.ref b) H
theorem pe_pvar (hv : PE X (.Name x np) (tVar i)) : PE X (.Name x np) (tPth i []) := PE.imp hv fun σ H Q ⟨v, b, h1, h2, q⟩ => by
  cases h2
  exact ⟨_, h1, q⟩
theorem pe_pix {j : Nat} {p2 : Pos} (he : PE X e (tPth i p)) (hs : PlainIx (.Constant (.int (k : Int)) j p2) := by exact fun _ _ => rfl) : PE X (.Subscript e (.Constant (.int (k : Int)) j p2) pos) (tPth i (p ++ [k])) := by
  refine PE.imp (pe_ix ix_list he pe_int hs) fun σ H Q ⟨v, b, h1, h2, q⟩ => ?_
  obtain ⟨a, xs, g1, g2, g3⟩ := Pth.snoc h2
  refine ⟨v, a, h1, g1, a, xs, (k : Int), .ref b, rfl, rfl, .of g2, ?_, q⟩
  have hk : k < xs.length := (List.getElem?_eq_some_iff.mp g3).1
  have : ixN xs.length (k : Int) = some k := by
    unfold ixN
    first
      | (simp [hk]; done)
      | (split <;> simp_all <;> omega)
  unfold atI
  rw [this]
  exact g3
theorem dsp_end (h : DSs X Wx Γ ss Γ' Lr g) : DSp X Wx Γ i qs n ss Γ' Lr g := by
  obtain ⟨t, h1, h2⟩ := h.ex
  exact ⟨t, h1, fun ρ st σ W r rel _ _ hg D q => h2 ρ st σ W r rel hg D q⟩
theorem dsp_app {j : Nat} {p3 : Pos} (he : PE X e (tPth i p)) (hp : p ∈ qs) (hr : DSp X Wx Γ i qs n ss Γ' Lr g)
    (hbase : attributeBase e "append" X.env (eval e X.env) = eval e X.env := by rfl)
    (hfew : ((backTo cpos (starEach [(.Constant (.str y) j p3 : Expr)] X.env)).all (fun x => !x.1) && (backToKw cpos (keywordEach [] X.env)).all (fun x => x.1.isSome) && decide ([(.Constant (.str y) j p3 : Expr)].length + ([] : List Keyword).length + (if ([] : List Keyword).isEmpty then 0 else 1) < 30)) = true := by rfl)
    (hline : (apos.endLine == cpos.line) = true := by rfl) (hs : starEach [(.Constant (.str y) j p3 : Expr)] X.env = (false, eval (.Constant (.str y) j p3) X.env) :: starEach [] X.env := by rfl) (hplain : (backTo cpos (starEach [] X.env)).any (·.1) = false := by rfl)
    (hsw : swapsWith (.Call (.Attribute e "append" apos) [.Constant (.str y) j p3] [] cpos) none pos.line X.env = pure false := by rfl) :
    DSp X Wx Γ i qs (n + 1) (.Expr (.Call (.Attribute e "append" apos) [.Constant (.str y) j p3] [] cpos) pos :: ss) Γ' Lr g := by
  obtain ⟨t, h1, h2⟩ := hr.ex
  refine ⟨_, pss_cons (ps_expr (pe_bm PySem.F.plainAttrs_list PySem.F.slot_list_append PySem.F.type_list_append mt_append he (pa_cons pe_str pa_nil hs) hbase hfew hline hs hplain) hsw) h1, fun ρ st σ W r rel dead w hg D q => ?_⟩
  obtain ⟨v, hv, hq⟩ := w
  obtain ⟨b, xs, w1, w2, w3, w4⟩ := hq p hp
  refine ⟨v, b, hv, w1, .inl ⟨rfl, _, .of w3⟩, ?_⟩
  have hm : ∀ ys, W.H b ≠ some (.tup ys) := fun ys z => by rw [w3] at z; cases z
  refine ⟨b, xs, _, rfl, rfl, w3, by omega, ?_⟩
  have ext : ∀ a ys, W.H a = some (.lst ys) → ∃ zs, upd W.H b (.lst (xs ++ [.str y])) a = some (.lst (ys ++ zs)) := fun a ys e => by
    by_cases hab : a = b
    · subst hab
      rw [w3] at e; cases e
      exact ⟨_, upd_same⟩
    · exact ⟨[], by rw [upd_ne hab, List.append_nil]; exact e⟩
  refine h2 ρ st σ (W.own i .all (Fr W W) b (.lst (xs ++ [.str y]))) r (own_rel0 hm rel w2 dead) dead ⟨v, hv, fun p' hp' => ?_⟩ hg D (q.bwd (own_step hm (ExStep.refl W) w2))
  obtain ⟨b', xs', y1, y2, y3, y4⟩ := hq p' hp'
  by_cases hab : b' = b
  · subst hab
    rw [w3] at y3; cases y3
    exact ⟨b', _, y1.ext ext, .inl y2, upd_same, by rw [List.length_append]; show xs.length + 1 + n ≤ sizeLine; omega⟩
  · refine ⟨b', xs', y1.ext ext, .inl y2, ?_, by omega⟩
    show upd W.H b _ b' = _
    rw [upd_ne hab]; exact y3
/-- all the places lead to lists that may grow by n -/
def okPaths (d : D) (qs : List (List Nat)) (n : Nat) : Bool := qs.all fun p => match D.path p d with
  | some (.lst xs) => decide (xs.length + n ≤ sizeLine)
  | _ => false
def cSpoil (i : Nat) (qs : List (List Nat)) (n : Nat) (g : SemS) : SemS := fun ρ st => match ρ[i]? with
  | some (some d) => if okPaths d qs n = true then g (ρ.set i none) st else none
  | _ => none
theorem kill_rel {K : PySem.W.Frag} {mg : Str → Option Value} {W : Wd} {ρ : Env} {σ : L2.St} {st : Store} (i : Nat) (r : Rel K mg Γ ρ st σ W) : Rel K mg Γ (ρ.set i none) st σ W := by
  refine ⟨r.ok, fun j d e => ?_, r.st, by rw [List.length_set]; exact r.len⟩
  by_cases hj : j = i
  · subst hj
    rcases Nat.lt_or_ge j ρ.length with h | h
    · rw [List.getElem?_set_self h] at e; cases e
    · rw [List.getElem?_eq_none (by rw [List.length_set]; exact h)] at e; cases e
  · rw [List.getElem?_set_ne (fun q => hj q.symm)] at e
    exact r.sl j d e
theorem dss_spoil (h : DSp X Wx Γ i qs n ss Γ' Lr g) (hk : Γ[i]? = some .all := by rfl) : DSs X Wx Γ ss Γ' Lr (cSpoil i qs n g) := by
  obtain ⟨t, h1, h2⟩ := h.ex
  refine ⟨t, h1, fun ρ st σ W r rel hg D q => ?_⟩
  unfold cSpoil at hg
  split at hg
  · rename_i d e1
    split at hg
    · rename_i hok
      refine h2 _ st σ W r (kill_rel i rel) (fun d' e => ?_) ?_ hg D q
      · rcases Nat.lt_or_ge i ρ.length with h | h
        · rw [List.getElem?_set_self h] at e; cases e
        · rw [List.getElem?_eq_none (by rw [List.length_set]; exact h)] at e; cases e
      · obtain ⟨k', v, g1, g2, rv⟩ := rel.sl i d e1
        rw [hk] at g1; cases g1
        refine ⟨v, g2, fun p hp => ?_⟩
        have := List.all_eq_true.mp hok p hp
        split at this
        · rename_i xs ep
          obtain ⟨b, vs, y1, y2, y3, y4⟩ := rep_path (Rg := W.R i) (fun a z => z.1) (fun a z => z) rv ep
          exact ⟨b, vs, y1, y2, y3, by rw [y4]; exact of_decide_eq_true this⟩
        · cases this
    · cases hg
  · cases hg
end
end DL

set_option Elab.async false
set_option linter.all false
set_option maxRecDepth 100000
/-! DL21: a program's defs and classes in short; the rules that a printer of proofs takes. -/
namespace DL
open PySem PySem.Spec PyProof.Rows L2

/-- the def x keeps its promise: a call with all its arguments -/
structure Cal (P : Program) (w : World) (K : PySem.W.Frag) (mg : Str → Option Value) (base : Heap) (k : Nat) (x : Str) (n : Nat) (F : Fn) (L : Lk) : Prop where
  ex : ∃ (a : Addr) (fd : FuncData) (ps : List Str), FnOk P w K mg base (L2N.CX P w) k a fd ps (spD K mg n F L) ∧ mg x = some (.ref a) ∧ PySem.W.keepIn K (.ref a) = true ∧ Binds K fd ps []
  len : ∀ ds s r, F ds s = some r → ds.length = n
/-- .. with defaults for the last -/
structure CalD (P : Program) (w : World) (K : PySem.W.Frag) (mg : Str → Option Value) (base : Heap) (k : Nat) (x : Str) (n : Nat) (F : Fn) (L : Lk) (dds : List D) : Prop where
  ex : ∃ (a : Addr) (fd : FuncData) (ps : List Str) (dvs : List V) (dus : List Value), FnOk P w K mg base (L2N.CX P w) k a fd ps (spD K mg n F L) ∧ mg x = some (.ref a) ∧ PySem.W.keepIn K (.ref a) = true ∧ Binds K fd ps dus ∧ Vals dvs dus ∧ AtomsOf mg dvs dds
  len : ∀ ds s r, F ds s = some r → ds.length = n
/-- .. by names -/
structure CalK (P : Program) (w : World) (K : PySem.W.Frag) (mg : Str → Option Value) (base : Heap) (k : Nat) (x : Str) (n : Nat) (F : Fn) (L : Lk) (ks : List Str) (is : List Nat) : Prop where
  ex : ∃ (a : Addr) (fd : FuncData) (ps : List Str), FnOk P w K mg base (L2N.CX P w) k a fd ps (spD K mg n F L) ∧ mg x = some (.ref a) ∧ PySem.W.keepIn K (.ref a) = true ∧ KPerm K fd ps ks is
  len : ∀ ds s r, F ds s = some r → ds.length = n
/-- an own class of errors with the field value -/
structure ECls (P : Program) (w : World) (K : PySem.W.Frag) (mg : Str → Option Value) (base : Heap) (c : Str) : Prop where
  ex : ∃ (C fI : Addr) (fd : FuncData), XCls K mg c C fI ∧ FnOk P w K mg base (L2N.CX P w) 1 fI fd initN (spInit K) ∧ Binds K fd initN [] ∧ ExcC K C ∧ XfC K C
theorem passF {X : Cx} : Passes (L2N.CX X.prog X.w) X (fun _ _ _ => False) := passN
section
variable {X : Cx} {Wx : WX} {Γ Γ1 Γ2 : List Kd} {e fn : Expr} {es : List Expr} {kws : List Keyword} {L M Lf Lr : Lk} {fa : SemA} {f : SemE} {g : SemS} {pos p np pos' : Pos} {k j n i : Nat} {x c : Str} {F : Fn} {dds : List D} {ks : List Str} {is : List Nat} {s : Stmt} {ss : List Stmt}
theorem de_callC (C : Cal X.prog X.w X.K X.mg X.base k x n F Lf) (hr : Room j X.A) (ha : DA X Γ (e :: es) L fa) (hj : k ≤ j := by decide) (hg : Gl X x := by rfl) (hdb : (x == ("__debug__" : Str)) = false := by decide)
    (he : starEach (e :: es) X.env = (false, eval e X.env) :: starEach es X.env := by rfl) (hpl : (backTo pos (starEach es X.env)).any (·.1) = false := by rfl) : DE X Γ (.Call (.Name x p) (e :: es) [] pos) (Lf.call L) (cCall F fa) := by
  obtain ⟨a, fd, ps, G, hm, hk, hb⟩ := C.ex
  exact de_call G (hr.mono hj) hm hk hb C.len ha hg hdb he hpl
theorem de_callC0 (C : Cal X.prog X.w X.K X.mg X.base k x n F Lf) (hr : Room j X.A) (hj : k ≤ j := by decide) (hg : Gl X x := by rfl) (hdb : (x == ("__debug__" : Str)) = false := by decide) : DE X Γ (.Call (.Name x p) [] [] pos) (Lf.call Lk.f0) (cCall F cNil) := by
  obtain ⟨a, fd, ps, G, hm, hk, hb⟩ := C.ex
  exact de_call0 G (hr.mono hj) hm hk hb C.len hg hdb
theorem dx_callC (tk : L2N.Takes X Wx) (C : Cal X.prog X.w X.K X.mg X.base k x n F Lf) (hr : Room j X.A) (ha : DA X Γ (e :: es) L fa) (hj : k ≤ j := by decide) (hg : Gl X x := by rfl) (hdb : (x == ("__debug__" : Str)) = false := by decide)
    (he : starEach (e :: es) X.env = (false, eval e X.env) :: starEach es X.env := by rfl) (hpl : (backTo pos (starEach es X.env)).any (·.1) = false := by rfl) : DX X Wx Γ (.Call (.Name x p) (e :: es) [] pos) (Lf.call L) (cCallX F fa) := by
  obtain ⟨a, fd, ps, G, hm, hk, hb⟩ := C.ex
  exact dx_call tk G (hr.mono hj) hm hk hb C.len ha hg hdb he hpl
theorem de_callCD (C : CalD X.prog X.w X.K X.mg X.base k x n F Lf dds) (hr : Room j X.A) (ha : DA X Γ (e :: es) L fa) (hj : k ≤ j := by decide) (hg : Gl X x := by rfl) (hdb : (x == ("__debug__" : Str)) = false := by decide)
    (he : starEach (e :: es) X.env = (false, eval e X.env) :: starEach es X.env := by rfl) (hpl : (backTo pos (starEach es X.env)).any (·.1) = false := by rfl) : DE X Γ (.Call (.Name x p) (e :: es) [] pos) (Lf.call L) (cCall F (cDfl dds fa)) := by
  obtain ⟨a, fd, ps, dvs, dus, G, hm, hk, hb, hv, hd⟩ := C.ex
  exact de_callD G (hr.mono hj) hm hk hb hv hd C.len ha hg hdb he hpl
theorem de_callCK {m : Nat} (C : CalK X.prog X.w X.K X.mg X.base k x n F Lf ks is) (hr : Room j X.A) (ha : DK X Γ kws L fa) (hm : ks.length = m := by rfl) (hj : k ≤ j := by decide) (hg : Gl X x := by rfl)
    (hall : (backToKw pos (keywordEach kws X.env)).all (·.1.isSome) = true := by rfl) (hks : (backToKw pos (keywordEach kws X.env)).filterMap (·.1) = ks := by rfl) (hdb : (x == ("__debug__" : Str)) = false := by decide)
    (hpl : ((backTo pos (starEach [] X.env)).any (·.1) || (backToKw pos (keywordEach kws X.env)).any (·.1.isNone)) = false := by rfl) : DE X Γ (.Call (.Name x p) [] kws pos) (Lf.call L) (cCall F (cPerm m is fa)) := by
  subst hm
  obtain ⟨a, fd, ps, G, hm, hk, hb⟩ := C.ex
  exact de_callK G (hr.mono hj) hm hk hb C.len ha hg hall hks hdb hpl
theorem dn_of (C : Cal X.prog X.w X.K X.mg X.base k x n F Lf) (hr : Room j X.A) (hj : k ≤ j := by decide) : Dn X x n F Lf := by
  obtain ⟨a, fd, ps, G, hm, hk, hb⟩ := C.ex
  exact ⟨⟨k, a, fd, ps, G, hr.mono hj, hm, hk, hb⟩, C.len⟩
theorem de_gloC (C : Cal X.prog X.w X.K X.mg X.base k x n F Lf) (hg : Gl X x := by rfl) (hd : (x == ("__debug__" : Str)) = false := by decide) : DE X Γ (.Name x pos) Lk.f0 (cC (.glo x)) := by
  obtain ⟨a, fd, ps, G, hm, hk, hb⟩ := C.ex
  exact de_glo hm hg hd
theorem ds_raiseC (hc : X.calm = true) (tk : L2N.Takes X Wx) (C : ECls X.prog X.w X.K X.mg X.base c) (hr : Room j X.A) (ha : DA X Γ [e] L fa) (hj : 2 ≤ j := by decide) (hg : Gl X c := by rfl) (hdb : (c == ("__debug__" : Str)) = false := by decide)
    (he : starEach [e] X.env = (false, eval e X.env) :: starEach [] X.env := by rfl) (hpl : (backTo pos (starEach [] X.env)).any (·.1) = false := by rfl) : DS X Wx Γ (.Raise (some (.Call (.Name c np) [e] [] pos)) none pos') Γ1 Lr (cRaise c fa) := by
  obtain ⟨C, fI, fd, XC, G, hb, _, _⟩ := C.ex
  exact ds_raise hc tk XC G (hr.mono hj) hb passF ha hg hdb he hpl
/-! ### with the kinds told -/
theorem ds_setW {pos' : Pos} (hN : X.N.Nodup) (he : DE X Γ e L f) (hl : L.free = true := by rfl) (hi : X.N[i]? = some x := by rfl) (hx : Loc X.env.scope x := by first | exact Or.inl rfl | exact Or.inr rfl) (hk : i < Γ.length := by decide)
    (hs : swapsWith e (some (.Name x pos')) pos.line X.env = pure false := by rfl) (hf : X.fn x = true ∨ X.env.scope.names.lookup x = some .local := by first | exact .inl rfl | exact .inr rfl) (hw : wk (Γ.set i L.kd) Γ1 = true := by rfl) :
    DS X Wx Γ (.Assign [.Name x pos'] e pos) Γ1 Lr (cSet i f) := ds_weak (ds_set hN he hl hi hx hk hs hf) hw
theorem dss_nilW (hw : wk Γ Γ1 = true := by rfl) : DSs X Wx Γ [] Γ1 Lr cSkip := dss_weak dss_nil hw
theorem dsx_setW {h : (D → Env → Store → Option SR) → SemS} {pos' : Pos} (hN : X.N.Nodup) (hd : DX X Wx Γ e L h) (hl : L.free = true := by rfl) (hi : X.N[i]? = some x := by rfl) (hx : Loc X.env.scope x := by first | exact Or.inl rfl | exact Or.inr rfl) (hk : i < Γ.length := by decide)
    (hs : swapsWith e (some (.Name x pos')) pos.line X.env = pure false := by rfl) (hf : X.fn x = true ∨ X.env.scope.names.lookup x = some .local := by first | exact .inl rfl | exact .inr rfl) (hw : wk (Γ.set i L.kd) Γ1 = true := by rfl) :
    DS X Wx Γ (.Assign [.Name x pos'] e pos) Γ1 Lr (h (gPut i)) := ds_weak (dsx_set hN hd hl hi hx hk hs hf) hw
theorem de_sub {M' : Lk} {f h : SemE} {a b : Expr} (ha : DE X Γ a L f) (hb : DE X Γ b M' h) (hs : PlainIx b := by exact fun _ _ => rfl) : DE X Γ (.Subscript a b pos) L.part (cOp ixD f h) := de_ix dix ha hb hs
end

/-! ### a def's rule, its facts -/
section
variable {P : Program} {w : World} {K : PySem.W.Frag} {mg : Str → Option Value} {base : Heap} {x qual : Str} {params : Arguments} {body : List Stmt} {scope : Scope} {kws : List (Str × V)} {a : Addr} {fd : FuncData} {ps : List Str} {k n : Nat} {F : Fn} {L : Lk}
theorem cal_mk (FD : FunD K x qual params body scope [] kws a fd) (hm : mg x = some (.ref a)) (G : FnOk P w K mg base (L2N.CX P w) k a fd ps (spD K mg n F L)) (hF : ∀ ds s r, F ds s = some r → ds.length = n)
    (hb : ∀ (kV doc pm : Value) (an : Option Addr) (cdv ct : Value) (us : List Value), us.length = ps.length → bindArgs (PySem.W.fnOf x qual params body scope .none kV doc pm an cdv ct) ⟨us, []⟩ = pure (ps.zip us)) : Cal P w K mg base k x n F L :=
  ⟨⟨a, fd, ps, G, hm, FD.kp, FD.bindsN hb⟩, hF⟩
theorem calk_mk {ks : List Str} {is : List Nat} (FD : FunD K x qual params body scope [] kws a fd) (hm : mg x = some (.ref a)) (G : FnOk P w K mg base (L2N.CX P w) k a fd ps (spD K mg n F L)) (hF : ∀ ds s r, F ds s = some r → ds.length = n)
    (hb : ∀ (kV doc pm : Value) (an : Option Addr) (cdv ct : Value) (ws : List Value), ws.length = ks.length → bindArgs (PySem.W.fnOf x qual params body scope .none kV doc pm an cdv ct) ⟨[], ks.zip ws⟩ = pure (ps.zip (permL is ws))) : CalK P w K mg base k x n F L ks is := by
  refine ⟨⟨a, fd, ps, G, hm, FD.kp, ?_⟩, hF⟩
  obtain ⟨oc, od, dV, kV, doc, pm, an, cdv, ct, osl, rfl, lk, hcd, hD, hK⟩ := FD.ex
  rcases hD with ⟨_, rfl⟩ | ⟨e, _⟩
  · exact fun s ws _ hl => .of_eq (hb kV doc pm an cdv ct ws hl)
  · exact absurd rfl e
theorem calD_all {dvs : List V} (hd : dvs ≠ []) (FD : FunD K x qual params body scope dvs kws a fd) (hm : mg x = some (.ref a)) (G : FnOk P w K mg base (L2N.CX P w) k a fd ps (spD K mg n F L)) (hF : ∀ ds s r, F ds s = some r → ds.length = n)
    (h : ∀ (T : Addr) (kV doc pm : Value) (an : Option Addr) (cdv ct : Value) (us its : List Value), us.length = ps.length → its.length = dvs.length →
      ∃ k, bindArgs (PySem.W.fnOf x qual params body scope (.ref T) kV doc pm an cdv ct) ⟨us, []⟩ = seqItems? (.ref T) >>= k ∧ k (some its.toArray) = pure (ps.zip us)) : Cal P w K mg base k x n F L := by
  obtain ⟨dus, hv, hb⟩ := FD.binds1 (ps := ps) ps.length dvs.length hd (by omega) fun T kV doc pm an cdv ct us its h1 h2 => by
    obtain ⟨k, e1, e2⟩ := h T kV doc pm an cdv ct us its h1 h2
    refine ⟨k, e1, ?_⟩
    rw [e2, ← h2, List.drop_length, List.append_nil]
  have : dus = [] := by
    rw [List.drop_length] at hv
    cases hv; rfl
  subst this
  exact ⟨⟨a, fd, ps, G, hm, FD.kp, hb⟩, hF⟩
theorem calD_mk {dvs : List V} {m j : Nat} {dds : List D} (hd : dvs ≠ []) (FD : FunD K x qual params body scope dvs kws a fd) (hm : mg x = some (.ref a)) (G : FnOk P w K mg base (L2N.CX P w) k a fd ps (spD K mg n F L)) (hF : ∀ ds s r, F ds s = some r → ds.length = n)
    (hn : m + (dvs.length - j) = ps.length) (hat : AtomsOf mg (dvs.drop j) dds)
    (h : ∀ (T : Addr) (kV doc pm : Value) (an : Option Addr) (cdv ct : Value) (us its : List Value), us.length = m → its.length = dvs.length →
      ∃ k, bindArgs (PySem.W.fnOf x qual params body scope (.ref T) kV doc pm an cdv ct) ⟨us, []⟩ = seqItems? (.ref T) >>= k ∧ k (some its.toArray) = pure (ps.zip (us ++ its.drop j))) : CalD P w K mg base k x n F L dds := by
  obtain ⟨dus, hv, hb⟩ := FD.binds1 (ps := ps) m j hd hn h
  exact ⟨⟨a, fd, ps, dvs.drop j, dus, G, hm, FD.kp, hb, hv, hat⟩, hF⟩
theorem fnok_none {ps : List Str} {dvs : List V} {N : List Str} (FD : FunD K x qual params body scope dvs kws a fd) (S : FnScope N ps scope) : FnOk P w K mg base (L2N.CX P w) 1 a fd ps (spD K mg n (fun _ _ => none) L) :=
  FD.ok (k := 0) S (fun vs H Q E h => by obtain ⟨_, _, _, _, _, _, _, _, _, z, _⟩ := h; cases z) fun cdv A outer s H vs Q E hr h => by
    obtain ⟨_, _, _, _, _, _, _, _, _, z, _⟩ := h; cases z
theorem FnOk.mono' {sp : Sp} {j : Nat} (G : FnOk P w K mg base (L2N.CX P w) k a fd ps sp) (h : k ≤ j) : FnOk P w K mg base (L2N.CX P w) j a fd ps sp :=
  ⟨G.len, fun A outer s H args us vs Q E hr => G.run A outer s H args us vs Q E (hr.mono h)⟩
end
end DL

set_option Elab.async false
set_option linter.all false
set_option maxRecDepth 100000
/-! DL22: more for the printer: operators whose answer is an int, the suite's names. -/
namespace DL
open PySem PySem.Spec PyProof.Rows L2 L2H

def addI : D → D → Option D := iop (fun _ _ => true) fun i j => i + j
section
variable {X : Cx} {Γ : List Kd} {a b : Expr} {L M : Lk} {f h : SemE} {pos : Pos} {g : D → D → Option D} {op : Operator}
theorem dop_addI : DOp X (binaryOp .Add) addI := by
  refine dop_int (C := fun _ _ => True) (fun pins s σ H x y v u Q I rx ry h => ?_) (fun _ _ _ => trivial)
  obtain ⟨i, j, e1, e2, _, q⟩ := h
  exact op_add pins s σ H x y v u Q I rx ry ⟨i, j, e1, e2, q⟩
theorem iop_atom {c : Int → Int → Bool} {k : Int → Int → Int} : ∀ x y d, iop c k x y = some d → d.atom = true := fun x y d h => by
  unfold iop at h
  split at h
  · split at h
    · cases h; rfl
    · cases h
  · cases h
theorem RepL.atom {K : PySem.W.Frag} {mg : Str → Option Value} {W W' : Wd} {L M : Lk} {v : V} {d : D} (r : RepL K mg W W' L v d) (h : d.atom = true) : RepL K mg W W' M v d := Rep.atom r h
theorem de_opI (ho : DOp X (binaryOp op) g) (hg : ∀ x y d, g x y = some d → d.atom = true) (ha : DE X Γ a L f) (hb : DE X Γ b M h) : DE X Γ (.BinOp a op b pos) Lk.f0 (cOp g f h) := by
  obtain ⟨t, h1, h2⟩ := (de_op (pos := pos) ho ha hb).ex
  refine ⟨t, h1, fun ρ st σ W d st' rel hf Q q => h2 ρ st σ W d st' rel hf Q fun v W' s r rv => ?_⟩
  obtain ⟨x, s1, y, _, _, e3⟩ := cOp_some hf
  exact q v W' s r (rv.atom (hg x y d e3))
end
/-- an int, whatever the slot's kind -/
def cAtom (f : SemE) : SemE := fun ρ st => match f ρ st with
  | some (d, s) => if d.atom = true then some (d, s) else none
  | none => none
theorem de_atom {X : Cx} {Γ : List Kd} {e : Expr} {L : Lk} {f : SemE} (he : DE X Γ e L f) : DE X Γ e Lk.f0 (cAtom f) := by
  obtain ⟨t, h1, h2⟩ := he.ex
  refine ⟨t, h1, fun ρ st σ W d st' rel hf Q q => ?_⟩
  unfold cAtom at hf
  split at hf
  · rename_i d1 s1 e1
    split at hf
    · rename_i ha
      cases hf
      exact h2 ρ st σ W _ _ rel e1 Q fun v W' s r rv => q v W' s r (rv.atom ha)
    · cases hf
  · cases hf
def PLen (g : SemP) (m : Nat) : Prop := ∀ ρ st ps s, g ρ st = some (ps, s) → ps.length = m
theorem pl_nil : PLen cPnil 0 := fun _ _ _ _ h => by cases h; rfl
theorem pl_cons {f h : SemE} {g : SemP} {m : Nat} (k : PLen g m) : PLen (cPcons f h g) (m + 1) := fun ρ st ps s e => by
  unfold cPcons at e
  split at e
  · split at e
    · split at e
      · split at e
        · rename_i e3
          cases e
          exact congrArg (· + 1) (k _ _ _ _ e3)
        · cases e
      · cases e
    · cases e
  · cases e

/-! ### calls whose arguments are atoms: what is told is all new -/
def Wd.bare (W1 : Wd) : Wd := ⟨W1.H, fun _ => False, noR, W1.adr, W1.N⟩
def cCallA (F : Fn) (f : SemA) : SemE := fun ρ st => match f ρ st with
  | some (ds, s1) => if ds.all D.atom = true ∧ flatSt s1 = true then match F ds s1 with
    | some (.ok d s2) => if flatSt s2 then some (d, s2) else none
    | _ => none
    else none
  | none => none
theorem cCallA_some {F : Fn} {f : SemA} {ρ : Env} {st st' : Store} {d : D} (h : cCallA F f ρ st = some (d, st')) : ∃ ds s1, f ρ st = some (ds, s1) ∧ ds.all D.atom = true ∧ flatSt s1 = true ∧ F ds s1 = some (.ok d st') ∧ flatSt st' = true := by
  unfold cCallA at h
  split at h
  · rename_i ds s1 e1
    split at h
    · rename_i hc
      split at h
      · rename_i d' s2 e2
        split at h
        · rename_i hf
          cases h
          exact ⟨ds, s1, e1, hc.1, hc.2, e2, hf⟩
        · cases h
      · cases h
    · cases h
  · cases h
section
variable {K : PySem.W.Frag} {mg : Str → Option Value} {W W1 W2 : Wd} {Γ : List Kd} {ρ : Env} {σ : L2.St} {st st' : Store} {L Lf : Lk}
theorem bare_ok (ok : W1.Ok) : W1.bare.Ok := ⟨fun _ z => z.elim, fun _ _ z => z.elim, ok.c, fun _ _ z => z.elim, fun _ _ _ z => z.elim, fun _ z => z.elim, fun _ _ z => z.elim, ok.inj⟩
theorem bare_step (s : StStep W1.bare W2) : ExStep W1 (W1.back W2) where
  keep := fun a o h c => s.keep a o h c fun ⟨_, z⟩ => z.elim
  dom := s.dom
  sh := fun _ h => h
  shb := fun _ h => .inl h
  rb := rfl
  cn := s.cn
  ca := s.ca
  cnew := s.cnew
  tup := s.tup
theorem bare_back (ok : W1.Ok) (s : StStep W1.bare W2) (ok2 : W2.Ok) : (W1.back W2).Ok where
  sh := fun a h => s.dom a (ok.sh a h)
  r := fun i a h => s.dom a (ok.r i a h)
  c := ok2.c
  shr := ok.shr
  rr := ok.rr
  shc := fun a h z => (cl_back (W := W1.bare) s.cn s.ca s.cnew z).elim (ok.shc a h) fun q => ok.sh a h q
  rc := fun i a h z => (cl_back (W := W1.bare) s.cn s.ca s.cnew z).elim (ok.rc i a h) fun q => ok.r i a h q
  inj := ok2.inj
theorem bare_rep (st1 : ExStep W W1) (ok : W1.Ok) (s : StStep W1.bare W2) (ok2 : W2.Ok) (hR : W2.R = noR) (hts : Lf.ts = false) {v : V} {d : D} (h : RepL K mg W1.bare W2 Lf v d) : RepL K mg W (W1.back W2) Lk.f0 v d := by
  have nr : ∀ {a : Addr}, ¬ W2.RR a := fun ⟨i, z⟩ => by rw [hR] at z; exact z
  have new : ∀ {a : Addr}, W1.H a = none → W2.H a ≠ none → ¬ W2.Cl a → Fr W (W1.back W2) a := fun {a} e1 e2 e3 => ⟨none_back (st1.dom a) e1, e2, fun z => ok.sh a z e1, fun ⟨i, z⟩ => ok.r i a z e1, e3⟩
  have ofSh : ∀ {a : Addr}, W2.Sh a → Fr W (W1.back W2) a := fun {a} z => by
    rcases s.shb a z with y | ⟨_, y⟩ | y
    · exact y.elim
    · exact y.elim
    · exact new y (ok2.sh a z) (ok2.shc a z)
  have fin : ∀ {t u : Prop} {a : Addr}, (t ∧ W2.Sh a) ∨ (u ∧ W2.RR a) ∨ Fr W1.bare W2 a → Fr W (W1.back W2) a := fun {t u a} z => by
    rcases z with y | y | y
    · exact ofSh y.2
    · exact absurd y.2 nr
    · exact new y.1 y.2.1 y.2.2.2.2
  exact Rep.mono (fun a z => ⟨.inr (.inr (fin z.1)), fun _ => z.2 hts⟩) (fun _ _ _ e => e) (Nat.le_refl _) (fun _ _ => rfl) (fun a z => .inr (.inr (fin z))) (fun _ _ _ e => e) h
end
section
variable {X : Cx} {Wx : WX} {Γ : List Kd} {e : Expr} {es : List Expr} {kws : List Keyword} {L Lf : Lk} {fa : SemA} {pos p : Pos} {k j n : Nat} {x : Str} {F : Fn} {ks : List Str} {is : List Nat}
theorem call_coreA {t : TA} (sem : ASem X Γ L fa t) (hts : Lf.ts = false) {ρ : Env} {st st' : Store} {σ : L2.St} {W : Wd} {d : D} {n : Nat} (rel : Rel X.K X.mg Γ ρ st σ W) (hf : cCallA F fa ρ st = some (d, st')) (hn : ∀ ds s r, F ds s = some r → ds.length = n) {Q : VK} (q : PostE X Γ ρ st' σ W Lk.f0 d Q) :
    t σ W.H (fun vs H1 => spD X.K X.mg n F Lf vs H1 Q E0) := by
  obtain ⟨ds, s1, e1, hat, hf1, e2, hfl⟩ := cCallA_some hf
  refine sem ρ st σ W ds s1 rel e1 _ fun vs W1 st1 r1 rvs => ?_
  have hN : s1.length = W1.N := r1.st.len
  refine ⟨(Paired.len rvs).trans (hn _ _ _ e2), (fun _ => False), W1.adr, ds, s1, .ok d st', ?_, ?_, ?_, e2, ?_⟩
  · rw [hN]; exact bare_ok r1.ok
  · rw [hN]; exact StOk.flat (Sh := fun _ => False) (R := noR) r1.st hf1
  · rw [hN]; exact RepLs.atoms rvs hat
  · rw [hN]
    intro v W2 s2 ok2 hR so2 rv
    exact q v (W1.back W2) (st1.trans (bare_step s2)) ⟨bare_back r1.ok s2 ok2, r1.sl.step r1.ok (bare_step s2), so2.flat hfl, r1.len⟩ (bare_rep st1 r1.ok s2 ok2 hR hts rv)
theorem de_callA (C : Cal X.prog X.w X.K X.mg X.base k x n F Lf) (hr : Room j X.A) (ha : DA X Γ (e :: es) L fa) (hts : Lf.ts = false := by rfl) (hj : k ≤ j := by decide) (hg : Gl X x := by rfl) (hdb : (x == ("__debug__" : Str)) = false := by decide)
    (he : starEach (e :: es) X.env = (false, eval e X.env) :: starEach es X.env := by rfl) (hpl : (backTo pos (starEach es X.env)).any (·.1) = false := by rfl) : DE X Γ (.Call (.Name x p) (e :: es) [] pos) Lk.f0 (cCallA F fa) := by
  obtain ⟨a, fd, ps, G, hm, hk, hb⟩ := C.ex
  obtain ⟨t, h1, h2⟩ := ha.ex
  refine ⟨_, pe_call G (hr.mono hj) hg hm hk hb .nil passN h1 hdb he hpl, fun ρ st σ W d st' rel hf Q q => ?_⟩
  show t σ W.H (fun vs H1 => spD X.K X.mg n F Lf (vs ++ []) H1 Q E0)
  simp only [List.append_nil]
  exact call_coreA h2 hts rel hf C.len q
theorem de_callAK {m : Nat} (C : CalK X.prog X.w X.K X.mg X.base k x n F Lf ks is) (hr : Room j X.A) (ha : DK X Γ kws L fa) (hm : ks.length = m := by rfl) (hts : Lf.ts = false := by rfl) (hj : k ≤ j := by decide) (hg : Gl X x := by rfl)
    (hall : (backToKw pos (keywordEach kws X.env)).all (·.1.isSome) = true := by rfl) (hks : (backToKw pos (keywordEach kws X.env)).filterMap (·.1) = ks := by rfl) (hdb : (x == ("__debug__" : Str)) = false := by decide)
    (hpl : ((backTo pos (starEach [] X.env)).any (·.1) || (backToKw pos (keywordEach kws X.env)).any (·.1.isNone)) = false := by rfl) : DE X Γ (.Call (.Name x p) [] kws pos) Lk.f0 (cCallA F (cPerm m is fa)) := by
  subst hm
  obtain ⟨a, fd, ps, G, hm, hk, hb⟩ := C.ex
  obtain ⟨t, h1, h2⟩ := ha.ex
  refine ⟨_, pe_callKW G (hr.mono hj) hg hm hk hb passN h1 hall hks hdb hpl, fun ρ st σ W d st' rel hf Q q => ?_⟩
  exact call_coreA (asem_pm h2) hts rel hf C.len q
end
end DL

set_option Elab.async false
set_option linter.all false
set_option maxRecDepth 100000
/-! DL23: a comprehension over a range in an except suite. -/
namespace DL
open PySem PySem.Spec PyProof.Rows L2 L2H

theorem hot_su {X : Cx} {a : Addr} {oe : Obj} {pn : List (Addr × Obj)} {cls : Value} {d : Option Addr} (hz : L2N.Zn cls d oe) (hf : ∃ vs, oe.data = .fields vs) : HotC (X.suite a ((a, oe) :: pn)) := by
  obtain ⟨vs, hv⟩ := hf
  exact ⟨(a, oe), ⟨rfl, vs, hv, hz.2.2 vs hv⟩, List.mem_cons_self⟩
structure DIH (X : Cx) (Γ : List Kd) (tg iter : Expr) (f : SemI) : Prop where
  ex : ∃ wi, PIH X tg iter wi ∧ ∀ ρ st σ W ds st', Rel X.K X.mg Γ ρ st σ W → f ρ st = some (ds, st') → ∀ R : It → Hp → Prop,
    (∀ J W1, ExStep W W1 → Rel X.K X.mg Γ ρ st' σ W1 → Feeds X.K X.mg W1 J ds → R J W1.H) → wi σ W.H R
section
variable {X : Cx} {Γ : List Kd} {tg iter elt a : Expr} {ifs : List Expr} {L : Lk} {fa : SemA} {f : SemE} {fi : SemI} {fb : SemB} {gh : SemG} {is : List Nat} {pos p : Pos} {scope : Scope} {own : List (Str × Nat)}
theorem dih_range1 (ha : DA X Γ [a] L fa) (hm : X.mg "range" = none) (hg : Gl X "range" := by rfl) (hs : starEach [a] X.env = [(false, eval a X.env)] := by rfl) : DIH X Γ tg (.Call (.Name "range" p) [a] [] pos) (cRng1 fa) := by
  obtain ⟨t, h1, h2⟩ := ha.ex
  refine ⟨_, pi_range1H hg hm h1 hs, fun ρ st σ W ds st' rel hf R q => ?_⟩
  unfold cRng1 at hf
  split at hf
  · rename_i j s1 e1
    split at hf
    · rename_i hj
      cases hf
      refine h2 ρ st σ W _ _ rel e1 _ fun vs W1 st1 r1 rv => ?_
      obtain ⟨v, rfl, rv'⟩ := reps1 rv
      cases rep_int rv'
      exact ⟨j, rfl, hj.1, hj.2, q _ W1 st1 r1 feeds_range⟩
    · cases hf
  · cases hf
theorem de_lcH (hot : HotC X) (hN : X.N.Nodup) (hi : DIH X Γ tg iter fi) (ok : BlkOk X.N X.env.scope scope own) (hsub : ∀ i ∈ is, i ∈ own.map (·.2))
    (hg : ∀ (s : Shared) (H : Hp) (C : Addr) (cl : List (Str × Addr)) (fp : List Addr), DG (X.blk s H scope (compEnvC scope cl C X.env) fp) Γ tg is gh)
    (ht : ∀ (s : Shared) (H : Hp) (C : Addr) (cl : List (Str × Addr)) (fp : List Addr), DTs (X.blk s H scope (compEnvC scope cl C X.env) fp) Γ ifs fb)
    (he : ∀ (s : Shared) (H : Hp) (C : Addr) (cl : List (Str × Addr)) (fp : List Addr), DE (X.blk s H scope (compEnvC scope cl C X.env) fp) Γ elt L f)
    (hs : ∀ x, foldedSetIterable iter X.env x = pure x := by intro _; rfl) :
    DE X Γ (.ListComp elt [⟨tg, iter, ifs, 0⟩] scope pos) L.over (cLc (own.map (·.2)) fi gh fb f) := by
  obtain ⟨wi, i1, i2⟩ := hi.ex
  obtain ⟨gT, tT, eT, pg, pt, pe, sem⟩ := lc_sem hsub hg ht he i2
  exact ⟨_, pe_lcH hot hN i1 ok pg pt pe hs, sem⟩
/-- a new list of atoms -/
def cFlat (f : SemE) : SemE := fun ρ st => match f ρ st with
  | some (.lst ds, s) => if ds.all D.atom = true then some (.lst ds, s) else none
  | _ => none
theorem de_flat {e : Expr} (he : DE X Γ e L f) (h1 : L.ts = false := by rfl) (h2 : L.tr = false := by rfl) : DE X Γ e Lk.f0 (cFlat f) := by
  obtain ⟨t, t1, t2⟩ := he.ex
  refine ⟨t, t1, fun ρ st σ W d st' rel hf Q q => ?_⟩
  unfold cFlat at hf
  split at hf
  · rename_i ds s1 e1
    split at hf
    · rename_i hat
      cases hf
      refine t2 ρ st σ W _ _ rel e1 Q fun v W' s r rv => q v W' s r ?_
      cases rv with
      | lst h ra =>
        refine .lst ⟨h.1, ?_⟩ (ra.atom hat)
        rcases h.2 with z | z | z
        · rw [h1] at z; exact absurd z.1 (by decide)
        · rw [h2] at z; exact absurd z.1 (by decide)
        · exact .inr (.inr z)
    · cases hf
  · cases hf
/-- name = [.. for .. in ..] -/
theorem ds_setLc {Wx : WX} {Γ1 : List Kd} {Lr : Lk} {i : Nat} {y : Str} {py spos : Pos} (hc : X.calm = true) (hN : X.N.Nodup) (hi : DI X Γ tg iter fi) (ok : BlkOk X.N X.env.scope scope own) (hsub : ∀ i ∈ is, i ∈ own.map (·.2))
    (hg : ∀ (s : Shared) (H : Hp) (C : Addr) (cl : List (Str × Addr)) (fp : List Addr), DG (X.blk s H scope (compEnvC scope cl C X.env) fp) Γ tg is gh)
    (ht : ∀ (s : Shared) (H : Hp) (C : Addr) (cl : List (Str × Addr)) (fp : List Addr), DTs (X.blk s H scope (compEnvC scope cl C X.env) fp) Γ ifs fb)
    (he : ∀ (s : Shared) (H : Hp) (C : Addr) (cl : List (Str × Addr)) (fp : List Addr), DE (X.blk s H scope (compEnvC scope cl C X.env) fp) Γ elt L f)
    (hs : ∀ x, foldedSetIterable iter X.env x = pure x := by intro _; rfl) (hl : L.over.free = true := by rfl) (hy : X.N[i]? = some y := by rfl) (hyl : X.env.scope.names.lookup y = some .local := by rfl) (hk : i < Γ.length := by decide) (hw : wk (Γ.set i L.over.kd) Γ1 = true := by rfl)
    (hsw : swapsWith (.ListComp elt [⟨tg, iter, ifs, 0⟩] scope pos) (some (.Name y py)) spos.line X.env = pure true := by rfl) :
    DS X Wx Γ (.Assign [.Name y py] (.ListComp elt [⟨tg, iter, ifs, 0⟩] scope pos) spos) Γ1 Lr (cSet i (cLc (own.map (·.2)) fi gh fb f)) := by
  obtain ⟨wi, i1, i2⟩ := hi.ex
  obtain ⟨gT, tT, eT, pg, pt, pe, sem⟩ := lc_sem hsub hg ht he i2
  refine ds_weak (Γ1 := Γ.set i L.over.kd) ⟨_, ps_setLc (own := own) hc hN hy hyl hsw i1 ok pg pt pe hs, fun ρ st σ W r rel hg D p => ?_⟩ hw
  unfold cSet at hg
  cases ef : cLc (own.map (·.2)) fi gh fb f ρ st with
  | none => rw [ef] at hg; cases hg
  | some y =>
    obtain ⟨d, s1⟩ := y
    rw [ef] at hg
    cases hg
    have hl' : L.over.tr = false ∧ L.over.cr = false := by
      unfold Lk.free at hl
      cases e1 : L.over.tr <;> cases e2 : L.over.cr <;> simp_all
    refine sem ρ st σ W d s1 rel ef _ fun v W1 st1 r1 rv => ?_
    exact p (σ.set i (some v)) (W1.take i (Fr W W1) (ownP L.over.kd v)) (take_step st1) (take_rel r1 rv hl'.1 hl'.2 hk)
end
end DL

set_option Elab.async false
set_option linter.all false
set_option maxRecDepth 100000
/-! DL24: reading meanings: blocks, loops, comprehensions, sorting of ints. -/
namespace DL
open PySem PySem.Spec PyProof.Rows L2

theorem cSeq_nx {g k : SemS} {ρ ρ' : Env} {st st' : Store} (h : g ρ st = some (.nx ρ' st')) : cSeq g k ρ st = k ρ' st' := by unfold cSeq; rw [h]
theorem cSeq_rt {g k : SemS} {ρ : Env} {st st' : Store} {d : D} (h : g ρ st = some (.rt d st')) : cSeq g k ρ st = some (.rt d st') := by unfold cSeq; rw [h]
theorem cSeq_ex {g k : SemS} {ρ : Env} {st st' : Store} {c : Str} {d : D} (h : g ρ st = some (.ex c d st')) : cSeq g k ρ st = some (.ex c d st') := by unfold cSeq; rw [h]
theorem cSet_ok {i : Nat} {f : SemE} {ρ : Env} {st st' : Store} {d : D} (h : f ρ st = some (d, st')) : cSet i f ρ st = some (.nx (ρ.set i (some d)) st') := by unfold cSet; rw [h]
theorem cRet_ok {f : SemE} {ρ : Env} {st st' : Store} {d : D} (h : f ρ st = some (d, st')) : cRet f ρ st = some (.rt d st') := by unfold cRet; rw [h]
theorem cIfS_t {c : SemB} {g h : SemS} {ρ : Env} {st st' : Store} (e : c ρ st = some (true, st')) : cIfS c g h ρ st = g ρ st' := by unfold cIfS; rw [e]
theorem cIfS_f {c : SemB} {g h : SemS} {ρ : Env} {st st' : Store} (e : c ρ st = some (false, st')) : cIfS c g h ρ st = h ρ st' := by unfold cIfS; rw [e]
theorem cIf_t {c : SemB} {g h : SemE} {ρ : Env} {st st' : Store} (e : c ρ st = some (true, st')) : cIf c g h ρ st = g ρ st' := by unfold cIf; rw [e]
theorem cIf_f {c : SemB} {g h : SemE} {ρ : Env} {st st' : Store} (e : c ρ st = some (false, st')) : cIf c g h ρ st = h ρ st' := by unfold cIf; rw [e]
theorem cOp_ok {g : D → D → Option D} {f h : SemE} {ρ : Env} {st s1 s2 : Store} {x y z : D} (e1 : f ρ st = some (x, s1)) (e2 : h ρ s1 = some (y, s2)) (e3 : g x y = some z) : cOp g f h ρ st = some (z, s2) := by
  unfold cOp; rw [e1]; dsimp only; rw [e2]; dsimp only; rw [e3]
theorem cCmp_ok {g : D → D → Option Bool} {f h : SemE} {ρ : Env} {st s1 s2 : Store} {x y : D} {z : Bool} (e1 : f ρ st = some (x, s1)) (e2 : h ρ s1 = some (y, s2)) (e3 : g x y = some z) : cCmp g f h ρ st = some (z, s2) := by
  unfold cCmp; rw [e1]; dsimp only; rw [e2]; dsimp only; rw [e3]
theorem cCons_ok {f : SemE} {g : SemA} {ρ : Env} {st s1 s2 : Store} {d : D} {ds : List D} (e1 : f ρ st = some (d, s1)) (e2 : g ρ s1 = some (ds, s2)) : cCons f g ρ st = some (d :: ds, s2) := by
  unfold cCons; rw [e1]; dsimp only; rw [e2]
theorem cFn_ok {g : List D → Option D} {f : SemA} {ρ : Env} {st s1 : Store} {ds : List D} {d : D} (e1 : f ρ st = some (ds, s1)) (e2 : g ds = some d) : cFn g f ρ st = some (d, s1) := by
  unfold cFn; rw [e1]; dsimp only; rw [e2]
theorem cCall_ok {F : Fn} {f : SemA} {ρ : Env} {st s1 s2 : Store} {ds : List D} {d : D} (e1 : f ρ st = some (ds, s1)) (e2 : F ds s1 = some (.ok d s2)) (hf : flatSt s2 = true) : cCall F f ρ st = some (d, s2) := by
  unfold cCall; rw [e1]; dsimp only; rw [e2]; dsimp only; rw [if_pos hf]
theorem cCallA_ok {F : Fn} {f : SemA} {ρ : Env} {st s1 s2 : Store} {ds : List D} {d : D} (e1 : f ρ st = some (ds, s1)) (ha : ds.all D.atom = true) (h1 : flatSt s1 = true) (e2 : F ds s1 = some (.ok d s2)) (hf : flatSt s2 = true) : cCallA F f ρ st = some (d, s2) := by
  unfold cCallA; rw [e1]; dsimp only; rw [if_pos ⟨ha, h1⟩, e2]; dsimp only; rw [if_pos hf]
theorem cFun_rt {N n : Nat} {g : SemS} {ds : List D} {st s : Store} {d : D} (hl : ds.length = n) (h : g (ds.map some ++ List.replicate (N - n) none) st = some (.rt d s)) : cFun N n g ds st = some (.ok d s) := by
  unfold cFun; rw [if_pos hl, h]
theorem cFun_nx {N n : Nat} {g : SemS} {ds : List D} {st s : Store} {ρ : Env} (hl : ds.length = n) (h : g (ds.map some ++ List.replicate (N - n) none) st = some (.nx ρ s)) : cFun N n g ds st = some (.ok .non s) := by
  unfold cFun; rw [if_pos hl, h]
theorem cFun_ex {N n : Nat} {g : SemS} {ds : List D} {st s : Store} {c : Str} {d : D} (hl : ds.length = n) (h : g (ds.map some ++ List.replicate (N - n) none) st = some (.ex c d s)) : cFun N n g ds st = some (.ex c d s) := by
  unfold cFun; rw [if_pos hl, h]

/-! ### for -/
theorem forD_run {h : SemG} {g : SemS} : ∀ (ds : List D) (E : Nat → Env) (Sg : Nat → Store) (_ : ∀ k d, ds[k]? = some d → ∃ ρ1, h d (E k) = some ρ1 ∧ g ρ1 (Sg k) = some (.nx (E (k + 1)) (Sg (k + 1)))), forD h g ds (E 0) (Sg 0) = some (.nx (E ds.length) (Sg ds.length))
  | [], _, _, _ => rfl
  | d :: ds, E, Sg, hs => by
    obtain ⟨ρ1, e1, e2⟩ := hs 0 d rfl
    unfold forD
    rw [e1]
    dsimp only
    rw [e2]
    exact forD_run ds (fun k => E (k + 1)) (fun k => Sg (k + 1)) fun k d' hd => hs (k + 1) d' (by simpa using hd)
/-- a loop that does not touch the store -/
theorem cFor_run {f : SemI} {h : SemG} {g : SemS} {ρ : Env} {st st' : Store} {ds : List D} (E : Nat → Env) (hf : f ρ st = some (ds, st')) (h0 : E 0 = ρ) (hs : ∀ k d, ds[k]? = some d → ∃ ρ1, h d (E k) = some ρ1 ∧ g ρ1 st' = some (.nx (E (k + 1)) st')) :
    cFor f h g ρ st = some (.nx (E ds.length) st') := by
  unfold cFor
  rw [hf, ← h0]
  exact forD_run ds E (fun _ => st') hs
theorem cFor_runS {f : SemI} {h : SemG} {g : SemS} {ρ : Env} {st st' : Store} {ds : List D} (E : Nat → Env) (Sg : Nat → Store) (hf : f ρ st = some (ds, st')) (h0 : E 0 = ρ) (h1 : Sg 0 = st') (hs : ∀ k d, ds[k]? = some d → ∃ ρ1, h d (E k) = some ρ1 ∧ g ρ1 (Sg k) = some (.nx (E (k + 1)) (Sg (k + 1)))) :
    cFor f h g ρ st = some (.nx (E ds.length) (Sg ds.length)) := by
  unfold cFor
  rw [hf, ← h0, ← h1]
  exact forD_run ds E Sg hs
theorem rng1_ok {f : SemA} {ρ : Env} {st st' : Store} {n : Nat} (hf : f ρ st = some ([.int n], st')) (hn : n < 2 ^ 62) : cRng1 f ρ st = some (rangeD 0 n, st') := by
  unfold cRng1
  rw [hf]
  dsimp only
  rw [if_pos (by omega), Int.toNat_natCast]
theorem rangeD0_get {n k : Nat} {d : D} (h : (rangeD 0 n)[k]? = some d) : k < n ∧ d = .int k := by
  obtain ⟨h1, h2⟩ := rangeD_get 0 n k d h
  exact ⟨h1, by rw [h2]; simp⟩
/-- what a loop's own name holds behind k turns -/
def lastI (k : Nat) : Option D := match k with
  | 0 => none
  | k + 1 => some (.int k)
def lastD (ds : List D) (o : Option D) (k : Nat) : Option D := match k with
  | 0 => o
  | k + 1 => ds[k]?

/-! ### comprehensions -/
theorem lcD_run {h : SemG} {b : SemB} {f : SemE} {ρ : Env} {st : Store} (p : D → Option D) : ∀ (ds acc : List D) (_ : ∀ d, d ∈ ds → ∃ ρ1, h d ρ = some ρ1 ∧ b ρ1 st = some ((p d).isSome, st) ∧ ∀ y, p d = some y → f ρ1 st = some (y, st)) (_ : acc.length + ds.length ≤ sizeLine),
    lcD h b f ρ ds st acc = some (acc ++ ds.filterMap p, st)
  | [], acc, _, _ => by unfold lcD; rw [List.filterMap_nil, List.append_nil]
  | d :: ds, acc, hs, hl => by
    obtain ⟨ρ1, e1, e2, e3⟩ := hs d (List.mem_cons_self ..)
    rw [List.length_cons] at hl
    unfold lcD
    rw [e1]
    dsimp only
    rw [e2]
    cases ep : p d with
    | none =>
      rw [List.filterMap_cons_none ep]
      exact lcD_run p ds acc (fun d' hd => hs d' (List.mem_cons_of_mem _ hd)) (by omega)
    | some y =>
      rw [List.filterMap_cons_some ep]
      show (match f ρ1 st with
        | some (y, s2) => if acc.length < sizeLine then lcD h b f ρ ds s2 (acc ++ [y]) else none
        | none => none) = _
      rw [e3 y ep]
      dsimp only
      rw [if_pos (by omega), lcD_run p ds (acc ++ [y]) (fun d' hd => hs d' (List.mem_cons_of_mem _ hd)) (by rw [List.length_append]; simp only [List.length_cons, List.length_nil]; omega), List.append_assoc]
      rfl
theorem cLc_run {own : List Nat} {fi : SemI} {h : SemG} {b : SemB} {f : SemE} {ρ : Env} {st st' : Store} {ds : List D} (p : D → Option D) (hf : fi ρ st = some (ds, st')) (hs : ∀ d, d ∈ ds → ∃ ρ1, h d (wipeE ρ own) = some ρ1 ∧ b ρ1 st' = some ((p d).isSome, st') ∧ ∀ y, p d = some y → f ρ1 st' = some (y, st')) (hl : ds.length ≤ sizeLine) :
    cLc own fi h b f ρ st = some (.lst (ds.filterMap p), st') := by
  unfold cLc
  rw [hf]
  dsimp only
  rw [lcD_run p ds [] hs (by simpa using hl)]
  rfl
theorem filterMap_some {α β : Type} (f : α → β) (l : List α) : l.filterMap (fun x => some (f x)) = l.map f := by
  induction l with
  | nil => rfl
  | cons a l ih => rw [List.filterMap_cons, List.map_cons, ih]

/-! ### sorting -/
theorem insD_map {α β : Type} {le : α → α → Bool} {le' : β → β → Bool} (f : α → β) (h : ∀ a b, le' (f a) (f b) = le a b) (a : α) : ∀ l : List α, insD le' (f a) (l.map f) = (insD le a l).map f
  | [] => rfl
  | b :: t => by
    rw [List.map_cons]
    unfold insD
    rw [h]
    cases le a b with
    | true => rfl
    | false =>
      rw [if_neg Bool.false_ne_true, if_neg Bool.false_ne_true, insD_map f h a t]
      rfl
theorem isort_map {α β : Type} {le : α → α → Bool} {le' : β → β → Bool} (f : α → β) (h : ∀ a b, le' (f a) (f b) = le a b) : ∀ l : List α, isort le' (l.map f) = (isort le l).map f
  | [] => rfl
  | a :: t => by
    show insD le' (f a) (isort le' (t.map f)) = (insD le a (isort le t)).map f
    rw [isort_map f h t, insD_map f h]
def leI (a b : Int) : Bool := decide (a ≤ b)
def leIs (a b : List Int) : Bool := decide (a ≤ b)
def intsD (xs : List Int) : D := .lst (xs.map .int)
theorem ints_pys : ∀ xs : List Int, D.pys (xs.map .int) = some (xs.map .int)
  | [] => rfl
  | x :: xs => by
    rw [List.map_cons, List.map_cons]
    unfold D.pys
    rw [ints_pys xs]
    rfl
theorem enc_int (i : Int) : (D.int i).enc = .int i := rfl
theorem enc_ints (xs : List Int) : (intsD xs).enc = .list (xs.map .int) := by
  refine enc_of ?_
  show D.py (.lst _) = _
  unfold D.py
  rw [ints_pys]
theorem sortL_ints (xs : List Int) : sortL (xs.map .int) = (isort leI xs).map .int := by
  refine isort_map (le := leI) D.int (fun a b => ?_) xs
  have := congrFun (congrFun (PySem.W.dataLe_int (β := D) fun d => match d with | .int i => i | _ => 0) (.int a)) (.int b)
  exact this
theorem sortL_rows (xs : List (List Int)) : sortL (xs.map intsD) = (isort leIs xs).map intsD := by
  refine isort_map (le := leIs) intsD (fun a b => ?_) xs
  have := congrFun (congrFun (PySem.W.dataLe_rows (β := List Int) fun x => x) a) b
  show PySem.W.dataLe false D.enc (intsD a) (intsD b) = _
  rw [PySem.W.dataLe_eq] at this ⊢
  show (!PySem.W.dataLt (intsD b).enc (intsD a).enc) = _
  rw [enc_ints, enc_ints]
  exact this
theorem sortK_rows (xs : List (List Int)) : sortK (xs.map fun x => x.map Sum.inl) = (isort leIs xs).map fun x => x.map Sum.inl := by
  refine isort_map (le := leIs) (fun x : List Int => (x.map Sum.inl : List Key)) (fun a b => ?_) xs
  have := congrFun (congrFun (PySem.W.dataLe_rows (β := List Int) fun x => x) a) b
  have e : ∀ x : List Int, (keysD (x.map Sum.inl)).enc = .tuple (x.map .int) := fun x => enc_of (by
    show D.py (.tup _) = _
    unfold D.py
    rw [List.map_map]
    show (match D.pys (x.map .int) with | some ps => some (PyData.tuple ps) | none => none) = _
    rw [ints_pys])
  show PySem.W.dataLe false (fun k => (keysD k).enc) (a.map Sum.inl) (b.map Sum.inl) = leIs a b
  rw [PySem.W.dataLe_eq] at this ⊢
  show (!PySem.W.dataLt (keysD (b.map Sum.inl)).enc (keysD (a.map Sum.inl)).enc) = _
  rw [e, e]
  exact this
end DL

set_option Elab.async false
set_option linter.all false
set_option maxRecDepth 100000
/-! DL25: meanings that do not look at the store. -/
namespace DL
open PySem PySem.Spec PyProof.Rows L2

def Pu {α : Type} (f : Env → Store → Option (α × Store)) : Prop := ∀ ρ st, flatSt st = true → f ρ st = (f ρ []).map fun p => (p.1, st)
def SR.wS (st : Store) : SR → SR
  | .nx ρ _ => .nx ρ st
  | .rt d _ => .rt d st
  | .ex c d _ => .ex c d st
def FR.wS (st : Store) : FR → FR
  | .ok d _ => .ok d st
  | .ex c d _ => .ex c d st
def PuS (g : SemS) : Prop := ∀ ρ st, flatSt st = true → g ρ st = (g ρ []).map (SR.wS st)
def PuF (F : Fn) : Prop := ∀ ds st, flatSt st = true → F ds st = (F ds []).map (FR.wS st)
section
variable {α β : Type}
theorem Pu.nil {f : Env → Store → Option (α × Store)} (h : Pu f) {ρ : Env} {x : α} {s : Store} (e : f ρ [] = some (x, s)) : s = [] := by
  have := h ρ [] rfl
  rw [e] at this
  have := congrArg (fun o => o.map Prod.snd) this
  simpa using this
theorem PuS.nil {g : SemS} (h : PuS g) {ρ : Env} {r : SR} (e : g ρ [] = some r) : r = r.wS [] := by
  have := h ρ [] rfl
  rw [e] at this
  simpa using this
theorem PuF.nil {F : Fn} (h : PuF F) {ds : List D} {r : FR} (e : F ds [] = some r) : r = r.wS [] := by
  have := h ds [] rfl
  rw [e] at this
  simpa using this
/-- f, then what follows its value -/
theorem pu_bind {f : Env → Store → Option (α × Store)} {k : α → Env → Store → Option (β × Store)} (hf : Pu f) (hk : ∀ x, Pu (k x)) : Pu (fun ρ st => match f ρ st with
    | some (x, s) => k x ρ s
    | none => none) := fun ρ st hs => by
  dsimp only
  rw [hf ρ st hs]
  cases e : f ρ [] with
  | none => rfl
  | some p =>
    obtain ⟨x, s⟩ := p
    have := hf.nil e
    subst this
    exact hk x ρ st hs
theorem pu_ret (o : Env → Option α) : Pu (fun ρ st => match o ρ with
    | some x => some (x, st)
    | none => none) := fun ρ st hs => by
  dsimp only
  cases o ρ <;> rfl
theorem Pu.eq {f g : Env → Store → Option (α × Store)} (h : Pu f) (e : ∀ ρ st, g ρ st = f ρ st) : Pu g := fun ρ st hs => by rw [e, e, h ρ st hs]
theorem PuS.eq {f g : SemS} (h : PuS f) (e : ∀ ρ st, g ρ st = f ρ st) : PuS g := fun ρ st hs => by rw [e, e, h ρ st hs]
/-- f, then a statement's rest -/
theorem pus_bind {f : Env → Store → Option (α × Store)} {k : α → SemS} (hf : Pu f) (hk : ∀ x, PuS (k x)) : PuS (fun ρ st => match f ρ st with
    | some (x, s) => k x ρ s
    | none => none) := fun ρ st hs => by
  dsimp only
  rw [hf ρ st hs]
  cases e : f ρ [] with
  | none => rfl
  | some p =>
    obtain ⟨x, s⟩ := p
    have := hf.nil e
    subst this
    exact hk x ρ st hs
theorem pus_none : PuS (fun _ _ => none) := fun _ _ _ => rfl
theorem pu_none : Pu (α := α) (fun _ _ => none) := fun _ _ _ => rfl
end
section
variable {f h : SemE} {fb gb : SemB} {fa : SemA} {fi : SemI} {g k : SemS} {F : Fn} {gp : SemP} {i j n m : Nat} {d : D}
theorem pu_var : Pu (cVar i) := fun ρ st hs => by
  unfold cVar
  cases ρ[i]? with
  | none => rfl
  | some o => cases o <;> rfl
theorem pu_c : Pu (cC d) := fun _ _ _ => rfl
theorem pu_nil : Pu cNil := fun _ _ _ => rfl
theorem pu_cons (hf : Pu f) (ha : Pu fa) : Pu (cCons f fa) := (pu_bind hf fun x => pu_bind ha fun xs => pu_ret fun _ => some (x :: xs)).eq fun ρ st => by
  unfold cCons
  rcases f ρ st with _ | ⟨x, s1⟩
  · rfl
  · dsimp only
    rcases fa ρ s1 with _ | ⟨y, s2⟩
    · rfl
    · rfl
theorem pu_lst (ha : Pu fa) : Pu (cLst fa) := (pu_bind ha fun xs => pu_ret fun _ => if xs.length ≤ sizeLine then some (.lst xs) else none).eq fun ρ st => by
  unfold cLst; cases fa ρ st with
  | none => rfl
  | some p => obtain ⟨x, s⟩ := p; dsimp only; split <;> rfl
theorem pu_tup (ha : Pu fa) : Pu (cTup fa) := (pu_bind ha fun xs => pu_ret fun _ => if xs.length ≤ sizeLine then some (.tup xs) else none).eq fun ρ st => by
  unfold cTup; cases fa ρ st with
  | none => rfl
  | some p => obtain ⟨x, s⟩ := p; dsimp only; split <;> rfl
theorem pu_b (hb : Pu fb) : Pu (cB fb) := (pu_bind hb fun b => pu_ret fun _ => some (.bl b)).eq fun ρ st => by
  unfold cB
  rcases fb ρ st with _ | ⟨x, s1⟩
  · rfl
  · rfl
theorem pu_isB (hf : Pu f) : Pu (cIsB f) := (pu_bind hf fun x => pu_ret fun _ => match x with | .bl b => some b | _ => none).eq fun ρ st => by
  unfold cIsB; cases f ρ st with
  | none => rfl
  | some p => obtain ⟨x, s⟩ := p; cases x <;> rfl
theorem pu_not (hb : Pu fb) : Pu (cNot fb) := (pu_bind hb fun b => pu_ret fun _ => some (!b)).eq fun ρ st => by
  unfold cNot
  rcases fb ρ st with _ | ⟨x, s1⟩
  · rfl
  · rfl
theorem pu_and (h1 : Pu fb) (h2 : Pu gb) : Pu (cAnd fb gb) := (pu_bind h1 (k := fun b => if b = true then gb else fun ρ st => some (false, st)) fun b => by
  cases b
  · exact fun _ _ _ => rfl
  · exact h2).eq fun ρ st => by
  unfold cAnd; cases fb ρ st with
  | none => rfl
  | some p => obtain ⟨x, s⟩ := p; cases x <;> rfl
theorem pu_or (h1 : Pu fb) (h2 : Pu gb) : Pu (cOr fb gb) := (pu_bind h1 (k := fun b => if b = true then (fun ρ st => some (true, st)) else gb) fun b => by
  cases b
  · exact h2
  · exact fun _ _ _ => rfl).eq fun ρ st => by
  unfold cOr; cases fb ρ st with
  | none => rfl
  | some p => obtain ⟨x, s⟩ := p; cases x <;> rfl
theorem pu_if (h1 : Pu fb) (h2 : Pu f) (h3 : Pu h) : Pu (cIf fb f h) := (pu_bind h1 (k := fun b => if b = true then f else h) fun b => by
  cases b
  · exact h3
  · exact h2).eq fun ρ st => by
  unfold cIf; cases fb ρ st with
  | none => rfl
  | some p => obtain ⟨x, s⟩ := p; cases x <;> rfl
theorem pu_op {o : D → D → Option D} (h1 : Pu f) (h2 : Pu h) : Pu (cOp o f h) := (pu_bind h1 fun x => pu_bind h2 fun y => pu_ret fun _ => o x y).eq fun ρ st => by
  unfold cOp
  rcases f ρ st with _ | ⟨x, s1⟩
  · rfl
  · dsimp only
    rcases h ρ s1 with _ | ⟨y, s2⟩
    · rfl
    · dsimp only
      rcases o x y with _ | z
      · rfl
      · rfl
theorem pu_cmp {o : D → D → Option Bool} (h1 : Pu f) (h2 : Pu h) : Pu (cCmp o f h) := (pu_bind h1 fun x => pu_bind h2 fun y => pu_ret fun _ => o x y).eq fun ρ st => by
  unfold cCmp
  rcases f ρ st with _ | ⟨x, s1⟩
  · rfl
  · dsimp only
    rcases h ρ s1 with _ | ⟨y, s2⟩
    · rfl
    · dsimp only
      rcases o x y with _ | z
      · rfl
      · rfl
theorem pu_on : Pu cON := fun _ _ _ => rfl
theorem pu_os (hf : Pu f) : Pu (cOS f) := (pu_bind hf fun x => pu_ret fun _ => match x with | .int i => some (some i) | _ => none).eq fun ρ st => by
  unfold cOS; cases f ρ st with
  | none => rfl
  | some p => obtain ⟨x, s⟩ := p; cases x <;> rfl
theorem pu_rev (hf : Pu f) : Pu (cRev f) := (pu_bind hf fun x => pu_ret fun _ => match x with | .lst xs => some (.lst xs.reverse) | _ => none).eq fun ρ st => by
  unfold cRev; cases f ρ st with
  | none => rfl
  | some p => obtain ⟨x, s⟩ := p; cases x <;> rfl
theorem pu_neg (hf : Pu f) : Pu (cNeg f) := (pu_bind hf fun x => pu_ret fun _ => match x with | .int i => some (.int (-i)) | _ => none).eq fun ρ st => by
  unfold cNeg; cases f ρ st with
  | none => rfl
  | some p => obtain ⟨x, s⟩ := p; cases x <;> rfl
theorem pu_bits (hf : Pu f) : Pu (cBits f) := (pu_bind hf fun x => pu_ret fun _ => match x with | .int i => some (.int (Builtin.Int.intBits i : Nat)) | _ => none).eq fun ρ st => by
  unfold cBits; cases f ρ st with
  | none => rfl
  | some p => obtain ⟨x, s⟩ := p; cases x <;> rfl
theorem pu_atom (hf : Pu f) : Pu (cAtom f) := (pu_bind hf fun x => pu_ret fun _ => if x.atom = true then some x else none).eq fun ρ st => by
  unfold cAtom; cases f ρ st with
  | none => rfl
  | some p => obtain ⟨x, s⟩ := p; dsimp only; split <;> rfl
theorem pu_flat (hf : Pu f) : Pu (cFlat f) := (pu_bind hf fun x => pu_ret fun _ => match x with | .lst xs => if xs.all D.atom = true then some (.lst xs) else none | _ => none).eq fun ρ st => by
  unfold cFlat; cases f ρ st with
  | none => rfl
  | some p => obtain ⟨x, s⟩ := p; cases x <;> first | rfl | (dsimp only; split <;> rfl)
theorem pu_is {t : BT} (hf : Pu f) : Pu (cIs t f) := (pu_bind hf fun x => pu_ret fun _ => match x.bt with | some u => some (u.sub t) | none => none).eq fun ρ st => by
  unfold cIs; cases f ρ st with
  | none => rfl
  | some p => obtain ⟨x, s⟩ := p; dsimp only; cases x.bt <;> rfl
theorem pu_isT {ts : List BT} (hf : Pu f) : Pu (cIsT ts f) := (pu_bind hf fun x => pu_ret fun _ => match x.bt with | some u => some (ts.any u.sub) | none => none).eq fun ρ st => by
  unfold cIsT; cases f ρ st with
  | none => rfl
  | some p => obtain ⟨x, s⟩ := p; dsimp only; cases x.bt <;> rfl
theorem pu_sl {o : D → Option Int → Option Int → Option D} {lo hi : Env → Store → Option (Option Int × Store)} (h1 : Pu f) (h2 : Pu lo) (h3 : Pu hi) : Pu (cSl o f lo hi) := (pu_bind h1 fun x => pu_bind h2 fun a => pu_bind h3 fun b => pu_ret fun _ => o x a b).eq fun ρ st => by
  unfold cSl
  rcases f ρ st with _ | ⟨x, s1⟩
  · rfl
  · dsimp only
    rcases lo ρ s1 with _ | ⟨y, s2⟩
    · rfl
    · dsimp only
      rcases hi ρ s2 with _ | ⟨z, s3⟩
      · rfl
      · dsimp only
        rcases o x y z with _ | d
        · rfl
        · rfl
theorem pu_fn {o : List D → Option D} (ha : Pu fa) : Pu (cFn o fa) := (pu_bind ha fun xs => pu_ret fun _ => o xs).eq fun ρ st => by
  unfold cFn
  rcases fa ρ st with _ | ⟨x, s1⟩
  · rfl
  · dsimp only
    rcases o x with _ | d
    · rfl
    · rfl
theorem pu_pnil : Pu cPnil := fun _ _ _ => rfl
theorem pu_pcons (h1 : Pu f) (h2 : Pu h) (h3 : Pu gp) : Pu (cPcons f h gp) := (pu_bind h1 fun x => (pu_bind h2 fun d => pu_bind h3 fun ps => pu_ret fun _ => match x.key with | some k => some ((k, d) :: ps) | none => none)).eq fun ρ st => by
  unfold cPcons
  rcases f ρ st with _ | ⟨x, s1⟩
  · rfl
  · dsimp only
    rcases x.key with _ | k
    · dsimp only
      rcases h ρ s1 with _ | ⟨y, s2⟩
      · rfl
      · dsimp only
        rcases gp ρ s2 with _ | ⟨z, s3⟩
        · rfl
        · rfl
    · dsimp only
      rcases h ρ s1 with _ | ⟨y, s2⟩
      · rfl
      · dsimp only
        rcases gp ρ s2 with _ | ⟨z, s3⟩
        · rfl
        · rfl
theorem pu_disp (hg : Pu gp) : Pu (cDisp gp) := (pu_bind hg fun ps => pu_ret fun _ => some (.dK (mergeD [] ps))).eq fun ρ st => by
  unfold cDisp
  rcases gp ρ st with _ | ⟨x, s1⟩
  · rfl
  · rfl
/-! ### calls -/
theorem puf_call (hF : PuF F) (ha : Pu fa) : Pu (cCall F fa) := fun ρ st hs => by
  unfold cCall
  rw [ha ρ st hs]
  cases e : fa ρ [] with
  | none => rfl
  | some p =>
    obtain ⟨ds, s⟩ := p
    have := ha.nil e
    subst this
    dsimp only [Option.map]
    rw [hF ds st hs]
    cases e2 : F ds [] with
    | none => rfl
    | some r =>
      have := hF.nil e2
      cases r with
      | ok d s2 =>
        cases this
        show (if flatSt st = true then some (d, st) else none) = _
        rw [if_pos hs]; rfl
      | ex c d s2 => rfl
theorem puf_callA (hF : PuF F) (ha : Pu fa) : Pu (cCallA F fa) := fun ρ st hs => by
  unfold cCallA
  rw [ha ρ st hs]
  cases e : fa ρ [] with
  | none => rfl
  | some p =>
    obtain ⟨ds, s⟩ := p
    have := ha.nil e
    subst this
    dsimp only [Option.map]
    by_cases hc : ds.all D.atom = true
    · rw [if_pos ⟨hc, hs⟩, if_pos ⟨hc, rfl⟩, hF ds st hs]
      cases e2 : F ds [] with
      | none => rfl
      | some r =>
        have := hF.nil e2
        cases r with
        | ok d s2 =>
          cases this
          show (if flatSt st = true then some (d, st) else none) = _
          rw [if_pos hs]; rfl
        | ex c d s2 => rfl
    · rw [if_neg (fun z => hc z.1), if_neg (fun z => hc z.1)]
theorem pu_dfl {dds : List D} (ha : Pu fa) : Pu (cDfl dds fa) := (pu_bind ha fun xs => pu_ret fun _ => some (xs ++ dds)).eq fun ρ st => by
  unfold cDfl
  rcases fa ρ st with _ | ⟨x, s1⟩
  · rfl
  · rfl
theorem pu_perm {is : List Nat} (ha : Pu fa) : Pu (cPerm m is fa) := (pu_bind ha fun xs => pu_ret fun _ => if xs.length = m then some (permL is xs) else none).eq fun ρ st => by
  unfold cPerm
  rcases fa ρ st with _ | ⟨x, s1⟩
  · rfl
  · dsimp only
    split <;> rfl
/-! ### what is walked, comprehensions -/
theorem pu_seqI (hf : Pu f) : Pu (cSeqI f) := (pu_bind hf fun x => pu_ret fun _ => match x with | .lst ds => some ds | .tup ds => some ds | .str z => some (z.cps.toList.map fun c => .str ⟨#[c]⟩) | _ => none).eq fun ρ st => by
  unfold cSeqI
  rcases f ρ st with _ | ⟨x, s1⟩
  · rfl
  · cases x <;> rfl
theorem pu_rng1 (ha : Pu fa) : Pu (cRng1 fa) := fun ρ st hs => by
  unfold cRng1
  rw [ha ρ st hs]
  cases e : fa ρ [] with
  | none => rfl
  | some p =>
    obtain ⟨ds, s⟩ := p
    have := ha.nil e
    subst this
    rcases ds with _ | ⟨d, ds⟩
    · rfl
    · rcases ds with _ | ⟨d2, ds⟩
      · cases d <;> first
          | rfl
          | (simp only [Option.map]; split <;> rfl)
      · cases d <;> rfl
def zipO : List D → Option (List D)
  | [.lst xs, .lst ys] => some (zipD xs ys)
  | [.tup xs, .tup ys] => some (zipD xs ys)
  | _ => none
theorem pu_zip (ha : Pu fa) : Pu (cZip fa) := (pu_bind ha fun xs => pu_ret fun _ => zipO xs).eq fun ρ st => by
  unfold cZip
  rcases fa ρ st with _ | ⟨x, s1⟩
  · rfl
  · rcases x with _ | ⟨a, _ | ⟨b, _ | ⟨c, x⟩⟩⟩
    · rfl
    · cases a <;> rfl
    · cases a <;> cases b <;> rfl
    · cases a <;> cases b <;> rfl
theorem pu_lcD {gh : SemG} (hb : Pu fb) (hf : Pu f) (ρ : Env) (st : Store) (hs : flatSt st = true) : ∀ (ds acc : List D), lcD gh fb f ρ ds st acc = (lcD gh fb f ρ ds [] acc).map fun p => (p.1, st)
  | [], acc => rfl
  | d :: ds, acc => by
    unfold lcD
    cases gh d ρ with
    | none => rfl
    | some ρ1 =>
      dsimp only
      rw [hb ρ1 st hs]
      cases e : fb ρ1 [] with
      | none => rfl
      | some p =>
        obtain ⟨b, s⟩ := p
        have := hb.nil e
        subst this
        cases b with
        | false => exact pu_lcD hb hf ρ st hs ds acc
        | true =>
          show (match f ρ1 st with | some (y, s2) => if acc.length < sizeLine then lcD gh fb f ρ ds s2 (acc ++ [y]) else none | none => none) = _
          rw [hf ρ1 st hs]
          cases e2 : f ρ1 [] with
          | none => simp only [Option.map, e2]
          | some p =>
            obtain ⟨y, s⟩ := p
            have := hf.nil e2
            subst this
            simp only [Option.map, e2]
            by_cases hc : acc.length < sizeLine
            · rw [if_pos hc, if_pos hc]; exact pu_lcD hb hf ρ st hs ds (acc ++ [y])
            · rw [if_neg hc, if_neg hc]
theorem pu_lc {own : List Nat} {gh : SemG} (hi : Pu fi) (hb : Pu fb) (hf : Pu f) : Pu (cLc own fi gh fb f) := fun ρ st hs => by
  unfold cLc
  rw [hi ρ st hs]
  cases e : fi ρ [] with
  | none => rfl
  | some p =>
    obtain ⟨ds, s⟩ := p
    have := hi.nil e
    subst this
    dsimp only [Option.map]
    rw [pu_lcD hb hf _ st hs ds []]
    cases lcD gh fb f (wipeE ρ own) ds [] [] <;> rfl
/-! ### statements -/
theorem pus_skip : PuS cSkip := fun _ _ _ => rfl
theorem pus_stuck : PuS cStuck := fun _ _ _ => rfl
theorem pus_seq (h1 : PuS g) (h2 : PuS k) : PuS (cSeq g k) := fun ρ st hs => by
  unfold cSeq
  rw [h1 ρ st hs]
  cases e : g ρ [] with
  | none => rfl
  | some r =>
    have := h1.nil e
    cases r with
    | nx ρ' s => cases this; exact h2 ρ' st hs
    | rt d s => rfl
    | ex c d s => rfl
theorem pus_set (hf : Pu f) : PuS (cSet i f) := fun ρ st hs => by
  unfold cSet
  rw [hf ρ st hs]
  rcases f ρ [] with _ | ⟨x, s1⟩
  · rfl
  · rfl
theorem pus_drop (hf : Pu f) : PuS (cDrop f) := fun ρ st hs => by
  unfold cDrop
  rw [hf ρ st hs]
  rcases f ρ [] with _ | ⟨x, s1⟩
  · rfl
  · rfl
theorem pus_ret (hf : Pu f) : PuS (cRet f) := fun ρ st hs => by
  unfold cRet
  rw [hf ρ st hs]
  rcases f ρ [] with _ | ⟨x, s1⟩
  · rfl
  · rfl
theorem pus_if (h1 : Pu fb) (h2 : PuS g) (h3 : PuS k) : PuS (cIfS fb g k) := fun ρ st hs => by
  unfold cIfS
  rw [h1 ρ st hs]
  cases e : fb ρ [] with
  | none => rfl
  | some p =>
    obtain ⟨b, s⟩ := p
    have := h1.nil e
    subst this
    cases b with
    | true => exact h2 ρ st hs
    | false => exact h3 ρ st hs
theorem pus_app (hf : Pu f) : PuS (cApp i f) := fun ρ st hs => by
  unfold cApp
  rw [hf ρ st hs]
  rcases f ρ [] with _ | ⟨x, s1⟩
  · rfl
  · simp only [Option.map]
    split
    · split <;> rfl
    · rfl
theorem pus_dput (h1 : Pu h) (hf : Pu f) : PuS (cDput i h f) := fun ρ st hs => by
  unfold cDput
  rw [hf ρ st hs]
  cases e : f ρ [] with
  | none => rfl
  | some p =>
    obtain ⟨d, s⟩ := p
    have := hf.nil e
    subst this
    simp only [Option.map]
    rw [h1 ρ st hs]
    rcases h ρ [] with _ | ⟨x, s1⟩
    · rfl
    · simp only [Option.map]
      split
      · split <;> rfl
      · rfl
theorem pus_asg {gh : SemG} (hf : Pu f) : PuS (cAsg gh f) := fun ρ st hs => by
  unfold cAsg
  rw [hf ρ st hs]
  rcases f ρ [] with _ | ⟨x, s1⟩
  · rfl
  · simp only [Option.map]
    split <;> rfl
theorem pus_par (ha : Pu fa) : PuS (cPar i j fa) := fun ρ st hs => by
  unfold cPar
  rw [ha ρ st hs]
  rcases fa ρ [] with _ | ⟨x, s1⟩
  · rfl
  · simp only [Option.map]
    rcases x with _ | ⟨a, _ | ⟨b, _ | ⟨c, x⟩⟩⟩ <;> rfl
theorem pus_forD {gh : SemG} (hg : PuS g) (st : Store) (hs : flatSt st = true) : ∀ (ds : List D) (ρ : Env), forD gh g ds ρ st = (forD gh g ds ρ []).map (SR.wS st)
  | [], ρ => rfl
  | d :: ds, ρ => by
    unfold forD
    cases gh d ρ with
    | none => rfl
    | some ρ1 =>
      dsimp only
      rw [hg ρ1 st hs]
      cases e : g ρ1 [] with
      | none => rfl
      | some r =>
        have := hg.nil e
        cases r with
        | nx ρ2 s => cases this; exact pus_forD hg st hs ds ρ2
        | rt d s => rfl
        | ex c d s => rfl
theorem pus_for {gh : SemG} (hi : Pu fi) (hg : PuS g) : PuS (cFor fi gh g) := fun ρ st hs => by
  unfold cFor
  rw [hi ρ st hs]
  cases e : fi ρ [] with
  | none => rfl
  | some p =>
    obtain ⟨ds, s⟩ := p
    have := hi.nil e
    subst this
    exact pus_forD hg st hs ds ρ
theorem pus_raise {c : Str} (ha : Pu fa) : PuS (cRaise c fa) := fun ρ st hs => by
  unfold cRaise
  rw [ha ρ st hs]
  rcases fa ρ [] with _ | ⟨x, s1⟩
  · rfl
  · simp only [Option.map]
    rcases x with _ | ⟨a, _ | ⟨b, x⟩⟩ <;> rfl
theorem pus_callX {gg : D → Env → Store → Option SR} (hF : PuF F) (ha : Pu fa) (hg : ∀ d, PuS (gg d)) : PuS (cCallX F fa gg) := fun ρ st hs => by
  unfold cCallX
  rw [ha ρ st hs]
  cases e : fa ρ [] with
  | none => rfl
  | some p =>
    obtain ⟨ds, s⟩ := p
    have := ha.nil e
    subst this
    simp only [Option.map]
    rw [hF ds st hs]
    cases e2 : F ds [] with
    | none => rfl
    | some r =>
      have := hF.nil e2
      cases r with
      | ok d s2 =>
        cases this
        show (if flatSt st = true then gg d ρ st else none) = _
        rw [if_pos hs]
        exact hg d ρ st hs
      | ex c d s2 =>
        cases this
        show (if flatSt st = true then some (SR.ex c d st) else none) = _
        rw [if_pos hs]; rfl
theorem pus_gDrop (d : D) : PuS (gDrop d) := fun _ _ _ => rfl
theorem pus_gRet (d : D) : PuS (gRet d) := fun _ _ _ => rfl
theorem pus_gPut (d : D) : PuS (gPut i d) := fun _ _ _ => rfl
theorem pus_callV {Fs : Str → Option Fn} {gg : D → Env → Store → Option SR} (hF : ∀ x F, Fs x = some F → PuF F) (hf : Pu f) (ha : Pu fa) (hg : ∀ d, PuS (gg d)) : PuS (cCallV Fs f fa gg) := fun ρ st hs => by
  unfold cCallV
  rw [hf ρ st hs]
  cases e : f ρ [] with
  | none => rfl
  | some p =>
    obtain ⟨d, s⟩ := p
    have := hf.nil e
    subst this
    cases d <;> first
      | rfl
      | skip
    rename_i x
    simp only [Option.map]
    cases e2 : Fs x with
    | none => rfl
    | some F => exact pus_callX (hF x F e2) ha hg ρ st hs
theorem pus_try {cs : List Str} {gs : Str → D → SemS} (hg : PuS g) (hs' : ∀ c d, PuS (gs c d)) : PuS (cTry cs i g gs) := fun ρ st hs => by
  unfold cTry
  rw [hg ρ st hs]
  cases e : g ρ [] with
  | none => rfl
  | some r =>
    have := hg.nil e
    cases r with
    | nx ρ' s => rfl
    | rt d s => rfl
    | ex c d s =>
      cases this
      simp only [Option.map, SR.wS]
      by_cases hc : c ∈ cs
      · rw [if_pos hc, if_pos hc, hs' c d _ st hs]
        rcases gs c d (List.replicate ρ.length none) [] with _ | r
        · rfl
        · cases r <;> rfl
      · rw [if_neg hc, if_neg hc]
theorem pus_spoil {qs : List (List Nat)} (hg : PuS g) : PuS (cSpoil i qs n g) := fun ρ st hs => by
  unfold cSpoil
  cases ρ[i]? with
  | none => rfl
  | some o => cases o with
    | none => rfl
    | some d =>
      dsimp only
      by_cases hc : okPaths d qs n = true
      · rw [if_pos hc, if_pos hc]; exact hg _ st hs
      · rw [if_neg hc, if_neg hc]; rfl
theorem puf_fun {N : Nat} (hg : PuS g) : PuF (cFun N n g) := fun ds st hs => by
  unfold cFun
  by_cases hl : ds.length = n
  · rw [if_pos hl, if_pos hl, hg _ st hs]
    rcases g (ds.map some ++ List.replicate (N - n) none) [] with _ | r
    · rfl
    · cases r <;> rfl
  · rw [if_neg hl, if_neg hl]; rfl
end
end DL

set_option Elab.async false
set_option linter.all false
set_option maxRecDepth 100000
/-! DL26: what the top has left of a class of errors, as a Bool; the law's own promise. -/
namespace DL
open PySem PySem.Spec PyProof.Rows L2

def oexB (K : PySem.W.Frag) (C : Addr) : Bool := match K.lookup C with
  | some ⟨.type "type", _, .cls cd, sl⟩ => (match cd.mro, sl.toList with
    | .ref C' :: bm, [_, _, _, _, some (.builtin n), _] => decide (C' = C) && PySem.HandSPX.refsVE bm && cd.hasDict && !cd.hasDel && decide (n = "ValueError.__new__")
    | _, _ => false)
  | _ => false
theorem oexB_ok {K : PySem.W.Frag} {C : Addr} (h : oexB K C = true) : ∃ nm q N bs bm sn sub ab col dd k0 k1 k2 k3 k5, K.lookup C = some (excClassObj nm q C N bs bm true sn sub ab col dd k0 k1 k2 k3 k5 "ValueError.__new__") ∧ PySem.HandSPX.refsVE bm = true := by
  unfold oexB at h
  split at h
  · rename_i dd cd sl ho
    split at h
    · rename_i C' bm k0 k1 k2 k3 n k5 hm hs
      simp only [Bool.and_eq_true, decide_eq_true_eq, Bool.not_eq_true'] at h
      obtain ⟨⟨⟨⟨rfl, hv⟩, hd⟩, hl⟩, rfl⟩ := h
      obtain ⟨nm, bs, mro, ns, qn, hd', sn, sub, ab, col, del⟩ := cd
      dsimp only at hm hd hl
      subst hm hd hl
      have hsl : sl = #[k0, k1, k2, k3, some (.builtin "ValueError.__new__"), k5] := by
        obtain ⟨l⟩ := sl
        simp only at hs
        rw [hs]
      subst hsl
      exact ⟨nm, qn, ns, bs, bm, sn, sub, ab, col, dd, k0, k1, k2, k3, k5, ho, hv⟩
    · cases h
  · cases h
def isT {α : Type} [DecidableEq α] (a b : α) : Bool := decide (a = b)
def eclsB (K : PySem.W.Frag) (c : Str) : Bool :=
  isT (PySem.W.nsIn K mainGlobals c) (some (some (.ref (He.ga K c)))) && (oexB K (He.ga K c) && (isT (PySem.W.findIn K (.ref (He.ga K c)) "__setattr__") (some (some (.builtin "object.__setattr__"))) && (isT (PySem.W.subIn K (.ref (He.ga K c)) (.type "BaseException")) (some true) &&
  (isT (PySem.W.typeIn K (.ref (He.ga K c))) (some (.type "type")) && (PySem.W.keepIn K (.ref (He.ga K c)) && (isT (PySem.W.findIn K (.ref (He.ga K c)) "__init__") (some (some (.ref (He.ma K (He.ga K c) "__init__")))) && (isT (PySem.W.typeIn K (.ref (He.ma K (He.ga K c) "__init__"))) (some (.type "function")) &&
  (isT (PySem.W.findIn K (.ref (He.ga K c)) "value") (some none) && (isT (PySem.W.findIn K (.ref (He.ga K c)) "__getattribute__") (some (some (.builtin "BaseException.__getattribute__"))) && (isT (PySem.W.findIn K (.ref (He.ga K c)) "__getattr__") (some none) && (PySem.W.hasDictIn K (He.ga K c) &&
  (isT (PySem.W.findIn K (.ref (He.ga K c)) "__class__") (some (some (.builtin "object.__class__"))) && (isT (PySem.W.specialIn K (.builtin "object.__class__") "__get__") (some (some (.builtin "getset_descriptor.__get__"))) && (isT (PySem.W.takesIn K (.builtin "object.__class__")) (some true) && isT (PySem.W.mroIn K (He.ga K c) (.type "object")) (some true)))))))))))))))
theorem isT_ok {α : Type} [DecidableEq α] {a b : α} (h : isT a b = true) : a = b := of_decide_eq_true h
theorem ecls_ok {P : Program} {w : World} {K : PySem.W.Frag} {h : Heap} {mg : Str → Option Value} {base : Heap} {c : Str} (X : K.In h) (G : h.Ns mainGlobals mg) (e : eclsB K c = true) {qual : Str} {params : Arguments} {body : List Stmt} {scope : Scope} {fd : FuncData} {dvs : List V} {kws : List (Str × V)} {q1 q2 q3 q4 : Pos}
    (FD : FunD K "__init__" qual params body scope dvs kws (He.ma K (He.ga K c) "__init__") fd) (hbody : body = [.Assign [.Attribute (.Name "self" q1) "value" q2] (.Name "value" q3) q4]) (S : FnScope initN initN scope) (h1 : scope.names.lookup ("self" : Str) = some .local) (h2 : scope.names.lookup ("value" : Str) = some .local) (hdv : dvs ≠ [])
    (hb : ∀ (T : Addr) (kV doc pm : Value) (an : Option Addr) (cdv ct : Value) (us its : List Value), us.length = 2 → its.length = dvs.length →
      ∃ k, bindArgs (PySem.W.fnOf "__init__" qual params body scope (.ref T) kV doc pm an cdv ct) ⟨us, []⟩ = seqItems? (.ref T) >>= k ∧ k (some its.toArray) = pure (initN.zip us)) :
    mg c = some (.ref (He.ga K c)) ∧ ECls P w K mg base c ∧ ExcC K (He.ga K c) ∧ XfC K (He.ga K c) ∧ PySem.W.findIn K (.ref (He.ga K c)) "value" = some none := by
  unfold eclsB at e
  simp only [Bool.and_eq_true] at e
  obtain ⟨e1, e2, e3, e4, e5, e6, e7, e8, e9, e10, e11, e12, e13, e14, e15, e16⟩ := e
  subst hbody
  have gC := PySem.W.mg_of X G (isT_ok e1)
  have EC : ExcC K (He.ga K c) := ⟨isT_ok e10, isT_ok e11, isT_ok e4, e12, isT_ok e13, isT_ok e14, isT_ok e15, isT_ok e16⟩
  have XF : XfC K (He.ga K c) := ⟨isT_ok e10, isT_ok e11, isT_ok e4, e12⟩
  have bnd : Binds K fd initN [] := by
    obtain ⟨dus, hv, hb'⟩ := FD.binds1 (ps := initN) 2 dvs.length hdv (by show 2 + (dvs.length - dvs.length) = 2; omega) fun T kV doc pm an cdv ct us its h1 h2 => by
      obtain ⟨k, x1, x2⟩ := hb T kV doc pm an cdv ct us its h1 h2
      refine ⟨k, x1, ?_⟩
      rw [x2, ← h2, List.drop_length, List.append_nil]
    rw [List.drop_length] at hv
    cases hv
    exact hb'
  exact ⟨gC, ⟨⟨_, _, fd, ⟨gC, ⟨oexB_ok e2, isT_ok e3, isT_ok e4, isT_ok e5, e6⟩, isT_ok e7, isT_ok e8, isT_ok e9⟩, init_ok FD S h1 h2, bnd, EC, XF⟩⟩, EC, XF, isT_ok e9⟩
theorem no_out {P : Program} {w : World} {outer : List PySem.Env} {H : Hp} {s : Shared} {u : Value} {s' : Shared} (h : L2N.CX P w outer H s (fun _ _ _ => False) u s') : False := by
  obtain ⟨_, _, _, _, _, _, _, _, _, _, _, _, z⟩ := h
  exact z
/-- the law's promise -/
def spLaw (K : PySem.W.Frag) : Sp := fun vs H Q _ => vs.length = 1 ∧ ∃ (a : Addr) (ns : List Int), vs = [.ref a] ∧ ns.length ≤ 63 ∧ SqL K H a (ns.map V.int) ∧ ∀ H', Q (.bl true) H'
theorem ints_rep2 {K : PySem.W.Frag} {mg : Str → Option Value} {adr : Nat → Addr} {N : Nat} {H : Hp} {C : Addr → Prop} : ∀ ns : List Int, RepA K mg adr N H C (ns.map V.int) (ns.map D.int)
  | [] => .nil
  | n :: ns => .cons (.int n) (ints_rep2 ns)
theorem law_ok {P : Program} {w : World} {K : PySem.W.Frag} {mg : Str → Option Value} {base : Heap} {k : Nat} {a : Addr} {fd : FuncData} {ps : List Str} {F : Fn} {L : Lk} (G : FnOk P w K mg base (L2N.CX P w) k a fd ps (spD K mg 1 F L)) (hp : ps.length = 1)
    (hF : ∀ ns : List Int, ns.length ≤ 63 → ∃ st, F [.fro (ns.map D.int)] [] = some (.ok (.bl true) st)) : FnOk P w K mg base (L2N.CX P w) k a fd ps (spLaw K) := by
  have key : ∀ vs H Q E, spLaw K vs H Q E → spD K mg 1 F L vs H Q E := fun vs H Q E h => by
    obtain ⟨_, b, ns, rfl, hl, hS, q⟩ := h
    obtain ⟨st, e⟩ := hF ns hl
    have post : ∀ W : Wd, PostF K mg W L Q E (.ok (.bl true) st) := fun W v W' s ok hR so rv => by
      cases rv
      exact q W'.H
    rcases hS with hS | hS
    · have there : H b ≠ none := by
        rcases hS with z | ⟨o, z⟩
        · rw [z]; exact fun y => nomatch y
        · rw [z]; exact fun y => nomatch y
      refine ⟨rfl, (fun c => c = b), (fun _ => 0), [.fro (ns.map D.int)], [], .ok (.bl true) st, ⟨fun c z => by rw [z]; exact there, fun _ _ z => z.elim, fun n z => absurd z (Nat.not_lt_zero n), fun _ _ _ z => z.elim, fun _ _ _ z => z.elim, fun c _ ⟨n, z, _⟩ => absurd z (Nat.not_lt_zero n), fun _ _ z => z.elim, fun m n z => absurd z (Nat.not_lt_zero m)⟩,
        ⟨rfl, fun n c z => by simp at z⟩, .cons (.fro (.inl ⟨hS, rfl⟩) (ints_rep2 ns)) .nil, e, post _⟩
    · refine ⟨rfl, (fun _ => False), (fun _ => 0), [.fro (ns.map D.int)], [], .ok (.bl true) st, ⟨fun c z => z.elim, fun _ _ z => z.elim, fun n z => absurd z (Nat.not_lt_zero n), fun _ _ z => z.elim, fun _ _ _ z => z.elim, fun c z => z.elim, fun _ _ z => z.elim, fun m n z => absurd z (Nat.not_lt_zero m)⟩,
        ⟨rfl, fun n c z => by simp at z⟩, .cons (.fro (.inr hS) (ints_rep2 ns)) .nil, e, post _⟩
  exact ⟨fun vs H Q E h => by rw [hp]; exact h.1, fun A outer s H args us vs Q E hr e0 hb r h => G.run A outer s H args us vs Q E hr e0 hb r (key _ _ _ _ h)⟩
end DL

set_option Elab.async false
set_option linter.all false
set_option maxRecDepth 100000
set_option maxHeartbeats 0
namespace K80
open PySem PySem.Spec PyProof.Rows L2 DL
def top (i : Nat) : Stmt := PySem.Challenge.pw_boundtobe_k80_whole_lines_of_boards.main.body.getD i (.Pass ⟨0, 0, 0, 0⟩)

/-! ### is_whole -/
abbrev s_is_whole : Stmt := top 1
def N_is_whole : List Str := [(PySem.Str.ofString "value")]
def P_is_whole : List Str := [(PySem.Str.ofString "value")]
theorem S_is_whole : FnScope N_is_whole P_is_whole (defScope s_is_whole) := ⟨rfl, rfl, rfl, by decide +kernel, rfl, by decide +kernel, by decide +kernel⟩
def m_is_whole : SemS := (cSeq (cRet (cB (cAnd (cIs .int (cVar 0)) (cNot (cIs .bl (cVar 0)))))) cSkip)
def F_is_whole : Fn := cFun N_is_whole.length 1 m_is_whole
theorem ok_is_whole {P : Program} {w : World} {K : PySem.W.Frag} {mg : Str → Option Value} {base : Heap} {a : Addr} {fd : FuncData} (FD : FunD K (PySem.Str.ofString "is_whole") (PySem.Str.ofString "is_whole") (defArgs s_is_whole) (defBody s_is_whole) (defScope s_is_whole) [] [] a fd) (b_bool : mg (PySem.Str.ofString "bool") = none) (b_int : mg (PySem.Str.ofString "int") = none) (b_isinstance : mg (PySem.Str.ofString "isinstance") = none) : FnOk P w K mg base (L2N.CX P w) 1 a fd P_is_whole (spD K mg 1 F_is_whole (Lk.out (Lk.mk false false false false))) := by
  refine fnd_ok (Γ := [.sh]) (Γ' := [.sh]) (Lr := (Lk.mk false false false false)) (k := 0) FD S_is_whole rfl (by decide) fun cdv A outer s H E hr tk => ?_
  have hN := S_is_whole.nd
  have hu := hr.units
  have hu1 := hu_of hr
  exact (dss_cons (Γ1 := [.sh]) (ds_ret (de_b (db_s (dbs_and (db_is (t := .int) (de_var (i := 0)) (pe_bt (t := .int) b_int (by rfl)) b_isinstance) (dbs_and1 (db_not (db_is (t := .bl) (de_var (i := 0)) (pe_bt (t := .bl) b_bool (by rfl)) b_isinstance))))))) dss_nilW)
theorem cal_is_whole {P : Program} {w : World} {K : PySem.W.Frag} {mg : Str → Option Value} {base : Heap} {a : Addr} {fd : FuncData} (FD : FunD K (PySem.Str.ofString "is_whole") (PySem.Str.ofString "is_whole") (defArgs s_is_whole) (defBody s_is_whole) (defScope s_is_whole) [] [] a fd) (hm : mg (PySem.Str.ofString "is_whole") = some (.ref a)) (b_bool : mg (PySem.Str.ofString "bool") = none) (b_int : mg (PySem.Str.ofString "int") = none) (b_isinstance : mg (PySem.Str.ofString "isinstance") = none) : Cal P w K mg base 1 (PySem.Str.ofString "is_whole") 1 F_is_whole (Lk.out (Lk.mk false false false false)) :=
  cal_mk FD hm (ok_is_whole FD b_bool b_int b_isinstance) cFun_len (fun _ _ _ _ _ _ us hl => match us, hl with | [_], _ => rfl)

/-! ### is_count -/
abbrev s_is_count : Stmt := top 2
def N_is_count : List Str := [(PySem.Str.ofString "value"), (PySem.Str.ofString "least")]
def P_is_count : List Str := [(PySem.Str.ofString "value"), (PySem.Str.ofString "least")]
theorem S_is_count : FnScope N_is_count P_is_count (defScope s_is_count) := ⟨rfl, rfl, rfl, by decide +kernel, rfl, by decide +kernel, by decide +kernel⟩
def m_is_count : SemS := (cSeq (cRet (cB (cAnd (cIsB (cCall F_is_whole (cCons (cVar 0) cNil))) (cCmp geD (cVar 0) (cFn max2D (cCons (cVar 1) (cCons (cC (.int 0)) cNil))))))) cSkip)
def F_is_count : Fn := cFun N_is_count.length 2 m_is_count
theorem ok_is_count {P : Program} {w : World} {K : PySem.W.Frag} {mg : Str → Option Value} {base : Heap} {a : Addr} {fd : FuncData} (FD : FunD K (PySem.Str.ofString "is_count") (PySem.Str.ofString "is_count") (defArgs s_is_count) (defBody s_is_count) (defScope s_is_count) [.int 0] [] a fd) (C_is_whole : Cal P w K mg base 1 (PySem.Str.ofString "is_whole") 1 F_is_whole (Lk.out (Lk.mk false false false false))) (b_max : mg (PySem.Str.ofString "max") = none) : FnOk P w K mg base (L2N.CX P w) 2 a fd P_is_count (spD K mg 2 F_is_count (Lk.out (Lk.mk false false false false))) := by
  refine fnd_ok (Γ := [.sh, .sh]) (Γ' := [.sh, .sh]) (Lr := (Lk.mk false false false false)) (k := 1) FD S_is_count rfl (by decide) fun cdv A outer s H E hr tk => ?_
  have hN := S_is_count.nd
  have hu := hr.units
  have hu1 := hu_of hr
  exact (dss_cons (Γ1 := [.sh, .sh]) (ds_ret (de_b (db_s (dbs_and (db_e (de_callC C_is_whole hr (da_cons (de_var (i := 0)) da_nil))) (dbs_and1 (db_cmp dcmp_ge (de_var (i := 0)) (de_callB (dc_max2 rfl) (da_cons (de_var (i := 1)) (da_cons de_int da_nil)) b_max boot_max))))))) dss_nilW)
theorem cal_is_count {P : Program} {w : World} {K : PySem.W.Frag} {mg : Str → Option Value} {base : Heap} {a : Addr} {fd : FuncData} (FD : FunD K (PySem.Str.ofString "is_count") (PySem.Str.ofString "is_count") (defArgs s_is_count) (defBody s_is_count) (defScope s_is_count) [.int 0] [] a fd) (hm : mg (PySem.Str.ofString "is_count") = some (.ref a)) (C_is_whole : Cal P w K mg base 1 (PySem.Str.ofString "is_whole") 1 F_is_whole (Lk.out (Lk.mk false false false false))) (b_max : mg (PySem.Str.ofString "max") = none) : Cal P w K mg base 2 (PySem.Str.ofString "is_count") 2 F_is_count (Lk.out (Lk.mk false false false false)) :=
  calD_all (dvs := [.int 0]) (by exact fun z => nomatch z) FD hm (ok_is_count FD C_is_whole b_max) cFun_len (by
    intro T kV doc pm an cdv ct us its h1 h2
    exact match us, its, h1, h2 with | [_, _], [_], _, _ => ⟨_, rfl, rfl⟩)
theorem calD_is_count_1 {P : Program} {w : World} {K : PySem.W.Frag} {mg : Str → Option Value} {base : Heap} {a : Addr} {fd : FuncData} (FD : FunD K (PySem.Str.ofString "is_count") (PySem.Str.ofString "is_count") (defArgs s_is_count) (defBody s_is_count) (defScope s_is_count) [.int 0] [] a fd) (hm : mg (PySem.Str.ofString "is_count") = some (.ref a)) (C_is_whole : Cal P w K mg base 1 (PySem.Str.ofString "is_whole") 1 F_is_whole (Lk.out (Lk.mk false false false false))) (b_max : mg (PySem.Str.ofString "max") = none) : CalD P w K mg base 2 (PySem.Str.ofString "is_count") 2 F_is_count (Lk.out (Lk.mk false false false false)) [.int 0] :=
  calD_mk (dvs := [.int 0]) (m := 1) (j := 0) (by exact fun z => nomatch z) FD hm (ok_is_count FD C_is_whole b_max) cFun_len rfl (fun K W W' L => .cons (by first | exact .int _ | exact .non | exact .bl _ | exact .str _) .nil) (by
    intro T kV doc pm an cdv ct us its h1 h2
    exact match us, its, h1, h2 with | [_], [_], _, _ => ⟨_, rfl, rfl⟩)

/-! ### power -/
abbrev s_power : Stmt := top 10
def N_power : List Str := [(PySem.Str.ofString "number"), (PySem.Str.ofString "many"), (PySem.Str.ofString "found"), (PySem.Str.ofString "spin")]
def P_power : List Str := [(PySem.Str.ofString "number"), (PySem.Str.ofString "many")]
theorem S_power : FnScope N_power P_power (defScope s_power) := ⟨rfl, rfl, rfl, by decide +kernel, rfl, by decide +kernel, by decide +kernel⟩
def m_power : SemS := (cSeq (cSet 2 (cC (.int 1))) (cSeq (cFor (cRng1 (cCons (cVar 1) cNil)) (gSet 3) (cSeq (cSet 2 (cOp mulI (cVar 2) (cVar 0))) cSkip)) (cSeq (cRet (cAtom (cVar 2))) cSkip)))
def F_power : Fn := cFun N_power.length 2 m_power
theorem ok_power {P : Program} {w : World} {K : PySem.W.Frag} {mg : Str → Option Value} {base : Heap} {a : Addr} {fd : FuncData} (FD : FunD K (PySem.Str.ofString "power") (PySem.Str.ofString "power") (defArgs s_power) (defBody s_power) (defScope s_power) [] [] a fd) (b_range : mg (PySem.Str.ofString "range") = none) : FnOk P w K mg base (L2N.CX P w) 1 a fd P_power (spD K mg 2 F_power (Lk.out (Lk.mk false false false false))) := by
  refine fnd_ok (Γ := [.sh, .sh, .all, .all]) (Γ' := [.sh, .sh, .sh, .sh]) (Lr := (Lk.mk false false false false)) (k := 0) FD S_power rfl (by decide) fun cdv A outer s H E hr tk => ?_
  have hN := S_power.nd
  have hu := hr.units
  have hu1 := hu_of hr
  exact (dss_cons (Γ1 := [.sh, .sh, .sh, .all]) (ds_setW (i := 2) hN de_int) (dss_cons (Γ1 := [.sh, .sh, .sh, .sh]) (ds_from (Γ1 := [.sh, .sh, .sh, .sh]) (ds_for (passes_of rfl) rfl (di_range1 (da_cons (de_var (i := 1)) da_nil) b_range) (dg_name (i := 3) hN) (dss_cons (Γ1 := [.sh, .sh, .sh, .sh]) (ds_setW (i := 2) hN (de_opI dop_mulI iop_atom (de_var (i := 2)) (de_var (i := 0)))) dss_nilW)) rfl) (dss_cons (Γ1 := [.sh, .sh, .sh, .sh]) (ds_ret (de_atom (de_var (i := 2)))) dss_nilW)))
theorem cal_power {P : Program} {w : World} {K : PySem.W.Frag} {mg : Str → Option Value} {base : Heap} {a : Addr} {fd : FuncData} (FD : FunD K (PySem.Str.ofString "power") (PySem.Str.ofString "power") (defArgs s_power) (defBody s_power) (defScope s_power) [] [] a fd) (hm : mg (PySem.Str.ofString "power") = some (.ref a)) (b_range : mg (PySem.Str.ofString "range") = none) : Cal P w K mg base 1 (PySem.Str.ofString "power") 2 F_power (Lk.out (Lk.mk false false false false)) :=
  cal_mk FD hm (ok_power FD b_range) cFun_len (fun _ _ _ _ _ _ us hl => match us, hl with | [_, _], _ => rfl)

/-! ### check_board -/
abbrev s_check_board : Stmt := top 11
def N_check_board : List Str := [(PySem.Str.ofString "side"), (PySem.Str.ofString "ways")]
def P_check_board : List Str := [(PySem.Str.ofString "side"), (PySem.Str.ofString "ways")]
theorem S_check_board : FnScope N_check_board P_check_board (defScope s_check_board) := ⟨rfl, rfl, rfl, by decide +kernel, rfl, by decide +kernel, by decide +kernel⟩
def m_check_board : SemS := (cSeq (cIfS (cNot (cIsB (cCall F_is_count (cCons (cVar 0) (cCons (cC (.int 2)) cNil))))) (cSeq (cRaise (PySem.Str.ofString "InvalidSide") (cCons (cVar 0) cNil)) cSkip) cSkip) (cSeq (cIfS (cNot (cIsB (cCall F_is_count (cCons (cVar 1) (cCons (cC (.int 1)) cNil))))) (cSeq (cRaise (PySem.Str.ofString "InvalidWays") (cCons (cVar 1) cNil)) cSkip) cSkip) cSkip))
def F_check_board : Fn := cFun N_check_board.length 2 m_check_board
theorem ok_check_board {P : Program} {w : World} {K : PySem.W.Frag} {mg : Str → Option Value} {base : Heap} {a : Addr} {fd : FuncData} (FD : FunD K (PySem.Str.ofString "check_board") (PySem.Str.ofString "check_board") (defArgs s_check_board) (defBody s_check_board) (defScope s_check_board) [] [] a fd) (C_is_count : Cal P w K mg base 2 (PySem.Str.ofString "is_count") 2 F_is_count (Lk.out (Lk.mk false false false false))) (E_InvalidSide : ECls P w K mg base (PySem.Str.ofString "InvalidSide")) (E_InvalidWays : ECls P w K mg base (PySem.Str.ofString "InvalidWays")) : FnOk P w K mg base (L2N.CX P w) 3 a fd P_check_board (spD K mg 2 F_check_board (Lk.out (Lk.mk false false false false))) := by
  refine fnd_ok (Γ := [.sh, .sh]) (Γ' := [.sh, .sh]) (Lr := (Lk.mk false false false false)) (k := 2) FD S_check_board rfl (by decide) fun cdv A outer s H E hr tk => ?_
  have hN := S_check_board.nd
  have hu := hr.units
  have hu1 := hu_of hr
  exact (dss_cons (Γ1 := [.sh, .sh]) (ds_if (Γ1 := [.sh, .sh]) (db_not (db_e (de_callC C_is_count hr (da_cons (de_var (i := 0)) (da_cons de_int da_nil))))) (dss_cons (Γ1 := [.sh, .sh]) (ds_raiseC rfl tk E_InvalidSide hr (da_cons (de_var (i := 0)) da_nil)) dss_nilW) dss_nilW) (dss_cons (Γ1 := [.sh, .sh]) (ds_if (Γ1 := [.sh, .sh]) (db_not (db_e (de_callC C_is_count hr (da_cons (de_var (i := 1)) (da_cons de_int da_nil))))) (dss_cons (Γ1 := [.sh, .sh]) (ds_raiseC rfl tk E_InvalidWays hr (da_cons (de_var (i := 1)) da_nil)) dss_nilW) dss_nilW) dss_nilW))
theorem cal_check_board {P : Program} {w : World} {K : PySem.W.Frag} {mg : Str → Option Value} {base : Heap} {a : Addr} {fd : FuncData} (FD : FunD K (PySem.Str.ofString "check_board") (PySem.Str.ofString "check_board") (defArgs s_check_board) (defBody s_check_board) (defScope s_check_board) [] [] a fd) (hm : mg (PySem.Str.ofString "check_board") = some (.ref a)) (C_is_count : Cal P w K mg base 2 (PySem.Str.ofString "is_count") 2 F_is_count (Lk.out (Lk.mk false false false false))) (E_InvalidSide : ECls P w K mg base (PySem.Str.ofString "InvalidSide")) (E_InvalidWays : ECls P w K mg base (PySem.Str.ofString "InvalidWays")) : Cal P w K mg base 3 (PySem.Str.ofString "check_board") 2 F_check_board (Lk.out (Lk.mk false false false false)) :=
  cal_mk FD hm (ok_check_board FD C_is_count E_InvalidSide E_InvalidWays) cFun_len (fun _ _ _ _ _ _ us hl => match us, hl with | [_, _], _ => rfl)

/-! ### check_cell -/
abbrev s_check_cell : Stmt := top 12
def N_check_cell : List Str := [(PySem.Str.ofString "side"), (PySem.Str.ofString "ways"), (PySem.Str.ofString "cell")]
def P_check_cell : List Str := [(PySem.Str.ofString "side"), (PySem.Str.ofString "ways"), (PySem.Str.ofString "cell")]
theorem S_check_cell : FnScope N_check_cell P_check_cell (defScope s_check_cell) := ⟨rfl, rfl, rfl, by decide +kernel, rfl, by decide +kernel, by decide +kernel⟩
def m_check_cell : SemS := (cSeq ((cCallX F_check_board (cCons (cVar 0) (cCons (cVar 1) cNil)) gDrop)) (cSeq (cIfS (cOr (cNot (cIsB (cCall F_is_count (cDfl [.int 0] (cCons (cVar 2) cNil))))) (cCmp geD (cVar 2) (cCallA F_power (cCons (cVar 0) (cCons (cVar 1) cNil))))) (cSeq (cRaise (PySem.Str.ofString "InvalidCell") (cCons (cVar 2) cNil)) cSkip) cSkip) cSkip))
def F_check_cell : Fn := cFun N_check_cell.length 3 m_check_cell
theorem ok_check_cell {P : Program} {w : World} {K : PySem.W.Frag} {mg : Str → Option Value} {base : Heap} {a : Addr} {fd : FuncData} (FD : FunD K (PySem.Str.ofString "check_cell") (PySem.Str.ofString "check_cell") (defArgs s_check_cell) (defBody s_check_cell) (defScope s_check_cell) [] [] a fd) (C_check_board : Cal P w K mg base 3 (PySem.Str.ofString "check_board") 2 F_check_board (Lk.out (Lk.mk false false false false))) (D_is_count_1 : CalD P w K mg base 2 (PySem.Str.ofString "is_count") 2 F_is_count (Lk.out (Lk.mk false false false false)) [.int 0]) (C_power : Cal P w K mg base 1 (PySem.Str.ofString "power") 2 F_power (Lk.out (Lk.mk false false false false))) (E_InvalidCell : ECls P w K mg base (PySem.Str.ofString "InvalidCell")) : FnOk P w K mg base (L2N.CX P w) 4 a fd P_check_cell (spD K mg 3 F_check_cell (Lk.out (Lk.mk false false false false))) := by
  refine fnd_ok (Γ := [.sh, .sh, .sh]) (Γ' := [.sh, .sh, .sh]) (Lr := (Lk.mk false false false false)) (k := 3) FD S_check_cell rfl (by decide) fun cdv A outer s H E hr tk => ?_
  have hN := S_check_cell.nd
  have hu := hr.units
  have hu1 := hu_of hr
  exact (dss_cons (Γ1 := [.sh, .sh, .sh]) (dsx_expr (dx_callC tk C_check_board hr (da_cons (de_var (i := 0)) (da_cons (de_var (i := 1)) da_nil)))) (dss_cons (Γ1 := [.sh, .sh, .sh]) (ds_if (Γ1 := [.sh, .sh, .sh]) (db_s (dbs_or (db_not (db_e (de_callCD D_is_count_1 hr (da_cons (de_var (i := 2)) da_nil)))) (dbs_or1 (db_cmp dcmp_ge (de_var (i := 2)) (de_callA C_power hr (da_cons (de_var (i := 0)) (da_cons (de_var (i := 1)) da_nil))))))) (dss_cons (Γ1 := [.sh, .sh, .sh]) (ds_raiseC rfl tk E_InvalidCell hr (da_cons (de_var (i := 2)) da_nil)) dss_nilW) dss_nilW) dss_nilW))
theorem cal_check_cell {P : Program} {w : World} {K : PySem.W.Frag} {mg : Str → Option Value} {base : Heap} {a : Addr} {fd : FuncData} (FD : FunD K (PySem.Str.ofString "check_cell") (PySem.Str.ofString "check_cell") (defArgs s_check_cell) (defBody s_check_cell) (defScope s_check_cell) [] [] a fd) (hm : mg (PySem.Str.ofString "check_cell") = some (.ref a)) (C_check_board : Cal P w K mg base 3 (PySem.Str.ofString "check_board") 2 F_check_board (Lk.out (Lk.mk false false false false))) (D_is_count_1 : CalD P w K mg base 2 (PySem.Str.ofString "is_count") 2 F_is_count (Lk.out (Lk.mk false false false false)) [.int 0]) (C_power : Cal P w K mg base 1 (PySem.Str.ofString "power") 2 F_power (Lk.out (Lk.mk false false false false))) (E_InvalidCell : ECls P w K mg base (PySem.Str.ofString "InvalidCell")) : Cal P w K mg base 4 (PySem.Str.ofString "check_cell") 3 F_check_cell (Lk.out (Lk.mk false false false false)) :=
  cal_mk FD hm (ok_check_cell FD C_check_board D_is_count_1 C_power E_InvalidCell) cFun_len (fun _ _ _ _ _ _ us hl => match us, hl with | [_, _, _], _ => rfl)

/-! ### counts_there -/
abbrev s_counts_there : Stmt := top 13
def N_counts_there : List Str := [(PySem.Str.ofString "side"), (PySem.Str.ofString "ways"), (PySem.Str.ofString "cell"), (PySem.Str.ofString "found"), (PySem.Str.ofString "spin")]
def P_counts_there : List Str := [(PySem.Str.ofString "side"), (PySem.Str.ofString "ways"), (PySem.Str.ofString "cell")]
theorem S_counts_there : FnScope N_counts_there P_counts_there (defScope s_counts_there) := ⟨rfl, rfl, rfl, by decide +kernel, rfl, by decide +kernel, by decide +kernel⟩
def m_counts_there : SemS := (cSeq (cSet 3 (cLst cNil)) (cSeq (cFor (cRng1 (cCons (cVar 1) cNil)) (gSet 4) (cSeq (cApp 3 (cOp modD (cVar 2) (cVar 0))) (cSeq (cSet 2 (cOp fdivD (cVar 2) (cVar 0))) cSkip))) (cSeq (cRet (cRev (cVar 3))) cSkip)))
def F_counts_there : Fn := cFun N_counts_there.length 3 m_counts_there
theorem ok_counts_there {P : Program} {w : World} {K : PySem.W.Frag} {mg : Str → Option Value} {base : Heap} {a : Addr} {fd : FuncData} (FD : FunD K (PySem.Str.ofString "counts_there") (PySem.Str.ofString "counts_there") (defArgs s_counts_there) (defBody s_counts_there) (defScope s_counts_there) [] [] a fd) (b_range : mg (PySem.Str.ofString "range") = none) : FnOk P w K mg base (L2N.CX P w) 1 a fd P_counts_there (spD K mg 3 F_counts_there (Lk.out (Lk.mk false false false true))) := by
  refine fnd_ok (Γ := [.sh, .sh, .sh, .all, .all]) (Γ' := [.sh, .sh, .sh, .all, .sh]) (Lr := (Lk.mk false false false true)) (k := 0) FD S_counts_there rfl (by decide) fun cdv A outer s H E hr tk => ?_
  have hN := S_counts_there.nd
  have hu := hr.units
  have hu1 := hu_of hr
  exact (dss_cons (Γ1 := [.sh, .sh, .sh, .all, .all]) (ds_setW (i := 3) hN (de_lst da_nil)) (dss_cons (Γ1 := [.sh, .sh, .sh, .all, .sh]) (ds_from (Γ1 := [.sh, .sh, .sh, .all, .sh]) (ds_for (passes_of rfl) rfl (di_range1 (da_cons (de_var (i := 1)) da_nil) b_range) (dg_name (i := 4) hN) (dss_cons (Γ1 := [.sh, .sh, .sh, .all, .sh]) (ds_app (i := 3) (de_opI dop_mod iop_atom (de_var (i := 2)) (de_var (i := 0))) (hv := pv 3)) (dss_cons (Γ1 := [.sh, .sh, .sh, .all, .sh]) (ds_setW (i := 2) hN (de_opI dop_fdiv iop_atom (de_var (i := 2)) (de_var (i := 0)))) dss_nilW))) rfl) (dss_cons (Γ1 := [.sh, .sh, .sh, .all, .sh]) (ds_ret (de_rev (de_var (i := 3)))) dss_nilW)))
theorem cal_counts_there {P : Program} {w : World} {K : PySem.W.Frag} {mg : Str → Option Value} {base : Heap} {a : Addr} {fd : FuncData} (FD : FunD K (PySem.Str.ofString "counts_there") (PySem.Str.ofString "counts_there") (defArgs s_counts_there) (defBody s_counts_there) (defScope s_counts_there) [] [] a fd) (hm : mg (PySem.Str.ofString "counts_there") = some (.ref a)) (b_range : mg (PySem.Str.ofString "range") = none) : Cal P w K mg base 1 (PySem.Str.ofString "counts_there") 3 F_counts_there (Lk.out (Lk.mk false false false true)) :=
  cal_mk FD hm (ok_counts_there FD b_range) cFun_len (fun _ _ _ _ _ _ us hl => match us, hl with | [_, _, _], _ => rfl)

/-! ### number_there -/
abbrev s_number_there : Stmt := top 14
def N_number_there : List Str := [(PySem.Str.ofString "side"), (PySem.Str.ofString "counts"), (PySem.Str.ofString "found"), (PySem.Str.ofString "count")]
def P_number_there : List Str := [(PySem.Str.ofString "side"), (PySem.Str.ofString "counts")]
theorem S_number_there : FnScope N_number_there P_number_there (defScope s_number_there) := ⟨rfl, rfl, rfl, by decide +kernel, rfl, by decide +kernel, by decide +kernel⟩
def m_number_there : SemS := (cSeq (cSet 2 (cC (.int 0))) (cSeq (cFor (cSeqI (cVar 1)) (gSet 3) (cSeq (cSet 2 (cOp addI (cOp mulI (cVar 2) (cVar 0)) (cVar 3))) cSkip)) (cSeq (cRet (cAtom (cVar 2))) cSkip)))
def F_number_there : Fn := cFun N_number_there.length 2 m_number_there
theorem ok_number_there {P : Program} {w : World} {K : PySem.W.Frag} {mg : Str → Option Value} {base : Heap} {a : Addr} {fd : FuncData} (FD : FunD K (PySem.Str.ofString "number_there") (PySem.Str.ofString "number_there") (defArgs s_number_there) (defBody s_number_there) (defScope s_number_there) [] [] a fd)  : FnOk P w K mg base (L2N.CX P w) 1 a fd P_number_there (spD K mg 2 F_number_there (Lk.out (Lk.mk false false false false))) := by
  refine fnd_ok (Γ := [.sh, .sh, .all, .all]) (Γ' := [.sh, .sh, .sh, .sh]) (Lr := (Lk.mk false false false false)) (k := 0) FD S_number_there rfl (by decide) fun cdv A outer s H E hr tk => ?_
  have hN := S_number_there.nd
  have hu := hr.units
  have hu1 := hu_of hr
  exact (dss_cons (Γ1 := [.sh, .sh, .sh, .all]) (ds_setW (i := 2) hN de_int) (dss_cons (Γ1 := [.sh, .sh, .sh, .sh]) (ds_from (Γ1 := [.sh, .sh, .sh, .sh]) (ds_for (passes_of rfl) rfl (di_seq (de_var (i := 1))) (dg_name (i := 3) hN) (dss_cons (Γ1 := [.sh, .sh, .sh, .sh]) (ds_setW (i := 2) hN (de_opI dop_addI iop_atom (de_opI dop_mulI iop_atom (de_var (i := 2)) (de_var (i := 0))) (de_var (i := 3)))) dss_nilW)) rfl) (dss_cons (Γ1 := [.sh, .sh, .sh, .sh]) (ds_ret (de_atom (de_var (i := 2)))) dss_nilW)))
theorem cal_number_there {P : Program} {w : World} {K : PySem.W.Frag} {mg : Str → Option Value} {base : Heap} {a : Addr} {fd : FuncData} (FD : FunD K (PySem.Str.ofString "number_there") (PySem.Str.ofString "number_there") (defArgs s_number_there) (defBody s_number_there) (defScope s_number_there) [] [] a fd) (hm : mg (PySem.Str.ofString "number_there") = some (.ref a))  : Cal P w K mg base 1 (PySem.Str.ofString "number_there") 2 F_number_there (Lk.out (Lk.mk false false false false)) :=
  cal_mk FD hm (ok_number_there FD ) cFun_len (fun _ _ _ _ _ _ us hl => match us, hl with | [_, _], _ => rfl)

/-! ### cell_counts -/
abbrev s_cell_counts : Stmt := top 15
def N_cell_counts : List Str := [(PySem.Str.ofString "side"), (PySem.Str.ofString "ways"), (PySem.Str.ofString "cell")]
def P_cell_counts : List Str := [(PySem.Str.ofString "side"), (PySem.Str.ofString "ways"), (PySem.Str.ofString "cell")]
theorem S_cell_counts : FnScope N_cell_counts P_cell_counts (defScope s_cell_counts) := ⟨rfl, rfl, rfl, by decide +kernel, rfl, by decide +kernel, by decide +kernel⟩
def m_cell_counts : SemS := (cSeq ((cCallX F_check_cell (cCons (cVar 0) (cCons (cVar 1) (cCons (cVar 2) cNil))) gDrop)) (cSeq (cRet (cCallA F_counts_there (cCons (cVar 0) (cCons (cVar 1) (cCons (cVar 2) cNil))))) cSkip))
def F_cell_counts : Fn := cFun N_cell_counts.length 3 m_cell_counts
theorem ok_cell_counts {P : Program} {w : World} {K : PySem.W.Frag} {mg : Str → Option Value} {base : Heap} {a : Addr} {fd : FuncData} (FD : FunD K (PySem.Str.ofString "cell_counts") (PySem.Str.ofString "cell_counts") (defArgs s_cell_counts) (defBody s_cell_counts) (defScope s_cell_counts) [] [] a fd) (C_check_cell : Cal P w K mg base 4 (PySem.Str.ofString "check_cell") 3 F_check_cell (Lk.out (Lk.mk false false false false))) (C_counts_there : Cal P w K mg base 1 (PySem.Str.ofString "counts_there") 3 F_counts_there (Lk.out (Lk.mk false false false true))) : FnOk P w K mg base (L2N.CX P w) 5 a fd P_cell_counts (spD K mg 3 F_cell_counts (Lk.out (Lk.mk false false true false))) := by
  refine fnd_ok (Γ := [.sh, .sh, .sh]) (Γ' := [.sh, .sh, .sh]) (Lr := (Lk.mk false false true false)) (k := 4) FD S_cell_counts rfl (by decide) fun cdv A outer s H E hr tk => ?_
  have hN := S_cell_counts.nd
  have hu := hr.units
  have hu1 := hu_of hr
  exact (dss_cons (Γ1 := [.sh, .sh, .sh]) (dsx_expr (dx_callC tk C_check_cell hr (da_cons (de_var (i := 0)) (da_cons (de_var (i := 1)) (da_cons (de_var (i := 2)) da_nil))))) (dss_cons (Γ1 := [.sh, .sh, .sh]) (ds_ret (de_callA C_counts_there hr (da_cons (de_var (i := 0)) (da_cons (de_var (i := 1)) (da_cons (de_var (i := 2)) da_nil))))) dss_nilW))
theorem cal_cell_counts {P : Program} {w : World} {K : PySem.W.Frag} {mg : Str → Option Value} {base : Heap} {a : Addr} {fd : FuncData} (FD : FunD K (PySem.Str.ofString "cell_counts") (PySem.Str.ofString "cell_counts") (defArgs s_cell_counts) (defBody s_cell_counts) (defScope s_cell_counts) [] [] a fd) (hm : mg (PySem.Str.ofString "cell_counts") = some (.ref a)) (C_check_cell : Cal P w K mg base 4 (PySem.Str.ofString "check_cell") 3 F_check_cell (Lk.out (Lk.mk false false false false))) (C_counts_there : Cal P w K mg base 1 (PySem.Str.ofString "counts_there") 3 F_counts_there (Lk.out (Lk.mk false false false true))) : Cal P w K mg base 5 (PySem.Str.ofString "cell_counts") 3 F_cell_counts (Lk.out (Lk.mk false false true false)) :=
  cal_mk FD hm (ok_cell_counts FD C_check_cell C_counts_there) cFun_len (fun _ _ _ _ _ _ us hl => match us, hl with | [_, _, _], _ => rfl)

/-! ### line_by -/
abbrev s_line_by : Stmt := top 16
def N_line_by : List Str := [(PySem.Str.ofString "side"), (PySem.Str.ofString "told"), (PySem.Str.ofString "found"), (PySem.Str.ofString "step"), (PySem.Str.ofString "counts"), (PySem.Str.ofString "count")]
def P_line_by : List Str := [(PySem.Str.ofString "side"), (PySem.Str.ofString "told")]
theorem S_line_by : FnScope N_line_by P_line_by (defScope s_line_by) := ⟨rfl, rfl, rfl, by decide +kernel, rfl, by decide +kernel, by decide +kernel⟩
def m_line_by : SemS := (cSeq (cSet 2 (cLst cNil)) (cSeq (cFor (cRng1 (cCons (cVar 0) cNil)) (gSet 3) (cSeq (cSet 4 (cLc [5] (cSeqI (cVar 1)) (gSet 5) cYes (cIf (cCmp ltD (cVar 5) (cVar 0)) (cVar 5) (cIf (cCmp eqD (cVar 5) (cVar 0)) (cVar 3) (cOp subD (cOp subD (cVar 0) (cC (.int 1))) (cVar 3)))))) (cSeq (cApp 2 (cCall F_number_there (cCons (cVar 0) (cCons (cVar 4) cNil)))) cSkip))) (cSeq (cRet (cFn sortedD (cCons (cVar 2) cNil))) cSkip)))
def F_line_by : Fn := cFun N_line_by.length 2 m_line_by
theorem ok_line_by {P : Program} {w : World} {K : PySem.W.Frag} {mg : Str → Option Value} {base : Heap} {a : Addr} {fd : FuncData} (FD : FunD K (PySem.Str.ofString "line_by") (PySem.Str.ofString "line_by") (defArgs s_line_by) (defBody s_line_by) (defScope s_line_by) [] [] a fd) (C_number_there : Cal P w K mg base 1 (PySem.Str.ofString "number_there") 2 F_number_there (Lk.out (Lk.mk false false false false))) (b_range : mg (PySem.Str.ofString "range") = none) (b_sorted : mg (PySem.Str.ofString "sorted") = none) : FnOk P w K mg base (L2N.CX P w) 2 a fd P_line_by (spD K mg 2 F_line_by (Lk.out (Lk.mk false false false true))) := by
  refine fnd_ok (Γ := [.sh, .sh, .all, .all, .all, .sh]) (Γ' := [.sh, .sh, .all, .sh, .sh, .sh]) (Lr := (Lk.mk false false false true)) (k := 1) FD S_line_by rfl (by decide) fun cdv A outer s H E hr tk => ?_
  have hN := S_line_by.nd
  have hu := hr.units
  have hu1 := hu_of hr
  exact (dss_cons (Γ1 := [.sh, .sh, .all, .all, .all, .sh]) (ds_setW (i := 2) hN (de_lst da_nil)) (dss_cons (Γ1 := [.sh, .sh, .all, .sh, .sh, .sh]) (ds_from (Γ1 := [.sh, .sh, .all, .sh, .sh, .sh]) (ds_for (passes_of rfl) rfl (di_range1 (da_cons (de_var (i := 0)) da_nil) b_range) (dg_name (i := 3) hN) (dss_cons (Γ1 := [.sh, .sh, .all, .sh, .sh, .sh]) (ds_setLc (i := 4) (own := [((PySem.Str.ofString "count"), 5)]) rfl hN (di_seq (de_var (i := 1))) (blkOk_by (by rfl)) (by decide) (fun s_ H_ C_ cl_ fp_ => (dg_name (i := 5) hN)) (fun s_ H_ C_ cl_ fp_ => dts_nil) (fun s_ H_ C_ cl_ fp_ => (de_if (db_cmp dcmp_lt (de_var (i := 5)) (de_var (i := 0))) (de_var (i := 5)) (de_if (db_cmp (dcmp_eq hu) (de_var (i := 5)) (de_var (i := 0))) (de_var (i := 3)) (de_opI dop_sub iop_atom (de_opI dop_sub iop_atom (de_var (i := 0)) de_int) (de_var (i := 3))))))) (dss_cons (Γ1 := [.sh, .sh, .all, .sh, .sh, .sh]) (ds_app (i := 2) (de_callC C_number_there hr (da_cons (de_var (i := 0)) (da_cons (de_var (i := 4)) da_nil))) (hv := pv 2)) dss_nilW))) rfl) (dss_cons (Γ1 := [.sh, .sh, .all, .sh, .sh, .sh]) (ds_ret (de_callB (dc_sorted hu) (da_cons (de_var (i := 2)) da_nil) b_sorted boot_sorted)) dss_nilW)))
theorem cal_line_by {P : Program} {w : World} {K : PySem.W.Frag} {mg : Str → Option Value} {base : Heap} {a : Addr} {fd : FuncData} (FD : FunD K (PySem.Str.ofString "line_by") (PySem.Str.ofString "line_by") (defArgs s_line_by) (defBody s_line_by) (defScope s_line_by) [] [] a fd) (hm : mg (PySem.Str.ofString "line_by") = some (.ref a)) (C_number_there : Cal P w K mg base 1 (PySem.Str.ofString "number_there") 2 F_number_there (Lk.out (Lk.mk false false false false))) (b_range : mg (PySem.Str.ofString "range") = none) (b_sorted : mg (PySem.Str.ofString "sorted") = none) : Cal P w K mg base 2 (PySem.Str.ofString "line_by") 2 F_line_by (Lk.out (Lk.mk false false false true)) :=
  cal_mk FD hm (ok_line_by FD C_number_there b_range b_sorted) cFun_len (fun _ _ _ _ _ _ us hl => match us, hl with | [_, _], _ => rfl)

/-! ### lines_there -/
abbrev s_lines_there : Stmt := top 17
def N_lines_there : List Str := [(PySem.Str.ofString "side"), (PySem.Str.ofString "ways"), (PySem.Str.ofString "found"), (PySem.Str.ofString "number"), (PySem.Str.ofString "told"), (PySem.Str.ofString "moves"), (PySem.Str.ofString "count")]
def P_lines_there : List Str := [(PySem.Str.ofString "side"), (PySem.Str.ofString "ways")]
theorem S_lines_there : FnScope N_lines_there P_lines_there (defScope s_lines_there) := ⟨rfl, rfl, rfl, by decide +kernel, rfl, by decide +kernel, by decide +kernel⟩
def m_lines_there : SemS := (cSeq (cSet 2 (cLst cNil)) (cSeq (cFor (cRng1 (cCons (cCallA F_power (cCons (cOp addI (cVar 0) (cC (.int 2))) (cCons (cVar 1) cNil))) cNil)) (gSet 3) (cSeq (cSet 4 (cCallA F_counts_there (cCons (cOp addI (cVar 0) (cC (.int 2))) (cCons (cVar 1) (cCons (cVar 3) cNil))))) (cSeq (cSet 5 (cLc [6] (cSeqI (cVar 4)) (gSet 6) (cCmp geD (cVar 6) (cVar 0)) (cVar 6))) (cSeq (cIfS (cAnd (cCmp neD (cVar 5) (cLst cNil)) (cCmp eqD (cOp ixD (cVar 5) (cC (.int 0))) (cVar 0))) (cSeq (cApp 2 (cCall F_line_by (cCons (cVar 0) (cCons (cVar 4) cNil)))) cSkip) cSkip) cSkip)))) (cSeq (cRet (cFn sortedD (cCons (cVar 2) cNil))) cSkip)))
def F_lines_there : Fn := cFun N_lines_there.length 2 m_lines_there
theorem ok_lines_there {P : Program} {w : World} {K : PySem.W.Frag} {mg : Str → Option Value} {base : Heap} {a : Addr} {fd : FuncData} (FD : FunD K (PySem.Str.ofString "lines_there") (PySem.Str.ofString "lines_there") (defArgs s_lines_there) (defBody s_lines_there) (defScope s_lines_there) [] [] a fd) (C_counts_there : Cal P w K mg base 1 (PySem.Str.ofString "counts_there") 3 F_counts_there (Lk.out (Lk.mk false false false true))) (C_line_by : Cal P w K mg base 2 (PySem.Str.ofString "line_by") 2 F_line_by (Lk.out (Lk.mk false false false true))) (C_power : Cal P w K mg base 1 (PySem.Str.ofString "power") 2 F_power (Lk.out (Lk.mk false false false false))) (b_range : mg (PySem.Str.ofString "range") = none) (b_sorted : mg (PySem.Str.ofString "sorted") = none) : FnOk P w K mg base (L2N.CX P w) 3 a fd P_lines_there (spD K mg 2 F_lines_there (Lk.out (Lk.mk false false false true))) := by
  refine fnd_ok (Γ := [.sh, .sh, .all, .all, .all, .all, .sh]) (Γ' := [.sh, .sh, .all, .sh, .sh, .sh, .sh]) (Lr := (Lk.mk false false false true)) (k := 2) FD S_lines_there rfl (by decide) fun cdv A outer s H E hr tk => ?_
  have hN := S_lines_there.nd
  have hu := hr.units
  have hu1 := hu_of hr
  exact (dss_cons (Γ1 := [.sh, .sh, .all, .all, .all, .all, .sh]) (ds_setW (i := 2) hN (de_lst da_nil)) (dss_cons (Γ1 := [.sh, .sh, .all, .sh, .sh, .sh, .sh]) (ds_from (Γ1 := [.sh, .sh, .all, .sh, .sh, .sh, .sh]) (ds_for (passes_of rfl) rfl (di_range1 (da_cons (de_callA C_power hr (da_cons (de_opI dop_addI iop_atom (de_var (i := 0)) de_int) (da_cons (de_var (i := 1)) da_nil))) da_nil) b_range) (dg_name (i := 3) hN) (dss_cons (Γ1 := [.sh, .sh, .all, .sh, .sh, .sh, .sh]) (ds_setW (i := 4) hN (de_callA C_counts_there hr (da_cons (de_opI dop_addI iop_atom (de_var (i := 0)) de_int) (da_cons (de_var (i := 1)) (da_cons (de_var (i := 3)) da_nil))))) (dss_cons (Γ1 := [.sh, .sh, .all, .sh, .sh, .sh, .sh]) (ds_setLc (i := 5) (own := [((PySem.Str.ofString "count"), 6)]) rfl hN (di_seq (de_var (i := 4))) (blkOk_by (by rfl)) (by decide) (fun s_ H_ C_ cl_ fp_ => (dg_name (i := 6) hN)) (fun s_ H_ C_ cl_ fp_ => (dts_one (db_cmp dcmp_ge (de_var (i := 6)) (de_var (i := 0))))) (fun s_ H_ C_ cl_ fp_ => (de_var (i := 6)))) (dss_cons (Γ1 := [.sh, .sh, .all, .sh, .sh, .sh, .sh]) (ds_if (Γ1 := [.sh, .sh, .all, .sh, .sh, .sh, .sh]) (db_s (dbs_and (db_cmp (dcmp_ne hu) (de_var (i := 5)) (de_lst da_nil)) (dbs_and1 (db_cmp (dcmp_eq hu) (de_sub (de_var (i := 5)) de_int) (de_var (i := 0)))))) (dss_cons (Γ1 := [.sh, .sh, .all, .sh, .sh, .sh, .sh]) (ds_app (i := 2) (de_callC C_line_by hr (da_cons (de_var (i := 0)) (da_cons (de_var (i := 4)) da_nil))) (hv := pv 2)) dss_nilW) dss_nilW) dss_nilW)))) rfl) (dss_cons (Γ1 := [.sh, .sh, .all, .sh, .sh, .sh, .sh]) (ds_ret (de_callB (dc_sorted hu) (da_cons (de_var (i := 2)) da_nil) b_sorted boot_sorted)) dss_nilW)))
theorem cal_lines_there {P : Program} {w : World} {K : PySem.W.Frag} {mg : Str → Option Value} {base : Heap} {a : Addr} {fd : FuncData} (FD : FunD K (PySem.Str.ofString "lines_there") (PySem.Str.ofString "lines_there") (defArgs s_lines_there) (defBody s_lines_there) (defScope s_lines_there) [] [] a fd) (hm : mg (PySem.Str.ofString "lines_there") = some (.ref a)) (C_counts_there : Cal P w K mg base 1 (PySem.Str.ofString "counts_there") 3 F_counts_there (Lk.out (Lk.mk false false false true))) (C_line_by : Cal P w K mg base 2 (PySem.Str.ofString "line_by") 2 F_line_by (Lk.out (Lk.mk false false false true))) (C_power : Cal P w K mg base 1 (PySem.Str.ofString "power") 2 F_power (Lk.out (Lk.mk false false false false))) (b_range : mg (PySem.Str.ofString "range") = none) (b_sorted : mg (PySem.Str.ofString "sorted") = none) : Cal P w K mg base 3 (PySem.Str.ofString "lines_there") 2 F_lines_there (Lk.out (Lk.mk false false false true)) :=
  cal_mk FD hm (ok_lines_there FD C_counts_there C_line_by C_power b_range b_sorted) cFun_len (fun _ _ _ _ _ _ us hl => match us, hl with | [_, _], _ => rfl)

/-! ### board_lines -/
abbrev s_board_lines : Stmt := top 18
def N_board_lines : List Str := [(PySem.Str.ofString "side"), (PySem.Str.ofString "ways")]
def P_board_lines : List Str := [(PySem.Str.ofString "side"), (PySem.Str.ofString "ways")]
theorem S_board_lines : FnScope N_board_lines P_board_lines (defScope s_board_lines) := ⟨rfl, rfl, rfl, by decide +kernel, rfl, by decide +kernel, by decide +kernel⟩
def m_board_lines : SemS := (cSeq ((cCallX F_check_board (cCons (cVar 0) (cCons (cVar 1) cNil)) gDrop)) (cSeq (cRet (cCallA F_lines_there (cCons (cVar 0) (cCons (cVar 1) cNil)))) cSkip))
def F_board_lines : Fn := cFun N_board_lines.length 2 m_board_lines
theorem ok_board_lines {P : Program} {w : World} {K : PySem.W.Frag} {mg : Str → Option Value} {base : Heap} {a : Addr} {fd : FuncData} (FD : FunD K (PySem.Str.ofString "board_lines") (PySem.Str.ofString "board_lines") (defArgs s_board_lines) (defBody s_board_lines) (defScope s_board_lines) [] [] a fd) (C_check_board : Cal P w K mg base 3 (PySem.Str.ofString "check_board") 2 F_check_board (Lk.out (Lk.mk false false false false))) (C_lines_there : Cal P w K mg base 3 (PySem.Str.ofString "lines_there") 2 F_lines_there (Lk.out (Lk.mk false false false true))) : FnOk P w K mg base (L2N.CX P w) 4 a fd P_board_lines (spD K mg 2 F_board_lines (Lk.out (Lk.mk false false false false))) := by
  refine fnd_ok (Γ := [.sh, .sh]) (Γ' := [.sh, .sh]) (Lr := (Lk.mk false false false false)) (k := 3) FD S_board_lines rfl (by decide) fun cdv A outer s H E hr tk => ?_
  have hN := S_board_lines.nd
  have hu := hr.units
  have hu1 := hu_of hr
  exact (dss_cons (Γ1 := [.sh, .sh]) (dsx_expr (dx_callC tk C_check_board hr (da_cons (de_var (i := 0)) (da_cons (de_var (i := 1)) da_nil)))) (dss_cons (Γ1 := [.sh, .sh]) (ds_ret (de_callA C_lines_there hr (da_cons (de_var (i := 0)) (da_cons (de_var (i := 1)) da_nil)))) dss_nilW))
theorem cal_board_lines {P : Program} {w : World} {K : PySem.W.Frag} {mg : Str → Option Value} {base : Heap} {a : Addr} {fd : FuncData} (FD : FunD K (PySem.Str.ofString "board_lines") (PySem.Str.ofString "board_lines") (defArgs s_board_lines) (defBody s_board_lines) (defScope s_board_lines) [] [] a fd) (hm : mg (PySem.Str.ofString "board_lines") = some (.ref a)) (C_check_board : Cal P w K mg base 3 (PySem.Str.ofString "check_board") 2 F_check_board (Lk.out (Lk.mk false false false false))) (C_lines_there : Cal P w K mg base 3 (PySem.Str.ofString "lines_there") 2 F_lines_there (Lk.out (Lk.mk false false false true))) : Cal P w K mg base 4 (PySem.Str.ofString "board_lines") 2 F_board_lines (Lk.out (Lk.mk false false false false)) :=
  cal_mk FD hm (ok_board_lines FD C_check_board C_lines_there) cFun_len (fun _ _ _ _ _ _ us hl => match us, hl with | [_, _], _ => rfl)

/-! ### lines_at -/
abbrev s_lines_at : Stmt := top 19
def N_lines_at : List Str := [(PySem.Str.ofString "side"), (PySem.Str.ofString "ways"), (PySem.Str.ofString "cell"), (PySem.Str.ofString "line")]
def P_lines_at : List Str := [(PySem.Str.ofString "side"), (PySem.Str.ofString "ways"), (PySem.Str.ofString "cell")]
theorem S_lines_at : FnScope N_lines_at P_lines_at (defScope s_lines_at) := ⟨rfl, rfl, rfl, by decide +kernel, rfl, by decide +kernel, by decide +kernel⟩
def m_lines_at : SemS := (cSeq ((cCallX F_check_cell (cCons (cVar 0) (cCons (cVar 1) (cCons (cVar 2) cNil))) gDrop)) (cSeq (cRet (cLc [3] (cSeqI (cCallA F_lines_there (cCons (cVar 0) (cCons (cVar 1) cNil)))) (gSet 3) (cCmp inD (cVar 2) (cVar 3)) (cVar 3))) cSkip))
def F_lines_at : Fn := cFun N_lines_at.length 3 m_lines_at
theorem ok_lines_at {P : Program} {w : World} {K : PySem.W.Frag} {mg : Str → Option Value} {base : Heap} {a : Addr} {fd : FuncData} (FD : FunD K (PySem.Str.ofString "lines_at") (PySem.Str.ofString "lines_at") (defArgs s_lines_at) (defBody s_lines_at) (defScope s_lines_at) [] [] a fd) (C_check_cell : Cal P w K mg base 4 (PySem.Str.ofString "check_cell") 3 F_check_cell (Lk.out (Lk.mk false false false false))) (C_lines_there : Cal P w K mg base 3 (PySem.Str.ofString "lines_there") 2 F_lines_there (Lk.out (Lk.mk false false false true))) : FnOk P w K mg base (L2N.CX P w) 5 a fd P_lines_at (spD K mg 3 F_lines_at (Lk.out (Lk.mk false false true false))) := by
  refine fnd_ok (Γ := [.sh, .sh, .sh, .sh]) (Γ' := [.sh, .sh, .sh, .sh]) (Lr := (Lk.mk false false true false)) (k := 4) FD S_lines_at rfl (by decide) fun cdv A outer s H E hr tk => ?_
  have hN := S_lines_at.nd
  have hu := hr.units
  have hu1 := hu_of hr
  exact (dss_cons (Γ1 := [.sh, .sh, .sh, .sh]) (dsx_expr (dx_callC tk C_check_cell hr (da_cons (de_var (i := 0)) (da_cons (de_var (i := 1)) (da_cons (de_var (i := 2)) da_nil))))) (dss_cons (Γ1 := [.sh, .sh, .sh, .sh]) (ds_ret (de_lc (own := [((PySem.Str.ofString "line"), 3)]) rfl hN (di_seq (de_callA C_lines_there hr (da_cons (de_var (i := 0)) (da_cons (de_var (i := 1)) da_nil)))) (blkOk_by (by rfl)) (by decide) (fun s_ H_ C_ cl_ fp_ => (dg_name (i := 3) hN)) (fun s_ H_ C_ cl_ fp_ => (dts_one (db_cmp (dcmp_in hu) (de_var (i := 2)) (de_var (i := 3))))) (fun s_ H_ C_ cl_ fp_ => (de_var (i := 3))))) dss_nilW))
theorem cal_lines_at {P : Program} {w : World} {K : PySem.W.Frag} {mg : Str → Option Value} {base : Heap} {a : Addr} {fd : FuncData} (FD : FunD K (PySem.Str.ofString "lines_at") (PySem.Str.ofString "lines_at") (defArgs s_lines_at) (defBody s_lines_at) (defScope s_lines_at) [] [] a fd) (hm : mg (PySem.Str.ofString "lines_at") = some (.ref a)) (C_check_cell : Cal P w K mg base 4 (PySem.Str.ofString "check_cell") 3 F_check_cell (Lk.out (Lk.mk false false false false))) (C_lines_there : Cal P w K mg base 3 (PySem.Str.ofString "lines_there") 2 F_lines_there (Lk.out (Lk.mk false false false true))) : Cal P w K mg base 5 (PySem.Str.ofString "lines_at") 3 F_lines_at (Lk.out (Lk.mk false false true false)) :=
  cal_mk FD hm (ok_lines_at FD C_check_cell C_lines_there) cFun_len (fun _ _ _ _ _ _ us hl => match us, hl with | [_, _, _], _ => rfl)

/-! ### how_many_board_lines -/
abbrev s_how_many_board_lines : Stmt := top 20
def N_how_many_board_lines : List Str := [(PySem.Str.ofString "side"), (PySem.Str.ofString "ways")]
def P_how_many_board_lines : List Str := [(PySem.Str.ofString "side"), (PySem.Str.ofString "ways")]
theorem S_how_many_board_lines : FnScope N_how_many_board_lines P_how_many_board_lines (defScope s_how_many_board_lines) := ⟨rfl, rfl, rfl, by decide +kernel, rfl, by decide +kernel, by decide +kernel⟩
def m_how_many_board_lines : SemS := (cSeq ((cCallX F_check_board (cCons (cVar 0) (cCons (cVar 1) cNil)) gDrop)) (cSeq (cRet (cOp fdivD (cOp subD (cCallA F_power (cCons (cOp addI (cVar 0) (cC (.int 2))) (cCons (cVar 1) cNil))) (cCallA F_power (cCons (cVar 0) (cCons (cVar 1) cNil)))) (cC (.int 2)))) cSkip))
def F_how_many_board_lines : Fn := cFun N_how_many_board_lines.length 2 m_how_many_board_lines
theorem ok_how_many_board_lines {P : Program} {w : World} {K : PySem.W.Frag} {mg : Str → Option Value} {base : Heap} {a : Addr} {fd : FuncData} (FD : FunD K (PySem.Str.ofString "how_many_board_lines") (PySem.Str.ofString "how_many_board_lines") (defArgs s_how_many_board_lines) (defBody s_how_many_board_lines) (defScope s_how_many_board_lines) [] [] a fd) (C_check_board : Cal P w K mg base 3 (PySem.Str.ofString "check_board") 2 F_check_board (Lk.out (Lk.mk false false false false))) (C_power : Cal P w K mg base 1 (PySem.Str.ofString "power") 2 F_power (Lk.out (Lk.mk false false false false))) : FnOk P w K mg base (L2N.CX P w) 4 a fd P_how_many_board_lines (spD K mg 2 F_how_many_board_lines (Lk.out (Lk.mk false false false false))) := by
  refine fnd_ok (Γ := [.sh, .sh]) (Γ' := [.sh, .sh]) (Lr := (Lk.mk false false false false)) (k := 3) FD S_how_many_board_lines rfl (by decide) fun cdv A outer s H E hr tk => ?_
  have hN := S_how_many_board_lines.nd
  have hu := hr.units
  have hu1 := hu_of hr
  exact (dss_cons (Γ1 := [.sh, .sh]) (dsx_expr (dx_callC tk C_check_board hr (da_cons (de_var (i := 0)) (da_cons (de_var (i := 1)) da_nil)))) (dss_cons (Γ1 := [.sh, .sh]) (ds_ret (de_opI dop_fdiv iop_atom (de_opI dop_sub iop_atom (de_callA C_power hr (da_cons (de_opI dop_addI iop_atom (de_var (i := 0)) de_int) (da_cons (de_var (i := 1)) da_nil))) (de_callA C_power hr (da_cons (de_var (i := 0)) (da_cons (de_var (i := 1)) da_nil)))) de_int)) dss_nilW))
theorem cal_how_many_board_lines {P : Program} {w : World} {K : PySem.W.Frag} {mg : Str → Option Value} {base : Heap} {a : Addr} {fd : FuncData} (FD : FunD K (PySem.Str.ofString "how_many_board_lines") (PySem.Str.ofString "how_many_board_lines") (defArgs s_how_many_board_lines) (defBody s_how_many_board_lines) (defScope s_how_many_board_lines) [] [] a fd) (hm : mg (PySem.Str.ofString "how_many_board_lines") = some (.ref a)) (C_check_board : Cal P w K mg base 3 (PySem.Str.ofString "check_board") 2 F_check_board (Lk.out (Lk.mk false false false false))) (C_power : Cal P w K mg base 1 (PySem.Str.ofString "power") 2 F_power (Lk.out (Lk.mk false false false false))) : Cal P w K mg base 4 (PySem.Str.ofString "how_many_board_lines") 2 F_how_many_board_lines (Lk.out (Lk.mk false false false false)) :=
  cal_mk FD hm (ok_how_many_board_lines FD C_check_board C_power) cFun_len (fun _ _ _ _ _ _ us hl => match us, hl with | [_, _], _ => rfl)

/-! ### _law_purse -/
abbrev s__law_purse : Stmt := top 22
def N__law_purse : List Str := [(PySem.Str.ofString "script"), (PySem.Str.ofString "at"), (PySem.Str.ofString "seed")]
def P__law_purse : List Str := [(PySem.Str.ofString "script"), (PySem.Str.ofString "at")]
theorem S__law_purse : FnScope N__law_purse P__law_purse (defScope s__law_purse) := ⟨rfl, rfl, rfl, by decide +kernel, rfl, by decide +kernel, by decide +kernel⟩
def m__law_purse : SemS := (cSeq (cSet 2 (cFn sumD (cCons (cSl slD (cVar 0) (cOS (cVar 1)) (cOS (cOp addI (cVar 1) (cC (.int 1))))) cNil))) (cSeq (cRet (cCnew (cCons (cOp modD (cFn int1D (cCons (cFn max2D (cCons (cOp subD (cVar 2) (cOp powD (cC (.int 10)) (cC (.int 18)))) (cCons (cC (.int 0)) cNil))) cNil)) (cOp powD (cOp powD (cC (.int 10)) (cC (.int 60))) (cC (.int 8)))) (cCons (cOp modD (cFn int1D (cCons (cVar 2) cNil)) (cC (.int 2147483629))) (cCons (cC (.int 0)) (cCons (cVar 1) cNil)))))) cSkip))
def F__law_purse : Fn := cFun N__law_purse.length 2 m__law_purse
theorem ok__law_purse {P : Program} {w : World} {K : PySem.W.Frag} {mg : Str → Option Value} {base : Heap} {a : Addr} {fd : FuncData} (FD : FunD K (PySem.Str.ofString "_law_purse") (PySem.Str.ofString "_law_purse") (defArgs s__law_purse) (defBody s__law_purse) (defScope s__law_purse) [] [] a fd) (b_int : mg (PySem.Str.ofString "int") = none) (b_max : mg (PySem.Str.ofString "max") = none) (b_sum : mg (PySem.Str.ofString "sum") = none) : FnOk P w K mg base (L2N.CX P w) 1 a fd P__law_purse (spD K mg 2 F__law_purse (Lk.out (Lk.mk false false false false))) := by
  refine fnd_ok (Γ := [.sh, .sh, .all]) (Γ' := [.sh, .sh, .sh]) (Lr := (Lk.mk false false false false)) (k := 0) FD S__law_purse rfl (by decide) fun cdv A outer s H E hr tk => ?_
  have hN := S__law_purse.nd
  have hu := hr.units
  have hu1 := hu_of hr
  exact (dss_cons (Γ1 := [.sh, .sh, .sh]) (ds_setW (i := 2) hN (de_callB (dc_sum rfl) (da_cons (de_sl dsl (de_var (i := 0)) (do_some (de_var (i := 1))) (do_some (de_opI dop_addI iop_atom (de_var (i := 1)) de_int))) da_nil) b_sum boot_sum)) (dss_cons (Γ1 := [.sh, .sh, .sh]) (ds_ret (de_cnew (da_cons (de_opI dop_mod iop_atom (de_callTy dc_int (da_cons (de_callB (dc_max2 rfl) (da_cons (de_opI dop_sub iop_atom (de_var (i := 2)) (de_opI dop_pow iop_atom de_int de_int)) (da_cons de_int da_nil)) b_max boot_max) da_nil) b_int boot_int) (de_opI dop_pow iop_atom (de_opI dop_pow iop_atom de_int de_int) de_int)) (da_cons (de_opI dop_mod iop_atom (de_callTy dc_int (da_cons (de_var (i := 2)) da_nil) b_int boot_int) de_int) (da_cons de_int (da_cons (de_var (i := 1)) da_nil)))))) dss_nilW))
theorem cal__law_purse {P : Program} {w : World} {K : PySem.W.Frag} {mg : Str → Option Value} {base : Heap} {a : Addr} {fd : FuncData} (FD : FunD K (PySem.Str.ofString "_law_purse") (PySem.Str.ofString "_law_purse") (defArgs s__law_purse) (defBody s__law_purse) (defScope s__law_purse) [] [] a fd) (hm : mg (PySem.Str.ofString "_law_purse") = some (.ref a)) (b_int : mg (PySem.Str.ofString "int") = none) (b_max : mg (PySem.Str.ofString "max") = none) (b_sum : mg (PySem.Str.ofString "sum") = none) : Cal P w K mg base 1 (PySem.Str.ofString "_law_purse") 2 F__law_purse (Lk.out (Lk.mk false false false false)) :=
  cal_mk FD hm (ok__law_purse FD b_int b_max b_sum) cFun_len (fun _ _ _ _ _ _ us hl => match us, hl with | [_, _], _ => rfl)

/-! ### _law_mixed -/
abbrev s__law_mixed : Stmt := top 23
def N__law_mixed : List Str := [(PySem.Str.ofString "seed"), (PySem.Str.ofString "spin"), (PySem.Str.ofString "at"), (PySem.Str.ofString "mixed")]
def P__law_mixed : List Str := [(PySem.Str.ofString "seed"), (PySem.Str.ofString "spin"), (PySem.Str.ofString "at")]
theorem S__law_mixed : FnScope N__law_mixed P__law_mixed (defScope s__law_mixed) := ⟨rfl, rfl, rfl, by decide +kernel, rfl, by decide +kernel, by decide +kernel⟩
def m__law_mixed : SemS := (cSeq (cSet 3 (cOp addI (cOp mulI (cVar 0) (cC (.int 69069))) (cOp mulI (cOp mulI (cC (.int 104729)) (cVar 1)) (cVar 1)))) (cSeq (cSet 3 (cOp modD (cFn int1D (cCons (cOp addI (cOp addI (cVar 3) (cOp mulI (cC (.int 7919)) (cVar 2))) (cVar 1)) cNil)) (cC (.int 2147483647)))) (cSeq (cSet 3 (cOp modD (cFn int1D (cCons (cOp addI (cOp mulI (cVar 3) (cVar 3)) (cC (.int 40503))) cNil)) (cC (.int 2147483629)))) (cSeq (cRet (cOp modD (cFn int1D (cCons (cOp mulI (cVar 3) (cC (.int 48271))) cNil)) (cC (.int 2147483587)))) cSkip))))
def F__law_mixed : Fn := cFun N__law_mixed.length 3 m__law_mixed
theorem ok__law_mixed {P : Program} {w : World} {K : PySem.W.Frag} {mg : Str → Option Value} {base : Heap} {a : Addr} {fd : FuncData} (FD : FunD K (PySem.Str.ofString "_law_mixed") (PySem.Str.ofString "_law_mixed") (defArgs s__law_mixed) (defBody s__law_mixed) (defScope s__law_mixed) [] [] a fd) (b_int : mg (PySem.Str.ofString "int") = none) : FnOk P w K mg base (L2N.CX P w) 1 a fd P__law_mixed (spD K mg 3 F__law_mixed (Lk.out (Lk.mk false false false false))) := by
  refine fnd_ok (Γ := [.sh, .sh, .sh, .all]) (Γ' := [.sh, .sh, .sh, .sh]) (Lr := (Lk.mk false false false false)) (k := 0) FD S__law_mixed rfl (by decide) fun cdv A outer s H E hr tk => ?_
  have hN := S__law_mixed.nd
  have hu := hr.units
  have hu1 := hu_of hr
  exact (dss_cons (Γ1 := [.sh, .sh, .sh, .sh]) (ds_setW (i := 3) hN (de_opI dop_addI iop_atom (de_opI dop_mulI iop_atom (de_var (i := 0)) de_int) (de_opI dop_mulI iop_atom (de_opI dop_mulI iop_atom de_int (de_var (i := 1))) (de_var (i := 1))))) (dss_cons (Γ1 := [.sh, .sh, .sh, .sh]) (ds_setW (i := 3) hN (de_opI dop_mod iop_atom (de_callTy dc_int (da_cons (de_opI dop_addI iop_atom (de_opI dop_addI iop_atom (de_var (i := 3)) (de_opI dop_mulI iop_atom de_int (de_var (i := 2)))) (de_var (i := 1))) da_nil) b_int boot_int) de_int)) (dss_cons (Γ1 := [.sh, .sh, .sh, .sh]) (ds_setW (i := 3) hN (de_opI dop_mod iop_atom (de_callTy dc_int (da_cons (de_opI dop_addI iop_atom (de_opI dop_mulI iop_atom (de_var (i := 3)) (de_var (i := 3))) de_int) da_nil) b_int boot_int) de_int)) (dss_cons (Γ1 := [.sh, .sh, .sh, .sh]) (ds_ret (de_opI dop_mod iop_atom (de_callTy dc_int (da_cons (de_opI dop_mulI iop_atom (de_var (i := 3)) de_int) da_nil) b_int boot_int) de_int)) dss_nilW))))
theorem cal__law_mixed {P : Program} {w : World} {K : PySem.W.Frag} {mg : Str → Option Value} {base : Heap} {a : Addr} {fd : FuncData} (FD : FunD K (PySem.Str.ofString "_law_mixed") (PySem.Str.ofString "_law_mixed") (defArgs s__law_mixed) (defBody s__law_mixed) (defScope s__law_mixed) [] [] a fd) (hm : mg (PySem.Str.ofString "_law_mixed") = some (.ref a)) (b_int : mg (PySem.Str.ofString "int") = none) : Cal P w K mg base 1 (PySem.Str.ofString "_law_mixed") 3 F__law_mixed (Lk.out (Lk.mk false false false false)) :=
  cal_mk FD hm (ok__law_mixed FD b_int) cFun_len (fun _ _ _ _ _ _ us hl => match us, hl with | [_, _, _], _ => rfl)

/-! ### _law_draw -/
abbrev s__law_draw : Stmt := top 24
def N__law_draw : List Str := [(PySem.Str.ofString "purse"), (PySem.Str.ofString "many"), (PySem.Str.ofString "drawn"), (PySem.Str.ofString "found"), (PySem.Str.ofString "piece")]
def P__law_draw : List Str := [(PySem.Str.ofString "purse"), (PySem.Str.ofString "many")]
theorem S__law_draw : FnScope N__law_draw P__law_draw (defScope s__law_draw) := ⟨rfl, rfl, rfl, by decide +kernel, rfl, by decide +kernel, by decide +kernel⟩
def m__law_draw : SemS := (cSeq (cIfS (cCmp gtD (cCix (cVar 0) (cC (.int 0))) (cC (.int 0))) (cSeq (cSet 2 (cOp modD (cFn int1D (cCons (cCix (cVar 0) (cC (.int 0))) cNil)) (cVar 1))) (cSeq (cCset (cVar 0) (cC (.int 0)) (cOp fdivD (cCix (cVar 0) (cC (.int 0))) (cVar 1))) (cSeq (cRet (cAtom (cVar 2))) cSkip))) cSkip) (cSeq (cSet 3 (cC (.int 0))) (cSeq (cFor (cRng1 (cCons (cOp addI (cC (.int 1)) (cOp fdivD (cBits (cVar 1)) (cC (.int 28)))) cNil)) (gSet 4) (cSeq (cCset (cVar 0) (cC (.int 2)) (cOp addI (cCix (cVar 0) (cC (.int 2))) (cC (.int 1)))) (cSeq (cSet 3 (cOp addI (cOp mulI (cVar 3) (cC (.int 2147483587))) (cCallA F__law_mixed (cCons (cCix (cVar 0) (cC (.int 1))) (cCons (cCix (cVar 0) (cC (.int 2))) (cCons (cCix (cVar 0) (cC (.int 3))) cNil)))))) cSkip))) (cSeq (cRet (cOp modD (cFn int1D (cCons (cVar 3) cNil)) (cVar 1))) cSkip))))
def F__law_draw : Fn := cFun N__law_draw.length 2 m__law_draw
theorem ok__law_draw {P : Program} {w : World} {K : PySem.W.Frag} {mg : Str → Option Value} {base : Heap} {a : Addr} {fd : FuncData} (FD : FunD K (PySem.Str.ofString "_law_draw") (PySem.Str.ofString "_law_draw") (defArgs s__law_draw) (defBody s__law_draw) (defScope s__law_draw) [] [] a fd) (C__law_mixed : Cal P w K mg base 1 (PySem.Str.ofString "_law_mixed") 3 F__law_mixed (Lk.out (Lk.mk false false false false))) (b_int : mg (PySem.Str.ofString "int") = none) (b_range : mg (PySem.Str.ofString "range") = none) : FnOk P w K mg base (L2N.CX P w) 2 a fd P__law_draw (spD K mg 2 F__law_draw (Lk.out (Lk.mk false false false false))) := by
  refine fnd_ok (Γ := [.sh, .sh, .all, .all, .all]) (Γ' := [.sh, .sh, .all, .sh, .sh]) (Lr := (Lk.mk false false false false)) (k := 1) FD S__law_draw rfl (by decide) fun cdv A outer s H E hr tk => ?_
  have hN := S__law_draw.nd
  have hu := hr.units
  have hu1 := hu_of hr
  exact (dss_cons (Γ1 := [.sh, .sh, .all, .all, .all]) (ds_if (Γ1 := [.sh, .sh, .all, .all, .all]) (db_cmp dcmp_gt (de_cix (de_var (i := 0)) de_int) de_int) (dss_cons (Γ1 := [.sh, .sh, .sh, .all, .all]) (ds_setW (i := 2) hN (de_opI dop_mod iop_atom (de_callTy dc_int (da_cons (de_cix (de_var (i := 0)) de_int) da_nil) b_int boot_int) (de_var (i := 1)))) (dss_cons (Γ1 := [.sh, .sh, .sh, .all, .all]) (ds_cset (de_opI dop_fdiv iop_atom (de_cix (de_var (i := 0)) de_int) (de_var (i := 1))) (de_var (i := 0)) de_int) (dss_cons (Γ1 := [.sh, .sh, .all, .all, .all]) (ds_ret (de_atom (de_var (i := 2)))) dss_nilW))) dss_nilW) (dss_cons (Γ1 := [.sh, .sh, .all, .sh, .all]) (ds_setW (i := 3) hN de_int) (dss_cons (Γ1 := [.sh, .sh, .all, .sh, .sh]) (ds_from (Γ1 := [.sh, .sh, .all, .sh, .sh]) (ds_for (passes_of rfl) rfl (di_range1 (da_cons (de_opI dop_addI iop_atom de_int (de_opI dop_fdiv iop_atom (de_bits (de_var (i := 1))) de_int)) da_nil) b_range) (dg_name (i := 4) hN) (dss_cons (Γ1 := [.sh, .sh, .all, .sh, .sh]) (ds_cset (de_opI dop_addI iop_atom (de_cix (de_var (i := 0)) de_int) de_int) (de_var (i := 0)) de_int) (dss_cons (Γ1 := [.sh, .sh, .all, .sh, .sh]) (ds_setW (i := 3) hN (de_opI dop_addI iop_atom (de_opI dop_mulI iop_atom (de_var (i := 3)) de_int) (de_callA C__law_mixed hr (da_cons (de_cix (de_var (i := 0)) de_int) (da_cons (de_cix (de_var (i := 0)) de_int) (da_cons (de_cix (de_var (i := 0)) de_int) da_nil)))))) dss_nilW))) rfl) (dss_cons (Γ1 := [.sh, .sh, .all, .sh, .sh]) (ds_ret (de_opI dop_mod iop_atom (de_callTy dc_int (da_cons (de_var (i := 3)) da_nil) b_int boot_int) (de_var (i := 1)))) dss_nilW))))
theorem cal__law_draw {P : Program} {w : World} {K : PySem.W.Frag} {mg : Str → Option Value} {base : Heap} {a : Addr} {fd : FuncData} (FD : FunD K (PySem.Str.ofString "_law_draw") (PySem.Str.ofString "_law_draw") (defArgs s__law_draw) (defBody s__law_draw) (defScope s__law_draw) [] [] a fd) (hm : mg (PySem.Str.ofString "_law_draw") = some (.ref a)) (C__law_mixed : Cal P w K mg base 1 (PySem.Str.ofString "_law_mixed") 3 F__law_mixed (Lk.out (Lk.mk false false false false))) (b_int : mg (PySem.Str.ofString "int") = none) (b_range : mg (PySem.Str.ofString "range") = none) : Cal P w K mg base 2 (PySem.Str.ofString "_law_draw") 2 F__law_draw (Lk.out (Lk.mk false false false false)) :=
  cal_mk FD hm (ok__law_draw FD C__law_mixed b_int b_range) cFun_len (fun _ _ _ _ _ _ us hl => match us, hl with | [_, _], _ => rfl)

/-! ### _law_purses -/
abbrev s__law_purses : Stmt := top 25
def N__law_purses : List Str := [(PySem.Str.ofString "script"), (PySem.Str.ofString "few"), (PySem.Str.ofString "at")]
def P__law_purses : List Str := [(PySem.Str.ofString "script"), (PySem.Str.ofString "few")]
theorem S__law_purses : FnScope N__law_purses P__law_purses (defScope s__law_purses) := ⟨rfl, rfl, rfl, by decide +kernel, rfl, by decide +kernel, by decide +kernel⟩
def m__law_purses : SemS := (cSeq (cRet (cLc [2] (cRng1 (cCons (cFn max2D (cCons (cC (.int 1)) (cCons (cFn min2D (cCons (cVar 1) (cCons (cFn lenD (cCons (cVar 0) cNil)) cNil))) cNil))) cNil)) (gSet 2) cYes (cCall F__law_purse (cCons (cVar 0) (cCons (cVar 2) cNil))))) cSkip)
def F__law_purses : Fn := cFun N__law_purses.length 2 m__law_purses
theorem ok__law_purses {P : Program} {w : World} {K : PySem.W.Frag} {mg : Str → Option Value} {base : Heap} {a : Addr} {fd : FuncData} (FD : FunD K (PySem.Str.ofString "_law_purses") (PySem.Str.ofString "_law_purses") (defArgs s__law_purses) (defBody s__law_purses) (defScope s__law_purses) [] [] a fd) (C__law_purse : Cal P w K mg base 1 (PySem.Str.ofString "_law_purse") 2 F__law_purse (Lk.out (Lk.mk false false false false))) (b_len : mg (PySem.Str.ofString "len") = none) (b_max : mg (PySem.Str.ofString "max") = none) (b_min : mg (PySem.Str.ofString "min") = none) (b_range : mg (PySem.Str.ofString "range") = none) : FnOk P w K mg base (L2N.CX P w) 2 a fd P__law_purses (spD K mg 2 F__law_purses (Lk.out (Lk.mk false false false false))) := by
  refine fnd_ok (Γ := [.sh, .sh, .sh]) (Γ' := [.sh, .sh, .sh]) (Lr := (Lk.mk false false false false)) (k := 1) FD S__law_purses rfl (by decide) fun cdv A outer s H E hr tk => ?_
  have hN := S__law_purses.nd
  have hu := hr.units
  have hu1 := hu_of hr
  exact (dss_cons (Γ1 := [.sh, .sh, .sh]) (ds_ret (de_lc (own := [((PySem.Str.ofString "at"), 2)]) rfl hN (di_range1 (da_cons (de_callB (dc_max2 rfl) (da_cons de_int (da_cons (de_callB (dc_min2 rfl) (da_cons (de_var (i := 1)) (da_cons (de_callB dc_len (da_cons (de_var (i := 0)) da_nil) b_len boot_len) da_nil)) b_min boot_min) da_nil)) b_max boot_max) da_nil) b_range) (blkOk_by (by rfl)) (by decide) (fun s_ H_ C_ cl_ fp_ => (dg_name (i := 2) hN)) (fun s_ H_ C_ cl_ fp_ => dts_nil) (fun s_ H_ C_ cl_ fp_ => (de_callC C__law_purse hr (da_cons (de_var (i := 0)) (da_cons (de_var (i := 2)) da_nil)))))) dss_nilW)
theorem cal__law_purses {P : Program} {w : World} {K : PySem.W.Frag} {mg : Str → Option Value} {base : Heap} {a : Addr} {fd : FuncData} (FD : FunD K (PySem.Str.ofString "_law_purses") (PySem.Str.ofString "_law_purses") (defArgs s__law_purses) (defBody s__law_purses) (defScope s__law_purses) [] [] a fd) (hm : mg (PySem.Str.ofString "_law_purses") = some (.ref a)) (C__law_purse : Cal P w K mg base 1 (PySem.Str.ofString "_law_purse") 2 F__law_purse (Lk.out (Lk.mk false false false false))) (b_len : mg (PySem.Str.ofString "len") = none) (b_max : mg (PySem.Str.ofString "max") = none) (b_min : mg (PySem.Str.ofString "min") = none) (b_range : mg (PySem.Str.ofString "range") = none) : Cal P w K mg base 2 (PySem.Str.ofString "_law_purses") 2 F__law_purses (Lk.out (Lk.mk false false false false)) :=
  cal_mk FD hm (ok__law_purses FD C__law_purse b_len b_max b_min b_range) cFun_len (fun _ _ _ _ _ _ us hl => match us, hl with | [_, _], _ => rfl)

/-! ### _law_one_of -/
abbrev s__law_one_of : Stmt := top 26
def N__law_one_of : List Str := [(PySem.Str.ofString "purse"), (PySem.Str.ofString "some")]
def P__law_one_of : List Str := [(PySem.Str.ofString "purse"), (PySem.Str.ofString "some")]
theorem S__law_one_of : FnScope N__law_one_of P__law_one_of (defScope s__law_one_of) := ⟨rfl, rfl, rfl, by decide +kernel, rfl, by decide +kernel, by decide +kernel⟩
def m__law_one_of : SemS := (cSeq (cRet (cOp ixD (cVar 1) (cCallA F__law_draw (cCons (cVar 0) (cCons (cFn lenD (cCons (cVar 1) cNil)) cNil))))) cSkip)
def F__law_one_of : Fn := cFun N__law_one_of.length 2 m__law_one_of
theorem ok__law_one_of {P : Program} {w : World} {K : PySem.W.Frag} {mg : Str → Option Value} {base : Heap} {a : Addr} {fd : FuncData} (FD : FunD K (PySem.Str.ofString "_law_one_of") (PySem.Str.ofString "_law_one_of") (defArgs s__law_one_of) (defBody s__law_one_of) (defScope s__law_one_of) [] [] a fd) (C__law_draw : Cal P w K mg base 2 (PySem.Str.ofString "_law_draw") 2 F__law_draw (Lk.out (Lk.mk false false false false))) (b_len : mg (PySem.Str.ofString "len") = none) : FnOk P w K mg base (L2N.CX P w) 3 a fd P__law_one_of (spD K mg 2 F__law_one_of (Lk.out (Lk.mk true false true false))) := by
  refine fnd_ok (Γ := [.sh, .sh]) (Γ' := [.sh, .sh]) (Lr := (Lk.mk true false true false)) (k := 2) FD S__law_one_of rfl (by decide) fun cdv A outer s H E hr tk => ?_
  have hN := S__law_one_of.nd
  have hu := hr.units
  have hu1 := hu_of hr
  exact (dss_cons (Γ1 := [.sh, .sh]) (ds_ret (de_sub (de_var (i := 1)) (de_callA C__law_draw hr (da_cons (de_var (i := 0)) (da_cons (de_callB dc_len (da_cons (de_var (i := 1)) da_nil) b_len boot_len) da_nil))))) dss_nilW)
theorem cal__law_one_of {P : Program} {w : World} {K : PySem.W.Frag} {mg : Str → Option Value} {base : Heap} {a : Addr} {fd : FuncData} (FD : FunD K (PySem.Str.ofString "_law_one_of") (PySem.Str.ofString "_law_one_of") (defArgs s__law_one_of) (defBody s__law_one_of) (defScope s__law_one_of) [] [] a fd) (hm : mg (PySem.Str.ofString "_law_one_of") = some (.ref a)) (C__law_draw : Cal P w K mg base 2 (PySem.Str.ofString "_law_draw") 2 F__law_draw (Lk.out (Lk.mk false false false false))) (b_len : mg (PySem.Str.ofString "len") = none) : Cal P w K mg base 3 (PySem.Str.ofString "_law_one_of") 2 F__law_one_of (Lk.out (Lk.mk true false true false)) :=
  cal_mk FD hm (ok__law_one_of FD C__law_draw b_len) cFun_len (fun _ _ _ _ _ _ us hl => match us, hl with | [_, _], _ => rfl)

/-! ### _law_exact -/
abbrev s__law_exact : Stmt := top 27
def N__law_exact : List Str := [(PySem.Str.ofString "mine"), (PySem.Str.ofString "theirs"), (PySem.Str.ofString "is_list"), (PySem.Str.ofString "is_like"), (PySem.Str.ofString "a"), (PySem.Str.ofString "b")]
def P__law_exact : List Str := [(PySem.Str.ofString "mine"), (PySem.Str.ofString "theirs")]
theorem S__law_exact : FnScope N__law_exact P__law_exact (defScope s__law_exact) := ⟨rfl, rfl, rfl, by decide +kernel, rfl, by decide +kernel, by decide +kernel⟩
def m__law_exact (R_ : Fn) : SemS := (cSeq (cIfS (cIsT [.lst, .tup] (cVar 0)) (cSeq (cSet 2 (cB (cCmp eqD (cB (cIs .lst (cVar 1))) (cB (cIs .lst (cVar 0)))))) (cSeq (cSet 3 (cB (cAnd (cIsB (cVar 2)) (cCmp eqD (cB (cIs .tup (cVar 1))) (cB (cIs .tup (cVar 0))))))) (cSeq (cRet (cB (cAnd (cIsB (cVar 3)) (cAnd (cCmp eqD (cFn lenD (cCons (cVar 0) cNil)) (cFn lenD (cCons (cVar 1) cNil))) (cIsB (cFn allD (cCons (cLc [4, 5] (cZip (cCons (cVar 0) (cCons (cVar 1) cNil))) (gSeq 2 (gsCons (gSet 4) (gsCons (gSet 5) gsNil))) cYes (cCall R_ (cCons (cVar 4) (cCons (cVar 5) cNil)))) cNil))))))) cSkip))) cSkip) (cSeq (cIfS (cOr (cIsT [.lst, .tup] (cVar 1)) (cCmp neD (cB (cCmp isD (cVar 0) (cC .non))) (cB (cCmp isD (cVar 1) (cC .non))))) (cSeq (cRet (cC (.bl false))) cSkip) cSkip) (cSeq (cSet 3 (cB (cAnd (cCmp eqD (cB (cIs .int (cVar 0))) (cB (cIs .int (cVar 1)))) (cCmp eqD (cB (cIs .str (cVar 0))) (cB (cIs .str (cVar 1))))))) (cSeq (cRet (cB (cAnd (cIsB (cVar 3)) (cAnd (cCmp eqD (cB (cIs .bl (cVar 0))) (cB (cIs .bl (cVar 1)))) (cCmp eqD (cVar 0) (cVar 1)))))) cSkip))))
def F__law_exact : Nat → Fn
  | 0 => fun _ _ => none
  | n + 1 => cFun N__law_exact.length 2 (m__law_exact (F__law_exact n))
theorem F__law_exact_len : ∀ j ds s r, F__law_exact j ds s = some r → ds.length = 2
  | 0, _, _, _, h => nomatch h
  | j + 1, ds, s, r, h => cFun_len ds s r h
theorem step__law_exact {P : Program} {w : World} {K : PySem.W.Frag} {mg : Str → Option Value} {base : Heap} {a : Addr} {fd : FuncData} (FD : FunD K (PySem.Str.ofString "_law_exact") (PySem.Str.ofString "_law_exact") (defArgs s__law_exact) (defBody s__law_exact) (defScope s__law_exact) [] [] a fd) (b_all : mg (PySem.Str.ofString "all") = none) (b_bool : mg (PySem.Str.ofString "bool") = none) (b_int : mg (PySem.Str.ofString "int") = none) (b_isinstance : mg (PySem.Str.ofString "isinstance") = none) (b_len : mg (PySem.Str.ofString "len") = none) (b_list : mg (PySem.Str.ofString "list") = none) (b_str : mg (PySem.Str.ofString "str") = none) (b_tuple : mg (PySem.Str.ofString "tuple") = none) (b_zip : mg (PySem.Str.ofString "zip") = none) (j : Nat) (C__law_exact : Cal P w K mg base (1 + j) (PySem.Str.ofString "_law_exact") 2 (F__law_exact j) (Lk.out (Lk.mk false false false false))) : FnOk P w K mg base (L2N.CX P w) (1 + (j + 1)) a fd P__law_exact (spD K mg 2 (F__law_exact (j + 1)) (Lk.out (Lk.mk false false false false))) := by
  refine fnd_ok (Γ := [.sh, .sh, .all, .all, .sh, .sh]) (Γ' := [.sh, .sh, .all, .sh, .sh, .sh]) (Lr := (Lk.mk false false false false)) (k := 1 + j) FD S__law_exact rfl (by decide) fun cdv A outer s H E hr tk => ?_
  have hN := S__law_exact.nd
  have hu := hr.units
  have hu1 := hu_of hr
  exact (dss_cons (Γ1 := [.sh, .sh, .all, .all, .sh, .sh]) (ds_if (Γ1 := [.sh, .sh, .all, .all, .sh, .sh]) (db_isT (ts := [.lst, .tup]) (de_var (i := 0)) (pa_cons (pe_bt (t := .lst) b_list (by rfl)) (pa_cons (pe_bt (t := .tup) b_tuple (by rfl)) pa_nil)) b_isinstance) (dss_cons (Γ1 := [.sh, .sh, .sh, .all, .sh, .sh]) (ds_setW (i := 2) hN (de_b (db_cmp (dcmp_eq hu) (de_b (db_is (t := .lst) (de_var (i := 1)) (pe_bt (t := .lst) b_list (by rfl)) b_isinstance)) (de_b (db_is (t := .lst) (de_var (i := 0)) (pe_bt (t := .lst) b_list (by rfl)) b_isinstance))))) (dss_cons (Γ1 := [.sh, .sh, .sh, .sh, .sh, .sh]) (ds_setW (i := 3) hN (de_b (db_s (dbs_and (db_e (de_var (i := 2))) (dbs_and1 (db_cmp (dcmp_eq hu) (de_b (db_is (t := .tup) (de_var (i := 1)) (pe_bt (t := .tup) b_tuple (by rfl)) b_isinstance)) (de_b (db_is (t := .tup) (de_var (i := 0)) (pe_bt (t := .tup) b_tuple (by rfl)) b_isinstance)))))))) (dss_cons (Γ1 := [.sh, .sh, .all, .all, .sh, .sh]) (ds_ret (de_b (db_s (dbs_and (db_e (de_var (i := 3))) (dbs_and (db_cmp (dcmp_eq hu) (de_callB dc_len (da_cons (de_var (i := 0)) da_nil) b_len boot_len) (de_callB dc_len (da_cons (de_var (i := 1)) da_nil) b_len boot_len)) (dbs_and1 (db_e (de_callB (dc_all rfl) (da_cons (de_lc (own := [((PySem.Str.ofString "a"), 4), ((PySem.Str.ofString "b"), 5)]) rfl hN (di_zip (da_cons (de_var (i := 0)) (da_cons (de_var (i := 1)) da_nil)) b_zip) (blkOk_by (by rfl)) (by decide) (fun s_ H_ C_ cl_ fp_ => (dg_seq (n := 2) rfl (dgs_cons (dg_name (i := 4) hN) (dgs_cons (dg_name (i := 5) hN) dgs_nil)))) (fun s_ H_ C_ cl_ fp_ => dts_nil) (fun s_ H_ C_ cl_ fp_ => (de_callC (hj := Nat.le_refl _) C__law_exact hr (da_cons (de_var (i := 4)) (da_cons (de_var (i := 5)) da_nil))))) da_nil) b_all boot_all)))))))) dss_nilW))) dss_nilW) (dss_cons (Γ1 := [.sh, .sh, .all, .all, .sh, .sh]) (ds_if (Γ1 := [.sh, .sh, .all, .all, .sh, .sh]) (db_s (dbs_or (db_isT (ts := [.lst, .tup]) (de_var (i := 1)) (pa_cons (pe_bt (t := .lst) b_list (by rfl)) (pa_cons (pe_bt (t := .tup) b_tuple (by rfl)) pa_nil)) b_isinstance) (dbs_or1 (db_cmp (dcmp_ne hu) (de_b (db_cmp dcmp_is (de_var (i := 0)) de_non)) (de_b (db_cmp dcmp_is (de_var (i := 1)) de_non)))))) (dss_cons (Γ1 := [.sh, .sh, .all, .all, .sh, .sh]) (ds_ret de_bl) dss_nilW) dss_nilW) (dss_cons (Γ1 := [.sh, .sh, .all, .sh, .sh, .sh]) (ds_setW (i := 3) hN (de_b (db_s (dbs_and (db_cmp (dcmp_eq hu) (de_b (db_is (t := .int) (de_var (i := 0)) (pe_bt (t := .int) b_int (by rfl)) b_isinstance)) (de_b (db_is (t := .int) (de_var (i := 1)) (pe_bt (t := .int) b_int (by rfl)) b_isinstance))) (dbs_and1 (db_cmp (dcmp_eq hu) (de_b (db_is (t := .str) (de_var (i := 0)) (pe_bt (t := .str) b_str (by rfl)) b_isinstance)) (de_b (db_is (t := .str) (de_var (i := 1)) (pe_bt (t := .str) b_str (by rfl)) b_isinstance)))))))) (dss_cons (Γ1 := [.sh, .sh, .all, .sh, .sh, .sh]) (ds_ret (de_b (db_s (dbs_and (db_e (de_var (i := 3))) (dbs_and (db_cmp (dcmp_eq hu) (de_b (db_is (t := .bl) (de_var (i := 0)) (pe_bt (t := .bl) b_bool (by rfl)) b_isinstance)) (de_b (db_is (t := .bl) (de_var (i := 1)) (pe_bt (t := .bl) b_bool (by rfl)) b_isinstance))) (dbs_and1 (db_cmp (dcmp_eq hu) (de_var (i := 0)) (de_var (i := 1))))))))) dss_nilW))))
theorem cal__law_exact {P : Program} {w : World} {K : PySem.W.Frag} {mg : Str → Option Value} {base : Heap} {a : Addr} {fd : FuncData} (FD : FunD K (PySem.Str.ofString "_law_exact") (PySem.Str.ofString "_law_exact") (defArgs s__law_exact) (defBody s__law_exact) (defScope s__law_exact) [] [] a fd) (hm : mg (PySem.Str.ofString "_law_exact") = some (.ref a)) (b_all : mg (PySem.Str.ofString "all") = none) (b_bool : mg (PySem.Str.ofString "bool") = none) (b_int : mg (PySem.Str.ofString "int") = none) (b_isinstance : mg (PySem.Str.ofString "isinstance") = none) (b_len : mg (PySem.Str.ofString "len") = none) (b_list : mg (PySem.Str.ofString "list") = none) (b_str : mg (PySem.Str.ofString "str") = none) (b_tuple : mg (PySem.Str.ofString "tuple") = none) (b_zip : mg (PySem.Str.ofString "zip") = none) : ∀ j, Cal P w K mg base (1 + j) (PySem.Str.ofString "_law_exact") 2 (F__law_exact j) (Lk.out (Lk.mk false false false false))
  | 0 => cal_mk FD hm (FnOk.mono' (fnok_none FD S__law_exact) (by decide)) (F__law_exact_len 0) (fun _ _ _ _ _ _ us hl => match us, hl with | [_, _], _ => rfl)
  | j + 1 => cal_mk FD hm (step__law_exact FD b_all b_bool b_int b_isinstance b_len b_list b_str b_tuple b_zip j (cal__law_exact FD hm b_all b_bool b_int b_isinstance b_len b_list b_str b_tuple b_zip j)) (F__law_exact_len (j + 1)) (fun _ _ _ _ _ _ us hl => match us, hl with | [_, _], _ => rfl)

/-! ### _law_power -/
abbrev s__law_power : Stmt := top 28
def N__law_power : List Str := [(PySem.Str.ofString "number"), (PySem.Str.ofString "many"), (PySem.Str.ofString "found"), (PySem.Str.ofString "spin")]
def P__law_power : List Str := [(PySem.Str.ofString "number"), (PySem.Str.ofString "many")]
theorem S__law_power : FnScope N__law_power P__law_power (defScope s__law_power) := ⟨rfl, rfl, rfl, by decide +kernel, rfl, by decide +kernel, by decide +kernel⟩
def m__law_power : SemS := (cSeq (cSet 2 (cC (.int 1))) (cSeq (cFor (cRng1 (cCons (cVar 1) cNil)) (gSet 3) (cSeq (cSet 2 (cOp mulI (cVar 2) (cVar 0))) cSkip)) (cSeq (cRet (cAtom (cVar 2))) cSkip)))
def F__law_power : Fn := cFun N__law_power.length 2 m__law_power
theorem ok__law_power {P : Program} {w : World} {K : PySem.W.Frag} {mg : Str → Option Value} {base : Heap} {a : Addr} {fd : FuncData} (FD : FunD K (PySem.Str.ofString "_law_power") (PySem.Str.ofString "_law_power") (defArgs s__law_power) (defBody s__law_power) (defScope s__law_power) [] [] a fd) (b_range : mg (PySem.Str.ofString "range") = none) : FnOk P w K mg base (L2N.CX P w) 1 a fd P__law_power (spD K mg 2 F__law_power (Lk.out (Lk.mk false false false false))) := by
  refine fnd_ok (Γ := [.sh, .sh, .all, .all]) (Γ' := [.sh, .sh, .sh, .sh]) (Lr := (Lk.mk false false false false)) (k := 0) FD S__law_power rfl (by decide) fun cdv A outer s H E hr tk => ?_
  have hN := S__law_power.nd
  have hu := hr.units
  have hu1 := hu_of hr
  exact (dss_cons (Γ1 := [.sh, .sh, .sh, .all]) (ds_setW (i := 2) hN de_int) (dss_cons (Γ1 := [.sh, .sh, .sh, .sh]) (ds_from (Γ1 := [.sh, .sh, .sh, .sh]) (ds_for (passes_of rfl) rfl (di_range1 (da_cons (de_var (i := 1)) da_nil) b_range) (dg_name (i := 3) hN) (dss_cons (Γ1 := [.sh, .sh, .sh, .sh]) (ds_setW (i := 2) hN (de_opI dop_mulI iop_atom (de_var (i := 2)) (de_var (i := 0)))) dss_nilW)) rfl) (dss_cons (Γ1 := [.sh, .sh, .sh, .sh]) (ds_ret (de_atom (de_var (i := 2)))) dss_nilW)))
theorem cal__law_power {P : Program} {w : World} {K : PySem.W.Frag} {mg : Str → Option Value} {base : Heap} {a : Addr} {fd : FuncData} (FD : FunD K (PySem.Str.ofString "_law_power") (PySem.Str.ofString "_law_power") (defArgs s__law_power) (defBody s__law_power) (defScope s__law_power) [] [] a fd) (hm : mg (PySem.Str.ofString "_law_power") = some (.ref a)) (b_range : mg (PySem.Str.ofString "range") = none) : Cal P w K mg base 1 (PySem.Str.ofString "_law_power") 2 F__law_power (Lk.out (Lk.mk false false false false)) :=
  cal_mk FD hm (ok__law_power FD b_range) cFun_len (fun _ _ _ _ _ _ us hl => match us, hl with | [_, _], _ => rfl)

/-! ### _law_figures -/
abbrev s__law_figures : Stmt := top 29
def N__law_figures : List Str := [(PySem.Str.ofString "side"), (PySem.Str.ofString "ways"), (PySem.Str.ofString "cell"), (PySem.Str.ofString "found"), (PySem.Str.ofString "spin")]
def P__law_figures : List Str := [(PySem.Str.ofString "side"), (PySem.Str.ofString "ways"), (PySem.Str.ofString "cell")]
theorem S__law_figures : FnScope N__law_figures P__law_figures (defScope s__law_figures) := ⟨rfl, rfl, rfl, by decide +kernel, rfl, by decide +kernel, by decide +kernel⟩
def m__law_figures : SemS := (cSeq (cSet 3 (cLst cNil)) (cSeq (cFor (cRng1 (cCons (cVar 1) cNil)) (gSet 4) (cSeq (cSet 3 (cFlat (cOp addD (cLst (cCons (cOp modD (cVar 2) (cVar 0)) cNil)) (cVar 3)))) (cSeq (cSet 2 (cOp fdivD (cVar 2) (cVar 0))) cSkip))) (cSeq (cRet (cVar 3)) cSkip)))
def F__law_figures : Fn := cFun N__law_figures.length 3 m__law_figures
theorem ok__law_figures {P : Program} {w : World} {K : PySem.W.Frag} {mg : Str → Option Value} {base : Heap} {a : Addr} {fd : FuncData} (FD : FunD K (PySem.Str.ofString "_law_figures") (PySem.Str.ofString "_law_figures") (defArgs s__law_figures) (defBody s__law_figures) (defScope s__law_figures) [] [] a fd) (b_range : mg (PySem.Str.ofString "range") = none) : FnOk P w K mg base (L2N.CX P w) 1 a fd P__law_figures (spD K mg 3 F__law_figures (Lk.out (Lk.mk false true false true))) := by
  refine fnd_ok (Γ := [.sh, .sh, .sh, .all, .all]) (Γ' := [.sh, .sh, .sh, .all, .sh]) (Lr := (Lk.mk false true false true)) (k := 0) FD S__law_figures rfl (by decide) fun cdv A outer s H E hr tk => ?_
  have hN := S__law_figures.nd
  have hu := hr.units
  have hu1 := hu_of hr
  exact (dss_cons (Γ1 := [.sh, .sh, .sh, .all, .all]) (ds_setW (i := 3) hN (de_lst da_nil)) (dss_cons (Γ1 := [.sh, .sh, .sh, .all, .sh]) (ds_from (Γ1 := [.sh, .sh, .sh, .all, .sh]) (ds_for (passes_of rfl) rfl (di_range1 (da_cons (de_var (i := 1)) da_nil) b_range) (dg_name (i := 4) hN) (dss_cons (Γ1 := [.sh, .sh, .sh, .all, .sh]) (ds_setW (i := 3) hN (de_flat (de_op dop_add (de_lst (da_cons (de_opI dop_mod iop_atom (de_var (i := 2)) (de_var (i := 0))) da_nil)) (de_var (i := 3))))) (dss_cons (Γ1 := [.sh, .sh, .sh, .all, .sh]) (ds_setW (i := 2) hN (de_opI dop_fdiv iop_atom (de_var (i := 2)) (de_var (i := 0)))) dss_nilW))) rfl) (dss_cons (Γ1 := [.sh, .sh, .sh, .all, .sh]) (ds_ret (de_var (i := 3))) dss_nilW)))
theorem cal__law_figures {P : Program} {w : World} {K : PySem.W.Frag} {mg : Str → Option Value} {base : Heap} {a : Addr} {fd : FuncData} (FD : FunD K (PySem.Str.ofString "_law_figures") (PySem.Str.ofString "_law_figures") (defArgs s__law_figures) (defBody s__law_figures) (defScope s__law_figures) [] [] a fd) (hm : mg (PySem.Str.ofString "_law_figures") = some (.ref a)) (b_range : mg (PySem.Str.ofString "range") = none) : Cal P w K mg base 1 (PySem.Str.ofString "_law_figures") 3 F__law_figures (Lk.out (Lk.mk false true false true)) :=
  cal_mk FD hm (ok__law_figures FD b_range) cFun_len (fun _ _ _ _ _ _ us hl => match us, hl with | [_, _, _], _ => rfl)

/-! ### _law_number -/
abbrev s__law_number : Stmt := top 30
def N__law_number : List Str := [(PySem.Str.ofString "side"), (PySem.Str.ofString "counts"), (PySem.Str.ofString "found"), (PySem.Str.ofString "count")]
def P__law_number : List Str := [(PySem.Str.ofString "side"), (PySem.Str.ofString "counts")]
theorem S__law_number : FnScope N__law_number P__law_number (defScope s__law_number) := ⟨rfl, rfl, rfl, by decide +kernel, rfl, by decide +kernel, by decide +kernel⟩
def m__law_number : SemS := (cSeq (cSet 2 (cC (.int 0))) (cSeq (cFor (cSeqI (cVar 1)) (gSet 3) (cSeq (cSet 2 (cOp addI (cOp mulI (cVar 2) (cVar 0)) (cVar 3))) cSkip)) (cSeq (cRet (cAtom (cVar 2))) cSkip)))
def F__law_number : Fn := cFun N__law_number.length 2 m__law_number
theorem ok__law_number {P : Program} {w : World} {K : PySem.W.Frag} {mg : Str → Option Value} {base : Heap} {a : Addr} {fd : FuncData} (FD : FunD K (PySem.Str.ofString "_law_number") (PySem.Str.ofString "_law_number") (defArgs s__law_number) (defBody s__law_number) (defScope s__law_number) [] [] a fd)  : FnOk P w K mg base (L2N.CX P w) 1 a fd P__law_number (spD K mg 2 F__law_number (Lk.out (Lk.mk false false false false))) := by
  refine fnd_ok (Γ := [.sh, .sh, .all, .all]) (Γ' := [.sh, .sh, .sh, .sh]) (Lr := (Lk.mk false false false false)) (k := 0) FD S__law_number rfl (by decide) fun cdv A outer s H E hr tk => ?_
  have hN := S__law_number.nd
  have hu := hr.units
  have hu1 := hu_of hr
  exact (dss_cons (Γ1 := [.sh, .sh, .sh, .all]) (ds_setW (i := 2) hN de_int) (dss_cons (Γ1 := [.sh, .sh, .sh, .sh]) (ds_from (Γ1 := [.sh, .sh, .sh, .sh]) (ds_for (passes_of rfl) rfl (di_seq (de_var (i := 1))) (dg_name (i := 3) hN) (dss_cons (Γ1 := [.sh, .sh, .sh, .sh]) (ds_setW (i := 2) hN (de_opI dop_addI iop_atom (de_opI dop_mulI iop_atom (de_var (i := 2)) (de_var (i := 0))) (de_var (i := 3)))) dss_nilW)) rfl) (dss_cons (Γ1 := [.sh, .sh, .sh, .sh]) (ds_ret (de_atom (de_var (i := 2)))) dss_nilW)))
theorem cal__law_number {P : Program} {w : World} {K : PySem.W.Frag} {mg : Str → Option Value} {base : Heap} {a : Addr} {fd : FuncData} (FD : FunD K (PySem.Str.ofString "_law_number") (PySem.Str.ofString "_law_number") (defArgs s__law_number) (defBody s__law_number) (defScope s__law_number) [] [] a fd) (hm : mg (PySem.Str.ofString "_law_number") = some (.ref a))  : Cal P w K mg base 1 (PySem.Str.ofString "_law_number") 2 F__law_number (Lk.out (Lk.mk false false false false)) :=
  cal_mk FD hm (ok__law_number FD ) cFun_len (fun _ _ _ _ _ _ us hl => match us, hl with | [_, _], _ => rfl)

/-! ### _law_steps -/
abbrev s__law_steps : Stmt := top 31
def N__law_steps : List Str := [(PySem.Str.ofString "ways"), (PySem.Str.ofString "found"), (PySem.Str.ofString "spin"), (PySem.Str.ofString "longer"), (PySem.Str.ofString "row"), (PySem.Str.ofString "step")]
def P__law_steps : List Str := [(PySem.Str.ofString "ways")]
theorem S__law_steps : FnScope N__law_steps P__law_steps (defScope s__law_steps) := ⟨rfl, rfl, rfl, by decide +kernel, rfl, by decide +kernel, by decide +kernel⟩
def m__law_steps : SemS := (cSeq (cSet 1 (cLst (cCons (cLst cNil) cNil))) (cSeq (cFor (cRng1 (cCons (cVar 0) cNil)) (gSet 2) (cSeq (cSet 3 (cLst cNil)) (cSeq (cFor (cSeqI (cVar 1)) (gSet 4) (cSeq (cSet 3 (cOp addD (cVar 3) (cLc [5] (cSeqI (cLst (cCons (cNeg (cC (.int 1))) (cCons (cC (.int 0)) (cCons (cC (.int 1)) cNil))))) (gSet 5) cYes (cOp addD (cVar 4) (cLst (cCons (cVar 5) cNil)))))) cSkip)) (cSeq (cSet 1 (cVar 3)) cSkip)))) (cSeq (cRet (cLc [4] (cSeqI (cVar 1)) (gSet 4) (cCmp neD (cVar 4) (cOp mulD (cLst (cCons (cC (.int 0)) cNil)) (cVar 0))) (cVar 4))) cSkip)))
def F__law_steps : Fn := cFun N__law_steps.length 1 m__law_steps
theorem ok__law_steps {P : Program} {w : World} {K : PySem.W.Frag} {mg : Str → Option Value} {base : Heap} {a : Addr} {fd : FuncData} (FD : FunD K (PySem.Str.ofString "_law_steps") (PySem.Str.ofString "_law_steps") (defArgs s__law_steps) (defBody s__law_steps) (defScope s__law_steps) [] [] a fd) (b_range : mg (PySem.Str.ofString "range") = none) : FnOk P w K mg base (L2N.CX P w) 1 a fd P__law_steps (spD K mg 1 F__law_steps (Lk.out (Lk.mk false false true false))) := by
  refine fnd_ok (Γ := [.sh, .all, .all, .all, .sh, .sh]) (Γ' := [.sh, .sh, .sh, .sh, .sh, .sh]) (Lr := (Lk.mk false false true false)) (k := 0) FD S__law_steps rfl (by decide) fun cdv A outer s H E hr tk => ?_
  have hN := S__law_steps.nd
  have hu := hr.units
  have hu1 := hu_of hr
  exact (dss_cons (Γ1 := [.sh, .sh, .all, .all, .sh, .sh]) (ds_setW (i := 1) hN (de_lst (da_cons (de_lst da_nil) da_nil))) (dss_cons (Γ1 := [.sh, .sh, .sh, .sh, .sh, .sh]) (ds_from (Γ1 := [.sh, .sh, .sh, .sh, .sh, .sh]) (ds_for (passes_of rfl) rfl (di_range1 (da_cons (de_var (i := 0)) da_nil) b_range) (dg_name (i := 2) hN) (dss_cons (Γ1 := [.sh, .sh, .sh, .sh, .sh, .sh]) (ds_setW (i := 3) hN (de_lst da_nil)) (dss_cons (Γ1 := [.sh, .sh, .sh, .sh, .sh, .sh]) (ds_for (passes_of rfl) rfl (di_seq (de_var (i := 1))) (dg_name (i := 4) hN) (dss_cons (Γ1 := [.sh, .sh, .sh, .sh, .sh, .sh]) (ds_setW (i := 3) hN (de_op dop_add (de_var (i := 3)) (de_lc (own := [((PySem.Str.ofString "step"), 5)]) rfl hN (di_seq (de_lst (da_cons (de_neg de_int) (da_cons de_int (da_cons de_int da_nil))))) (blkOk_by (by rfl)) (by decide) (fun s_ H_ C_ cl_ fp_ => (dg_name (i := 5) hN)) (fun s_ H_ C_ cl_ fp_ => dts_nil) (fun s_ H_ C_ cl_ fp_ => (de_op dop_add (de_var (i := 4)) (de_lst (da_cons (de_var (i := 5)) da_nil))))))) dss_nilW)) (dss_cons (Γ1 := [.sh, .sh, .sh, .sh, .sh, .sh]) (ds_setW (i := 1) hN (de_var (i := 3))) dss_nilW)))) rfl) (dss_cons (Γ1 := [.sh, .sh, .sh, .sh, .sh, .sh]) (ds_ret (de_lc (own := [((PySem.Str.ofString "row"), 4)]) rfl hN (di_seq (de_var (i := 1))) (blkOk_by (by rfl)) (by decide) (fun s_ H_ C_ cl_ fp_ => (dg_name (i := 4) hN)) (fun s_ H_ C_ cl_ fp_ => (dts_one (db_cmp (dcmp_ne hu) (de_var (i := 4)) (de_op dop_mul (de_lst (da_cons de_int da_nil)) (de_var (i := 0)))))) (fun s_ H_ C_ cl_ fp_ => (de_var (i := 4))))) dss_nilW)))
theorem cal__law_steps {P : Program} {w : World} {K : PySem.W.Frag} {mg : Str → Option Value} {base : Heap} {a : Addr} {fd : FuncData} (FD : FunD K (PySem.Str.ofString "_law_steps") (PySem.Str.ofString "_law_steps") (defArgs s__law_steps) (defBody s__law_steps) (defScope s__law_steps) [] [] a fd) (hm : mg (PySem.Str.ofString "_law_steps") = some (.ref a)) (b_range : mg (PySem.Str.ofString "range") = none) : Cal P w K mg base 1 (PySem.Str.ofString "_law_steps") 1 F__law_steps (Lk.out (Lk.mk false false true false)) :=
  cal_mk FD hm (ok__law_steps FD b_range) cFun_len (fun _ _ _ _ _ _ us hl => match us, hl with | [_], _ => rfl)

/-! ### _law_lines -/
abbrev s__law_lines : Stmt := top 32
def N__law_lines : List Str := [(PySem.Str.ofString "side"), (PySem.Str.ofString "ways"), (PySem.Str.ofString "found"), (PySem.Str.ofString "cell"), (PySem.Str.ofString "counts"), (PySem.Str.ofString "steps"), (PySem.Str.ofString "firsts"), (PySem.Str.ofString "count"), (PySem.Str.ofString "step"), (PySem.Str.ofString "row"), (PySem.Str.ofString "far")]
def P__law_lines : List Str := [(PySem.Str.ofString "side"), (PySem.Str.ofString "ways")]
theorem S__law_lines : FnScope N__law_lines P__law_lines (defScope s__law_lines) := ⟨rfl, rfl, rfl, by decide +kernel, rfl, by decide +kernel, by decide +kernel⟩
def m__law_lines : SemS := (cSeq (cSet 2 (cC (.dT []))) (cSeq (cFor (cRng1 (cCons (cCallA F__law_power (cCons (cVar 0) (cCons (cVar 1) cNil))) cNil)) (gSet 3) (cSeq (cSet 4 (cCallA F__law_figures (cCons (cVar 0) (cCons (cVar 1) (cCons (cVar 3) cNil))))) (cSeq (cFor (cSeqI (cCallA F__law_steps (cCons (cVar 1) cNil))) (gSet 5) (cSeq (cSet 6 (cDisp (cPcons (cC (.int 1)) (cC (.int 0)) (cPcons (cNeg (cC (.int 1))) (cOp subD (cVar 0) (cC (.int 1))) cPnil)))) (cSeq (cIfS (cCmp eqD (cLc [7, 8] (cZip (cCons (cVar 4) (cCons (cVar 5) cNil))) (gSeq 2 (gsCons (gSet 7) (gsCons (gSet 8) gsNil))) (cAnd (cCmp neD (cVar 8) (cC (.int 0))) (cCmp neD (cVar 7) (cOp gDix (cVar 6) (cVar 8)))) (cC (.int 1))) (cLst cNil)) (cSeq (cSet 9 (cLst cNil)) (cSeq (cFor (cRng1 (cCons (cVar 0) cNil)) (gSet 10) (cSeq (cApp 9 (cCall F__law_number (cCons (cVar 0) (cCons (cLc [7, 8] (cZip (cCons (cVar 4) (cCons (cVar 5) cNil))) (gSeq 2 (gsCons (gSet 7) (gsCons (gSet 8) gsNil))) cYes (cOp addI (cVar 7) (cOp mulI (cVar 10) (cVar 8)))) cNil)))) cSkip)) (cSeq (cDput 2 (cFn tupleD (cCons (cFn sortedD (cCons (cVar 9) cNil)) cNil)) (cC (.bl true))) cSkip))) cSkip) cSkip))) cSkip))) (cSeq (cRet (cLc [9] (cSeqI (cFn sortedXD (cCons (cVar 2) cNil))) (gSet 9) cYes (cFn listD (cCons (cVar 9) cNil)))) cSkip)))
def F__law_lines : Fn := cFun N__law_lines.length 2 m__law_lines
theorem ok__law_lines {P : Program} {w : World} {K : PySem.W.Frag} {mg : Str → Option Value} {base : Heap} {a : Addr} {fd : FuncData} (FD : FunD K (PySem.Str.ofString "_law_lines") (PySem.Str.ofString "_law_lines") (defArgs s__law_lines) (defBody s__law_lines) (defScope s__law_lines) [] [] a fd) (C__law_figures : Cal P w K mg base 1 (PySem.Str.ofString "_law_figures") 3 F__law_figures (Lk.out (Lk.mk false true false true))) (C__law_number : Cal P w K mg base 1 (PySem.Str.ofString "_law_number") 2 F__law_number (Lk.out (Lk.mk false false false false))) (C__law_steps : Cal P w K mg base 1 (PySem.Str.ofString "_law_steps") 1 F__law_steps (Lk.out (Lk.mk false false true false))) (C__law_power : Cal P w K mg base 1 (PySem.Str.ofString "_law_power") 2 F__law_power (Lk.out (Lk.mk false false false false))) (b_list : mg (PySem.Str.ofString "list") = none) (b_range : mg (PySem.Str.ofString "range") = none) (b_sorted : mg (PySem.Str.ofString "sorted") = none) (b_tuple : mg (PySem.Str.ofString "tuple") = none) (b_zip : mg (PySem.Str.ofString "zip") = none) : FnOk P w K mg base (L2N.CX P w) 2 a fd P__law_lines (spD K mg 2 F__law_lines (Lk.out (Lk.mk false false true false))) := by
  refine fnd_ok (Γ := [.sh, .sh, .all, .all, .all, .all, .all, .sh, .sh, .sh, .all]) (Γ' := [.sh, .sh, .all, .sh, .sh, .sh, .sh, .sh, .sh, .sh, .sh]) (Lr := (Lk.mk false false true false)) (k := 1) FD S__law_lines rfl (by decide) fun cdv A outer s H E hr tk => ?_
  have hN := S__law_lines.nd
  have hu := hr.units
  have hu1 := hu_of hr
  exact (dss_cons (Γ1 := [.sh, .sh, .all, .all, .all, .all, .all, .sh, .sh, .sh, .all]) (ds_setW (i := 2) hN de_dnewT) (dss_cons (Γ1 := [.sh, .sh, .all, .sh, .sh, .sh, .sh, .sh, .sh, .sh, .sh]) (ds_from (Γ1 := [.sh, .sh, .all, .sh, .sh, .sh, .sh, .sh, .sh, .sh, .sh]) (ds_for (passes_of rfl) rfl (di_range1 (da_cons (de_callA C__law_power hr (da_cons (de_var (i := 0)) (da_cons (de_var (i := 1)) da_nil))) da_nil) b_range) (dg_name (i := 3) hN) (dss_cons (Γ1 := [.sh, .sh, .all, .sh, .sh, .sh, .sh, .sh, .sh, .sh, .sh]) (ds_setW (i := 4) hN (de_callA C__law_figures hr (da_cons (de_var (i := 0)) (da_cons (de_var (i := 1)) (da_cons (de_var (i := 3)) da_nil))))) (dss_cons (Γ1 := [.sh, .sh, .all, .sh, .sh, .sh, .sh, .sh, .sh, .sh, .sh]) (ds_for (passes_of rfl) rfl (di_seq (de_callA C__law_steps hr (da_cons (de_var (i := 1)) da_nil))) (dg_name (i := 5) hN) (dss_cons (Γ1 := [.sh, .sh, .all, .sh, .sh, .sh, .sh, .sh, .sh, .sh, .sh]) (ds_setW (i := 6) hN (de_disp (dp_cons de_int de_int (dp_cons (de_neg de_int) (de_opI dop_sub iop_atom (de_var (i := 0)) de_int) dp_nil)) (hg := fun _ _ _ _ h => Nat.le_trans (Nat.le_of_eq ((pl_cons (pl_cons pl_nil)) _ _ _ _ h)) (by decide)))) (dss_cons (Γ1 := [.sh, .sh, .all, .sh, .sh, .sh, .sh, .sh, .sh, .sh, .sh]) (ds_if (Γ1 := [.sh, .sh, .all, .sh, .sh, .sh, .sh, .sh, .sh, .sh, .sh]) (db_cmp (dcmp_eq hu) (de_lc (own := [((PySem.Str.ofString "count"), 7), ((PySem.Str.ofString "step"), 8)]) rfl hN (di_zip (da_cons (de_var (i := 4)) (da_cons (de_var (i := 5)) da_nil)) b_zip) (blkOk_by (by rfl)) (by decide) (fun s_ H_ C_ cl_ fp_ => (dg_seq (n := 2) rfl (dgs_cons (dg_name (i := 7) hN) (dgs_cons (dg_name (i := 8) hN) dgs_nil)))) (fun s_ H_ C_ cl_ fp_ => (dts_one (db_s (dbs_and (db_cmp (dcmp_ne hu) (de_var (i := 8)) de_int) (dbs_and1 (db_cmp (dcmp_ne hu) (de_var (i := 7)) (de_dix hu1 (de_var (i := 6)) (de_var (i := 8))))))))) (fun s_ H_ C_ cl_ fp_ => de_int)) (de_lst da_nil)) (dss_cons (Γ1 := [.sh, .sh, .all, .sh, .sh, .sh, .sh, .sh, .sh, .all, .sh]) (ds_setW (i := 9) hN (de_lst da_nil)) (dss_cons (Γ1 := [.sh, .sh, .all, .sh, .sh, .sh, .sh, .sh, .sh, .all, .sh]) (ds_for (passes_of rfl) rfl (di_range1 (da_cons (de_var (i := 0)) da_nil) b_range) (dg_name (i := 10) hN) (dss_cons (Γ1 := [.sh, .sh, .all, .sh, .sh, .sh, .sh, .sh, .sh, .all, .sh]) (ds_app (i := 9) (de_callC C__law_number hr (da_cons (de_var (i := 0)) (da_cons (de_lc (own := [((PySem.Str.ofString "count"), 7), ((PySem.Str.ofString "step"), 8)]) rfl hN (di_zip (da_cons (de_var (i := 4)) (da_cons (de_var (i := 5)) da_nil)) b_zip) (blkOk_by (by rfl)) (by decide) (fun s_ H_ C_ cl_ fp_ => (dg_seq (n := 2) rfl (dgs_cons (dg_name (i := 7) hN) (dgs_cons (dg_name (i := 8) hN) dgs_nil)))) (fun s_ H_ C_ cl_ fp_ => dts_nil) (fun s_ H_ C_ cl_ fp_ => (de_opI dop_addI iop_atom (de_var (i := 7)) (de_opI dop_mulI iop_atom (de_var (i := 10)) (de_var (i := 8)))))) da_nil))) (hv := pv 9)) dss_nilW)) (dss_cons (Γ1 := [.sh, .sh, .all, .sh, .sh, .sh, .sh, .sh, .sh, .all, .sh]) (ds_dput (i := 2) hu1 de_bl (de_callTy dc_tuple (da_cons (de_callB (dc_sorted hu) (da_cons (de_var (i := 9)) da_nil) b_sorted boot_sorted) da_nil) b_tuple boot_tuple) (hv := pv 2)) dss_nilW))) dss_nilW) dss_nilW))) dss_nilW))) rfl) (dss_cons (Γ1 := [.sh, .sh, .all, .sh, .sh, .sh, .sh, .sh, .sh, .sh, .sh]) (ds_ret (de_lc (own := [((PySem.Str.ofString "row"), 9)]) rfl hN (di_seq (de_callB (dc_sortedDT rfl hu) (da_cons (de_var (i := 2)) da_nil) b_sorted boot_sorted)) (blkOk_by (by rfl)) (by decide) (fun s_ H_ C_ cl_ fp_ => (dg_name (i := 9) hN)) (fun s_ H_ C_ cl_ fp_ => dts_nil) (fun s_ H_ C_ cl_ fp_ => (de_callTy dc_list (da_cons (de_var (i := 9)) da_nil) b_list boot_list)))) dss_nilW)))
theorem cal__law_lines {P : Program} {w : World} {K : PySem.W.Frag} {mg : Str → Option Value} {base : Heap} {a : Addr} {fd : FuncData} (FD : FunD K (PySem.Str.ofString "_law_lines") (PySem.Str.ofString "_law_lines") (defArgs s__law_lines) (defBody s__law_lines) (defScope s__law_lines) [] [] a fd) (hm : mg (PySem.Str.ofString "_law_lines") = some (.ref a)) (C__law_figures : Cal P w K mg base 1 (PySem.Str.ofString "_law_figures") 3 F__law_figures (Lk.out (Lk.mk false true false true))) (C__law_number : Cal P w K mg base 1 (PySem.Str.ofString "_law_number") 2 F__law_number (Lk.out (Lk.mk false false false false))) (C__law_steps : Cal P w K mg base 1 (PySem.Str.ofString "_law_steps") 1 F__law_steps (Lk.out (Lk.mk false false true false))) (C__law_power : Cal P w K mg base 1 (PySem.Str.ofString "_law_power") 2 F__law_power (Lk.out (Lk.mk false false false false))) (b_list : mg (PySem.Str.ofString "list") = none) (b_range : mg (PySem.Str.ofString "range") = none) (b_sorted : mg (PySem.Str.ofString "sorted") = none) (b_tuple : mg (PySem.Str.ofString "tuple") = none) (b_zip : mg (PySem.Str.ofString "zip") = none) : Cal P w K mg base 2 (PySem.Str.ofString "_law_lines") 2 F__law_lines (Lk.out (Lk.mk false false true false)) :=
  cal_mk FD hm (ok__law_lines FD C__law_figures C__law_number C__law_steps C__law_power b_list b_range b_sorted b_tuple b_zip) cFun_len (fun _ _ _ _ _ _ us hl => match us, hl with | [_, _], _ => rfl)

/-! ### _law_board -/
abbrev s__law_board : Stmt := top 33
def N__law_board : List Str := [(PySem.Str.ofString "purse"), (PySem.Str.ofString "some")]
def P__law_board : List Str := [(PySem.Str.ofString "purse")]
theorem S__law_board : FnScope N__law_board P__law_board (defScope s__law_board) := ⟨rfl, rfl, rfl, by decide +kernel, rfl, by decide +kernel, by decide +kernel⟩
def m__law_board : SemS := (cSeq (cSet 1 (cLst (cCons (cTup (cCons (cC (.int 2)) (cCons (cC (.int 1)) cNil))) (cCons (cTup (cCons (cC (.int 2)) (cCons (cC (.int 2)) cNil))) (cCons (cTup (cCons (cC (.int 2)) (cCons (cC (.int 3)) cNil))) (cCons (cTup (cCons (cC (.int 2)) (cCons (cC (.int 4)) cNil))) (cCons (cTup (cCons (cC (.int 3)) (cCons (cC (.int 1)) cNil))) (cCons (cTup (cCons (cC (.int 3)) (cCons (cC (.int 2)) cNil))) (cCons (cTup (cCons (cC (.int 3)) (cCons (cC (.int 3)) cNil))) (cCons (cTup (cCons (cC (.int 3)) (cCons (cC (.int 4)) cNil))) (cCons (cTup (cCons (cC (.int 4)) (cCons (cC (.int 2)) cNil))) (cCons (cTup (cCons (cC (.int 4)) (cCons (cC (.int 3)) cNil))) (cCons (cTup (cCons (cC (.int 5)) (cCons (cC (.int 1)) cNil))) (cCons (cTup (cCons (cC (.int 5)) (cCons (cC (.int 2)) cNil))) (cCons (cTup (cCons (cC (.int 5)) (cCons (cC (.int 3)) cNil))) cNil))))))))))))))) (cSeq (cRet (cCall F__law_one_of (cCons (cVar 0) (cCons (cVar 1) cNil)))) cSkip))
def F__law_board : Fn := cFun N__law_board.length 1 m__law_board
theorem ok__law_board {P : Program} {w : World} {K : PySem.W.Frag} {mg : Str → Option Value} {base : Heap} {a : Addr} {fd : FuncData} (FD : FunD K (PySem.Str.ofString "_law_board") (PySem.Str.ofString "_law_board") (defArgs s__law_board) (defBody s__law_board) (defScope s__law_board) [] [] a fd) (C__law_one_of : Cal P w K mg base 3 (PySem.Str.ofString "_law_one_of") 2 F__law_one_of (Lk.out (Lk.mk true false true false))) : FnOk P w K mg base (L2N.CX P w) 4 a fd P__law_board (spD K mg 1 F__law_board (Lk.out (Lk.mk true false true false))) := by
  refine fnd_ok (Γ := [.sh, .all]) (Γ' := [.sh, .sh]) (Lr := (Lk.mk true false true false)) (k := 3) FD S__law_board rfl (by decide) fun cdv A outer s H E hr tk => ?_
  have hN := S__law_board.nd
  have hu := hr.units
  have hu1 := hu_of hr
  exact (dss_cons (Γ1 := [.sh, .sh]) (ds_setW (i := 1) hN (de_lst (da_cons (de_tup (da_cons de_int (da_cons de_int da_nil))) (da_cons (de_tup (da_cons de_int (da_cons de_int da_nil))) (da_cons (de_tup (da_cons de_int (da_cons de_int da_nil))) (da_cons (de_tup (da_cons de_int (da_cons de_int da_nil))) (da_cons (de_tup (da_cons de_int (da_cons de_int da_nil))) (da_cons (de_tup (da_cons de_int (da_cons de_int da_nil))) (da_cons (de_tup (da_cons de_int (da_cons de_int da_nil))) (da_cons (de_tup (da_cons de_int (da_cons de_int da_nil))) (da_cons (de_tup (da_cons de_int (da_cons de_int da_nil))) (da_cons (de_tup (da_cons de_int (da_cons de_int da_nil))) (da_cons (de_tup (da_cons de_int (da_cons de_int da_nil))) (da_cons (de_tup (da_cons de_int (da_cons de_int da_nil))) (da_cons (de_tup (da_cons de_int (da_cons de_int da_nil))) da_nil))))))))))))))) (dss_cons (Γ1 := [.sh, .sh]) (ds_ret (de_callC C__law_one_of hr (da_cons (de_var (i := 0)) (da_cons (de_var (i := 1)) da_nil)))) dss_nilW))
theorem cal__law_board {P : Program} {w : World} {K : PySem.W.Frag} {mg : Str → Option Value} {base : Heap} {a : Addr} {fd : FuncData} (FD : FunD K (PySem.Str.ofString "_law_board") (PySem.Str.ofString "_law_board") (defArgs s__law_board) (defBody s__law_board) (defScope s__law_board) [] [] a fd) (hm : mg (PySem.Str.ofString "_law_board") = some (.ref a)) (C__law_one_of : Cal P w K mg base 3 (PySem.Str.ofString "_law_one_of") 2 F__law_one_of (Lk.out (Lk.mk true false true false))) : Cal P w K mg base 4 (PySem.Str.ofString "_law_board") 1 F__law_board (Lk.out (Lk.mk true false true false)) :=
  cal_mk FD hm (ok__law_board FD C__law_one_of) cFun_len (fun _ _ _ _ _ _ us hl => match us, hl with | [_], _ => rfl)

/-! ### _law_case_right -/
abbrev s__law_case_right : Stmt := top 34
def N__law_case_right : List Str := [(PySem.Str.ofString "purse"), (PySem.Str.ofString "side"), (PySem.Str.ofString "ways"), (PySem.Str.ofString "due"), (PySem.Str.ofString "told"), (PySem.Str.ofString "many"), (PySem.Str.ofString "spin"), (PySem.Str.ofString "cell"), (PySem.Str.ofString "counts"), (PySem.Str.ofString "late"), (PySem.Str.ofString "mine"), (PySem.Str.ofString "line"), (PySem.Str.ofString "lines")]
def P__law_case_right : List Str := [(PySem.Str.ofString "purse")]
theorem S__law_case_right : FnScope N__law_case_right P__law_case_right (defScope s__law_case_right) := ⟨rfl, rfl, rfl, by decide +kernel, rfl, by decide +kernel, by decide +kernel⟩
def m__law_case_right : SemS := (cSeq (cAsg (gSeq 2 (gsCons (gSet 1) (gsCons (gSet 2) gsNil))) (cCall F__law_board (cCons (cVar 0) cNil))) (cSeq (cSet 3 (cCallA F__law_lines (cCons (cVar 1) (cCons (cVar 2) cNil)))) (cSeq (cSet 4 (cLst (cCons (cCallA F_board_lines (cCons (cVar 1) (cCons (cVar 2) cNil))) (cCons (cCallA F_board_lines (cPerm 2 [1, 0] (cCons (cVar 2) (cCons (cVar 1) cNil)))) cNil)))) (cSeq (cSet 5 (cLst (cCons (cCallA F_how_many_board_lines (cCons (cVar 1) (cCons (cVar 2) cNil))) (cCons (cCallA F_how_many_board_lines (cPerm 2 [1, 0] (cCons (cVar 2) (cCons (cVar 1) cNil)))) cNil)))) (cSeq (cIfS (cNot (cIsB (cCall (F__law_exact 8) (cCons (cLst (cCons (cLst (cCons (cVar 3) (cCons (cVar 3) cNil))) (cCons (cOp mulD (cLst (cCons (cFn lenD (cCons (cVar 3) cNil)) cNil)) (cC (.int 2))) cNil))) (cCons (cLst (cCons (cVar 4) (cCons (cVar 5) cNil))) cNil))))) (cSeq (cRet (cC (.bl false))) cSkip) cSkip) (cSpoil 4 [[0, 0], [0]] 2 (cSeq (cFor (cRng1 (cCons (cC (.int 4)) cNil)) (gSet 6) (cSeq (cSet 7 (cCallA F__law_draw (cCons (cVar 0) (cCons (cCallA F__law_power (cCons (cVar 1) (cCons (cVar 2) cNil))) cNil)))) (cSeq (cSet 8 (cCallA F__law_figures (cCons (cVar 1) (cCons (cVar 2) (cCons (cVar 7) cNil))))) (cSeq (cSet 9 (cLst (cCons (cCallA F_cell_counts (cCons (cVar 1) (cCons (cVar 2) (cCons (cVar 7) cNil)))) (cCons (cCallA F_cell_counts (cPerm 3 [2, 1, 0] (cCons (cVar 7) (cCons (cVar 2) (cCons (cVar 1) cNil))))) cNil)))) (cSeq (cSet 10 (cLc [11] (cSeqI (cVar 3)) (gSet 11) (cCmp inD (cVar 7) (cVar 11)) (cVar 11))) (cSeq (cSet 12 (cLst (cCons (cCallA F_lines_at (cCons (cVar 1) (cCons (cVar 2) (cCons (cVar 7) cNil)))) (cCons (cCallA F_lines_at (cPerm 3 [2, 1, 0] (cCons (cVar 7) (cCons (cVar 2) (cCons (cVar 1) cNil))))) cNil)))) (cSeq (cIfS (cNot (cIsB (cCall (F__law_exact 8) (cCons (cLst (cCons (cLst (cCons (cVar 8) (cCons (cVar 8) cNil))) (cCons (cLst (cCons (cVar 10) (cCons (cVar 10) cNil))) cNil))) (cCons (cLst (cCons (cVar 9) (cCons (cVar 12) cNil))) cNil))))) (cSeq (cRet (cC (.bl false))) cSkip) cSkip) (cSpoil 9 [[0]] 1 (cSpoil 12 [[0]] 1 cSkip))))))))) (cSeq (cIfS (cNot (cIsB (cCall (F__law_exact 8) (cCons (cVar 3) (cCons (cCallA F_board_lines (cCons (cVar 1) (cCons (cVar 2) cNil))) cNil))))) (cSeq (cRet (cC (.bl false))) cSkip) cSkip) (cSeq (cPar 1 2 (cCons (cOp addI (cC (.int 2)) (cCallA F__law_draw (cCons (cVar 0) (cCons (cOp powD (cC (.int 10)) (cC (.int 6))) cNil)))) (cCons (cOp addI (cC (.int 1)) (cCallA F__law_draw (cCons (cVar 0) (cCons (cC (.int 30)) cNil)))) cNil))) (cSeq (cSet 7 (cOp modD (cCallA F__law_draw (cCons (cVar 0) (cCons (cOp powD (cC (.int 10)) (cC (.int 60))) cNil))) (cCallA F__law_power (cCons (cVar 1) (cCons (cVar 2) cNil))))) (cSeq (cSet 4 (cLst (cCons (cCallA F_how_many_board_lines (cCons (cVar 1) (cCons (cVar 2) cNil))) (cCons (cCallA F_cell_counts (cCons (cVar 1) (cCons (cVar 2) (cCons (cVar 7) cNil)))) cNil)))) (cSeq (cSet 3 (cOp fdivD (cOp subD (cCallA F__law_power (cCons (cOp addI (cVar 1) (cC (.int 2))) (cCons (cVar 2) cNil))) (cCallA F__law_power (cCons (cVar 1) (cCons (cVar 2) cNil)))) (cC (.int 2)))) (cSeq (cRet (cCall (F__law_exact 8) (cCons (cLst (cCons (cVar 3) (cCons (cCallA F__law_figures (cCons (cVar 1) (cCons (cVar 2) (cCons (cVar 7) cNil)))) cNil))) (cCons (cVar 4) cNil)))) cSkip)))))))))))))
def F__law_case_right : Fn := cFun N__law_case_right.length 1 m__law_case_right
theorem ok__law_case_right {P : Program} {w : World} {K : PySem.W.Frag} {mg : Str → Option Value} {base : Heap} {a : Addr} {fd : FuncData} (FD : FunD K (PySem.Str.ofString "_law_case_right") (PySem.Str.ofString "_law_case_right") (defArgs s__law_case_right) (defBody s__law_case_right) (defScope s__law_case_right) [] [] a fd) (C__law_board : Cal P w K mg base 4 (PySem.Str.ofString "_law_board") 1 F__law_board (Lk.out (Lk.mk true false true false))) (C__law_lines : Cal P w K mg base 2 (PySem.Str.ofString "_law_lines") 2 F__law_lines (Lk.out (Lk.mk false false true false))) (K_board_lines_ways_side : CalK P w K mg base 4 (PySem.Str.ofString "board_lines") 2 F_board_lines (Lk.out (Lk.mk false false false false)) [(PySem.Str.ofString "ways"), (PySem.Str.ofString "side")] [1, 0]) (C_board_lines : Cal P w K mg base 4 (PySem.Str.ofString "board_lines") 2 F_board_lines (Lk.out (Lk.mk false false false false))) (K_how_many_board_lines_ways_side : CalK P w K mg base 4 (PySem.Str.ofString "how_many_board_lines") 2 F_how_many_board_lines (Lk.out (Lk.mk false false false false)) [(PySem.Str.ofString "ways"), (PySem.Str.ofString "side")] [1, 0]) (C_how_many_board_lines : Cal P w K mg base 4 (PySem.Str.ofString "how_many_board_lines") 2 F_how_many_board_lines (Lk.out (Lk.mk false false false false))) (C__law_exact : Cal P w K mg base 9 (PySem.Str.ofString "_law_exact") 2 (F__law_exact 8) (Lk.out (Lk.mk false false false false))) (C__law_power : Cal P w K mg base 1 (PySem.Str.ofString "_law_power") 2 F__law_power (Lk.out (Lk.mk false false false false))) (C__law_draw : Cal P w K mg base 2 (PySem.Str.ofString "_law_draw") 2 F__law_draw (Lk.out (Lk.mk false false false false))) (C__law_figures : Cal P w K mg base 1 (PySem.Str.ofString "_law_figures") 3 F__law_figures (Lk.out (Lk.mk false true false true))) (K_cell_counts_cell_ways_side : CalK P w K mg base 5 (PySem.Str.ofString "cell_counts") 3 F_cell_counts (Lk.out (Lk.mk false false true false)) [(PySem.Str.ofString "cell"), (PySem.Str.ofString "ways"), (PySem.Str.ofString "side")] [2, 1, 0]) (C_cell_counts : Cal P w K mg base 5 (PySem.Str.ofString "cell_counts") 3 F_cell_counts (Lk.out (Lk.mk false false true false))) (K_lines_at_cell_ways_side : CalK P w K mg base 5 (PySem.Str.ofString "lines_at") 3 F_lines_at (Lk.out (Lk.mk false false true false)) [(PySem.Str.ofString "cell"), (PySem.Str.ofString "ways"), (PySem.Str.ofString "side")] [2, 1, 0]) (C_lines_at : Cal P w K mg base 5 (PySem.Str.ofString "lines_at") 3 F_lines_at (Lk.out (Lk.mk false false true false))) (b_len : mg (PySem.Str.ofString "len") = none) (b_range : mg (PySem.Str.ofString "range") = none) : FnOk P w K mg base (L2N.CX P w) 10 a fd P__law_case_right (spD K mg 1 F__law_case_right (Lk.out (Lk.mk false false false false))) := by
  refine fnd_ok (Γ := [.sh, .all, .all, .all, .all, .all, .all, .all, .all, .all, .all, .sh, .all]) (Γ' := [.sh, .sh, .sh, .sh, .all, .sh, .sh, .sh, .sh, .all, .sh, .sh, .all]) (Lr := (Lk.mk false false false false)) (k := 9) FD S__law_case_right rfl (by decide) fun cdv A outer s H E hr tk => ?_
  have hN := S__law_case_right.nd
  have hu := hr.units
  have hu1 := hu_of hr
  exact (dss_cons (Γ1 := [.sh, .sh, .sh, .all, .all, .all, .all, .all, .all, .all, .all, .sh, .all]) (ds_from (Γ1 := [.sh, .sh, .sh, .all, .all, .all, .all, .all, .all, .all, .all, .sh, .all]) (ds_asg (de_callC C__law_board hr (da_cons (de_var (i := 0)) da_nil)) (dg_seq (n := 2) rfl (dgs_cons (dg_name (i := 1) hN) (dgs_cons (dg_name (i := 2) hN) dgs_nil)))) rfl) (dss_cons (Γ1 := [.sh, .sh, .sh, .sh, .all, .all, .all, .all, .all, .all, .all, .sh, .all]) (ds_setW (i := 3) hN (de_callA C__law_lines hr (da_cons (de_var (i := 1)) (da_cons (de_var (i := 2)) da_nil)))) (dss_cons (Γ1 := [.sh, .sh, .sh, .sh, .all, .all, .all, .all, .all, .all, .all, .sh, .all]) (ds_setW (i := 4) hN (de_lst (da_cons (de_callA C_board_lines hr (da_cons (de_var (i := 1)) (da_cons (de_var (i := 2)) da_nil))) (da_cons (de_callAK K_board_lines_ways_side hr (dk_cons (de_var (i := 2)) (dk_cons (de_var (i := 1)) dk_nil))) da_nil)))) (dss_cons (Γ1 := [.sh, .sh, .sh, .sh, .all, .sh, .all, .all, .all, .all, .all, .sh, .all]) (ds_setW (i := 5) hN (de_lst (da_cons (de_callA C_how_many_board_lines hr (da_cons (de_var (i := 1)) (da_cons (de_var (i := 2)) da_nil))) (da_cons (de_callAK K_how_many_board_lines_ways_side hr (dk_cons (de_var (i := 2)) (dk_cons (de_var (i := 1)) dk_nil))) da_nil)))) (dss_cons (Γ1 := [.sh, .sh, .sh, .sh, .all, .sh, .all, .all, .all, .all, .all, .sh, .all]) (ds_if (Γ1 := [.sh, .sh, .sh, .sh, .all, .sh, .all, .all, .all, .all, .all, .sh, .all]) (db_not (db_e (de_callC C__law_exact hr (da_cons (de_lst (da_cons (de_lst (da_cons (de_var (i := 3)) (da_cons (de_var (i := 3)) da_nil))) (da_cons (de_op dop_mul (de_lst (da_cons (de_callB dc_len (da_cons (de_var (i := 3)) da_nil) b_len boot_len) da_nil)) de_int) da_nil))) (da_cons (de_lst (da_cons (de_var (i := 4)) (da_cons (de_var (i := 5)) da_nil))) da_nil))))) (dss_cons (Γ1 := [.sh, .sh, .sh, .sh, .all, .sh, .all, .all, .all, .all, .all, .sh, .all]) (ds_ret de_bl) dss_nilW) dss_nilW) (dss_spoil (i := 4) (qs := [[0, 0], [0]]) (n := 2) (dsp_app (p := [0, 0]) (pe_pix (k := 0) (pe_pix (k := 0) (pe_pvar (pv 4)))) (by decide) (dsp_app (p := [0]) (pe_pix (k := 0) (pe_pvar (pv 4))) (by decide) (dsp_end (dss_cons (Γ1 := [.sh, .sh, .sh, .sh, .all, .sh, .sh, .sh, .sh, .all, .sh, .sh, .all]) (ds_from (Γ1 := [.sh, .sh, .sh, .sh, .all, .sh, .sh, .sh, .sh, .all, .sh, .sh, .all]) (ds_for (passes_of rfl) rfl (di_range1 (da_cons de_int da_nil) b_range) (dg_name (i := 6) hN) (dss_cons (Γ1 := [.sh, .sh, .sh, .sh, .all, .sh, .sh, .sh, .sh, .all, .sh, .sh, .all]) (ds_setW (i := 7) hN (de_callA C__law_draw hr (da_cons (de_var (i := 0)) (da_cons (de_callA C__law_power hr (da_cons (de_var (i := 1)) (da_cons (de_var (i := 2)) da_nil))) da_nil)))) (dss_cons (Γ1 := [.sh, .sh, .sh, .sh, .all, .sh, .sh, .sh, .sh, .all, .sh, .sh, .all]) (ds_setW (i := 8) hN (de_callA C__law_figures hr (da_cons (de_var (i := 1)) (da_cons (de_var (i := 2)) (da_cons (de_var (i := 7)) da_nil))))) (dss_cons (Γ1 := [.sh, .sh, .sh, .sh, .all, .sh, .sh, .sh, .sh, .all, .sh, .sh, .all]) (ds_setW (i := 9) hN (de_lst (da_cons (de_callA C_cell_counts hr (da_cons (de_var (i := 1)) (da_cons (de_var (i := 2)) (da_cons (de_var (i := 7)) da_nil)))) (da_cons (de_callAK K_cell_counts_cell_ways_side hr (dk_cons (de_var (i := 7)) (dk_cons (de_var (i := 2)) (dk_cons (de_var (i := 1)) dk_nil)))) da_nil)))) (dss_cons (Γ1 := [.sh, .sh, .sh, .sh, .all, .sh, .sh, .sh, .sh, .all, .sh, .sh, .all]) (ds_setLc (i := 10) (own := [((PySem.Str.ofString "line"), 11)]) rfl hN (di_seq (de_var (i := 3))) (blkOk_by (by rfl)) (by decide) (fun s_ H_ C_ cl_ fp_ => (dg_name (i := 11) hN)) (fun s_ H_ C_ cl_ fp_ => (dts_one (db_cmp (dcmp_in hu) (de_var (i := 7)) (de_var (i := 11))))) (fun s_ H_ C_ cl_ fp_ => (de_var (i := 11)))) (dss_cons (Γ1 := [.sh, .sh, .sh, .sh, .all, .sh, .sh, .sh, .sh, .all, .sh, .sh, .all]) (ds_setW (i := 12) hN (de_lst (da_cons (de_callA C_lines_at hr (da_cons (de_var (i := 1)) (da_cons (de_var (i := 2)) (da_cons (de_var (i := 7)) da_nil)))) (da_cons (de_callAK K_lines_at_cell_ways_side hr (dk_cons (de_var (i := 7)) (dk_cons (de_var (i := 2)) (dk_cons (de_var (i := 1)) dk_nil)))) da_nil)))) (dss_cons (Γ1 := [.sh, .sh, .sh, .sh, .all, .sh, .sh, .sh, .sh, .all, .sh, .sh, .all]) (ds_if (Γ1 := [.sh, .sh, .sh, .sh, .all, .sh, .sh, .sh, .sh, .all, .sh, .sh, .all]) (db_not (db_e (de_callC C__law_exact hr (da_cons (de_lst (da_cons (de_lst (da_cons (de_var (i := 8)) (da_cons (de_var (i := 8)) da_nil))) (da_cons (de_lst (da_cons (de_var (i := 10)) (da_cons (de_var (i := 10)) da_nil))) da_nil))) (da_cons (de_lst (da_cons (de_var (i := 9)) (da_cons (de_var (i := 12)) da_nil))) da_nil))))) (dss_cons (Γ1 := [.sh, .sh, .sh, .sh, .all, .sh, .sh, .sh, .sh, .all, .sh, .sh, .all]) (ds_ret de_bl) dss_nilW) dss_nilW) (dss_spoil (i := 9) (qs := [[0]]) (n := 1) (dsp_app (p := [0]) (pe_pix (k := 0) (pe_pvar (pv 9))) (by decide) (dsp_end (dss_spoil (i := 12) (qs := [[0]]) (n := 1) (dsp_app (p := [0]) (pe_pix (k := 0) (pe_pvar (pv 12))) (by decide) (dsp_end dss_nilW))))))))))))) rfl) (dss_cons (Γ1 := [.sh, .sh, .sh, .sh, .all, .sh, .sh, .sh, .sh, .all, .sh, .sh, .all]) (ds_if (Γ1 := [.sh, .sh, .sh, .sh, .all, .sh, .sh, .sh, .sh, .all, .sh, .sh, .all]) (db_not (db_e (de_callC C__law_exact hr (da_cons (de_var (i := 3)) (da_cons (de_callA C_board_lines hr (da_cons (de_var (i := 1)) (da_cons (de_var (i := 2)) da_nil))) da_nil))))) (dss_cons (Γ1 := [.sh, .sh, .sh, .sh, .all, .sh, .sh, .sh, .sh, .all, .sh, .sh, .all]) (ds_ret de_bl) dss_nilW) dss_nilW) (dss_cons (Γ1 := [.sh, .sh, .sh, .sh, .all, .sh, .sh, .sh, .sh, .all, .sh, .sh, .all]) (ds_par (i := 1) (j := 2) rfl hN (da_cons (de_opI dop_addI iop_atom de_int (de_callA C__law_draw hr (da_cons (de_var (i := 0)) (da_cons (de_opI dop_pow iop_atom de_int de_int) da_nil)))) (da_cons (de_opI dop_addI iop_atom de_int (de_callA C__law_draw hr (da_cons (de_var (i := 0)) (da_cons de_int da_nil)))) da_nil))) (dss_cons (Γ1 := [.sh, .sh, .sh, .sh, .all, .sh, .sh, .sh, .sh, .all, .sh, .sh, .all]) (ds_setW (i := 7) hN (de_opI dop_mod iop_atom (de_callA C__law_draw hr (da_cons (de_var (i := 0)) (da_cons (de_opI dop_pow iop_atom de_int de_int) da_nil))) (de_callA C__law_power hr (da_cons (de_var (i := 1)) (da_cons (de_var (i := 2)) da_nil))))) (dss_cons (Γ1 := [.sh, .sh, .sh, .sh, .all, .sh, .sh, .sh, .sh, .all, .sh, .sh, .all]) (ds_setW (i := 4) hN (de_lst (da_cons (de_callA C_how_many_board_lines hr (da_cons (de_var (i := 1)) (da_cons (de_var (i := 2)) da_nil))) (da_cons (de_callA C_cell_counts hr (da_cons (de_var (i := 1)) (da_cons (de_var (i := 2)) (da_cons (de_var (i := 7)) da_nil)))) da_nil)))) (dss_cons (Γ1 := [.sh, .sh, .sh, .sh, .all, .sh, .sh, .sh, .sh, .all, .sh, .sh, .all]) (ds_setW (i := 3) hN (de_opI dop_fdiv iop_atom (de_opI dop_sub iop_atom (de_callA C__law_power hr (da_cons (de_opI dop_addI iop_atom (de_var (i := 1)) de_int) (da_cons (de_var (i := 2)) da_nil))) (de_callA C__law_power hr (da_cons (de_var (i := 1)) (da_cons (de_var (i := 2)) da_nil)))) de_int)) (dss_cons (Γ1 := [.sh, .sh, .sh, .sh, .all, .sh, .sh, .sh, .sh, .all, .sh, .sh, .all]) (ds_ret (de_callC C__law_exact hr (da_cons (de_lst (da_cons (de_var (i := 3)) (da_cons (de_callA C__law_figures hr (da_cons (de_var (i := 1)) (da_cons (de_var (i := 2)) (da_cons (de_var (i := 7)) da_nil)))) da_nil))) (da_cons (de_var (i := 4)) da_nil)))) dss_nilW))))))))))))))))
theorem cal__law_case_right {P : Program} {w : World} {K : PySem.W.Frag} {mg : Str → Option Value} {base : Heap} {a : Addr} {fd : FuncData} (FD : FunD K (PySem.Str.ofString "_law_case_right") (PySem.Str.ofString "_law_case_right") (defArgs s__law_case_right) (defBody s__law_case_right) (defScope s__law_case_right) [] [] a fd) (hm : mg (PySem.Str.ofString "_law_case_right") = some (.ref a)) (C__law_board : Cal P w K mg base 4 (PySem.Str.ofString "_law_board") 1 F__law_board (Lk.out (Lk.mk true false true false))) (C__law_lines : Cal P w K mg base 2 (PySem.Str.ofString "_law_lines") 2 F__law_lines (Lk.out (Lk.mk false false true false))) (K_board_lines_ways_side : CalK P w K mg base 4 (PySem.Str.ofString "board_lines") 2 F_board_lines (Lk.out (Lk.mk false false false false)) [(PySem.Str.ofString "ways"), (PySem.Str.ofString "side")] [1, 0]) (C_board_lines : Cal P w K mg base 4 (PySem.Str.ofString "board_lines") 2 F_board_lines (Lk.out (Lk.mk false false false false))) (K_how_many_board_lines_ways_side : CalK P w K mg base 4 (PySem.Str.ofString "how_many_board_lines") 2 F_how_many_board_lines (Lk.out (Lk.mk false false false false)) [(PySem.Str.ofString "ways"), (PySem.Str.ofString "side")] [1, 0]) (C_how_many_board_lines : Cal P w K mg base 4 (PySem.Str.ofString "how_many_board_lines") 2 F_how_many_board_lines (Lk.out (Lk.mk false false false false))) (C__law_exact : Cal P w K mg base 9 (PySem.Str.ofString "_law_exact") 2 (F__law_exact 8) (Lk.out (Lk.mk false false false false))) (C__law_power : Cal P w K mg base 1 (PySem.Str.ofString "_law_power") 2 F__law_power (Lk.out (Lk.mk false false false false))) (C__law_draw : Cal P w K mg base 2 (PySem.Str.ofString "_law_draw") 2 F__law_draw (Lk.out (Lk.mk false false false false))) (C__law_figures : Cal P w K mg base 1 (PySem.Str.ofString "_law_figures") 3 F__law_figures (Lk.out (Lk.mk false true false true))) (K_cell_counts_cell_ways_side : CalK P w K mg base 5 (PySem.Str.ofString "cell_counts") 3 F_cell_counts (Lk.out (Lk.mk false false true false)) [(PySem.Str.ofString "cell"), (PySem.Str.ofString "ways"), (PySem.Str.ofString "side")] [2, 1, 0]) (C_cell_counts : Cal P w K mg base 5 (PySem.Str.ofString "cell_counts") 3 F_cell_counts (Lk.out (Lk.mk false false true false))) (K_lines_at_cell_ways_side : CalK P w K mg base 5 (PySem.Str.ofString "lines_at") 3 F_lines_at (Lk.out (Lk.mk false false true false)) [(PySem.Str.ofString "cell"), (PySem.Str.ofString "ways"), (PySem.Str.ofString "side")] [2, 1, 0]) (C_lines_at : Cal P w K mg base 5 (PySem.Str.ofString "lines_at") 3 F_lines_at (Lk.out (Lk.mk false false true false))) (b_len : mg (PySem.Str.ofString "len") = none) (b_range : mg (PySem.Str.ofString "range") = none) : Cal P w K mg base 10 (PySem.Str.ofString "_law_case_right") 1 F__law_case_right (Lk.out (Lk.mk false false false false)) :=
  cal_mk FD hm (ok__law_case_right FD C__law_board C__law_lines K_board_lines_ways_side C_board_lines K_how_many_board_lines_ways_side C_how_many_board_lines C__law_exact C__law_power C__law_draw C__law_figures K_cell_counts_cell_ways_side C_cell_counts K_lines_at_cell_ways_side C_lines_at b_len b_range) cFun_len (fun _ _ _ _ _ _ us hl => match us, hl with | [_], _ => rfl)

/-! ### _law_heard -/
abbrev s__law_heard : Stmt := top 35
def N__law_heard : List Str := [(PySem.Str.ofString "way"), (PySem.Str.ofString "things"), (PySem.Str.ofString "one"), (PySem.Str.ofString "two"), (PySem.Str.ofString "three"), (PySem.Str.ofString "error"), (PySem.Str.ofString "kinds"), (PySem.Str.ofString "at")]
def P__law_heard : List Str := [(PySem.Str.ofString "way"), (PySem.Str.ofString "things")]
theorem S__law_heard : FnScope N__law_heard P__law_heard (defScope s__law_heard) := ⟨rfl, rfl, rfl, by decide +kernel, rfl, by decide +kernel, by decide +kernel⟩
def tab__law_heard_board_lines_how_many_board_lines : Str → Option Fn := fun x => if x = (PySem.Str.ofString "board_lines") then some F_board_lines else if x = (PySem.Str.ofString "how_many_board_lines") then some F_how_many_board_lines else none
theorem tab__law_heard_board_lines_how_many_board_lines_ok {X : Cx} (h0 : Dn X (PySem.Str.ofString "board_lines") 2 F_board_lines (Lk.out (Lk.mk false false false false))) (h1 : Dn X (PySem.Str.ofString "how_many_board_lines") 2 F_how_many_board_lines (Lk.out (Lk.mk false false false false))) : ∀ x F, tab__law_heard_board_lines_how_many_board_lines x = some F → Dn X x 2 F (Lk.out (Lk.mk false false false false)) := fun x F h => by
  unfold tab__law_heard_board_lines_how_many_board_lines at h
  split at h
  · rename_i e; cases h; rw [e]; exact h0
  split at h
  · rename_i e; cases h; rw [e]; exact h1
  cases h
def tab__law_heard_cell_counts_lines_at : Str → Option Fn := fun x => if x = (PySem.Str.ofString "cell_counts") then some F_cell_counts else if x = (PySem.Str.ofString "lines_at") then some F_lines_at else none
theorem tab__law_heard_cell_counts_lines_at_ok {X : Cx} (h0 : Dn X (PySem.Str.ofString "cell_counts") 3 F_cell_counts (Lk.out (Lk.mk false false true false))) (h1 : Dn X (PySem.Str.ofString "lines_at") 3 F_lines_at (Lk.out (Lk.mk false false true false))) : ∀ x F, tab__law_heard_cell_counts_lines_at x = some F → Dn X x 3 F (Lk.out (Lk.mk false false true false)) := fun x F h => by
  unfold tab__law_heard_cell_counts_lines_at at h
  split at h
  · rename_i e; cases h; rw [e]; exact h0
  split at h
  · rename_i e; cases h; rw [e]; exact h1
  cases h
def sub__law_heard_0 (c : Str) : Bool := decide (c = (PySem.Str.ofString "InvalidCell"))
def sub__law_heard_1 (c : Str) : Bool := decide (c = (PySem.Str.ofString "InvalidWays"))
def sub__law_heard_2 (c : Str) : Bool := decide (c = (PySem.Str.ofString "InvalidSide"))
def sub__law_heard_3 (c : Str) : Bool := true
def m__law_heard : SemS := (cSeq (cAsg (gSeq 3 (gsCons (gSet 2) (gsCons (gSet 3) (gsCons (gSet 4) gsNil)))) (cSl slD (cOp addD (cVar 1) (cLst (cCons (cC .non) cNil))) cON (cOS (cC (.int 3))))) (cSeq (cTry [(PySem.Str.ofString "InvalidSide"), (PySem.Str.ofString "InvalidWays"), (PySem.Str.ofString "InvalidCell")] 5 (cSeq (cIfS (cCmp ltD (cVar 0) (cC (.int 2))) (cSeq ((cCallV tab__law_heard_board_lines_how_many_board_lines (cOp ixD (cLst (cCons (cC (.glo (PySem.Str.ofString "board_lines"))) (cCons (cC (.glo (PySem.Str.ofString "how_many_board_lines"))) cNil))) (cVar 0)) (cCons (cVar 2) (cCons (cVar 3) cNil)) gDrop)) cSkip) (cSeq ((cCallV tab__law_heard_cell_counts_lines_at (cOp ixD (cLst (cCons (cC (.glo (PySem.Str.ofString "cell_counts"))) (cCons (cC (.glo (PySem.Str.ofString "lines_at"))) cNil))) (cOp subD (cVar 0) (cC (.int 2)))) (cCons (cVar 2) (cCons (cVar 3) (cCons (cVar 4) cNil))) gDrop)) cSkip)) cSkip) (fun c_ dv_ => (cSeq (cSet 6 (cLst (cCons (cC (.bl (sub__law_heard_2 c_))) (cCons (cC (.bl (sub__law_heard_1 c_))) (cCons (cC (.bl (sub__law_heard_0 c_))) cNil))))) (cRet (cLst (cCons (cLc [7] (cRng1 (cCons (cC (.int 3)) cNil)) (gSet 7) (cIsB (cOp ixD (cVar 6) (cVar 7))) (cVar 7)) (cCons (cC (.bl (sub__law_heard_3 c_))) (cCons (cC dv_) cNil)))))))) (cSeq (cRet (cC (.str (PySem.Str.ofString "let")))) cSkip)))
def F__law_heard : Fn := cFun N__law_heard.length 2 m__law_heard
theorem ok__law_heard {P : Program} {w : World} {K : PySem.W.Frag} {mg : Str → Option Value} {base : Heap} {a : Addr} {fd : FuncData} (FD : FunD K (PySem.Str.ofString "_law_heard") (PySem.Str.ofString "_law_heard") (defArgs s__law_heard) (defBody s__law_heard) (defScope s__law_heard) [] [] a fd) (C_how_many_board_lines : Cal P w K mg base 4 (PySem.Str.ofString "how_many_board_lines") 2 F_how_many_board_lines (Lk.out (Lk.mk false false false false))) (C_board_lines : Cal P w K mg base 4 (PySem.Str.ofString "board_lines") 2 F_board_lines (Lk.out (Lk.mk false false false false))) (C_lines_at : Cal P w K mg base 5 (PySem.Str.ofString "lines_at") 3 F_lines_at (Lk.out (Lk.mk false false true false))) (C_cell_counts : Cal P w K mg base 5 (PySem.Str.ofString "cell_counts") 3 F_cell_counts (Lk.out (Lk.mk false false true false))) (b_ValueError : mg (PySem.Str.ofString "ValueError") = none) (b_isinstance : mg (PySem.Str.ofString "isinstance") = none) (b_range : mg (PySem.Str.ofString "range") = none) {A_BoundError : Addr} (g_BoundError : mg (PySem.Str.ofString "BoundError") = some (.ref A_BoundError)) {A_InvalidCell : Addr} (g_InvalidCell : mg (PySem.Str.ofString "InvalidCell") = some (.ref A_InvalidCell)) {A_InvalidSide : Addr} (g_InvalidSide : mg (PySem.Str.ofString "InvalidSide") = some (.ref A_InvalidSide)) {A_InvalidWays : Addr} (g_InvalidWays : mg (PySem.Str.ofString "InvalidWays") = some (.ref A_InvalidWays)) (hm__law_heard : ∀ c, c ∈ ([(PySem.Str.ofString "InvalidSide"), (PySem.Str.ofString "InvalidWays"), (PySem.Str.ofString "InvalidCell")] : List Str) → ∀ C, mg c = some (.ref C) → PySem.W.exmOne K (.ref C) (.ref A_BoundError) = some true) (hs__law_heard : ∀ c, c ∈ ([(PySem.Str.ofString "InvalidSide"), (PySem.Str.ofString "InvalidWays"), (PySem.Str.ofString "InvalidCell")] : List Str) → ∀ C, mg c = some (.ref C) → ExcC K C ∧ XfC K C ∧ PySem.W.findIn K (.ref C) "value" = some none ∧ PySem.W.kitOne K (.ref C) (.ref A_InvalidCell) = some (sub__law_heard_0 c) ∧ PySem.W.kitOne K (.ref C) (.ref A_InvalidWays) = some (sub__law_heard_1 c) ∧ PySem.W.kitOne K (.ref C) (.ref A_InvalidSide) = some (sub__law_heard_2 c) ∧ PySem.W.kitOne K (.ref C) (.type "ValueError") = some (sub__law_heard_3 c) ∧ True) : FnOk P w K mg base (L2N.CX P w) 6 a fd P__law_heard (spD K mg 2 F__law_heard (Lk.out (Lk.mk false false true false))) := by
  refine fnd_ok (Γ := [.sh, .sh, .all, .all, .all, .all, .all, .sh]) (Γ' := [.sh, .sh, .sh, .sh, .sh, .all, .all, .sh]) (Lr := (Lk.mk false false true false)) (k := 5) FD S__law_heard rfl (by decide) fun cdv A outer s H E hr tk => ?_
  have hN := S__law_heard.nd
  have hu := hr.units
  have hu1 := hu_of hr
  exact (dss_cons (Γ1 := [.sh, .sh, .sh, .sh, .sh, .all, .all, .sh]) (ds_from (Γ1 := [.sh, .sh, .sh, .sh, .sh, .all, .all, .sh]) (ds_asg (de_sl dsl (de_op dop_add (de_var (i := 1)) (de_lst (da_cons de_non da_nil))) do_none (do_some de_int)) (dg_seq (n := 3) rfl (dgs_cons (dg_name (i := 2) hN) (dgs_cons (dg_name (i := 3) hN) (dgs_cons (dg_name (i := 4) hN) dgs_nil))))) rfl) (dss_cons (Γ1 := [.sh, .sh, .sh, .sh, .sh, .all, .all, .sh]) (ds_try (cs := [(PySem.Str.ofString "InvalidSide"), (PySem.Str.ofString "InvalidWays"), (PySem.Str.ofString "InvalidCell")]) (Γs := [.all, .all, .all, .all, .all, .sh, .all, .sh]) (Γ1 := [.sh, .sh, .sh, .sh, .sh, .all, .all, .sh]) (gs := fun c_ dv_ => (cSeq (cSet 6 (cLst (cCons (cC (.bl (sub__law_heard_2 c_))) (cCons (cC (.bl (sub__law_heard_1 c_))) (cCons (cC (.bl (sub__law_heard_0 c_))) cNil))))) (cRet (cLst (cCons (cLc [7] (cRng1 (cCons (cC (.int 3)) cNil)) (gSet 7) (cIsB (cOp ixD (cVar 6) (cVar 7))) (cVar 7)) (cCons (cC (.bl (sub__law_heard_3 c_))) (cCons (cC dv_) cNil))))))) rfl rfl hN (i := 5) rfl rfl ⟨by rfl, by decide, .inl g_BoundError⟩ tk (fun W_ pn_ xe_ tk_ po_ => (dss_cons (Γ1 := [.sh, .sh, .sh, .sh, .sh, .all, .all, .sh]) (ds_if (Γ1 := [.sh, .sh, .sh, .sh, .sh, .all, .all, .sh]) (db_cmp dcmp_lt (de_var (i := 0)) de_int) (dss_cons (Γ1 := [.sh, .sh, .sh, .sh, .sh, .all, .all, .sh]) (dsx_expr (dx_callV tk_ (tab__law_heard_board_lines_how_many_board_lines_ok (dn_of C_board_lines hr) (dn_of C_how_many_board_lines hr)) (de_sub (de_lst (da_cons (de_gloC C_board_lines) (da_cons (de_gloC C_how_many_board_lines) da_nil))) (de_var (i := 0))) (da_cons (de_var (i := 2)) (da_cons (de_var (i := 3)) da_nil)))) dss_nilW) (dss_cons (Γ1 := [.sh, .sh, .sh, .sh, .sh, .all, .all, .sh]) (dsx_expr (dx_callV tk_ (tab__law_heard_cell_counts_lines_at_ok (dn_of C_cell_counts hr) (dn_of C_lines_at hr)) (de_sub (de_lst (da_cons (de_gloC C_cell_counts) (da_cons (de_gloC C_lines_at) da_nil))) (de_opI dop_sub iop_atom (de_var (i := 0)) de_int)) (da_cons (de_var (i := 2)) (da_cons (de_var (i := 3)) (da_cons (de_var (i := 4)) da_nil))))) dss_nilW)) dss_nilW)) (hm__law_heard) (fun c_ hc_ C_ hC_ a_ oe_ dx_ pn_ w_ dv_ hz_ hf_ => by
    obtain ⟨EC_, XF_, nv_, sub_⟩ := hs__law_heard c_ hc_ C_ hC_
    exact (dssx_set (j := 6) hN (dex_lst (dax_cons (dex_is (v := .ref A_InvalidSide) (cv := .ref A_InvalidSide) (b := sub__law_heard_2 c_) EC_ hz_ hf_ (pe_glob (by rfl) g_InvalidSide rfl (by decide)) (fun u h => h) (sub_.2.2.1) b_isinstance) (dax_cons (dex_is (v := .ref A_InvalidWays) (cv := .ref A_InvalidWays) (b := sub__law_heard_1 c_) EC_ hz_ hf_ (pe_glob (by rfl) g_InvalidWays rfl (by decide)) (fun u h => h) (sub_.2.1) b_isinstance) (dax_cons (dex_is (v := .ref A_InvalidCell) (cv := .ref A_InvalidCell) (b := sub__law_heard_0 c_) EC_ hz_ hf_ (pe_glob (by rfl) g_InvalidCell rfl (by decide)) (fun u h => h) (sub_.1) b_isinstance) dax_nil)))) (dssx_ret (dex_lst (dax_cons (dex_of (de_lcH (own := [((PySem.Str.ofString "at"), 7)]) (hot_su hz_ hf_) hN (dih_range1 (da_cons de_int da_nil) b_range) (blkOk_by (by rfl)) (by decide) (fun s_ H_ C_ cl_ fp_ => (dg_name (i := 7) hN)) (fun s_ H_ C_ cl_ fp_ => (dts_one (db_e (de_sub (de_var (i := 6)) (de_var (i := 7)))))) (fun s_ H_ C_ cl_ fp_ => (de_var (i := 7))))) (dax_cons (dex_is (v := .ty "ValueError") (cv := .type "ValueError") (b := sub__law_heard_3 c_) EC_ hz_ hf_ (pe_bltn (by rfl) b_ValueError (by decide +kernel) rfl (by decide) (by decide)) (fun u h => h) (sub_.2.2.2.1) b_isinstance) (dax_cons (dex_val XF_ nv_ hz_ hf_) dax_nil)))))))) (dss_cons (Γ1 := [.sh, .sh, .sh, .sh, .sh, .all, .all, .sh]) (ds_ret de_str) dss_nilW)))
theorem cal__law_heard {P : Program} {w : World} {K : PySem.W.Frag} {mg : Str → Option Value} {base : Heap} {a : Addr} {fd : FuncData} (FD : FunD K (PySem.Str.ofString "_law_heard") (PySem.Str.ofString "_law_heard") (defArgs s__law_heard) (defBody s__law_heard) (defScope s__law_heard) [] [] a fd) (hm : mg (PySem.Str.ofString "_law_heard") = some (.ref a)) (C_how_many_board_lines : Cal P w K mg base 4 (PySem.Str.ofString "how_many_board_lines") 2 F_how_many_board_lines (Lk.out (Lk.mk false false false false))) (C_board_lines : Cal P w K mg base 4 (PySem.Str.ofString "board_lines") 2 F_board_lines (Lk.out (Lk.mk false false false false))) (C_lines_at : Cal P w K mg base 5 (PySem.Str.ofString "lines_at") 3 F_lines_at (Lk.out (Lk.mk false false true false))) (C_cell_counts : Cal P w K mg base 5 (PySem.Str.ofString "cell_counts") 3 F_cell_counts (Lk.out (Lk.mk false false true false))) (b_ValueError : mg (PySem.Str.ofString "ValueError") = none) (b_isinstance : mg (PySem.Str.ofString "isinstance") = none) (b_range : mg (PySem.Str.ofString "range") = none) {A_BoundError : Addr} (g_BoundError : mg (PySem.Str.ofString "BoundError") = some (.ref A_BoundError)) {A_InvalidCell : Addr} (g_InvalidCell : mg (PySem.Str.ofString "InvalidCell") = some (.ref A_InvalidCell)) {A_InvalidSide : Addr} (g_InvalidSide : mg (PySem.Str.ofString "InvalidSide") = some (.ref A_InvalidSide)) {A_InvalidWays : Addr} (g_InvalidWays : mg (PySem.Str.ofString "InvalidWays") = some (.ref A_InvalidWays)) (hm__law_heard : ∀ c, c ∈ ([(PySem.Str.ofString "InvalidSide"), (PySem.Str.ofString "InvalidWays"), (PySem.Str.ofString "InvalidCell")] : List Str) → ∀ C, mg c = some (.ref C) → PySem.W.exmOne K (.ref C) (.ref A_BoundError) = some true) (hs__law_heard : ∀ c, c ∈ ([(PySem.Str.ofString "InvalidSide"), (PySem.Str.ofString "InvalidWays"), (PySem.Str.ofString "InvalidCell")] : List Str) → ∀ C, mg c = some (.ref C) → ExcC K C ∧ XfC K C ∧ PySem.W.findIn K (.ref C) "value" = some none ∧ PySem.W.kitOne K (.ref C) (.ref A_InvalidCell) = some (sub__law_heard_0 c) ∧ PySem.W.kitOne K (.ref C) (.ref A_InvalidWays) = some (sub__law_heard_1 c) ∧ PySem.W.kitOne K (.ref C) (.ref A_InvalidSide) = some (sub__law_heard_2 c) ∧ PySem.W.kitOne K (.ref C) (.type "ValueError") = some (sub__law_heard_3 c) ∧ True) : Cal P w K mg base 6 (PySem.Str.ofString "_law_heard") 2 F__law_heard (Lk.out (Lk.mk false false true false)) :=
  cal_mk FD hm (ok__law_heard FD C_how_many_board_lines C_board_lines C_lines_at C_cell_counts b_ValueError b_isinstance b_range g_BoundError g_InvalidCell g_InvalidSide g_InvalidWays hm__law_heard hs__law_heard) cFun_len (fun _ _ _ _ _ _ us hl => match us, hl with | [_, _], _ => rfl)

/-! ### _law_refused_right -/
abbrev s__law_refused_right : Stmt := top 36
def N__law_refused_right : List Str := [(PySem.Str.ofString "odds"), (PySem.Str.ofString "way"), (PySem.Str.ofString "rows"), (PySem.Str.ofString "odd"), (PySem.Str.ofString "spot"), (PySem.Str.ofString "behind"), (PySem.Str.ofString "things"), (PySem.Str.ofString "told")]
def P__law_refused_right : List Str := []
theorem S__law_refused_right : FnScope N__law_refused_right P__law_refused_right (defScope s__law_refused_right) := ⟨rfl, rfl, rfl, by decide +kernel, rfl, by decide +kernel, by decide +kernel⟩
def m__law_refused_right : SemS := (cSeq (cSet 0 (cLst (cCons (cC .non) (cCons (cC (.int 0)) (cCons (cNeg (cC (.int 2))) (cCons (cC (.bl true)) (cCons (cC (.str (PySem.Str.ofString "3"))) (cCons (cLst (cCons (cC (.int 3)) cNil)) (cCons (cTup (cCons (cC (.int 3)) cNil)) (cCons (cC (.dK [])) cNil)))))))))) (cSeq (cFor (cRng1 (cCons (cC (.int 4)) cNil)) (gSet 1) (cSeq (cSet 2 (cOp addD (cLc [3] (cSeqI (cOp addD (cVar 0) (cLst (cCons (cC (.int 1)) cNil)))) (gSet 3) cYes (cTup (cCons (cC (.int 0)) (cCons (cVar 3) cNil)))) (cLc [3] (cSeqI (cVar 0)) (gSet 3) cYes (cTup (cCons (cC (.int 1)) (cCons (cVar 3) cNil)))))) (cSeq (cSet 2 (cOp addD (cVar 2) (cLc [3] (cSeqI (cLst (cCons (cC .non) (cCons (cC (.int 9)) (cCons (cNeg (cC (.int 1))) (cCons (cC (.bl true)) (cCons (cC (.str (PySem.Str.ofString "4"))) (cCons (cLst (cCons (cC (.int 4)) cNil)) (cCons (cOp powD (cC (.int 10)) (cC (.int 20))) cNil))))))))) (gSet 3) (cCmp gtD (cVar 1) (cC (.int 1))) (cTup (cCons (cC (.int 2)) (cCons (cVar 3) cNil)))))) (cSeq (cFor (cSeqI (cVar 2)) (gSeq 2 (gsCons (gSet 4) (gsCons (gSet 3) gsNil))) (cSeq (cFor (cSeqI (cLst (cCons (cSl slD (cLst (cCons (cC (.int 3)) (cCons (cC (.int 2)) (cCons (cC (.int 4)) cNil)))) (cOS (cOp addI (cVar 4) (cC (.int 1)))) cON) (cCons (cLst (cCons (cC .non) (cCons (cC .non) cNil))) cNil)))) (gSet 5) (cSeq (cSet 6 (cSl slD (cOp addD (cOp addD (cSl slD (cLst (cCons (cC (.int 3)) (cCons (cC (.int 2)) (cCons (cC (.int 4)) cNil)))) cON (cOS (cVar 4))) (cLst (cCons (cVar 3) cNil))) (cVar 5)) cON (cOS (cOp addI (cC (.int 2)) (cFn int1D (cCons (cB (cCmp gtD (cVar 1) (cC (.int 1)))) cNil)))))) (cSeq (cSet 7 (cCall F__law_heard (cCons (cVar 1) (cCons (cVar 6) cNil)))) (cSeq (cIfS (cOr (cCmp eqD (cVar 7) (cC (.str (PySem.Str.ofString "let")))) (cOr (cCmp neD (cSl slD (cVar 7) cON (cOS (cC (.int 2)))) (cLst (cCons (cLst (cCons (cVar 4) cNil)) (cCons (cC (.bl true)) cNil)))) (cNot (cIsB (cCall (F__law_exact 8) (cCons (cVar 3) (cCons (cOp ixD (cVar 7) (cC (.int 2))) cNil))))))) (cSeq (cRet (cC (.bl false))) cSkip) cSkip) cSkip)))) cSkip)) (cSeq (cIfS (cCmp neD (cCall F__law_heard (cCons (cVar 1) (cCons (cLst (cCons (cC (.int 3)) (cCons (cC (.int 2)) (cCons (cC (.int 4)) cNil)))) cNil))) (cC (.str (PySem.Str.ofString "let")))) (cSeq (cRet (cC (.bl false))) cSkip) cSkip) cSkip))))) (cSeq (cRet (cC (.bl true))) cSkip)))
def F__law_refused_right : Fn := cFun N__law_refused_right.length 0 m__law_refused_right
theorem ok__law_refused_right {P : Program} {w : World} {K : PySem.W.Frag} {mg : Str → Option Value} {base : Heap} {a : Addr} {fd : FuncData} (FD : FunD K (PySem.Str.ofString "_law_refused_right") (PySem.Str.ofString "_law_refused_right") (defArgs s__law_refused_right) (defBody s__law_refused_right) (defScope s__law_refused_right) [] [] a fd) (C__law_heard : Cal P w K mg base 6 (PySem.Str.ofString "_law_heard") 2 F__law_heard (Lk.out (Lk.mk false false true false))) (C__law_exact : Cal P w K mg base 9 (PySem.Str.ofString "_law_exact") 2 (F__law_exact 8) (Lk.out (Lk.mk false false false false))) (b_int : mg (PySem.Str.ofString "int") = none) (b_range : mg (PySem.Str.ofString "range") = none) : FnOk P w K mg base (L2N.CX P w) 10 a fd P__law_refused_right (spD K mg 0 F__law_refused_right (Lk.out (Lk.mk false false false false))) := by
  refine fnd_ok (Γ := [.all, .all, .all, .sh, .all, .all, .all, .all]) (Γ' := [.sh, .sh, .sh, .sh, .sh, .sh, .sh, .sh]) (Lr := (Lk.mk false false false false)) (k := 9) FD S__law_refused_right rfl (by decide) fun cdv A outer s H E hr tk => ?_
  have hN := S__law_refused_right.nd
  have hu := hr.units
  have hu1 := hu_of hr
  exact (dss_cons (Γ1 := [.sh, .all, .all, .sh, .all, .all, .all, .all]) (ds_setW (i := 0) hN (de_lst (da_cons de_non (da_cons de_int (da_cons (de_neg de_int) (da_cons de_bl (da_cons de_str (da_cons (de_lst (da_cons de_int da_nil)) (da_cons (de_tup (da_cons de_int da_nil)) (da_cons de_dnewK da_nil)))))))))) (dss_cons (Γ1 := [.sh, .sh, .sh, .sh, .sh, .sh, .sh, .sh]) (ds_from (Γ1 := [.sh, .sh, .sh, .sh, .sh, .sh, .sh, .sh]) (ds_for (passes_of rfl) rfl (di_range1 (da_cons de_int da_nil) b_range) (dg_name (i := 1) hN) (dss_cons (Γ1 := [.sh, .sh, .sh, .sh, .sh, .sh, .sh, .sh]) (ds_setW (i := 2) hN (de_op dop_add (de_lc (own := [((PySem.Str.ofString "odd"), 3)]) rfl hN (di_seq (de_op dop_add (de_var (i := 0)) (de_lst (da_cons de_int da_nil)))) (blkOk_by (by rfl)) (by decide) (fun s_ H_ C_ cl_ fp_ => (dg_name (i := 3) hN)) (fun s_ H_ C_ cl_ fp_ => dts_nil) (fun s_ H_ C_ cl_ fp_ => (de_tup (da_cons de_int (da_cons (de_var (i := 3)) da_nil))))) (de_lc (own := [((PySem.Str.ofString "odd"), 3)]) rfl hN (di_seq (de_var (i := 0))) (blkOk_by (by rfl)) (by decide) (fun s_ H_ C_ cl_ fp_ => (dg_name (i := 3) hN)) (fun s_ H_ C_ cl_ fp_ => dts_nil) (fun s_ H_ C_ cl_ fp_ => (de_tup (da_cons de_int (da_cons (de_var (i := 3)) da_nil))))))) (dss_cons (Γ1 := [.sh, .sh, .sh, .sh, .sh, .sh, .sh, .sh]) (ds_setW (i := 2) hN (de_op dop_add (de_var (i := 2)) (de_lc (own := [((PySem.Str.ofString "odd"), 3)]) rfl hN (di_seq (de_lst (da_cons de_non (da_cons de_int (da_cons (de_neg de_int) (da_cons de_bl (da_cons de_str (da_cons (de_lst (da_cons de_int da_nil)) (da_cons (de_opI dop_pow iop_atom de_int de_int) da_nil))))))))) (blkOk_by (by rfl)) (by decide) (fun s_ H_ C_ cl_ fp_ => (dg_name (i := 3) hN)) (fun s_ H_ C_ cl_ fp_ => (dts_one (db_cmp dcmp_gt (de_var (i := 1)) de_int))) (fun s_ H_ C_ cl_ fp_ => (de_tup (da_cons de_int (da_cons (de_var (i := 3)) da_nil))))))) (dss_cons (Γ1 := [.sh, .sh, .sh, .sh, .sh, .sh, .sh, .sh]) (ds_for (passes_of rfl) rfl (di_seq (de_var (i := 2))) (dg_seq (n := 2) rfl (dgs_cons (dg_name (i := 4) hN) (dgs_cons (dg_name (i := 3) hN) dgs_nil))) (dss_cons (Γ1 := [.sh, .sh, .sh, .sh, .sh, .sh, .sh, .sh]) (ds_for (passes_of rfl) rfl (di_seq (de_lst (da_cons (de_sl dsl (de_lst (da_cons de_int (da_cons de_int (da_cons de_int da_nil)))) (do_some (de_opI dop_addI iop_atom (de_var (i := 4)) de_int)) do_none) (da_cons (de_lst (da_cons de_non (da_cons de_non da_nil))) da_nil)))) (dg_name (i := 5) hN) (dss_cons (Γ1 := [.sh, .sh, .sh, .sh, .sh, .sh, .sh, .sh]) (ds_setW (i := 6) hN (de_sl dsl (de_op dop_add (de_op dop_add (de_sl dsl (de_lst (da_cons de_int (da_cons de_int (da_cons de_int da_nil)))) do_none (do_some (de_var (i := 4)))) (de_lst (da_cons (de_var (i := 3)) da_nil))) (de_var (i := 5))) do_none (do_some (de_opI dop_addI iop_atom de_int (de_callTy dc_int (da_cons (de_b (db_cmp dcmp_gt (de_var (i := 1)) de_int)) da_nil) b_int boot_int))))) (dss_cons (Γ1 := [.sh, .sh, .sh, .sh, .sh, .sh, .sh, .sh]) (ds_setW (i := 7) hN (de_callC C__law_heard hr (da_cons (de_var (i := 1)) (da_cons (de_var (i := 6)) da_nil)))) (dss_cons (Γ1 := [.sh, .sh, .sh, .sh, .sh, .sh, .sh, .sh]) (ds_if (Γ1 := [.sh, .sh, .sh, .sh, .sh, .sh, .sh, .sh]) (db_s (dbs_or (db_cmp (dcmp_eq hu) (de_var (i := 7)) de_str) (dbs_or (db_cmp (dcmp_ne hu) (de_sl dsl (de_var (i := 7)) do_none (do_some de_int)) (de_lst (da_cons (de_lst (da_cons (de_var (i := 4)) da_nil)) (da_cons de_bl da_nil)))) (dbs_or1 (db_not (db_e (de_callC C__law_exact hr (da_cons (de_var (i := 3)) (da_cons (de_sub (de_var (i := 7)) de_int) da_nil))))))))) (dss_cons (Γ1 := [.sh, .sh, .sh, .sh, .sh, .sh, .sh, .sh]) (ds_ret de_bl) dss_nilW) dss_nilW) dss_nilW)))) dss_nilW)) (dss_cons (Γ1 := [.sh, .sh, .sh, .sh, .sh, .sh, .sh, .sh]) (ds_if (Γ1 := [.sh, .sh, .sh, .sh, .sh, .sh, .sh, .sh]) (db_cmp (dcmp_ne hu) (de_callC C__law_heard hr (da_cons (de_var (i := 1)) (da_cons (de_lst (da_cons de_int (da_cons de_int (da_cons de_int da_nil)))) da_nil))) de_str) (dss_cons (Γ1 := [.sh, .sh, .sh, .sh, .sh, .sh, .sh, .sh]) (ds_ret de_bl) dss_nilW) dss_nilW) dss_nilW))))) rfl) (dss_cons (Γ1 := [.sh, .sh, .sh, .sh, .sh, .sh, .sh, .sh]) (ds_ret de_bl) dss_nilW)))
theorem cal__law_refused_right {P : Program} {w : World} {K : PySem.W.Frag} {mg : Str → Option Value} {base : Heap} {a : Addr} {fd : FuncData} (FD : FunD K (PySem.Str.ofString "_law_refused_right") (PySem.Str.ofString "_law_refused_right") (defArgs s__law_refused_right) (defBody s__law_refused_right) (defScope s__law_refused_right) [] [] a fd) (hm : mg (PySem.Str.ofString "_law_refused_right") = some (.ref a)) (C__law_heard : Cal P w K mg base 6 (PySem.Str.ofString "_law_heard") 2 F__law_heard (Lk.out (Lk.mk false false true false))) (C__law_exact : Cal P w K mg base 9 (PySem.Str.ofString "_law_exact") 2 (F__law_exact 8) (Lk.out (Lk.mk false false false false))) (b_int : mg (PySem.Str.ofString "int") = none) (b_range : mg (PySem.Str.ofString "range") = none) : Cal P w K mg base 10 (PySem.Str.ofString "_law_refused_right") 0 F__law_refused_right (Lk.out (Lk.mk false false false false)) :=
  cal_mk FD hm (ok__law_refused_right FD C__law_heard C__law_exact b_int b_range) cFun_len (fun _ _ _ _ _ _ us hl => match us, hl with | [], _ => rfl)

/-! ### law -/
abbrev s_law : Stmt := top 37
def N_law : List Str := [(PySem.Str.ofString "script"), (PySem.Str.ofString "purse"), (PySem.Str.ofString "three")]
def P_law : List Str := [(PySem.Str.ofString "script")]
theorem S_law : FnScope N_law P_law (defScope s_law) := ⟨rfl, rfl, rfl, by decide +kernel, rfl, by decide +kernel, by decide +kernel⟩
def m_law : SemS := (cSeq (cFor (cSeqI (cCall F__law_purses (cCons (cVar 0) (cCons (cC (.int 3)) cNil)))) (gSet 1) (cSeq (cIfS (cNot (cIsB (cCall F__law_case_right (cCons (cVar 1) cNil)))) (cSeq (cRet (cC (.bl false))) cSkip) cSkip) cSkip)) (cSeq (cSet 2 (cLst (cCons (cLst (cCons (cC (.int 0)) (cCons (cC (.int 1)) (cCons (cC (.int 2)) cNil)))) (cCons (cLst (cCons (cC (.int 0)) (cCons (cC (.int 3)) (cCons (cC (.int 6)) cNil)))) (cCons (cLst (cCons (cC (.int 0)) (cCons (cC (.int 4)) (cCons (cC (.int 8)) cNil)))) (cCons (cLst (cCons (cC (.int 1)) (cCons (cC (.int 4)) (cCons (cC (.int 7)) cNil)))) (cCons (cLst (cCons (cC (.int 2)) (cCons (cC (.int 4)) (cCons (cC (.int 6)) cNil)))) (cCons (cLst (cCons (cC (.int 2)) (cCons (cC (.int 5)) (cCons (cC (.int 8)) cNil)))) (cCons (cLst (cCons (cC (.int 3)) (cCons (cC (.int 4)) (cCons (cC (.int 5)) cNil)))) (cCons (cLst (cCons (cC (.int 6)) (cCons (cC (.int 7)) (cCons (cC (.int 8)) cNil)))) cNil)))))))))) (cSeq (cIfS (cNot (cIsB (cCall (F__law_exact 8) (cCons (cLst (cCons (cVar 2) (cCons (cLst (cCons (cC (.int 1)) (cCons (cC (.int 1)) (cCons (cC (.int 2)) cNil)))) (cCons (cC (.int 76)) cNil)))) (cCons (cLst (cCons (cCallA F_board_lines (cCons (cC (.int 3)) (cCons (cC (.int 2)) cNil))) (cCons (cCallA F_cell_counts (cCons (cC (.int 3)) (cCons (cC (.int 3)) (cCons (cC (.int 14)) cNil)))) (cCons (cCallA F_how_many_board_lines (cCons (cC (.int 4)) (cCons (cC (.int 3)) cNil))) cNil)))) cNil))))) (cSeq (cRet (cC (.bl false))) cSkip) cSkip) (cSeq (cRet (cCall F__law_refused_right cNil)) cSkip))))
def F_law : Fn := cFun N_law.length 1 m_law
theorem ok_law {P : Program} {w : World} {K : PySem.W.Frag} {mg : Str → Option Value} {base : Heap} {a : Addr} {fd : FuncData} (FD : FunD K (PySem.Str.ofString "law") (PySem.Str.ofString "law") (defArgs s_law) (defBody s_law) (defScope s_law) [] [] a fd) (C__law_case_right : Cal P w K mg base 10 (PySem.Str.ofString "_law_case_right") 1 F__law_case_right (Lk.out (Lk.mk false false false false))) (C__law_purses : Cal P w K mg base 2 (PySem.Str.ofString "_law_purses") 2 F__law_purses (Lk.out (Lk.mk false false false false))) (C_how_many_board_lines : Cal P w K mg base 4 (PySem.Str.ofString "how_many_board_lines") 2 F_how_many_board_lines (Lk.out (Lk.mk false false false false))) (C_cell_counts : Cal P w K mg base 5 (PySem.Str.ofString "cell_counts") 3 F_cell_counts (Lk.out (Lk.mk false false true false))) (C_board_lines : Cal P w K mg base 4 (PySem.Str.ofString "board_lines") 2 F_board_lines (Lk.out (Lk.mk false false false false))) (C__law_exact : Cal P w K mg base 9 (PySem.Str.ofString "_law_exact") 2 (F__law_exact 8) (Lk.out (Lk.mk false false false false))) (C__law_refused_right : Cal P w K mg base 10 (PySem.Str.ofString "_law_refused_right") 0 F__law_refused_right (Lk.out (Lk.mk false false false false))) : FnOk P w K mg base (L2N.CX P w) 11 a fd P_law (spD K mg 1 F_law (Lk.out (Lk.mk false false false false))) := by
  refine fnd_ok (Γ := [.sh, .all, .all]) (Γ' := [.sh, .sh, .sh]) (Lr := (Lk.mk false false false false)) (k := 10) FD S_law rfl (by decide) fun cdv A outer s H E hr tk => ?_
  have hN := S_law.nd
  have hu := hr.units
  have hu1 := hu_of hr
  exact (dss_cons (Γ1 := [.sh, .sh, .all]) (ds_from (Γ1 := [.sh, .sh, .all]) (ds_for (passes_of rfl) rfl (di_seq (de_callC C__law_purses hr (da_cons (de_var (i := 0)) (da_cons de_int da_nil)))) (dg_name (i := 1) hN) (dss_cons (Γ1 := [.sh, .sh, .all]) (ds_if (Γ1 := [.sh, .sh, .all]) (db_not (db_e (de_callC C__law_case_right hr (da_cons (de_var (i := 1)) da_nil)))) (dss_cons (Γ1 := [.sh, .sh, .all]) (ds_ret de_bl) dss_nilW) dss_nilW) dss_nilW)) rfl) (dss_cons (Γ1 := [.sh, .sh, .sh]) (ds_setW (i := 2) hN (de_lst (da_cons (de_lst (da_cons de_int (da_cons de_int (da_cons de_int da_nil)))) (da_cons (de_lst (da_cons de_int (da_cons de_int (da_cons de_int da_nil)))) (da_cons (de_lst (da_cons de_int (da_cons de_int (da_cons de_int da_nil)))) (da_cons (de_lst (da_cons de_int (da_cons de_int (da_cons de_int da_nil)))) (da_cons (de_lst (da_cons de_int (da_cons de_int (da_cons de_int da_nil)))) (da_cons (de_lst (da_cons de_int (da_cons de_int (da_cons de_int da_nil)))) (da_cons (de_lst (da_cons de_int (da_cons de_int (da_cons de_int da_nil)))) (da_cons (de_lst (da_cons de_int (da_cons de_int (da_cons de_int da_nil)))) da_nil)))))))))) (dss_cons (Γ1 := [.sh, .sh, .sh]) (ds_if (Γ1 := [.sh, .sh, .sh]) (db_not (db_e (de_callC C__law_exact hr (da_cons (de_lst (da_cons (de_var (i := 2)) (da_cons (de_lst (da_cons de_int (da_cons de_int (da_cons de_int da_nil)))) (da_cons de_int da_nil)))) (da_cons (de_lst (da_cons (de_callA C_board_lines hr (da_cons de_int (da_cons de_int da_nil))) (da_cons (de_callA C_cell_counts hr (da_cons de_int (da_cons de_int (da_cons de_int da_nil)))) (da_cons (de_callA C_how_many_board_lines hr (da_cons de_int (da_cons de_int da_nil))) da_nil)))) da_nil))))) (dss_cons (Γ1 := [.sh, .sh, .sh]) (ds_ret de_bl) dss_nilW) dss_nilW) (dss_cons (Γ1 := [.sh, .sh, .sh]) (ds_ret (de_callC0 C__law_refused_right hr)) dss_nilW))))
theorem cal_law {P : Program} {w : World} {K : PySem.W.Frag} {mg : Str → Option Value} {base : Heap} {a : Addr} {fd : FuncData} (FD : FunD K (PySem.Str.ofString "law") (PySem.Str.ofString "law") (defArgs s_law) (defBody s_law) (defScope s_law) [] [] a fd) (hm : mg (PySem.Str.ofString "law") = some (.ref a)) (C__law_case_right : Cal P w K mg base 10 (PySem.Str.ofString "_law_case_right") 1 F__law_case_right (Lk.out (Lk.mk false false false false))) (C__law_purses : Cal P w K mg base 2 (PySem.Str.ofString "_law_purses") 2 F__law_purses (Lk.out (Lk.mk false false false false))) (C_how_many_board_lines : Cal P w K mg base 4 (PySem.Str.ofString "how_many_board_lines") 2 F_how_many_board_lines (Lk.out (Lk.mk false false false false))) (C_cell_counts : Cal P w K mg base 5 (PySem.Str.ofString "cell_counts") 3 F_cell_counts (Lk.out (Lk.mk false false true false))) (C_board_lines : Cal P w K mg base 4 (PySem.Str.ofString "board_lines") 2 F_board_lines (Lk.out (Lk.mk false false false false))) (C__law_exact : Cal P w K mg base 9 (PySem.Str.ofString "_law_exact") 2 (F__law_exact 8) (Lk.out (Lk.mk false false false false))) (C__law_refused_right : Cal P w K mg base 10 (PySem.Str.ofString "_law_refused_right") 0 F__law_refused_right (Lk.out (Lk.mk false false false false))) : Cal P w K mg base 11 (PySem.Str.ofString "law") 1 F_law (Lk.out (Lk.mk false false false false)) :=
  cal_mk FD hm (ok_law FD C__law_case_right C__law_purses C_how_many_board_lines C_cell_counts C_board_lines C__law_exact C__law_refused_right) cFun_len (fun _ _ _ _ _ _ us hl => match us, hl with | [_], _ => rfl)
theorem calK_board_lines_ways_side {P : Program} {w : World} {K : PySem.W.Frag} {mg : Str → Option Value} {base : Heap} {a : Addr} {fd : FuncData} (FD : FunD K (PySem.Str.ofString "board_lines") (PySem.Str.ofString "board_lines") (defArgs s_board_lines) (defBody s_board_lines) (defScope s_board_lines) [] [] a fd) (hm : mg (PySem.Str.ofString "board_lines") = some (.ref a)) (C_check_board : Cal P w K mg base 3 (PySem.Str.ofString "check_board") 2 F_check_board (Lk.out (Lk.mk false false false false))) (C_lines_there : Cal P w K mg base 3 (PySem.Str.ofString "lines_there") 2 F_lines_there (Lk.out (Lk.mk false false false true))) : CalK P w K mg base 4 (PySem.Str.ofString "board_lines") 2 F_board_lines (Lk.out (Lk.mk false false false false)) [(PySem.Str.ofString "ways"), (PySem.Str.ofString "side")] [1, 0] :=
  calk_mk FD hm (ok_board_lines FD C_check_board C_lines_there) cFun_len (fun _ _ _ _ _ _ ws hl => match ws, hl with | [_, _], _ => rfl)
theorem calK_how_many_board_lines_ways_side {P : Program} {w : World} {K : PySem.W.Frag} {mg : Str → Option Value} {base : Heap} {a : Addr} {fd : FuncData} (FD : FunD K (PySem.Str.ofString "how_many_board_lines") (PySem.Str.ofString "how_many_board_lines") (defArgs s_how_many_board_lines) (defBody s_how_many_board_lines) (defScope s_how_many_board_lines) [] [] a fd) (hm : mg (PySem.Str.ofString "how_many_board_lines") = some (.ref a)) (C_check_board : Cal P w K mg base 3 (PySem.Str.ofString "check_board") 2 F_check_board (Lk.out (Lk.mk false false false false))) (C_power : Cal P w K mg base 1 (PySem.Str.ofString "power") 2 F_power (Lk.out (Lk.mk false false false false))) : CalK P w K mg base 4 (PySem.Str.ofString "how_many_board_lines") 2 F_how_many_board_lines (Lk.out (Lk.mk false false false false)) [(PySem.Str.ofString "ways"), (PySem.Str.ofString "side")] [1, 0] :=
  calk_mk FD hm (ok_how_many_board_lines FD C_check_board C_power) cFun_len (fun _ _ _ _ _ _ ws hl => match ws, hl with | [_, _], _ => rfl)
theorem calK_cell_counts_cell_ways_side {P : Program} {w : World} {K : PySem.W.Frag} {mg : Str → Option Value} {base : Heap} {a : Addr} {fd : FuncData} (FD : FunD K (PySem.Str.ofString "cell_counts") (PySem.Str.ofString "cell_counts") (defArgs s_cell_counts) (defBody s_cell_counts) (defScope s_cell_counts) [] [] a fd) (hm : mg (PySem.Str.ofString "cell_counts") = some (.ref a)) (C_check_cell : Cal P w K mg base 4 (PySem.Str.ofString "check_cell") 3 F_check_cell (Lk.out (Lk.mk false false false false))) (C_counts_there : Cal P w K mg base 1 (PySem.Str.ofString "counts_there") 3 F_counts_there (Lk.out (Lk.mk false false false true))) : CalK P w K mg base 5 (PySem.Str.ofString "cell_counts") 3 F_cell_counts (Lk.out (Lk.mk false false true false)) [(PySem.Str.ofString "cell"), (PySem.Str.ofString "ways"), (PySem.Str.ofString "side")] [2, 1, 0] :=
  calk_mk FD hm (ok_cell_counts FD C_check_cell C_counts_there) cFun_len (fun _ _ _ _ _ _ ws hl => match ws, hl with | [_, _, _], _ => rfl)
theorem calK_lines_at_cell_ways_side {P : Program} {w : World} {K : PySem.W.Frag} {mg : Str → Option Value} {base : Heap} {a : Addr} {fd : FuncData} (FD : FunD K (PySem.Str.ofString "lines_at") (PySem.Str.ofString "lines_at") (defArgs s_lines_at) (defBody s_lines_at) (defScope s_lines_at) [] [] a fd) (hm : mg (PySem.Str.ofString "lines_at") = some (.ref a)) (C_check_cell : Cal P w K mg base 4 (PySem.Str.ofString "check_cell") 3 F_check_cell (Lk.out (Lk.mk false false false false))) (C_lines_there : Cal P w K mg base 3 (PySem.Str.ofString "lines_there") 2 F_lines_there (Lk.out (Lk.mk false false false true))) : CalK P w K mg base 5 (PySem.Str.ofString "lines_at") 3 F_lines_at (Lk.out (Lk.mk false false true false)) [(PySem.Str.ofString "cell"), (PySem.Str.ofString "ways"), (PySem.Str.ofString "side")] [2, 1, 0] :=
  calk_mk FD hm (ok_lines_at FD C_check_cell C_lines_there) cFun_len (fun _ _ _ _ _ _ ws hl => match ws, hl with | [_, _, _], _ => rfl)
end K80

set_option Elab.async false
set_option linter.all false
set_option maxRecDepth 100000
namespace K80
open DL
theorem pu_F_is_whole : PuF F_is_whole := puf_fun (by
  unfold m_is_whole
  repeat' (first | exact pu_var | exact pu_c | exact pu_nil | exact pu_on | exact pu_pnil | exact pus_skip | exact pus_stuck | exact (fun d => pus_gDrop d) | exact (fun d => pus_gRet d) | exact (fun d => pus_gPut d) | exact (fun _ _ _ => rfl) | apply pu_cons | apply pu_lst | apply pu_tup | apply pu_b | apply pu_isB | apply pu_not | apply pu_and | apply pu_or | apply pu_if | apply pu_op | apply pu_cmp | apply pu_os | apply pu_rev | apply pu_neg | apply pu_atom | apply pu_flat | apply pu_is | apply pu_isT | apply pu_sl | apply pu_fn | apply pu_pcons | apply pu_disp | apply puf_call | apply puf_callA | apply pu_dfl | apply pu_perm | apply pu_seqI | apply pu_rng1 | apply pu_zip | apply pu_lc | apply pus_seq | apply pus_set | apply pus_drop | apply pus_ret | apply pus_if | apply pus_app | apply pus_dput | apply pus_asg | apply pus_par | apply pus_for | apply pus_raise | apply pus_callX | apply pus_callV | apply pus_try | apply pus_spoil | apply pu_bits | (intro c_ d_)))
theorem pu_F_is_count : PuF F_is_count := puf_fun (by
  unfold m_is_count
  repeat' (first | exact pu_F_is_whole | exact pu_var | exact pu_c | exact pu_nil | exact pu_on | exact pu_pnil | exact pus_skip | exact pus_stuck | exact (fun d => pus_gDrop d) | exact (fun d => pus_gRet d) | exact (fun d => pus_gPut d) | exact (fun _ _ _ => rfl) | apply pu_cons | apply pu_lst | apply pu_tup | apply pu_b | apply pu_isB | apply pu_not | apply pu_and | apply pu_or | apply pu_if | apply pu_op | apply pu_cmp | apply pu_os | apply pu_rev | apply pu_neg | apply pu_atom | apply pu_flat | apply pu_is | apply pu_isT | apply pu_sl | apply pu_fn | apply pu_pcons | apply pu_disp | apply puf_call | apply puf_callA | apply pu_dfl | apply pu_perm | apply pu_seqI | apply pu_rng1 | apply pu_zip | apply pu_lc | apply pus_seq | apply pus_set | apply pus_drop | apply pus_ret | apply pus_if | apply pus_app | apply pus_dput | apply pus_asg | apply pus_par | apply pus_for | apply pus_raise | apply pus_callX | apply pus_callV | apply pus_try | apply pus_spoil | apply pu_bits | (intro c_ d_)))
theorem pu_F_power : PuF F_power := puf_fun (by
  unfold m_power
  repeat' (first | exact pu_var | exact pu_c | exact pu_nil | exact pu_on | exact pu_pnil | exact pus_skip | exact pus_stuck | exact (fun d => pus_gDrop d) | exact (fun d => pus_gRet d) | exact (fun d => pus_gPut d) | exact (fun _ _ _ => rfl) | apply pu_cons | apply pu_lst | apply pu_tup | apply pu_b | apply pu_isB | apply pu_not | apply pu_and | apply pu_or | apply pu_if | apply pu_op | apply pu_cmp | apply pu_os | apply pu_rev | apply pu_neg | apply pu_atom | apply pu_flat | apply pu_is | apply pu_isT | apply pu_sl | apply pu_fn | apply pu_pcons | apply pu_disp | apply puf_call | apply puf_callA | apply pu_dfl | apply pu_perm | apply pu_seqI | apply pu_rng1 | apply pu_zip | apply pu_lc | apply pus_seq | apply pus_set | apply pus_drop | apply pus_ret | apply pus_if | apply pus_app | apply pus_dput | apply pus_asg | apply pus_par | apply pus_for | apply pus_raise | apply pus_callX | apply pus_callV | apply pus_try | apply pus_spoil | apply pu_bits | (intro c_ d_)))
theorem pu_F_check_board : PuF F_check_board := puf_fun (by
  unfold m_check_board
  repeat' (first | exact pu_F_is_count | exact pu_var | exact pu_c | exact pu_nil | exact pu_on | exact pu_pnil | exact pus_skip | exact pus_stuck | exact (fun d => pus_gDrop d) | exact (fun d => pus_gRet d) | exact (fun d => pus_gPut d) | exact (fun _ _ _ => rfl) | apply pu_cons | apply pu_lst | apply pu_tup | apply pu_b | apply pu_isB | apply pu_not | apply pu_and | apply pu_or | apply pu_if | apply pu_op | apply pu_cmp | apply pu_os | apply pu_rev | apply pu_neg | apply pu_atom | apply pu_flat | apply pu_is | apply pu_isT | apply pu_sl | apply pu_fn | apply pu_pcons | apply pu_disp | apply puf_call | apply puf_callA | apply pu_dfl | apply pu_perm | apply pu_seqI | apply pu_rng1 | apply pu_zip | apply pu_lc | apply pus_seq | apply pus_set | apply pus_drop | apply pus_ret | apply pus_if | apply pus_app | apply pus_dput | apply pus_asg | apply pus_par | apply pus_for | apply pus_raise | apply pus_callX | apply pus_callV | apply pus_try | apply pus_spoil | apply pu_bits | (intro c_ d_)))
theorem pu_F_check_cell : PuF F_check_cell := puf_fun (by
  unfold m_check_cell
  repeat' (first | exact pu_F_check_board | exact pu_F_is_count | exact pu_F_power | exact pu_var | exact pu_c | exact pu_nil | exact pu_on | exact pu_pnil | exact pus_skip | exact pus_stuck | exact (fun d => pus_gDrop d) | exact (fun d => pus_gRet d) | exact (fun d => pus_gPut d) | exact (fun _ _ _ => rfl) | apply pu_cons | apply pu_lst | apply pu_tup | apply pu_b | apply pu_isB | apply pu_not | apply pu_and | apply pu_or | apply pu_if | apply pu_op | apply pu_cmp | apply pu_os | apply pu_rev | apply pu_neg | apply pu_atom | apply pu_flat | apply pu_is | apply pu_isT | apply pu_sl | apply pu_fn | apply pu_pcons | apply pu_disp | apply puf_call | apply puf_callA | apply pu_dfl | apply pu_perm | apply pu_seqI | apply pu_rng1 | apply pu_zip | apply pu_lc | apply pus_seq | apply pus_set | apply pus_drop | apply pus_ret | apply pus_if | apply pus_app | apply pus_dput | apply pus_asg | apply pus_par | apply pus_for | apply pus_raise | apply pus_callX | apply pus_callV | apply pus_try | apply pus_spoil | apply pu_bits | (intro c_ d_)))
theorem pu_F_counts_there : PuF F_counts_there := puf_fun (by
  unfold m_counts_there
  repeat' (first | exact pu_var | exact pu_c | exact pu_nil | exact pu_on | exact pu_pnil | exact pus_skip | exact pus_stuck | exact (fun d => pus_gDrop d) | exact (fun d => pus_gRet d) | exact (fun d => pus_gPut d) | exact (fun _ _ _ => rfl) | apply pu_cons | apply pu_lst | apply pu_tup | apply pu_b | apply pu_isB | apply pu_not | apply pu_and | apply pu_or | apply pu_if | apply pu_op | apply pu_cmp | apply pu_os | apply pu_rev | apply pu_neg | apply pu_atom | apply pu_flat | apply pu_is | apply pu_isT | apply pu_sl | apply pu_fn | apply pu_pcons | apply pu_disp | apply puf_call | apply puf_callA | apply pu_dfl | apply pu_perm | apply pu_seqI | apply pu_rng1 | apply pu_zip | apply pu_lc | apply pus_seq | apply pus_set | apply pus_drop | apply pus_ret | apply pus_if | apply pus_app | apply pus_dput | apply pus_asg | apply pus_par | apply pus_for | apply pus_raise | apply pus_callX | apply pus_callV | apply pus_try | apply pus_spoil | apply pu_bits | (intro c_ d_)))
theorem pu_F_number_there : PuF F_number_there := puf_fun (by
  unfold m_number_there
  repeat' (first | exact pu_var | exact pu_c | exact pu_nil | exact pu_on | exact pu_pnil | exact pus_skip | exact pus_stuck | exact (fun d => pus_gDrop d) | exact (fun d => pus_gRet d) | exact (fun d => pus_gPut d) | exact (fun _ _ _ => rfl) | apply pu_cons | apply pu_lst | apply pu_tup | apply pu_b | apply pu_isB | apply pu_not | apply pu_and | apply pu_or | apply pu_if | apply pu_op | apply pu_cmp | apply pu_os | apply pu_rev | apply pu_neg | apply pu_atom | apply pu_flat | apply pu_is | apply pu_isT | apply pu_sl | apply pu_fn | apply pu_pcons | apply pu_disp | apply puf_call | apply puf_callA | apply pu_dfl | apply pu_perm | apply pu_seqI | apply pu_rng1 | apply pu_zip | apply pu_lc | apply pus_seq | apply pus_set | apply pus_drop | apply pus_ret | apply pus_if | apply pus_app | apply pus_dput | apply pus_asg | apply pus_par | apply pus_for | apply pus_raise | apply pus_callX | apply pus_callV | apply pus_try | apply pus_spoil | apply pu_bits | (intro c_ d_)))
theorem pu_F_cell_counts : PuF F_cell_counts := puf_fun (by
  unfold m_cell_counts
  repeat' (first | exact pu_F_check_cell | exact pu_F_counts_there | exact pu_var | exact pu_c | exact pu_nil | exact pu_on | exact pu_pnil | exact pus_skip | exact pus_stuck | exact (fun d => pus_gDrop d) | exact (fun d => pus_gRet d) | exact (fun d => pus_gPut d) | exact (fun _ _ _ => rfl) | apply pu_cons | apply pu_lst | apply pu_tup | apply pu_b | apply pu_isB | apply pu_not | apply pu_and | apply pu_or | apply pu_if | apply pu_op | apply pu_cmp | apply pu_os | apply pu_rev | apply pu_neg | apply pu_atom | apply pu_flat | apply pu_is | apply pu_isT | apply pu_sl | apply pu_fn | apply pu_pcons | apply pu_disp | apply puf_call | apply puf_callA | apply pu_dfl | apply pu_perm | apply pu_seqI | apply pu_rng1 | apply pu_zip | apply pu_lc | apply pus_seq | apply pus_set | apply pus_drop | apply pus_ret | apply pus_if | apply pus_app | apply pus_dput | apply pus_asg | apply pus_par | apply pus_for | apply pus_raise | apply pus_callX | apply pus_callV | apply pus_try | apply pus_spoil | apply pu_bits | (intro c_ d_)))
theorem pu_F_line_by : PuF F_line_by := puf_fun (by
  unfold m_line_by
  repeat' (first | exact pu_F_number_there | exact pu_var | exact pu_c | exact pu_nil | exact pu_on | exact pu_pnil | exact pus_skip | exact pus_stuck | exact (fun d => pus_gDrop d) | exact (fun d => pus_gRet d) | exact (fun d => pus_gPut d) | exact (fun _ _ _ => rfl) | apply pu_cons | apply pu_lst | apply pu_tup | apply pu_b | apply pu_isB | apply pu_not | apply pu_and | apply pu_or | apply pu_if | apply pu_op | apply pu_cmp | apply pu_os | apply pu_rev | apply pu_neg | apply pu_atom | apply pu_flat | apply pu_is | apply pu_isT | apply pu_sl | apply pu_fn | apply pu_pcons | apply pu_disp | apply puf_call | apply puf_callA | apply pu_dfl | apply pu_perm | apply pu_seqI | apply pu_rng1 | apply pu_zip | apply pu_lc | apply pus_seq | apply pus_set | apply pus_drop | apply pus_ret | apply pus_if | apply pus_app | apply pus_dput | apply pus_asg | apply pus_par | apply pus_for | apply pus_raise | apply pus_callX | apply pus_callV | apply pus_try | apply pus_spoil | apply pu_bits | (intro c_ d_)))
theorem pu_F_lines_there : PuF F_lines_there := puf_fun (by
  unfold m_lines_there
  repeat' (first | exact pu_F_counts_there | exact pu_F_line_by | exact pu_F_power | exact pu_var | exact pu_c | exact pu_nil | exact pu_on | exact pu_pnil | exact pus_skip | exact pus_stuck | exact (fun d => pus_gDrop d) | exact (fun d => pus_gRet d) | exact (fun d => pus_gPut d) | exact (fun _ _ _ => rfl) | apply pu_cons | apply pu_lst | apply pu_tup | apply pu_b | apply pu_isB | apply pu_not | apply pu_and | apply pu_or | apply pu_if | apply pu_op | apply pu_cmp | apply pu_os | apply pu_rev | apply pu_neg | apply pu_atom | apply pu_flat | apply pu_is | apply pu_isT | apply pu_sl | apply pu_fn | apply pu_pcons | apply pu_disp | apply puf_call | apply puf_callA | apply pu_dfl | apply pu_perm | apply pu_seqI | apply pu_rng1 | apply pu_zip | apply pu_lc | apply pus_seq | apply pus_set | apply pus_drop | apply pus_ret | apply pus_if | apply pus_app | apply pus_dput | apply pus_asg | apply pus_par | apply pus_for | apply pus_raise | apply pus_callX | apply pus_callV | apply pus_try | apply pus_spoil | apply pu_bits | (intro c_ d_)))
theorem pu_F_board_lines : PuF F_board_lines := puf_fun (by
  unfold m_board_lines
  repeat' (first | exact pu_F_check_board | exact pu_F_lines_there | exact pu_var | exact pu_c | exact pu_nil | exact pu_on | exact pu_pnil | exact pus_skip | exact pus_stuck | exact (fun d => pus_gDrop d) | exact (fun d => pus_gRet d) | exact (fun d => pus_gPut d) | exact (fun _ _ _ => rfl) | apply pu_cons | apply pu_lst | apply pu_tup | apply pu_b | apply pu_isB | apply pu_not | apply pu_and | apply pu_or | apply pu_if | apply pu_op | apply pu_cmp | apply pu_os | apply pu_rev | apply pu_neg | apply pu_atom | apply pu_flat | apply pu_is | apply pu_isT | apply pu_sl | apply pu_fn | apply pu_pcons | apply pu_disp | apply puf_call | apply puf_callA | apply pu_dfl | apply pu_perm | apply pu_seqI | apply pu_rng1 | apply pu_zip | apply pu_lc | apply pus_seq | apply pus_set | apply pus_drop | apply pus_ret | apply pus_if | apply pus_app | apply pus_dput | apply pus_asg | apply pus_par | apply pus_for | apply pus_raise | apply pus_callX | apply pus_callV | apply pus_try | apply pus_spoil | apply pu_bits | (intro c_ d_)))
theorem pu_F_lines_at : PuF F_lines_at := puf_fun (by
  unfold m_lines_at
  repeat' (first | exact pu_F_check_cell | exact pu_F_lines_there | exact pu_var | exact pu_c | exact pu_nil | exact pu_on | exact pu_pnil | exact pus_skip | exact pus_stuck | exact (fun d => pus_gDrop d) | exact (fun d => pus_gRet d) | exact (fun d => pus_gPut d) | exact (fun _ _ _ => rfl) | apply pu_cons | apply pu_lst | apply pu_tup | apply pu_b | apply pu_isB | apply pu_not | apply pu_and | apply pu_or | apply pu_if | apply pu_op | apply pu_cmp | apply pu_os | apply pu_rev | apply pu_neg | apply pu_atom | apply pu_flat | apply pu_is | apply pu_isT | apply pu_sl | apply pu_fn | apply pu_pcons | apply pu_disp | apply puf_call | apply puf_callA | apply pu_dfl | apply pu_perm | apply pu_seqI | apply pu_rng1 | apply pu_zip | apply pu_lc | apply pus_seq | apply pus_set | apply pus_drop | apply pus_ret | apply pus_if | apply pus_app | apply pus_dput | apply pus_asg | apply pus_par | apply pus_for | apply pus_raise | apply pus_callX | apply pus_callV | apply pus_try | apply pus_spoil | apply pu_bits | (intro c_ d_)))
theorem pu_F_how_many_board_lines : PuF F_how_many_board_lines := puf_fun (by
  unfold m_how_many_board_lines
  repeat' (first | exact pu_F_check_board | exact pu_F_power | exact pu_var | exact pu_c | exact pu_nil | exact pu_on | exact pu_pnil | exact pus_skip | exact pus_stuck | exact (fun d => pus_gDrop d) | exact (fun d => pus_gRet d) | exact (fun d => pus_gPut d) | exact (fun _ _ _ => rfl) | apply pu_cons | apply pu_lst | apply pu_tup | apply pu_b | apply pu_isB | apply pu_not | apply pu_and | apply pu_or | apply pu_if | apply pu_op | apply pu_cmp | apply pu_os | apply pu_rev | apply pu_neg | apply pu_atom | apply pu_flat | apply pu_is | apply pu_isT | apply pu_sl | apply pu_fn | apply pu_pcons | apply pu_disp | apply puf_call | apply puf_callA | apply pu_dfl | apply pu_perm | apply pu_seqI | apply pu_rng1 | apply pu_zip | apply pu_lc | apply pus_seq | apply pus_set | apply pus_drop | apply pus_ret | apply pus_if | apply pus_app | apply pus_dput | apply pus_asg | apply pus_par | apply pus_for | apply pus_raise | apply pus_callX | apply pus_callV | apply pus_try | apply pus_spoil | apply pu_bits | (intro c_ d_)))
theorem pu_F__law_mixed : PuF F__law_mixed := puf_fun (by
  unfold m__law_mixed
  repeat' (first | exact pu_var | exact pu_c | exact pu_nil | exact pu_on | exact pu_pnil | exact pus_skip | exact pus_stuck | exact (fun d => pus_gDrop d) | exact (fun d => pus_gRet d) | exact (fun d => pus_gPut d) | exact (fun _ _ _ => rfl) | apply pu_cons | apply pu_lst | apply pu_tup | apply pu_b | apply pu_isB | apply pu_not | apply pu_and | apply pu_or | apply pu_if | apply pu_op | apply pu_cmp | apply pu_os | apply pu_rev | apply pu_neg | apply pu_atom | apply pu_flat | apply pu_is | apply pu_isT | apply pu_sl | apply pu_fn | apply pu_pcons | apply pu_disp | apply puf_call | apply puf_callA | apply pu_dfl | apply pu_perm | apply pu_seqI | apply pu_rng1 | apply pu_zip | apply pu_lc | apply pus_seq | apply pus_set | apply pus_drop | apply pus_ret | apply pus_if | apply pus_app | apply pus_dput | apply pus_asg | apply pus_par | apply pus_for | apply pus_raise | apply pus_callX | apply pus_callV | apply pus_try | apply pus_spoil | apply pu_bits | (intro c_ d_)))
theorem pu_m__law_exact {R_ : Fn} (hR : PuF R_) : PuS (m__law_exact R_) := by
  unfold m__law_exact
  repeat' (first | exact hR | exact pu_var | exact pu_c | exact pu_nil | exact pu_on | exact pu_pnil | exact pus_skip | exact pus_stuck | exact (fun d => pus_gDrop d) | exact (fun d => pus_gRet d) | exact (fun d => pus_gPut d) | exact (fun _ _ _ => rfl) | apply pu_cons | apply pu_lst | apply pu_tup | apply pu_b | apply pu_isB | apply pu_not | apply pu_and | apply pu_or | apply pu_if | apply pu_op | apply pu_cmp | apply pu_os | apply pu_rev | apply pu_neg | apply pu_atom | apply pu_flat | apply pu_is | apply pu_isT | apply pu_sl | apply pu_fn | apply pu_pcons | apply pu_disp | apply puf_call | apply puf_callA | apply pu_dfl | apply pu_perm | apply pu_seqI | apply pu_rng1 | apply pu_zip | apply pu_lc | apply pus_seq | apply pus_set | apply pus_drop | apply pus_ret | apply pus_if | apply pus_app | apply pus_dput | apply pus_asg | apply pus_par | apply pus_for | apply pus_raise | apply pus_callX | apply pus_callV | apply pus_try | apply pus_spoil | apply pu_bits | (intro c_ d_))
theorem pu_F__law_exact : ∀ j, PuF (F__law_exact j)
  | 0 => fun _ _ _ => rfl
  | j + 1 => puf_fun (pu_m__law_exact (pu_F__law_exact j))
theorem pu_F__law_power : PuF F__law_power := puf_fun (by
  unfold m__law_power
  repeat' (first | exact pu_var | exact pu_c | exact pu_nil | exact pu_on | exact pu_pnil | exact pus_skip | exact pus_stuck | exact (fun d => pus_gDrop d) | exact (fun d => pus_gRet d) | exact (fun d => pus_gPut d) | exact (fun _ _ _ => rfl) | apply pu_cons | apply pu_lst | apply pu_tup | apply pu_b | apply pu_isB | apply pu_not | apply pu_and | apply pu_or | apply pu_if | apply pu_op | apply pu_cmp | apply pu_os | apply pu_rev | apply pu_neg | apply pu_atom | apply pu_flat | apply pu_is | apply pu_isT | apply pu_sl | apply pu_fn | apply pu_pcons | apply pu_disp | apply puf_call | apply puf_callA | apply pu_dfl | apply pu_perm | apply pu_seqI | apply pu_rng1 | apply pu_zip | apply pu_lc | apply pus_seq | apply pus_set | apply pus_drop | apply pus_ret | apply pus_if | apply pus_app | apply pus_dput | apply pus_asg | apply pus_par | apply pus_for | apply pus_raise | apply pus_callX | apply pus_callV | apply pus_try | apply pus_spoil | apply pu_bits | (intro c_ d_)))
theorem pu_F__law_figures : PuF F__law_figures := puf_fun (by
  unfold m__law_figures
  repeat' (first | exact pu_var | exact pu_c | exact pu_nil | exact pu_on | exact pu_pnil | exact pus_skip | exact pus_stuck | exact (fun d => pus_gDrop d) | exact (fun d => pus_gRet d) | exact (fun d => pus_gPut d) | exact (fun _ _ _ => rfl) | apply pu_cons | apply pu_lst | apply pu_tup | apply pu_b | apply pu_isB | apply pu_not | apply pu_and | apply pu_or | apply pu_if | apply pu_op | apply pu_cmp | apply pu_os | apply pu_rev | apply pu_neg | apply pu_atom | apply pu_flat | apply pu_is | apply pu_isT | apply pu_sl | apply pu_fn | apply pu_pcons | apply pu_disp | apply puf_call | apply puf_callA | apply pu_dfl | apply pu_perm | apply pu_seqI | apply pu_rng1 | apply pu_zip | apply pu_lc | apply pus_seq | apply pus_set | apply pus_drop | apply pus_ret | apply pus_if | apply pus_app | apply pus_dput | apply pus_asg | apply pus_par | apply pus_for | apply pus_raise | apply pus_callX | apply pus_callV | apply pus_try | apply pus_spoil | apply pu_bits | (intro c_ d_)))
theorem pu_F__law_number : PuF F__law_number := puf_fun (by
  unfold m__law_number
  repeat' (first | exact pu_var | exact pu_c | exact pu_nil | exact pu_on | exact pu_pnil | exact pus_skip | exact pus_stuck | exact (fun d => pus_gDrop d) | exact (fun d => pus_gRet d) | exact (fun d => pus_gPut d) | exact (fun _ _ _ => rfl) | apply pu_cons | apply pu_lst | apply pu_tup | apply pu_b | apply pu_isB | apply pu_not | apply pu_and | apply pu_or | apply pu_if | apply pu_op | apply pu_cmp | apply pu_os | apply pu_rev | apply pu_neg | apply pu_atom | apply pu_flat | apply pu_is | apply pu_isT | apply pu_sl | apply pu_fn | apply pu_pcons | apply pu_disp | apply puf_call | apply puf_callA | apply pu_dfl | apply pu_perm | apply pu_seqI | apply pu_rng1 | apply pu_zip | apply pu_lc | apply pus_seq | apply pus_set | apply pus_drop | apply pus_ret | apply pus_if | apply pus_app | apply pus_dput | apply pus_asg | apply pus_par | apply pus_for | apply pus_raise | apply pus_callX | apply pus_callV | apply pus_try | apply pus_spoil | apply pu_bits | (intro c_ d_)))
theorem pu_F__law_steps : PuF F__law_steps := puf_fun (by
  unfold m__law_steps
  repeat' (first | exact pu_var | exact pu_c | exact pu_nil | exact pu_on | exact pu_pnil | exact pus_skip | exact pus_stuck | exact (fun d => pus_gDrop d) | exact (fun d => pus_gRet d) | exact (fun d => pus_gPut d) | exact (fun _ _ _ => rfl) | apply pu_cons | apply pu_lst | apply pu_tup | apply pu_b | apply pu_isB | apply pu_not | apply pu_and | apply pu_or | apply pu_if | apply pu_op | apply pu_cmp | apply pu_os | apply pu_rev | apply pu_neg | apply pu_atom | apply pu_flat | apply pu_is | apply pu_isT | apply pu_sl | apply pu_fn | apply pu_pcons | apply pu_disp | apply puf_call | apply puf_callA | apply pu_dfl | apply pu_perm | apply pu_seqI | apply pu_rng1 | apply pu_zip | apply pu_lc | apply pus_seq | apply pus_set | apply pus_drop | apply pus_ret | apply pus_if | apply pus_app | apply pus_dput | apply pus_asg | apply pus_par | apply pus_for | apply pus_raise | apply pus_callX | apply pus_callV | apply pus_try | apply pus_spoil | apply pu_bits | (intro c_ d_)))
theorem pu_F__law_lines : PuF F__law_lines := puf_fun (by
  unfold m__law_lines
  repeat' (first | exact pu_F__law_figures | exact pu_F__law_number | exact pu_F__law_power | exact pu_F__law_steps | exact pu_var | exact pu_c | exact pu_nil | exact pu_on | exact pu_pnil | exact pus_skip | exact pus_stuck | exact (fun d => pus_gDrop d) | exact (fun d => pus_gRet d) | exact (fun d => pus_gPut d) | exact (fun _ _ _ => rfl) | apply pu_cons | apply pu_lst | apply pu_tup | apply pu_b | apply pu_isB | apply pu_not | apply pu_and | apply pu_or | apply pu_if | apply pu_op | apply pu_cmp | apply pu_os | apply pu_rev | apply pu_neg | apply pu_atom | apply pu_flat | apply pu_is | apply pu_isT | apply pu_sl | apply pu_fn | apply pu_pcons | apply pu_disp | apply puf_call | apply puf_callA | apply pu_dfl | apply pu_perm | apply pu_seqI | apply pu_rng1 | apply pu_zip | apply pu_lc | apply pus_seq | apply pus_set | apply pus_drop | apply pus_ret | apply pus_if | apply pus_app | apply pus_dput | apply pus_asg | apply pus_par | apply pus_for | apply pus_raise | apply pus_callX | apply pus_callV | apply pus_try | apply pus_spoil | apply pu_bits | (intro c_ d_)))
theorem pu_tab__law_heard_board_lines_how_many_board_lines : ∀ x F, tab__law_heard_board_lines_how_many_board_lines x = some F → PuF F := fun x F h => by
  unfold tab__law_heard_board_lines_how_many_board_lines at h
  split at h
  · cases h; exact pu_F_board_lines
  split at h
  · cases h; exact pu_F_how_many_board_lines
  cases h
theorem pu_tab__law_heard_cell_counts_lines_at : ∀ x F, tab__law_heard_cell_counts_lines_at x = some F → PuF F := fun x F h => by
  unfold tab__law_heard_cell_counts_lines_at at h
  split at h
  · cases h; exact pu_F_cell_counts
  split at h
  · cases h; exact pu_F_lines_at
  cases h
theorem pu_F__law_heard : PuF F__law_heard := puf_fun (by
  unfold m__law_heard
  repeat' (first | exact pu_tab__law_heard_board_lines_how_many_board_lines | exact pu_tab__law_heard_cell_counts_lines_at | exact pu_var | exact pu_c | exact pu_nil | exact pu_on | exact pu_pnil | exact pus_skip | exact pus_stuck | exact (fun d => pus_gDrop d) | exact (fun d => pus_gRet d) | exact (fun d => pus_gPut d) | exact (fun _ _ _ => rfl) | apply pu_cons | apply pu_lst | apply pu_tup | apply pu_b | apply pu_isB | apply pu_not | apply pu_and | apply pu_or | apply pu_if | apply pu_op | apply pu_cmp | apply pu_os | apply pu_rev | apply pu_neg | apply pu_atom | apply pu_flat | apply pu_is | apply pu_isT | apply pu_sl | apply pu_fn | apply pu_pcons | apply pu_disp | apply puf_call | apply puf_callA | apply pu_dfl | apply pu_perm | apply pu_seqI | apply pu_rng1 | apply pu_zip | apply pu_lc | apply pus_seq | apply pus_set | apply pus_drop | apply pus_ret | apply pus_if | apply pus_app | apply pus_dput | apply pus_asg | apply pus_par | apply pus_for | apply pus_raise | apply pus_callX | apply pus_callV | apply pus_try | apply pus_spoil | apply pu_bits | (intro c_ d_)))
theorem pu_F__law_refused_right : PuF F__law_refused_right := puf_fun (by
  unfold m__law_refused_right
  repeat' (first | exact (pu_F__law_exact _) | exact pu_F__law_heard | exact pu_var | exact pu_c | exact pu_nil | exact pu_on | exact pu_pnil | exact pus_skip | exact pus_stuck | exact (fun d => pus_gDrop d) | exact (fun d => pus_gRet d) | exact (fun d => pus_gPut d) | exact (fun _ _ _ => rfl) | apply pu_cons | apply pu_lst | apply pu_tup | apply pu_b | apply pu_isB | apply pu_not | apply pu_and | apply pu_or | apply pu_if | apply pu_op | apply pu_cmp | apply pu_os | apply pu_rev | apply pu_neg | apply pu_atom | apply pu_flat | apply pu_is | apply pu_isT | apply pu_sl | apply pu_fn | apply pu_pcons | apply pu_disp | apply puf_call | apply puf_callA | apply pu_dfl | apply pu_perm | apply pu_seqI | apply pu_rng1 | apply pu_zip | apply pu_lc | apply pus_seq | apply pus_set | apply pus_drop | apply pus_ret | apply pus_if | apply pus_app | apply pus_dput | apply pus_asg | apply pus_par | apply pus_for | apply pus_raise | apply pus_callX | apply pus_callV | apply pus_try | apply pus_spoil | apply pu_bits | (intro c_ d_)))
end K80

set_option Elab.async false
set_option linter.all false
set_option maxRecDepth 100000
namespace K80
open PySem PySem.Spec PyProof.Rows L2 DL

/-! ### ints that are not too great -/
theorem mulI_ok {a b : Int} {n m : Nat} (ha : a.natAbs < 2 ^ n) (hb : b.natAbs < 2 ^ m) (h : n + m ≤ 134217728) : mulI (.int a) (.int b) = some (.int (a * b)) := by
  have h1 := PyProof.Rows.intBits_le ha
  have h2 := PyProof.Rows.intBits_le hb
  unfold mulI iop
  dsimp only
  rw [if_pos]
  exact decide_eq_true (by omega)
theorem addI_ok (a b : Int) : addI (.int a) (.int b) = some (.int (a + b)) := rfl
theorem subD_ok (a b : Int) : subD (.int a) (.int b) = some (.int (a - b)) := rfl
theorem modD_ok {a b : Int} (h : 0 < b) : modD (.int a) (.int b) = some (.int (a % b)) := by
  unfold modD iop
  dsimp only
  rw [if_pos (decide_eq_true h)]
theorem fdivD_ok {a b : Int} (h : 0 < b) (h2 : b.natAbs.log2 < 9000) : fdivD (.int a) (.int b) = some (.int (a / b)) := by
  unfold fdivD iop
  dsimp only
  rw [if_pos (by rw [decide_eq_true h, decide_eq_true h2]; rfl)]
/-! ### powers -/
theorem pow_small {a : Int} (ha : a.natAbs < 2 ^ 21) : ∀ k : Nat, (a ^ k).natAbs < 2 ^ (21 * k + 1)
  | 0 => by simp
  | k + 1 => by
    rw [Int.pow_succ, Int.natAbs_mul]
    have h := pow_small ha k
    have : (a ^ k).natAbs * a.natAbs < 2 ^ (21 * k + 1) * 2 ^ 21 := Nat.mul_lt_mul'' h ha
    rw [← Nat.pow_add] at this
    rw [show 21 * (k + 1) + 1 = 21 * k + 1 + 21 by omega]
    exact this
theorem power_run {a : Int} {n : Nat} (ha : a.natAbs < 2 ^ 21) (hn : n ≤ 1000) (st : Store) : F_power [.int a, .int n] st = some (.ok (.int (a ^ n)) st) := by
  refine cFun_rt rfl ?_
  show m_power [some (.int a), some (.int n), none, none] st = _
  unfold m_power
  rw [cSeq_nx (ρ' := [some (.int a), some (.int n), some (.int 1), none]) (st' := st) rfl]
  have hr : cRng1 (cCons (cVar 1) cNil) [some (.int a), some (.int n), some (.int 1), none] st = some (rangeD 0 n, st) := rng1_ok (n := n) (st' := st) rfl (by omega)
  have hfor : cFor (cRng1 (cCons (cVar 1) cNil)) (gSet 3) (cSeq (cSet 2 (cOp mulI (cVar 2) (cVar 0))) cSkip) [some (.int a), some (.int n), some (.int 1), none] st = some (.nx [some (.int a), some (.int n), some (.int (a ^ (rangeD 0 n).length)), lastI (rangeD 0 n).length] st) := by
    refine cFor_run (fun k => [some (.int a), some (.int n), some (.int (a ^ k)), lastI k]) hr (by rw [Int.pow_zero]; rfl) fun k d hd => ?_
    obtain ⟨hk, rfl⟩ := rangeD0_get hd
    refine ⟨[some (.int a), some (.int n), some (.int (a ^ k)), some (.int k)], rfl, ?_⟩
    have e : cOp mulI (cVar 2) (cVar 0) [some (.int a), some (.int n), some (.int (a ^ k)), some (.int k)] st = some (.int (a ^ k * a), st) := cOp_ok rfl rfl (mulI_ok (pow_small ha k) ha (by omega))
    rw [cSeq_nx (cSet_ok e), Int.pow_succ]
    rfl
  rw [cSeq_nx hfor, rangeD_length]
  rfl
theorem lawpower_run {a : Int} {n : Nat} (ha : a.natAbs < 2 ^ 21) (hn : n ≤ 1000) (st : Store) : F__law_power [.int a, .int n] st = some (.ok (.int (a ^ n)) st) := power_run ha hn st
theorem lift {F : Fn} (h : PuF F) {ds : List D} {d : D} (e : F ds [] = some (.ok d [])) {st : Store} (hs : flatSt st = true) : F ds st = some (.ok d st) := by rw [h ds st hs, e]; rfl

/-! ### digits -/
def quo (b n : Int) : Nat → Int
  | 0 => n
  | k + 1 => quo b n k / b
/-- the digits, the least first -/
def digR (b n : Int) : Nat → List Int
  | 0 => []
  | k + 1 => digR b n k ++ [quo b n k % b]
theorem digR_len (b n : Int) : ∀ k, (digR b n k).length = k
  | 0 => rfl
  | k + 1 => by unfold digR; rw [List.length_append, digR_len b n k]; rfl
theorem digR_map (b n : Int) (k : Nat) : intsD (digR b n (k + 1)) = .lst ((digR b n k).map D.int ++ [.int (quo b n k % b)]) := by
  show D.lst ((digR b n k ++ [quo b n k % b]).map D.int) = _
  rw [List.map_append]; rfl
theorem digR_rev (b n : Int) (k : Nat) : intsD (digR b n (k + 1)).reverse = .lst (.int (quo b n k % b) :: (digR b n k).reverse.map D.int) := by
  show D.lst ((digR b n k ++ [quo b n k % b]).reverse.map D.int) = _
  rw [List.reverse_append]; rfl
theorem counts_run {b n : Int} {w : Nat} (hb : 0 < b) (hl : b.natAbs.log2 < 9000) (hw : w ≤ 10000) (st : Store) : F_counts_there [.int b, .int w, .int n] st = some (.ok (intsD (digR b n w).reverse) st) := by
  refine cFun_rt rfl ?_
  show m_counts_there [some (.int b), some (.int w), some (.int n), none, none] st = _
  unfold m_counts_there
  rw [cSeq_nx (ρ' := [some (.int b), some (.int w), some (.int n), some (.lst []), none]) (st' := st) rfl]
  have hr : cRng1 (cCons (cVar 1) cNil) [some (.int b), some (.int w), some (.int n), some (.lst []), none] st = some (rangeD 0 w, st) := rng1_ok (n := w) (st' := st) rfl (by omega)
  have hfor := cFor_run (h := gSet 4) (g := (cSeq (cApp 3 (cOp modD (cVar 2) (cVar 0))) (cSeq (cSet 2 (cOp fdivD (cVar 2) (cVar 0))) cSkip))) (fun k => [some (.int b), some (.int w), some (.int (quo b n k)), some (intsD (digR b n k)), lastI k]) hr rfl fun k d hd => by
    obtain ⟨hk, rfl⟩ := rangeD0_get hd
    refine ⟨[some (.int b), some (.int w), some (.int (quo b n k)), some (intsD (digR b n k)), some (.int k)], rfl, ?_⟩
    have e1 : cOp modD (cVar 2) (cVar 0) [some (.int b), some (.int w), some (.int (quo b n k)), some (intsD (digR b n k)), some (.int k)] st = some (.int (quo b n k % b), st) := cOp_ok rfl rfl (modD_ok hb)
    have e2 : cApp 3 (cOp modD (cVar 2) (cVar 0)) [some (.int b), some (.int w), some (.int (quo b n k)), some (intsD (digR b n k)), some (.int k)] st = some (.nx [some (.int b), some (.int w), some (.int (quo b n k)), some (intsD (digR b n (k + 1))), some (.int k)] st) := by
      unfold cApp
      rw [e1]
      show (if ((digR b n k).map D.int).length < sizeLine then some (SR.nx [some (.int b), some (.int w), some (.int (quo b n k)), some (.lst ((digR b n k).map D.int ++ [.int (quo b n k % b)])), some (.int k)] st) else none) = _
      rw [if_pos (by rw [List.length_map, digR_len]; exact Nat.lt_of_lt_of_le (Nat.lt_of_lt_of_le hk hw) (by decide))]
      rw [digR_map]
    rw [cSeq_nx e2]
    have e3 : cOp fdivD (cVar 2) (cVar 0) [some (.int b), some (.int w), some (.int (quo b n k)), some (intsD (digR b n (k + 1))), some (.int k)] st = some (.int (quo b n (k + 1)), st) := cOp_ok rfl rfl (fdivD_ok hb hl)
    rw [cSeq_nx (cSet_ok e3)]
    rfl
  rw [cSeq_nx hfor, rangeD_length]
  show some (SR.rt (D.lst ((digR b n w).map D.int).reverse) st) = _
  rw [← List.map_reverse]
  rfl
theorem figures_run {b n : Int} {w : Nat} (hb : 0 < b) (hl : b.natAbs.log2 < 9000) (hw : w ≤ 10000) (st : Store) : F__law_figures [.int b, .int w, .int n] st = some (.ok (intsD (digR b n w).reverse) st) := by
  refine cFun_rt rfl ?_
  show m__law_figures [some (.int b), some (.int w), some (.int n), none, none] st = _
  unfold m__law_figures
  rw [cSeq_nx (ρ' := [some (.int b), some (.int w), some (.int n), some (.lst []), none]) (st' := st) rfl]
  have hr : cRng1 (cCons (cVar 1) cNil) [some (.int b), some (.int w), some (.int n), some (.lst []), none] st = some (rangeD 0 w, st) := rng1_ok (n := w) (st' := st) rfl (by omega)
  have hfor := cFor_run (h := gSet 4) (g := (cSeq (cSet 3 (cFlat (cOp addD (cLst (cCons (cOp modD (cVar 2) (cVar 0)) cNil)) (cVar 3)))) (cSeq (cSet 2 (cOp fdivD (cVar 2) (cVar 0))) cSkip))) (fun k => [some (.int b), some (.int w), some (.int (quo b n k)), some (intsD (digR b n k).reverse), lastI k]) hr rfl fun k d hd => by
    obtain ⟨hk, rfl⟩ := rangeD0_get hd
    refine ⟨[some (.int b), some (.int w), some (.int (quo b n k)), some (intsD (digR b n k).reverse), some (.int k)], rfl, ?_⟩
    have e1 : cOp modD (cVar 2) (cVar 0) [some (.int b), some (.int w), some (.int (quo b n k)), some (intsD (digR b n k).reverse), some (.int k)] st = some (.int (quo b n k % b), st) := cOp_ok rfl rfl (modD_ok hb)
    have e2 : cLst (cCons (cOp modD (cVar 2) (cVar 0)) cNil) [some (.int b), some (.int w), some (.int (quo b n k)), some (intsD (digR b n k).reverse), some (.int k)] st = some (.lst [.int (quo b n k % b)], st) := by
      unfold cLst
      rw [cCons_ok e1 (by rfl : cNil _ st = some ([], st))]
      exact if_pos (by show 1 ≤ sizeLine; decide)
    have e3 : cFlat (cOp addD (cLst (cCons (cOp modD (cVar 2) (cVar 0)) cNil)) (cVar 3)) [some (.int b), some (.int w), some (.int (quo b n k)), some (intsD (digR b n k).reverse), some (.int k)] st = some (intsD (digR b n (k + 1)).reverse, st) := by
      have a1 : addD (.lst [.int (quo b n k % b)]) (intsD (digR b n k).reverse) = some (intsD (digR b n (k + 1)).reverse) := by
        rw [digR_rev]
        unfold intsD addD
        refine (if_pos ?_).trans rfl
        rw [List.length_map, List.length_reverse, digR_len]
        have : (10001 : Nat) ≤ sizeLine := by decide
        simp only [List.length_cons, List.length_nil]
        omega
      unfold cFlat
      rw [cOp_ok e2 (by rfl : cVar 3 _ st = some (intsD (digR b n k).reverse, st)) a1]
      unfold intsD
      refine if_pos ?_
      rw [List.all_map]
      exact List.all_eq_true.mpr fun x _ => rfl
    rw [cSeq_nx (cSet_ok e3)]
    have e4 : cOp fdivD (cVar 2) (cVar 0) [some (.int b), some (.int w), some (.int (quo b n k)), some (intsD (digR b n (k + 1)).reverse), some (.int k)] st = some (.int (quo b n (k + 1)), st) := cOp_ok rfl rfl (fdivD_ok hb hl)
    exact (cSeq_nx (cSet_ok e4)).trans rfl
  rw [cSeq_nx hfor, rangeD_length]
  rfl

/-! ### lists of ints: comprehensions, sorting -/
theorem ints_len (xs : List Int) : (xs.map D.int).length = xs.length := List.length_map ..
theorem cLc_ints {own : List Nat} {fi : SemI} {h : SemG} {b : SemB} {f : SemE} {ρ : DL.Env} {st st' : Store} {xs : List Int} (p : Int → Bool) (g : Int → Int) (hf : fi ρ st = some (xs.map D.int, st')) (hl : xs.length ≤ sizeLine)
    (hs : ∀ x, x ∈ xs → ∃ ρ1, h (.int x) (wipeE ρ own) = some ρ1 ∧ b ρ1 st' = some (p x, st') ∧ (p x = true → f ρ1 st' = some (.int (g x), st'))) : cLc own fi h b f ρ st = some (intsD ((xs.filter p).map g), st') := by
  have e := cLc_run (own := own) (h := h) (b := b) (f := f) (fun d => match d with | .int x => if p x = true then some (.int (g x)) else none | _ => none) hf (fun d hd => by
    obtain ⟨x, hx, rfl⟩ := List.mem_map.mp hd
    obtain ⟨ρ1, e1, e2, e3⟩ := hs x hx
    refine ⟨ρ1, e1, ?_, fun y hy => ?_⟩
    · show b ρ1 st' = some ((if p x = true then some (D.int (g x)) else none).isSome, st')
      rw [e2]
      cases hp : p x <;> simp
    · dsimp only at hy
      split at hy
      · rename_i hp
        cases hy
        exact e3 hp
      · cases hy) (by rw [ints_len]; exact hl)
  rw [e]
  congr 2
  show D.lst _ = D.lst _
  congr 1
  clear e hs hf hl
  induction xs with
  | nil => rfl
  | cons x xs ih =>
    rw [List.map_cons, List.filterMap_cons]
    dsimp only
    cases hp : p x with
    | true =>
      rw [if_pos rfl, List.filter_cons_of_pos hp, List.map_cons, List.map_cons, ih]
    | false =>
      rw [if_neg Bool.false_ne_true, List.filter_cons_of_neg (by rw [hp]; exact Bool.false_ne_true), ih]
theorem alike_ints (a b : Int) : PySem.W.alike (.int a) (.int b) = true := rfl
theorem sortB_ints (xs : List Int) : sortB (xs.map PyData.int) = true := by
  unfold sortB alikeB
  simp only [List.all_map, Bool.and_eq_true, Bool.or_eq_true, List.all_eq_true]
  exact ⟨⟨fun x _ => List.all_eq_true.mpr fun y _ => rfl, .inr fun x _ => rfl⟩, fun x _ => rfl⟩
theorem alikeAll_ints : ∀ xs ys : List Int, PySem.W.alikeAll (xs.map PyData.int) (ys.map PyData.int) = true
  | [], _ => by unfold PySem.W.alikeAll; rfl
  | x :: xs, [] => by unfold PySem.W.alikeAll; rfl
  | x :: xs, y :: ys => by
    rw [List.map_cons, List.map_cons]
    unfold PySem.W.alikeAll
    rw [alikeAll_ints xs ys]
    rfl
theorem depthAll_ints : ∀ xs : List Int, PyData.depthAll (xs.map PyData.int) ≤ 1
  | [] => by show PyData.depthAll [] ≤ 1; decide
  | x :: xs => by
    have := depthAll_ints xs
    rw [List.map_cons]
    unfold PyData.depthAll
    have h : (PyData.int x).depth ≤ 1 := by unfold PyData.depth; decide
    omega
theorem sortB_rows (xs : List (List Int)) : sortB (xs.map fun x => PyData.list (x.map PyData.int)) = true := by
  unfold sortB alikeB
  simp only [List.all_map, Bool.and_eq_true, Bool.or_eq_true, List.all_eq_true]
  refine ⟨⟨fun x _ => List.all_eq_true.mpr fun y _ => ?_, .inr fun x _ => rfl⟩, fun x _ => decide_eq_true ?_⟩
  · show PySem.W.alike (.list (x.map .int)) (.list (y.map .int)) = true
    unfold PySem.W.alike
    exact alikeAll_ints x y
  · show (PyData.list (x.map PyData.int)).depth ≤ 50
    have := depthAll_ints x
    unfold PyData.depth
    omega
theorem sorted_ints {xs : List Int} (hl : xs.length ≤ sizeLine) : sortedD [intsD xs] = some (intsD (isort leI xs)) := by
  unfold sortedD intsD
  dsimp only
  rw [ints_pys]
  dsimp only
  rw [if_pos ⟨sortB_ints xs, by rw [ints_len]; exact hl⟩, sortL_ints]
theorem rows_pys : ∀ xs : List (List Int), D.pys (xs.map intsD) = some (xs.map fun x => PyData.list (x.map PyData.int))
  | [] => rfl
  | x :: xs => by
    rw [List.map_cons, List.map_cons]
    unfold D.pys
    have : (intsD x).py = some (.list (x.map .int)) := by
      show D.py (.lst _) = _
      unfold D.py
      rw [ints_pys]
    rw [this, rows_pys xs]
theorem sorted_rows {xs : List (List Int)} (hl : xs.length ≤ sizeLine) : sortedD [.lst (xs.map intsD)] = some (.lst ((isort leIs xs).map intsD)) := by
  unfold sortedD
  dsimp only
  rw [rows_pys]
  dsimp only
  rw [if_pos ⟨sortB_rows xs, by rw [List.length_map]; exact hl⟩, sortL_rows]
/-! ### the number of a row of digits -/
def numb (b : Int) (xs : List Int) : Int := xs.foldl (fun a d => a * b + d) 0
theorem numb_snoc (b : Int) (xs : List Int) (x : Int) : numb b (xs ++ [x]) = numb b xs * b + x := by
  unfold numb
  rw [List.foldl_append]
  rfl
theorem numb_small {b : Int} (hb : b.natAbs ≤ 8) : ∀ (k : Nat) (xs : List Int), (∀ x, x ∈ xs → x.natAbs ≤ 64) → (numb b (xs.take k)).natAbs ≤ 64 * 16 ^ k
  | 0, xs, _ => by simp [numb]
  | k + 1, xs, hx => by
    have ih := numb_small hb k xs hx
    rw [Nat.pow_succ]
    by_cases hk : k < xs.length
    · rw [List.take_succ_eq_append_getElem hk, numb_snoc]
      have h1 := Int.natAbs_add_le (numb b (xs.take k) * b) xs[k]
      rw [Int.natAbs_mul] at h1
      have h2 : (numb b (xs.take k)).natAbs * b.natAbs ≤ 64 * 16 ^ k * 8 := Nat.mul_le_mul ih hb
      have h3 := hx xs[k] (List.getElem_mem hk)
      have h4 : 0 < 16 ^ k := Nat.pow_pos (by decide)
      omega
    · rw [List.take_of_length_le (by omega)]
      rw [List.take_of_length_le (by omega)] at ih
      have h4 : 0 < 16 ^ k := Nat.pow_pos (by decide)
      omega
theorem number_run {b : Int} {xs : List Int} (hb : b.natAbs ≤ 8) (hl : xs.length ≤ 1000) (hx : ∀ x, x ∈ xs → x.natAbs ≤ 64) (st : Store) : F_number_there [.int b, intsD xs] st = some (.ok (.int (numb b xs)) st) := by
  refine cFun_rt rfl ?_
  show m_number_there [some (.int b), some (intsD xs), none, none] st = _
  unfold m_number_there
  rw [cSeq_nx (ρ' := [some (.int b), some (intsD xs), some (.int 0), none]) (st' := st) rfl]
  have hr : cSeqI (cVar 1) [some (.int b), some (intsD xs), some (.int 0), none] st = some (xs.map D.int, st) := rfl
  have hfor := cFor_run (h := gSet 3) (g := (cSeq (cSet 2 (cOp addI (cOp mulI (cVar 2) (cVar 0)) (cVar 3))) cSkip)) (fun k => [some (.int b), some (intsD xs), some (.int (numb b (xs.take k))), lastD (xs.map D.int) none k]) hr rfl fun k d hd => by
    rw [List.getElem?_map] at hd
    cases ex : xs[k]? with
    | none => rw [ex] at hd; cases hd
    | some x =>
      rw [ex] at hd
      cases hd
      refine ⟨[some (.int b), some (intsD xs), some (.int (numb b (xs.take k))), some (.int x)], rfl, ?_⟩
      obtain ⟨hk, hxe⟩ := List.getElem?_eq_some_iff.mp ex
      have hs := numb_small hb k xs hx
      have e1 : cOp mulI (cVar 2) (cVar 0) [some (.int b), some (intsD xs), some (.int (numb b (xs.take k))), some (.int x)] st = some (.int (numb b (xs.take k) * b), st) := cOp_ok rfl rfl (mulI_ok (n := 4 * k + 7) (m := 4) (by
        refine Nat.lt_of_le_of_lt hs ?_
        rw [Nat.pow_add, Nat.pow_mul]
        show 64 * 16 ^ k < 16 ^ k * 128
        have h4 : 0 < 16 ^ k := Nat.pow_pos (by decide)
        omega) (by show b.natAbs < 16; omega) (by omega))
      have e2 : cOp addI (cOp mulI (cVar 2) (cVar 0)) (cVar 3) [some (.int b), some (intsD xs), some (.int (numb b (xs.take k))), some (.int x)] st = some (.int (numb b (xs.take (k + 1))), st) := by
        rw [List.take_succ_eq_append_getElem hk, numb_snoc, hxe]
        exact cOp_ok e1 rfl rfl
      rw [cSeq_nx (cSet_ok e2)]
      show some (SR.nx [some (.int b), some (intsD xs), some (.int (numb b (xs.take (k + 1)))), some (.int x)] st) = some (SR.nx [some (.int b), some (intsD xs), some (.int (numb b (xs.take (k + 1)))), (xs.map D.int)[k]?] st)
      rw [List.getElem?_map, ex]
      rfl
  rw [cSeq_nx hfor, ints_len, List.take_of_length_le (Nat.le_refl _)]
  rfl
theorem lawnumber_run {b : Int} {xs : List Int} (hb : b.natAbs ≤ 8) (hl : xs.length ≤ 1000) (hx : ∀ x, x ∈ xs → x.natAbs ≤ 64) (st : Store) : F__law_number [.int b, intsD xs] st = some (.ok (.int (numb b xs)) st) := number_run hb hl hx st
end K80

set_option Elab.async false
set_option linter.all false
set_option maxRecDepth 100000
namespace K80
open PySem PySem.Spec PyProof.Rows L2 DL
/-! ### a line, the lines -/
def pick (s step c : Int) : Int := if c < s then c else if c = s then step else s - 1 - step
def lineR (s : Int) (told : List Int) (n : Nat) : List Int := (List.range n).map fun k : Nat => numb s (told.map (pick s k))
def lineP (s : Nat) (told : List Int) : List Int := isort leI (lineR s told s)
theorem lineR_succ (s : Int) (told : List Int) (n : Nat) : lineR s told (n + 1) = lineR s told n ++ [numb s (told.map (pick s n))] := by
  unfold lineR
  rw [List.range_succ, List.map_append]; rfl
theorem lineR_len (s : Int) (told : List Int) (n : Nat) : (lineR s told n).length = n := by unfold lineR; simp
theorem intsD_snoc (xs : List Int) (x : Int) : intsD (xs ++ [x]) = .lst (xs.map D.int ++ [.int x]) := by
  show D.lst ((xs ++ [x]).map D.int) = _
  rw [List.map_append]; rfl
theorem eq_ints (a b : Int) : eqD (.int a) (.int b) = some (decide (a = b)) := by
  have e0 : eqD0 (.int a) (.int b) = some (decide (a = b)) := by
    unfold eqD0
    refine (if_pos ?_).trans rfl
    show min (PyData.depth (.int a)) (PyData.depth (.int b)) ≤ 60
    unfold PyData.depth; decide
  unfold eqD
  rw [e0]
def lastRow (s : Int) (told : List Int) : Nat → Option D
  | 0 => none
  | k + 1 => some (intsD (told.map (pick s k)))
theorem line_by_run {s : Nat} {told : List Int} (hs : s ≤ 8) (hl : told.length ≤ 1000) (ht : ∀ c, c ∈ told → c.natAbs ≤ 16) : F_line_by [.int s, intsD told] [] = some (.ok (intsD (lineP s told)) []) := by
  refine cFun_rt rfl ?_
  show m_line_by [some (.int s), some (intsD told), none, none, none, none] [] = _
  unfold m_line_by
  rw [cSeq_nx (ρ' := [some (.int s), some (intsD told), some (intsD []), none, none, none]) (st' := []) rfl]
  have hr : cRng1 (cCons (cVar 0) cNil) [some (.int s), some (intsD told), some (intsD []), none, none, none] [] = some (rangeD 0 s, []) := rng1_ok (n := s) (st' := []) rfl (by omega)
  have hfor := cFor_run (h := gSet 3) (g := (cSeq (cSet 4 (cLc [5] (cSeqI (cVar 1)) (gSet 5) cYes (cIf (cCmp ltD (cVar 5) (cVar 0)) (cVar 5) (cIf (cCmp eqD (cVar 5) (cVar 0)) (cVar 3) (cOp subD (cOp subD (cVar 0) (cC (.int 1))) (cVar 3)))))) (cSeq (cApp 2 (cCall F_number_there (cCons (cVar 0) (cCons (cVar 4) cNil)))) cSkip)))
    (fun k => [some (.int s), some (intsD told), some (intsD (lineR s told k)), lastI k, lastRow s told k, none]) hr rfl fun k d hd => by
      obtain ⟨hk, rfl⟩ := rangeD0_get hd
      refine ⟨[some (.int s), some (intsD told), some (intsD (lineR s told k)), some (.int k), lastRow s told k, none], rfl, ?_⟩
      generalize lastRow s told k = o4
      have e1 : cLc [5] (cSeqI (cVar 1)) (gSet 5) cYes (cIf (cCmp ltD (cVar 5) (cVar 0)) (cVar 5) (cIf (cCmp eqD (cVar 5) (cVar 0)) (cVar 3) (cOp subD (cOp subD (cVar 0) (cC (.int 1))) (cVar 3)))) [some (.int s), some (intsD told), some (intsD (lineR s told k)), some (.int k), o4, none] [] = some (intsD (told.map (pick s k)), []) := by
        refine (cLc_ints (xs := told) (fun _ => true) (pick s k) rfl (Nat.le_trans hl (by decide)) fun x hx => ⟨[some (.int s), some (intsD told), some (intsD (lineR s told k)), some (.int k), o4, some (.int x)], rfl, rfl, fun _ => ?_⟩).trans (by rw [List.filter_eq_self.mpr fun _ _ => rfl])
        unfold pick
        by_cases h1 : x < s
        · rw [if_pos h1, cIf_t (st' := []) (by show some (decide (x < (s : Int)), ([] : Store)) = _; rw [decide_eq_true h1])]; rfl
        · rw [if_neg h1, cIf_f (st' := []) (by show some (decide (x < (s : Int)), ([] : Store)) = _; rw [decide_eq_false h1])]
          by_cases h2 : x = s
          · rw [if_pos h2, cIf_t (st' := []) (cCmp_ok rfl rfl (by rw [eq_ints, decide_eq_true h2]))]; rfl
          · rw [if_neg h2, cIf_f (st' := []) (cCmp_ok rfl rfl (by rw [eq_ints, decide_eq_false h2]))]; rfl
      rw [cSeq_nx (cSet_ok e1)]
      have hb : ∀ x, x ∈ told.map (pick s k) → x.natAbs ≤ 64 := fun x hx => by
        obtain ⟨c, hc, rfl⟩ := List.mem_map.mp hx
        have := ht c hc
        unfold pick
        split
        · omega
        · split
          · omega
          · omega
      have e2 : cCall F_number_there (cCons (cVar 0) (cCons (cVar 4) cNil)) [some (.int s), some (intsD told), some (intsD (lineR s told k)), some (.int k), some (intsD (told.map (pick s k))), none] [] = some (.int (numb s (told.map (pick s k))), []) :=
        cCall_ok rfl (number_run (by omega) (by rw [List.length_map]; exact hl) hb []) rfl
      have e3 : cApp 2 (cCall F_number_there (cCons (cVar 0) (cCons (cVar 4) cNil))) [some (.int s), some (intsD told), some (intsD (lineR s told k)), some (.int k), some (intsD (told.map (pick s k))), none] [] = some (.nx [some (.int s), some (intsD told), some (intsD (lineR s told (k + 1))), some (.int k), some (intsD (told.map (pick s k))), none] []) := by
        unfold cApp
        rw [e2]
        refine (if_pos ?_).trans ?_
        · rw [ints_len, lineR_len]; exact Nat.lt_of_lt_of_le (show k < 9 by omega) (by decide)
        · rw [lineR_succ, intsD_snoc]; rfl
      exact (cSeq_nx e3).trans rfl
  rw [cSeq_nx hfor, rangeD_length]
  have e4 : cFn sortedD (cCons (cVar 2) cNil) [some (.int s), some (intsD told), some (intsD (lineR s told s)), lastI s, lastRow s told s, none] [] = some (intsD (lineP s told), []) :=
    cFn_ok (ds := [intsD (lineR s told s)]) (s1 := []) rfl (sorted_ints (by rw [lineR_len]; exact Nat.le_trans hs (by decide)))
  exact cSeq_rt (cRet_ok e4)
end K80

set_option Elab.async false
set_option linter.all false
set_option maxRecDepth 100000
namespace K80
open PySem PySem.Spec PyProof.Rows L2 DL
theorem cApp_ok {i : Nat} {f : SemE} {ρ : DL.Env} {st st' : Store} {d : D} {xs : List D} (h : f ρ st = some (d, st')) (hi : ρ[i]? = some (some (.lst xs))) (hl : xs.length < sizeLine) : cApp i f ρ st = some (.nx (ρ.set i (some (.lst (xs ++ [d])))) st') := by
  unfold cApp
  rw [h]
  dsimp only
  rw [hi]
  dsimp only
  rw [if_pos hl]
theorem py_ints (xs : List Int) : (intsD xs).py = some (.list (xs.map .int)) := by
  show D.py (.lst _) = _
  unfold D.py
  rw [ints_pys]
theorem ne_nil (xs : List Int) : neD (intsD xs) (.lst []) = some (!xs.isEmpty) := by
  have e0 : eqD0 (intsD xs) (.lst []) = some xs.isEmpty := by
    unfold eqD0
    rw [py_ints]
    show (if min (PyData.depth (.list (xs.map .int))) (PyData.depth (.list [])) ≤ 60 then some (PyData.eqv (.list (xs.map .int)) (.list [])) else none) = _
    rw [if_pos (by
      have := depthAll_ints xs
      unfold PyData.depth
      omega)]
    cases xs with
    | nil => rfl
    | cons x xs => rfl
  unfold neD
  rw [e0]
def toldOf (s w : Nat) (m : Int) : List Int := (digR (s + 2 : Nat) m w).reverse
def movesOf (s : Nat) (told : List Int) : List Int := told.filter fun c => decide ((s : Int) ≤ c)
def lineAt (s w : Nat) (m : Int) : Option (List Int) := match movesOf s (toldOf s w m) with
  | x :: _ => if x = s then some (lineP s (toldOf s w m)) else none
  | [] => none
def linesR (s w n : Nat) : List (List Int) := (List.range n).filterMap fun k : Nat => lineAt s w k
theorem linesR_succ (s w n : Nat) : linesR s w (n + 1) = linesR s w n ++ (match lineAt s w n with | some l => [l] | none => []) := by
  unfold linesR
  rw [List.range_succ, List.filterMap_append]
  congr 1
  rw [List.filterMap_cons]
  cases lineAt s w n <;> rfl
theorem linesR_len (s w n : Nat) : (linesR s w n).length ≤ n := by
  unfold linesR
  exact Nat.le_trans (List.length_filterMap_le ..) (by rw [List.length_range]; exact Nat.le_refl _)
def lastTold (s w : Nat) : Nat → Option D
  | 0 => none
  | k + 1 => some (intsD (toldOf s w k))
def lastMoves (s w : Nat) : Nat → Option D
  | 0 => none
  | k + 1 => some (intsD (movesOf s (toldOf s w k)))
theorem digR_mem {b n : Int} (hb : 0 < b) : ∀ (w : Nat) (c : Int), c ∈ digR b n w → 0 ≤ c ∧ c < b
  | 0, c, h => by cases h
  | w + 1, c, h => by
    unfold digR at h
    rcases List.mem_append.mp h with h | h
    · exact digR_mem hb w c h
    · rw [List.mem_singleton.mp h]
      exact ⟨Int.emod_nonneg _ (by omega), Int.emod_lt_of_pos _ hb⟩
def linesP (s w : Nat) : List (List Int) := isort leIs (linesR s w ((s + 2) ^ w))
def stepG : SemS := (cSeq (cSet 4 (cCallA F_counts_there (cCons (cOp addI (cVar 0) (cC (.int 2))) (cCons (cVar 1) (cCons (cVar 3) cNil))))) (cSeq (cSet 5 (cLc [6] (cSeqI (cVar 4)) (gSet 6) (cCmp geD (cVar 6) (cVar 0)) (cVar 6))) (cSeq (cIfS (cAnd (cCmp neD (cVar 5) (cLst cNil)) (cCmp eqD (cOp ixD (cVar 5) (cC (.int 0))) (cVar 0))) (cSeq (cApp 2 (cCall F_line_by (cCons (cVar 0) (cCons (cVar 4) cNil)))) cSkip) cSkip) cSkip)))
theorem lines_step {s w : Nat} (hs : s ≤ 8) (hw : w ≤ 100) (k : Nat) (hk : k < 100000) (o4 o5 : Option D) : stepG [some (.int s), some (.int w), some (.lst ((linesR s w k).map intsD)), some (.int k), o4, o5, none] [] =
    some (.nx [some (.int s), some (.int w), some (.lst ((linesR s w (k + 1)).map intsD)), some (.int k), some (intsD (toldOf s w k)), some (intsD (movesOf s (toldOf s w k))), none] []) := by
  unfold stepG
  have e1 : cCallA F_counts_there (cCons (cOp addI (cVar 0) (cC (.int 2))) (cCons (cVar 1) (cCons (cVar 3) cNil))) [some (.int s), some (.int w), some (.lst ((linesR s w k).map intsD)), some (.int k), o4, o5, none] [] = some (intsD (toldOf s w k), []) := by
    refine cCallA_ok (ds := [.int (s + 2), .int w, .int k]) (s1 := []) rfl rfl rfl ?_ rfl
    exact counts_run (b := (s : Int) + 2) (n := k) (w := w) (by omega) (by
      have : ((s : Int) + 2).natAbs = s + 2 := by omega
      rw [this]
      exact Nat.lt_of_le_of_lt (Nat.log2_le_self _) (by omega)) (by omega) []
  rw [cSeq_nx (cSet_ok e1)]
  have ht : ∀ c, c ∈ toldOf s w k → 0 ≤ c ∧ c < (s : Int) + 2 := fun c hc => by
    have := digR_mem (b := ((s + 2 : Nat) : Int)) (n := k) (by omega) w c (List.mem_reverse.mp hc)
    exact ⟨this.1, by have := this.2; omega⟩
  have htl : (toldOf s w k).length = w := by unfold toldOf; rw [List.length_reverse, digR_len]
  have e2 : cLc [6] (cSeqI (cVar 4)) (gSet 6) (cCmp geD (cVar 6) (cVar 0)) (cVar 6) [some (.int s), some (.int w), some (.lst ((linesR s w k).map intsD)), some (.int k), some (intsD (toldOf s w k)), o5, none] [] = some (intsD (movesOf s (toldOf s w k)), []) := by
    refine (cLc_ints (xs := toldOf s w k) (fun c => decide ((s : Int) ≤ c)) (fun c => c) rfl (by rw [htl]; exact Nat.le_trans hw (by decide)) fun x hx => ⟨[some (.int s), some (.int w), some (.lst ((linesR s w k).map intsD)), some (.int k), some (intsD (toldOf s w k)), o5, some (.int x)], rfl, rfl, fun _ => rfl⟩).trans ?_
    rw [List.map_id']
    rfl
  refine (cSeq_nx (cSet_ok e2)).trans ?_
  show cSeq _ _ [some (.int s), some (.int w), some (.lst ((linesR s w k).map intsD)), some (.int k), some (intsD (toldOf s w k)), some (intsD (movesOf s (toldOf s w k))), none] [] = _
  have c1 : cCmp neD (cVar 5) (cLst cNil) [some (.int s), some (.int w), some (.lst ((linesR s w k).map intsD)), some (.int k), some (intsD (toldOf s w k)), some (intsD (movesOf s (toldOf s w k))), none] [] = some (!(movesOf s (toldOf s w k)).isEmpty, []) := cCmp_ok (y := .lst []) rfl rfl (ne_nil _)
  have fin : ∀ l, lineAt s w k = l → cIfS (cAnd (cCmp neD (cVar 5) (cLst cNil)) (cCmp eqD (cOp ixD (cVar 5) (cC (.int 0))) (cVar 0))) (cSeq (cApp 2 (cCall F_line_by (cCons (cVar 0) (cCons (cVar 4) cNil)))) cSkip) cSkip [some (.int s), some (.int w), some (.lst ((linesR s w k).map intsD)), some (.int k), some (intsD (toldOf s w k)), some (intsD (movesOf s (toldOf s w k))), none] [] =
      some (.nx [some (.int s), some (.int w), some (.lst ((linesR s w k ++ (match l with | some l => [l] | none => [])).map intsD)), some (.int k), some (intsD (toldOf s w k)), some (intsD (movesOf s (toldOf s w k))), none] []) := fun l hl => by
    unfold lineAt at hl
    cases em : movesOf s (toldOf s w k) with
    | nil =>
      rw [em] at hl c1
      cases hl
      rw [cIfS_f (st' := []) (by unfold cAnd; rw [c1]; rfl)]
      dsimp only
      rw [List.append_nil]
      rfl
    | cons x r =>
      rw [em] at hl c1
      dsimp only at hl
      have c2 : cCmp eqD (cOp ixD (cVar 5) (cC (.int 0))) (cVar 0) [some (.int s), some (.int w), some (.lst ((linesR s w k).map intsD)), some (.int k), some (intsD (toldOf s w k)), some (intsD (x :: r)), none] [] = some (decide (x = (s : Int)), []) := by
        have i0 : cOp ixD (cVar 5) (cC (.int 0)) [some (.int s), some (.int w), some (.lst ((linesR s w k).map intsD)), some (.int k), some (intsD (toldOf s w k)), some (intsD (x :: r)), none] [] = some (.int x, []) := cOp_ok (x := intsD (x :: r)) (y := .int 0) rfl rfl (by
          show atI ((x :: r).map D.int) 0 = _
          exact atI_nat (j := 0) rfl)
        exact cCmp_ok i0 rfl (eq_ints _ _)
      by_cases hx : x = (s : Int)
      · rw [if_pos hx] at hl
        cases hl
        rw [cIfS_t (st' := []) (by unfold cAnd; rw [c1]; show cCmp eqD _ _ _ [] = _; rw [c2, decide_eq_true hx])]
        have e3 : cCall F_line_by (cCons (cVar 0) (cCons (cVar 4) cNil)) [some (.int s), some (.int w), some (.lst ((linesR s w k).map intsD)), some (.int k), some (intsD (toldOf s w k)), some (intsD (x :: r)), none] [] = some (intsD (lineP s (toldOf s w k)), []) :=
          cCall_ok rfl (line_by_run hs (by rw [htl]; omega) fun c hc => by have := ht c hc; omega) rfl
        have e4 : cApp 2 (cCall F_line_by (cCons (cVar 0) (cCons (cVar 4) cNil))) [some (.int s), some (.int w), some (.lst ((linesR s w k).map intsD)), some (.int k), some (intsD (toldOf s w k)), some (intsD (x :: r)), none] [] = some (.nx [some (.int s), some (.int w), some (.lst ((linesR s w k ++ [lineP s (toldOf s w k)]).map intsD)), some (.int k), some (intsD (toldOf s w k)), some (intsD (x :: r)), none] []) := by
          have hlen : ((linesR s w k).map intsD).length < sizeLine := by
            rw [List.length_map, sizeLine_eq]
            have := linesR_len s w k
            omega
          have ea : (linesR s w k ++ [lineP s (toldOf s w k)]).map intsD = (linesR s w k).map intsD ++ [intsD (lineP s (toldOf s w k))] := by rw [List.map_append, List.map_cons, List.map_nil]
          rw [ea]
          exact cApp_ok e3 rfl hlen
        exact (cSeq_nx e4).trans rfl
      · rw [if_neg hx] at hl
        cases hl
        rw [cIfS_f (st' := []) (by unfold cAnd; rw [c1]; show cCmp eqD _ _ _ [] = _; rw [c2, decide_eq_false hx])]
        dsimp only
        rw [List.append_nil]
        rfl
  rw [cSeq_nx (fin _ rfl), ← linesR_succ]
  rfl
theorem lines_there_run {s w : Nat} (hs : s ≤ 8) (hw : w ≤ 100) (hp : (s + 2) ^ w ≤ 100000) : F_lines_there [.int s, .int w] [] = some (.ok (.lst ((linesP s w).map intsD)) []) := by
  refine cFun_rt rfl ?_
  show m_lines_there [some (.int s), some (.int w), none, none, none, none, none] [] = _
  unfold m_lines_there
  rw [cSeq_nx (ρ' := [some (.int s), some (.int w), some (.lst []), none, none, none, none]) (st' := []) rfl]
  have hpow : cCallA F_power (cCons (cOp addI (cVar 0) (cC (.int 2))) (cCons (cVar 1) cNil)) [some (.int s), some (.int w), some (.lst []), none, none, none, none] [] = some (.int ((s + 2) ^ w : Nat), []) := by
    refine cCallA_ok (ds := [.int (s + 2), .int w]) (s1 := []) rfl rfl rfl ?_ rfl
    have hn : ((s : Int) + 2).natAbs = s + 2 := by omega
    have hsm : ((s : Int) + 2).natAbs < 2 ^ 21 := by rw [hn]; exact Nat.lt_of_le_of_lt (show s + 2 ≤ 10 by omega) (by decide)
    rw [power_run (a := (s : Int) + 2) (n := w) hsm (by omega), Int.natCast_pow]
    rfl
  have hr : cRng1 (cCons (cCallA F_power (cCons (cOp addI (cVar 0) (cC (.int 2))) (cCons (cVar 1) cNil))) cNil) [some (.int s), some (.int w), some (.lst []), none, none, none, none] [] = some (rangeD 0 ((s + 2) ^ w), []) := rng1_ok (n := (s + 2) ^ w) (st' := []) (cCons_ok hpow rfl) (by omega)
  have hfor := cFor_run (h := gSet 3) (g := stepG)
    (fun k => [some (.int s), some (.int w), some (.lst ((linesR s w k).map intsD)), lastI k, lastTold s w k, lastMoves s w k, none]) hr rfl fun k d hd => by
      obtain ⟨hk, rfl⟩ := rangeD0_get hd
      refine ⟨[some (.int s), some (.int w), some (.lst ((linesR s w k).map intsD)), some (.int k), lastTold s w k, lastMoves s w k, none], rfl, ?_⟩
      exact lines_step hs hw k (by omega) _ _
  refine (cSeq_nx hfor).trans ?_
  rw [rangeD_length]
  have e4 : cFn sortedD (cCons (cVar 2) cNil) [some (.int s), some (.int w), some (.lst ((linesR s w ((s + 2) ^ w)).map intsD)), lastI ((s + 2) ^ w), lastTold s w ((s + 2) ^ w), lastMoves s w ((s + 2) ^ w), none] [] = some (.lst ((linesP s w).map intsD), []) :=
    cFn_ok (ds := [.lst ((linesR s w ((s + 2) ^ w)).map intsD)]) (s1 := []) rfl (sorted_rows (Nat.le_trans (linesR_len s w _) (by rw [sizeLine_eq]; omega)))
  exact cSeq_rt (cRet_ok e4)
end K80

set_option Elab.async false
set_option linter.all false
set_option maxRecDepth 100000
namespace K80
open PySem PySem.Spec PyProof.Rows L2 DL
/-! ### _law_exact on equal data -/
theorem cB_ok {f : SemB} {ρ : DL.Env} {st st' : Store} {b : Bool} (h : f ρ st = some (b, st')) : cB f ρ st = some (.bl b, st') := by unfold cB; rw [h]
theorem cAnd_t {f g : SemB} {ρ : DL.Env} {st st' : Store} (h : f ρ st = some (true, st')) : cAnd f g ρ st = g ρ st' := by unfold cAnd; rw [h]
theorem cAnd_f {f g : SemB} {ρ : DL.Env} {st st' : Store} (h : f ρ st = some (false, st')) : cAnd f g ρ st = some (false, st') := by unfold cAnd; rw [h]
theorem exact_int (n : Nat) (i : Int) : F__law_exact (n + 1) [.int i, .int i] [] = some (.ok (.bl true) []) := by
  refine cFun_rt rfl ?_
  show m__law_exact (F__law_exact n) [some (.int i), some (.int i), none, none, none, none] [] = _
  unfold m__law_exact
  rw [cSeq_nx (ρ' := [some (.int i), some (.int i), none, none, none, none]) (st' := []) rfl]
  rw [cSeq_nx (ρ' := [some (.int i), some (.int i), none, none, none, none]) (st' := []) rfl]
  rw [cSeq_nx (ρ' := [some (.int i), some (.int i), none, some (.bl true), none, none]) (st' := []) rfl]
  have c : cCmp eqD (cVar 0) (cVar 1) [some (.int i), some (.int i), none, some (.bl true), none, none] [] = some (true, []) := cCmp_ok rfl rfl (by rw [eq_ints, decide_eq_true rfl])
  refine cSeq_rt (cRet_ok (cB_ok ?_))
  rw [cAnd_t (st' := []) rfl, cAnd_t (st' := []) rfl]
  exact c
/-- data that _law_exact takes apart within n steps -/
def nice : Nat → D → Prop
  | n + 1, .int _ => True
  | n + 1, .lst ds => ds.length ≤ 1000000 ∧ ∀ d, d ∈ ds → nice n d
  | _, _ => False
theorem bls_true : ∀ n : Nat, D.bls (List.replicate n (.bl true)) = some (List.replicate n true)
  | 0 => rfl
  | n + 1 => by
    rw [List.replicate_succ, List.replicate_succ]
    unfold D.bls
    rw [bls_true n]
theorem zipD_self_mem : ∀ {ds : List D} {d : D}, d ∈ zipD ds ds → ∃ x, x ∈ ds ∧ d = .tup [x, x]
  | [], d, h => by cases h
  | x :: ds, d, h => by
    have h' : d ∈ (.tup [x, x] : D) :: zipD ds ds := h
    rcases List.mem_cons.mp h' with rfl | h'
    · exact ⟨x, List.mem_cons_self .., rfl⟩
    · obtain ⟨y, hy, e⟩ := zipD_self_mem h'
      exact ⟨y, List.mem_cons_of_mem _ hy, e⟩
theorem zipD_self_len : ∀ ds : List D, (zipD ds ds).length = ds.length
  | [] => rfl
  | x :: ds => congrArg (· + 1) (zipD_self_len ds)
theorem exact_refl : ∀ (n : Nat) (d : D), nice n d → F__law_exact n [d, d] [] = some (.ok (.bl true) [])
  | 0, d, h => by cases d <;> exact h.elim
  | n + 1, d, h => by
    cases d <;> first
      | exact h.elim
      | exact exact_int n _
      | skip
    rename_i ds
    obtain ⟨hl, hd⟩ := h
    refine cFun_rt rfl ?_
    show m__law_exact (F__law_exact n) [some (.lst ds), some (.lst ds), none, none, none, none] [] = _
    unfold m__law_exact
    refine cSeq_rt ?_
    refine (cIfS_t (st' := []) rfl).trans ?_
    rw [cSeq_nx (ρ' := [some (.lst ds), some (.lst ds), some (.bl true), none, none, none]) (st' := []) rfl]
    rw [cSeq_nx (ρ' := [some (.lst ds), some (.lst ds), some (.bl true), some (.bl true), none, none]) (st' := []) rfl]
    refine cSeq_rt (cRet_ok (cB_ok ?_))
    rw [cAnd_t (st' := []) rfl]
    have c1 : cCmp eqD (cFn lenD (cCons (cVar 0) cNil)) (cFn lenD (cCons (cVar 1) cNil)) [some (.lst ds), some (.lst ds), some (.bl true), some (.bl true), none, none] [] = some (true, []) := cCmp_ok (x := .int ds.length) (y := .int ds.length) rfl rfl (by rw [eq_ints, decide_eq_true rfl])
    rw [cAnd_t c1]
    have c2 : cLc [4, 5] (cZip (cCons (cVar 0) (cCons (cVar 1) cNil))) (gSeq 2 (gsCons (gSet 4) (gsCons (gSet 5) gsNil))) cYes (cCall (F__law_exact n) (cCons (cVar 4) (cCons (cVar 5) cNil))) [some (.lst ds), some (.lst ds), some (.bl true), some (.bl true), none, none] [] = some (.lst (List.replicate ds.length (.bl true)), []) := by
      refine (cLc_run (fun _ => some (.bl true)) (ds := zipD ds ds) (st' := []) rfl (fun d hd' => ?_) (by rw [zipD_self_len, sizeLine_eq]; omega)).trans ?_
      · obtain ⟨x, hx, rfl⟩ := zipD_self_mem hd'
        refine ⟨[some (.lst ds), some (.lst ds), some (.bl true), some (.bl true), some x, some x], rfl, rfl, fun y hy => ?_⟩
        cases hy
        exact cCall_ok (ds := [x, x]) (s1 := []) rfl (exact_refl n x (hd x hx)) rfl
      · rw [filterMap_some, List.map_const', zipD_self_len]
    have c3 : cFn allD (cCons (cLc [4, 5] (cZip (cCons (cVar 0) (cCons (cVar 1) cNil))) (gSeq 2 (gsCons (gSet 4) (gsCons (gSet 5) gsNil))) cYes (cCall (F__law_exact n) (cCons (cVar 4) (cCons (cVar 5) cNil)))) cNil) [some (.lst ds), some (.lst ds), some (.bl true), some (.bl true), none, none] [] = some (.bl true, []) := by
      refine cFn_ok (cCons_ok c2 rfl) ?_
      unfold allD
      dsimp only
      rw [bls_true]
      simp
    unfold cIsB
    rw [c3]
end K80

set_option Elab.async false
set_option linter.all false
set_option maxRecDepth 100000
set_option maxHeartbeats 0
namespace K80
open PySem PySem.Spec PyProof.Rows L2 DL
/-! ### the law's own lines -/
def stepsL : Nat → List (List Int)
  | 0 => [[]]
  | w + 1 => (stepsL w).flatMap fun row => [row ++ [-1], row ++ [0], row ++ [1]]
def steps' (w : Nat) : List (List Int) := (stepsL w).filter fun r => decide (r ≠ List.replicate w 0)
theorem steps_1 : F__law_steps [.int 1] [] = some (.ok (.lst ((steps' 1).map intsD)) []) := by kernel_rfl
theorem steps_2 : F__law_steps [.int 2] [] = some (.ok (.lst ((steps' 2).map intsD)) []) := by kernel_rfl
theorem steps_3 : F__law_steps [.int 3] [] = some (.ok (.lst ((steps' 3).map intsD)) []) := by kernel_rfl
theorem steps_4 : F__law_steps [.int 4] [] = some (.ok (.lst ((steps' 4).map intsD)) []) := by kernel_rfl
/-- a key that is new is added behind -/
def addKey (acc : List (List Int)) (k : List Int) : List (List Int) := if (acc.any fun x => decide (x = k)) = true then acc else acc ++ [k]
def entL (k : List Int) : List Key × D := (k.map Sum.inl, .bl true)
theorem inl_inj : ∀ {a b : List Int}, (a.map Sum.inl : List Key) = b.map Sum.inl → a = b
  | [], [], _ => rfl
  | [], _ :: _, h => by cases h
  | _ :: _, [], h => by cases h
  | x :: a, y :: b, h => by
    rw [List.map_cons, List.map_cons] at h
    injection h with h1 h2
    injection h1 with h1
    rw [h1, inl_inj h2]
theorem put_ents (acc : List (List Int)) (k : List Int) : putD (acc.map entL) (k.map Sum.inl) (.bl true) = (addKey acc k).map entL := by
  unfold putD addKey
  have e : ((acc.map entL).any fun kv => decide (kv.1 = (k.map Sum.inl : List Key))) = acc.any fun x => decide (x = k) := by
    rw [List.any_map]
    congr 1
    funext x
    show decide ((x.map Sum.inl : List Key) = k.map Sum.inl) = decide (x = k)
    by_cases h : x = k
    · rw [decide_eq_true h, decide_eq_true (by rw [h])]
    · rw [decide_eq_false h, decide_eq_false fun z => h (inl_inj z)]
  rw [e]
  by_cases h : (acc.any fun x => decide (x = k)) = true
  · rw [if_pos h, if_pos h, List.map_map]
    refine List.map_congr_left fun x _ => ?_
    show (if (x.map Sum.inl : List Key) = k.map Sum.inl then ((x.map Sum.inl : List Key), D.bl true) else entL x) = entL x
    split <;> rfl
  · rw [if_neg h, if_neg h, List.map_append]
    rfl
end K80

set_option Elab.async false
set_option linter.all false
set_option maxRecDepth 100000
namespace K80
open PySem PySem.Spec PyProof.Rows L2 DL
def firstL (s t : Int) : Int := if t = 1 then 0 else s - 1
def okAt (s : Int) (p : Int × Int) : Bool := decide (p.2 = 0) || decide (p.1 = firstL s p.2)
def pairD (p : Int × Int) : D := .tup [.int p.1, .int p.2]
theorem zipD_ints : ∀ (xs ys : List Int), zipD (xs.map D.int) (ys.map D.int) = (xs.zip ys).map pairD
  | [], _ => by cases ‹List Int› <;> rfl
  | _ :: _, [] => rfl
  | x :: xs, y :: ys => by
    show (.tup [.int x, .int y] : D) :: zipD (xs.map D.int) (ys.map D.int) = _
    rw [zipD_ints xs ys]
    rfl
theorem ne_ints (a b : Int) : neD (.int a) (.int b) = some (!decide (a = b)) := by
  have e0 : eqD0 (.int a) (.int b) = some (decide (a = b)) := by
    unfold eqD0
    refine (if_pos ?_).trans rfl
    show min (PyData.depth (.int a)) (PyData.depth (.int b)) ≤ 60
    unfold PyData.depth; decide
  unfold neD
  rw [e0]
/-- pairs of ints walked: test and item -/
theorem cLc_pairs {own : List Nat} {fi : SemI} {h : SemG} {b : SemB} {f : SemE} {ρ : DL.Env} {st st' : Store} {xs : List (Int × Int)} (p : Int × Int → Bool) (g : Int × Int → Int) (hf : fi ρ st = some (xs.map pairD, st')) (hl : xs.length ≤ sizeLine)
    (hs : ∀ x, x ∈ xs → ∃ ρ1, h (pairD x) (wipeE ρ own) = some ρ1 ∧ b ρ1 st' = some (p x, st') ∧ (p x = true → f ρ1 st' = some (.int (g x), st'))) : cLc own fi h b f ρ st = some (intsD ((xs.filter p).map g), st') := by
  have e := cLc_run (own := own) (h := h) (b := b) (f := f) (fun d => match d with | .tup [.int x, .int y] => if p (x, y) = true then some (.int (g (x, y))) else none | _ => none) hf (fun d hd => by
    obtain ⟨x, hx, rfl⟩ := List.mem_map.mp hd
    obtain ⟨ρ1, e1, e2, e3⟩ := hs x hx
    refine ⟨ρ1, e1, ?_, fun y hy => ?_⟩
    · show b ρ1 st' = some ((if p x = true then some (D.int (g x)) else none).isSome, st')
      rw [e2]
      cases hp : p x <;> simp
    · have hy : (if p x = true then some (D.int (g x)) else none) = some y := hy
      split at hy
      · rename_i hp
        cases hy
        exact e3 hp
      · cases hy) (by rw [List.length_map]; exact hl)
  rw [e]
  congr 2
  show D.lst _ = D.lst _
  congr 1
  clear e hs hf hl
  induction xs with
  | nil => rfl
  | cons x xs ih =>
    rw [List.map_cons, List.filterMap_cons]
    obtain ⟨a, b⟩ := x
    dsimp only [pairD]
    cases hp : p (a, b) with
    | true =>
      rw [if_pos rfl, List.filter_cons_of_pos hp, List.map_cons, List.map_cons, ih]
    | false =>
      rw [if_neg Bool.false_ne_true, List.filter_cons_of_neg (by rw [hp]; exact Bool.false_ne_true), ih]
end K80

set_option Elab.async false
set_option linter.all false
set_option maxRecDepth 100000
namespace K80
open PySem PySem.Spec PyProof.Rows L2 DL
def firstsD (s : Int) : D := .dK [(.inl 1, .int 0), (.inl (-1), .int (s - 1))]
def badL (s : Int) (counts steps : List Int) : List Int := ((counts.zip steps).filter fun p => !okAt s p).map fun _ => 1
theorem firsts_get {s t : Int} (ht : t = 1 ∨ t = -1) : gDix (firstsD s) (.int t) = some (.int (firstL s t)) := by
  rcases ht with rfl | rfl <;> rfl
theorem cond_run {s w : Nat} {counts steps : List Int} {fnd cel o7 o8 o9 o10 : Option D} (hl : counts.length ≤ 1000) (ht : ∀ t, t ∈ steps → t = 0 ∨ t = 1 ∨ t = -1) :
    cLc [7, 8] (cZip (cCons (cVar 4) (cCons (cVar 5) cNil))) (gSeq 2 (gsCons (gSet 7) (gsCons (gSet 8) gsNil))) (cAnd (cCmp neD (cVar 8) (cC (.int 0))) (cCmp neD (cVar 7) (cOp gDix (cVar 6) (cVar 8)))) (cC (.int 1)) [some (.int s), some (.int w), fnd, cel, some (intsD counts), some (intsD steps), some (firstsD s), o7, o8, o9, o10] [] =
      some (intsD (badL s counts steps), []) := by
  have hz : cZip (cCons (cVar 4) (cCons (cVar 5) cNil)) [some (.int s), some (.int w), fnd, cel, some (intsD counts), some (intsD steps), some (firstsD s), o7, o8, o9, o10] [] = some ((counts.zip steps).map pairD, []) := by
    rw [← zipD_ints]; rfl
  refine cLc_pairs (fun p => !okAt s p) (fun _ => 1) hz (by rw [List.length_zip, sizeLine_eq]; omega) fun p hp => ?_
  obtain ⟨c, t⟩ := p
  have htm := ht t (List.of_mem_zip hp).2
  refine ⟨[some (.int s), some (.int w), fnd, cel, some (intsD counts), some (intsD steps), some (firstsD s), some (.int c), some (.int t), o9, o10], rfl, ?_, fun _ => rfl⟩
  have c1 : cCmp neD (cVar 8) (cC (.int 0)) [some (.int s), some (.int w), fnd, cel, some (intsD counts), some (intsD steps), some (firstsD s), some (.int c), some (.int t), o9, o10] [] = some (!decide (t = 0), []) := cCmp_ok rfl rfl (ne_ints _ _)
  unfold okAt
  by_cases h0 : t = 0
  · rw [cAnd_f (by rw [c1, decide_eq_true h0]; rfl), decide_eq_true h0]; rfl
  · have c2 : cOp gDix (cVar 6) (cVar 8) [some (.int s), some (.int w), fnd, cel, some (intsD counts), some (intsD steps), some (firstsD s), some (.int c), some (.int t), o9, o10] [] = some (.int (firstL s t), []) := cOp_ok rfl rfl (firsts_get (htm.resolve_left h0))
    rw [cAnd_t (st' := []) (by rw [c1, decide_eq_false h0]; rfl), cCmp_ok (x := .int c) rfl c2 (ne_ints _ _), decide_eq_false h0]
    rfl
def rowL (s : Int) (counts steps : List Int) (far : Int) : List Int := (counts.zip steps).map fun p => p.1 + far * p.2
theorem far_run {s w : Nat} {counts steps : List Int} {far : Nat} {fnd cel fs o7 o8 o9 : Option D} (hl : counts.length ≤ 1000) (hf : far ≤ 8) (ht : ∀ t, t ∈ steps → t = 0 ∨ t = 1 ∨ t = -1) :
    cLc [7, 8] (cZip (cCons (cVar 4) (cCons (cVar 5) cNil))) (gSeq 2 (gsCons (gSet 7) (gsCons (gSet 8) gsNil))) cYes (cOp addI (cVar 7) (cOp mulI (cVar 10) (cVar 8))) [some (.int s), some (.int w), fnd, cel, some (intsD counts), some (intsD steps), fs, o7, o8, o9, some (.int far)] [] =
      some (intsD (rowL s counts steps far), []) := by
  have hz : cZip (cCons (cVar 4) (cCons (cVar 5) cNil)) [some (.int s), some (.int w), fnd, cel, some (intsD counts), some (intsD steps), fs, o7, o8, o9, some (.int far)] [] = some ((counts.zip steps).map pairD, []) := by
    rw [← zipD_ints]; rfl
  refine (cLc_pairs (fun _ => true) (fun p => p.1 + (far : Int) * p.2) hz (by rw [List.length_zip, sizeLine_eq]; omega) fun p hp => ?_).trans (by rw [List.filter_eq_self.mpr fun _ _ => rfl]; rfl)
  obtain ⟨c, t⟩ := p
  have htm := ht t (List.of_mem_zip hp).2
  refine ⟨[some (.int s), some (.int w), fnd, cel, some (intsD counts), some (intsD steps), fs, some (.int c), some (.int t), o9, some (.int far)], rfl, rfl, fun _ => ?_⟩
  have e1 : cOp mulI (cVar 10) (cVar 8) [some (.int s), some (.int w), fnd, cel, some (intsD counts), some (intsD steps), fs, some (.int c), some (.int t), o9, some (.int far)] [] = some (.int (far * t), []) := cOp_ok rfl rfl (mulI_ok (n := 4) (m := 1) (by show (far : Int).natAbs < 16; omega) (by show t.natAbs < 2; omega) (by decide))
  exact cOp_ok rfl e1 rfl
end K80

set_option Elab.async false
set_option linter.all false
set_option maxRecDepth 100000
namespace K80
open PySem PySem.Spec PyProof.Rows L2 DL
theorem forD_inv {h : SemG} {g : SemS} {st : Store} : ∀ (ds : List D) (J : Nat → DL.Env → Prop) (_ : ∀ k d ρ, ds[k]? = some d → J k ρ → ∃ ρ1 ρ2, h d ρ = some ρ1 ∧ g ρ1 st = some (.nx ρ2 st) ∧ J (k + 1) ρ2) (ρ : DL.Env) (_ : J 0 ρ), ∃ ρ', forD h g ds ρ st = some (.nx ρ' st) ∧ J ds.length ρ'
  | [], J, _, ρ, h0 => ⟨ρ, rfl, h0⟩
  | d :: ds, J, hs, ρ, h0 => by
    obtain ⟨ρ1, ρ2, e1, e2, j⟩ := hs 0 d ρ rfl h0
    obtain ⟨ρ', e3, j'⟩ := forD_inv ds (fun k => J (k + 1)) (fun k d' ρ hd hj => hs (k + 1) d' ρ (by simpa using hd) hj) ρ2 j
    refine ⟨ρ', ?_, j'⟩
    unfold forD
    rw [e1]
    dsimp only
    rw [e2]
    exact e3
theorem cFor_inv {f : SemI} {h : SemG} {g : SemS} {ρ : DL.Env} {st st' : Store} {ds : List D} (J : Nat → DL.Env → Prop) (hf : f ρ st = some (ds, st')) (h0 : J 0 ρ) (hs : ∀ k d ρ, ds[k]? = some d → J k ρ → ∃ ρ1 ρ2, h d ρ = some ρ1 ∧ g ρ1 st' = some (.nx ρ2 st') ∧ J (k + 1) ρ2) :
    ∃ ρ', cFor f h g ρ st = some (.nx ρ' st') ∧ J ds.length ρ' := by
  unfold cFor
  rw [hf]
  exact forD_inv ds J hs ρ h0
def rowsN (s : Int) (counts steps : List Int) (n : Nat) : List Int := (List.range n).map fun far : Nat => numb s (rowL s counts steps far)
theorem rowsN_succ (s : Int) (counts steps : List Int) (n : Nat) : rowsN s counts steps (n + 1) = rowsN s counts steps n ++ [numb s (rowL s counts steps n)] := by
  unfold rowsN
  rw [List.range_succ, List.map_append]; rfl
theorem rowsN_len (s : Int) (counts steps : List Int) (n : Nat) : (rowsN s counts steps n).length = n := by unfold rowsN; simp
def farG : SemS := (cSeq (cApp 9 (cCall F__law_number (cCons (cVar 0) (cCons (cLc [7, 8] (cZip (cCons (cVar 4) (cCons (cVar 5) cNil))) (gSeq 2 (gsCons (gSet 7) (gsCons (gSet 8) gsNil))) cYes (cOp addI (cVar 7) (cOp mulI (cVar 10) (cVar 8)))) cNil)))) cSkip)
theorem fars_run {s w : Nat} {counts steps : List Int} {fnd cel fs o7 o8 o10 : Option D} (hs : s ≤ 8) (hl : counts.length ≤ 1000) (hc : ∀ c, c ∈ counts → c.natAbs ≤ 16) (ht : ∀ t, t ∈ steps → t = 0 ∨ t = 1 ∨ t = -1) :
    ∃ o, cFor (cRng1 (cCons (cVar 0) cNil)) (gSet 10) farG [some (.int s), some (.int w), fnd, cel, some (intsD counts), some (intsD steps), fs, o7, o8, some (intsD []), o10] [] = some (.nx [some (.int s), some (.int w), fnd, cel, some (intsD counts), some (intsD steps), fs, o7, o8, some (intsD (rowsN s counts steps s)), o] []) := by
  have hr : cRng1 (cCons (cVar 0) cNil) [some (.int s), some (.int w), fnd, cel, some (intsD counts), some (intsD steps), fs, o7, o8, some (intsD []), o10] [] = some (rangeD 0 s, []) := rng1_ok (n := s) (st' := []) rfl (by omega)
  obtain ⟨ρ', e, o, rfl⟩ := cFor_inv (h := gSet 10) (g := farG) (fun k ρ => ∃ o, ρ = [some (.int s), some (.int w), fnd, cel, some (intsD counts), some (intsD steps), fs, o7, o8, some (intsD (rowsN s counts steps k)), o]) hr ⟨o10, rfl⟩ (by
    rintro k d ρ hd ⟨o, rfl⟩
    obtain ⟨hk, rfl⟩ := rangeD0_get hd
    refine ⟨[some (.int s), some (.int w), fnd, cel, some (intsD counts), some (intsD steps), fs, o7, o8, some (intsD (rowsN s counts steps k)), some (.int k)], [some (.int s), some (.int w), fnd, cel, some (intsD counts), some (intsD steps), fs, o7, o8, some (intsD (rowsN s counts steps (k + 1))), some (.int k)], rfl, ?_, some (.int k), rfl⟩
    have hb : ∀ x, x ∈ rowL s counts steps k → x.natAbs ≤ 64 := fun x hx => by
      obtain ⟨p, hp, rfl⟩ := List.mem_map.mp hx
      obtain ⟨c, t⟩ := p
      obtain ⟨h1, h2⟩ := List.of_mem_zip hp
      have := hc c h1
      rcases ht t h2 with rfl | rfl | rfl <;> dsimp only <;> omega
    have hll : (rowL s counts steps k).length ≤ 1000 := by
      unfold rowL
      rw [List.length_map, List.length_zip]
      omega
    have e1 := far_run (s := s) (w := w) (counts := counts) (steps := steps) (far := k) (fnd := fnd) (cel := cel) (fs := fs) (o7 := o7) (o8 := o8) (o9 := some (intsD (rowsN s counts steps k))) hl (by omega) ht
    have e2 := cCall_ok (F := F__law_number) (f := cCons (cVar 0) (cCons (cLc [7, 8] (cZip (cCons (cVar 4) (cCons (cVar 5) cNil))) (gSeq 2 (gsCons (gSet 7) (gsCons (gSet 8) gsNil))) cYes (cOp addI (cVar 7) (cOp mulI (cVar 10) (cVar 8)))) cNil)) (ρ := [some (.int s), some (.int w), fnd, cel, some (intsD counts), some (intsD steps), fs, o7, o8, some (intsD (rowsN s counts steps k)), some (.int k)]) (st := []) (cCons_ok (by rfl : cVar 0 _ [] = some (.int s, [])) (cCons_ok e1 rfl)) (lawnumber_run (by omega) hll hb []) rfl
    unfold farG
    refine (cSeq_nx (cApp_ok (xs := (rowsN s counts steps k).map D.int) e2 rfl (by rw [ints_len, rowsN_len, sizeLine_eq]; omega))).trans ?_
    rw [rowsN_succ, intsD_snoc]
    rfl)
  rw [rangeD_length] at e
  exact ⟨o, e⟩
end K80

set_option Elab.async false
set_option linter.all false
set_option maxRecDepth 100000
namespace K80
open PySem PySem.Spec PyProof.Rows L2 DL
theorem keys_ints : ∀ xs : List Int, D.keys (xs.map D.int) = some (xs.map Sum.inl)
  | [] => rfl
  | x :: xs => by
    rw [List.map_cons, List.map_cons]
    unfold D.keys
    rw [keys_ints xs]
    rfl
theorem put_row {acc : List (List Int)} {xs : List Int} (h : acc.length < sizeLine) : putDict (.dT (acc.map entL)) (.tup (xs.map D.int)) (.bl true) = some (.dT ((addKey acc xs).map entL)) := by
  unfold putDict
  dsimp only
  rw [keys_ints]
  dsimp only
  rw [if_pos (by rw [List.length_map]; exact h), put_ents]
theorem eq_nil (xs : List Int) : eqD (intsD xs) (.lst []) = some xs.isEmpty := by
  have h := ne_nil xs
  unfold neD at h
  unfold eqD
  split at h
  · rename_i b e
    have hb : (!b) = !xs.isEmpty := Option.some.inj h
    show some b = _
    congr 1
    cases b <;> cases h2 : xs.isEmpty <;> simp_all
  · cases h
def nextKeys (s : Nat) (counts : List Int) (acc : List (List Int)) (steps : List Int) : List (List Int) := if (badL s counts steps).isEmpty = true then addKey acc (isort leI (rowsN s counts steps s)) else acc
theorem addKey_len (acc : List (List Int)) (k : List Int) : (addKey acc k).length ≤ acc.length + 1 := by
  unfold addKey
  split
  · omega
  · rw [List.length_append]; exact Nat.le_refl _
def stepsG : SemS := (cSeq (cSet 6 (cDisp (cPcons (cC (.int 1)) (cC (.int 0)) (cPcons (cNeg (cC (.int 1))) (cOp subD (cVar 0) (cC (.int 1))) cPnil)))) (cSeq (cIfS (cCmp eqD (cLc [7, 8] (cZip (cCons (cVar 4) (cCons (cVar 5) cNil))) (gSeq 2 (gsCons (gSet 7) (gsCons (gSet 8) gsNil))) (cAnd (cCmp neD (cVar 8) (cC (.int 0))) (cCmp neD (cVar 7) (cOp gDix (cVar 6) (cVar 8)))) (cC (.int 1))) (cLst cNil)) (cSeq (cSet 9 (cLst cNil)) (cSeq (cFor (cRng1 (cCons (cVar 0) cNil)) (gSet 10) farG) (cSeq (cDput 2 (cFn tupleD (cCons (cFn sortedD (cCons (cVar 9) cNil)) cNil)) (cC (.bl true))) cSkip))) cSkip) cSkip))
theorem steps_turn {s w : Nat} {counts steps : List Int} {acc : List (List Int)} {cel o6 o7 o8 o9 o10 : Option D} (hs : s ≤ 8) (hl : counts.length ≤ 1000) (hc : ∀ c, c ∈ counts → c.natAbs ≤ 16) (ht : ∀ t, t ∈ steps → t = 0 ∨ t = 1 ∨ t = -1) (ha : acc.length < sizeLine) :
    ∃ p9 p10, stepsG [some (.int s), some (.int w), some (.dT (acc.map entL)), cel, some (intsD counts), some (intsD steps), o6, o7, o8, o9, o10] [] = some (.nx [some (.int s), some (.int w), some (.dT ((nextKeys s counts acc steps).map entL)), cel, some (intsD counts), some (intsD steps), some (firstsD s), o7, o8, p9, p10] []) := by
  unfold stepsG nextKeys
  have e6 : cSet 6 (cDisp (cPcons (cC (.int 1)) (cC (.int 0)) (cPcons (cNeg (cC (.int 1))) (cOp subD (cVar 0) (cC (.int 1))) cPnil))) [some (.int s), some (.int w), some (.dT (acc.map entL)), cel, some (intsD counts), some (intsD steps), o6, o7, o8, o9, o10] [] = some (.nx [some (.int s), some (.int w), some (.dT (acc.map entL)), cel, some (intsD counts), some (intsD steps), some (firstsD s), o7, o8, o9, o10] []) := rfl
  rw [cSeq_nx e6]
  have c1 : cCmp eqD (cLc [7, 8] (cZip (cCons (cVar 4) (cCons (cVar 5) cNil))) (gSeq 2 (gsCons (gSet 7) (gsCons (gSet 8) gsNil))) (cAnd (cCmp neD (cVar 8) (cC (.int 0))) (cCmp neD (cVar 7) (cOp gDix (cVar 6) (cVar 8)))) (cC (.int 1))) (cLst cNil) [some (.int s), some (.int w), some (.dT (acc.map entL)), cel, some (intsD counts), some (intsD steps), some (firstsD s), o7, o8, o9, o10] [] = some ((badL s counts steps).isEmpty, []) :=
    cCmp_ok (y := .lst []) (cond_run hl ht) rfl (eq_nil _)
  cases hb : (badL s counts steps).isEmpty with
  | false =>
    rw [hb] at c1
    rw [if_neg Bool.false_ne_true]
    refine ⟨o9, o10, ?_⟩
    refine (cSeq_nx (ρ' := [some (.int s), some (.int w), some (.dT (acc.map entL)), cel, some (intsD counts), some (intsD steps), some (firstsD s), o7, o8, o9, o10]) (st' := []) ?_).trans rfl
    rw [cIfS_f c1]; rfl
  | true =>
    rw [hb] at c1
    rw [if_pos rfl]
    obtain ⟨o, ef⟩ := fars_run (s := s) (w := w) (counts := counts) (steps := steps) (fnd := some (.dT (acc.map entL))) (cel := cel) (fs := some (firstsD s)) (o7 := o7) (o8 := o8) (o10 := o10) hs hl hc ht
    refine ⟨some (intsD (rowsN s counts steps s)), o, ?_⟩
    refine (cSeq_nx (ρ' := [some (.int s), some (.int w), some (.dT ((addKey acc (isort leI (rowsN s counts steps s))).map entL)), cel, some (intsD counts), some (intsD steps), some (firstsD s), o7, o8, some (intsD (rowsN s counts steps s)), o]) (st' := []) ?_).trans rfl
    rw [cIfS_t c1]
    rw [cSeq_nx (ρ' := [some (.int s), some (.int w), some (.dT (acc.map entL)), cel, some (intsD counts), some (intsD steps), some (firstsD s), o7, o8, some (intsD []), o10]) (st' := []) rfl]
    rw [cSeq_nx ef]
    have k1 : cFn tupleD (cCons (cFn sortedD (cCons (cVar 9) cNil)) cNil) [some (.int s), some (.int w), some (.dT (acc.map entL)), cel, some (intsD counts), some (intsD steps), some (firstsD s), o7, o8, some (intsD (rowsN s counts steps s)), o] [] = some (.tup ((isort leI (rowsN s counts steps s)).map D.int), []) := by
      refine cFn_ok (cCons_ok (cFn_ok (ds := [intsD (rowsN s counts steps s)]) (s1 := []) rfl (sorted_ints (by rw [rowsN_len, sizeLine_eq]; omega))) rfl) ?_
      rfl
    have k2 : cDput 2 (cFn tupleD (cCons (cFn sortedD (cCons (cVar 9) cNil)) cNil)) (cC (.bl true)) [some (.int s), some (.int w), some (.dT (acc.map entL)), cel, some (intsD counts), some (intsD steps), some (firstsD s), o7, o8, some (intsD (rowsN s counts steps s)), o] [] = some (.nx [some (.int s), some (.int w), some (.dT ((addKey acc (isort leI (rowsN s counts steps s))).map entL)), cel, some (intsD counts), some (intsD steps), some (firstsD s), o7, o8, some (intsD (rowsN s counts steps s)), o] []) := by
      unfold cDput
      dsimp only [cC]
      rw [k1]
      dsimp only [List.getElem?_cons_succ, List.getElem?_cons_zero]
      rw [put_row ha]
      rfl
    rw [cSeq_nx k2]
    rfl
end K80

set_option Elab.async false
set_option linter.all false
set_option maxRecDepth 100000
set_option maxHeartbeats 0
namespace K80
open PySem PySem.Spec PyProof.Rows L2 DL
def accI (s : Nat) (counts : List Int) (acc : List (List Int)) (l : List (List Int)) : List (List Int) := l.foldl (nextKeys s counts) acc
theorem nextKeys_len (s : Nat) (counts : List Int) (acc : List (List Int)) (t : List Int) : (nextKeys s counts acc t).length ≤ acc.length + 1 := by
  unfold nextKeys
  split
  · exact addKey_len _ _
  · omega
theorem accI_len (s : Nat) (counts : List Int) : ∀ (l : List (List Int)) (acc : List (List Int)), (accI s counts acc l).length ≤ acc.length + l.length
  | [], acc => by unfold accI; exact Nat.le_refl _
  | t :: l, acc => by
    have h1 := accI_len s counts l (nextKeys s counts acc t)
    have h2 := nextKeys_len s counts acc t
    show (accI s counts (nextKeys s counts acc t) l).length ≤ _
    rw [List.length_cons]
    omega
theorem accI_snoc (s : Nat) (counts : List Int) (acc : List (List Int)) (l : List (List Int)) (k : Nat) (t : List Int) (h : l[k]? = some t) : accI s counts acc (l.take (k + 1)) = nextKeys s counts (accI s counts acc (l.take k)) t := by
  unfold accI
  rw [List.take_add_one, h, List.foldl_append]; rfl
theorem cSeqI_ok {f : SemE} {ρ : DL.Env} {st s1 : Store} {ds : List D} (h : f ρ st = some (.lst ds, s1)) : cSeqI f ρ st = some (ds, s1) := by
  unfold cSeqI
  rw [h]
theorem stepsI_run {s w : Nat} {counts : List Int} {acc : List (List Int)} {ss : List (List Int)} {cel o5 o6 o7 o8 o9 o10 : Option D} (hs : s ≤ 8) (hl : counts.length ≤ 1000) (hc : ∀ c, c ∈ counts → c.natAbs ≤ 16) (hF : F__law_steps [.int w] [] = some (.ok (.lst (ss.map intsD)) [])) (ht : ∀ r, r ∈ ss → ∀ t, t ∈ r → t = 0 ∨ t = 1 ∨ t = -1) (ha : acc.length + ss.length < 1000000) :
    ∃ p5 p6 p7 p8 p9 p10, cFor (cSeqI (cCallA F__law_steps (cCons (cVar 1) cNil))) (gSet 5) stepsG [some (.int s), some (.int w), some (.dT (acc.map entL)), cel, some (intsD counts), o5, o6, o7, o8, o9, o10] [] = some (.nx [some (.int s), some (.int w), some (.dT ((accI s counts acc ss).map entL)), cel, some (intsD counts), p5, p6, p7, p8, p9, p10] []) := by
  have hr : cSeqI (cCallA F__law_steps (cCons (cVar 1) cNil)) [some (.int s), some (.int w), some (.dT (acc.map entL)), cel, some (intsD counts), o5, o6, o7, o8, o9, o10] [] = some (ss.map intsD, []) := by
    generalize F__law_steps = F at hF ⊢
    exact cSeqI_ok (cCallA_ok (F := F) (ds := [.int w]) (s1 := []) (s2 := []) rfl rfl rfl hF rfl)
  obtain ⟨ρ', e, p5, p6, p7, p8, p9, p10, rfl⟩ := cFor_inv (h := gSet 5) (g := stepsG) (fun k ρ => ∃ p5 p6 p7 p8 p9 p10, ρ = [some (.int s), some (.int w), some (.dT ((accI s counts acc (ss.take k)).map entL)), cel, some (intsD counts), p5, p6, p7, p8, p9, p10]) hr ⟨o5, o6, o7, o8, o9, o10, rfl⟩ (by
    clear hr hF
    rintro k d ρ hd ⟨p5, p6, p7, p8, p9, p10, rfl⟩
    rw [List.getElem?_map] at hd
    obtain ⟨t, ht', rfl⟩ := Option.map_eq_some_iff.mp hd
    have hlt : (accI s counts acc (ss.take k)).length < sizeLine := by
      have h1 := accI_len s counts (ss.take k) acc
      have h2 : (ss.take k).length ≤ ss.length := by rw [List.length_take]; exact Nat.min_le_right _ _
      rw [sizeLine_eq]; omega
    obtain ⟨q9, q10, e⟩ := steps_turn (s := s) (w := w) (counts := counts) (steps := t) (acc := accI s counts acc (ss.take k)) (cel := cel) (o6 := p6) (o7 := p7) (o8 := p8) (o9 := p9) (o10 := p10) hs hl hc (ht t (List.mem_of_getElem? ht')) hlt
    refine ⟨[some (.int s), some (.int w), some (.dT ((accI s counts acc (ss.take k)).map entL)), cel, some (intsD counts), some (intsD t), p6, p7, p8, p9, p10], _, rfl, e, ?_⟩
    rw [accI_snoc s counts acc ss k t ht']
    exact ⟨_, _, _, _, _, _, rfl⟩)
  rw [List.length_map, List.take_length] at e
  exact ⟨_, _, _, _, _, _, e⟩
end K80

set_option Elab.async false
set_option linter.all false
set_option maxRecDepth 100000
/-! DL27: meanings run by simp: what a meaning gives, as a wish. -/
namespace DL
open PySem PySem.Spec PyProof.Rows L2

def gt {α : Type} (x : Option α) (Q : α → Prop) : Prop := ∃ z, x = some z ∧ Q z
@[simp] theorem gt_some {α : Type} (z : α) (Q : α → Prop) : gt (some z) Q ↔ Q z := ⟨fun h => (by obtain ⟨_, e, q⟩ := h; cases e; exact q), fun q => ⟨z, rfl, q⟩⟩
@[simp] theorem gt_none {α : Type} (Q : α → Prop) : gt none Q ↔ False := ⟨fun ⟨_, e, _⟩ => (nomatch e), False.elim⟩
theorem gt_of {α : Type} {x : Option α} {z : α} {Q : α → Prop} (e : x = some z) (q : Q z) : gt x Q := ⟨z, e, q⟩
theorem gt_iff {α : Type} {x : Option α} {z : α} {Q : α → Prop} (e : x = some z) : gt x Q ↔ Q z := by rw [e, gt_some]
theorem gt_ite {α : Type} {c : Prop} [Decidable c] {z : α} {Q : α → Prop} : gt (if c then some z else none) Q ↔ c ∧ Q z := by
  split
  · rename_i h; rw [gt_some]; exact ⟨fun q => ⟨h, q⟩, fun q => q.2⟩
  · rename_i h; rw [gt_none]; exact ⟨False.elim, fun q => h q.1⟩
theorem gt_mono {α : Type} {x : Option α} {Q R : α → Prop} (h : gt x Q) (m : ∀ z, Q z → R z) : gt x R := by
  obtain ⟨z, e, q⟩ := h
  exact ⟨z, e, m z q⟩
/-- wE: with the store -/
abbrev wE {α : Type} (x : Option (α × Store)) (Q : α → Store → Prop) : Prop := gt x fun p => Q p.1 p.2
abbrev wS (x : Option SR) (Q : SR → Prop) : Prop := gt x Q
abbrev wF (x : Option FR) (Q : FR → Prop) : Prop := gt x Q

def nxK (h : SemS) (Q : SR → Prop) : SR → Prop
  | .nx ρ st => gt (h ρ st) Q
  | .rt d st => Q (.rt d st)
  | .ex c d st => Q (.ex c d st)
@[simp] theorem nxK_nx {h : SemS} {Q : SR → Prop} {ρ : Env} {st : Store} : nxK h Q (.nx ρ st) ↔ gt (h ρ st) Q := Iff.rfl
@[simp] theorem nxK_rt {h : SemS} {Q : SR → Prop} {d : D} {st : Store} : nxK h Q (.rt d st) ↔ Q (.rt d st) := Iff.rfl
@[simp] theorem nxK_ex {h : SemS} {Q : SR → Prop} {c : Str} {d : D} {st : Store} : nxK h Q (.ex c d st) ↔ Q (.ex c d st) := Iff.rfl
/-- the body of a def has run -/
def frK (Q : FR → Prop) : SR → Prop
  | .nx _ st => Q (.ok .non st)
  | .rt d st => Q (.ok d st)
  | .ex c d st => Q (.ex c d st)
@[simp] theorem frK_nx {Q : FR → Prop} {ρ : Env} {st : Store} : frK Q (.nx ρ st) ↔ Q (.ok .non st) := Iff.rfl
@[simp] theorem frK_rt {Q : FR → Prop} {d : D} {st : Store} : frK Q (.rt d st) ↔ Q (.ok d st) := Iff.rfl
@[simp] theorem frK_ex {Q : FR → Prop} {c : Str} {d : D} {st : Store} : frK Q (.ex c d st) ↔ Q (.ex c d st) := Iff.rfl
/-- a call as an expression has ended -/
def okK (Q : D → Store → Prop) : FR → Prop
  | .ok d st => flatSt st = true ∧ Q d st
  | .ex _ _ _ => False
@[simp] theorem okK_ok {Q : D → Store → Prop} {d : D} {st : Store} : okK Q (.ok d st) ↔ flatSt st = true ∧ Q d st := Iff.rfl
@[simp] theorem okK_ex {Q : D → Store → Prop} {c : Str} {d : D} {st : Store} : okK Q (.ex c d st) ↔ False := Iff.rfl
/-- a call that may raise -/
def xK (g : D → Env → Store → Option SR) (ρ : Env) (Q : SR → Prop) : FR → Prop
  | .ok d st => flatSt st = true ∧ gt (g d ρ st) Q
  | .ex c d st => flatSt st = true ∧ Q (.ex c d st)
@[simp] theorem xK_ok {g : D → Env → Store → Option SR} {ρ : Env} {Q : SR → Prop} {d : D} {st : Store} : xK g ρ Q (.ok d st) ↔ flatSt st = true ∧ gt (g d ρ st) Q := Iff.rfl
@[simp] theorem xK_ex {g : D → Env → Store → Option SR} {ρ : Env} {Q : SR → Prop} {c : Str} {d : D} {st : Store} : xK g ρ Q (.ex c d st) ↔ flatSt st = true ∧ Q (.ex c d st) := Iff.rfl
@[simp] theorem flat_nil : flatSt [] = true := rfl

section
variable {α : Type} {f g h : SemE} {fa : SemA} {fb gb : SemB} {gs hs : SemS} {ρ : Env} {st : Store} {i n m : Nat}
/-- matching on a meaning -/
theorem gt_bind {α β : Type} {x : Option α} {k : α → Option β} {Q : β → Prop} {y : Option β} (e : y = match x with | some z => k z | none => none) : gt y Q ↔ gt x fun z => gt (k z) Q := by
  cases x with
  | none => rw [e]; simp
  | some z => rw [e]; simp
@[simp] theorem w_var {Q : D × Store → Prop} : gt (cVar i ρ st) Q ↔ gt ρ[i]? fun o => gt o fun d => Q (d, st) := by
  unfold cVar
  cases ρ[i]? with
  | none => simp
  | some o => cases o <;> simp
@[simp] theorem w_c {d : D} {Q : D × Store → Prop} : gt (cC d ρ st) Q ↔ Q (d, st) := gt_some _ _
@[simp] theorem w_nil {Q : List D × Store → Prop} : gt (cNil ρ st) Q ↔ Q ([], st) := gt_some _ _
@[simp] theorem w_cons {Q : List D × Store → Prop} : gt (cCons f fa ρ st) Q ↔ gt (f ρ st) fun p => gt (fa ρ p.2) fun q => Q (p.1 :: q.1, q.2) := by
  unfold cCons
  cases f ρ st with
  | none => simp
  | some p =>
    obtain ⟨d, s⟩ := p
    simp only [gt_some]
    cases fa ρ s <;> simp
@[simp] theorem w_lst {Q : D × Store → Prop} : gt (cLst fa ρ st) Q ↔ gt (fa ρ st) fun p => p.1.length ≤ sizeLine ∧ Q (.lst p.1, p.2) := by
  unfold cLst
  cases fa ρ st with
  | none => simp
  | some p => simp only [gt_some, gt_ite]
@[simp] theorem w_tup {Q : D × Store → Prop} : gt (cTup fa ρ st) Q ↔ gt (fa ρ st) fun p => p.1.length ≤ sizeLine ∧ Q (.tup p.1, p.2) := by
  unfold cTup
  cases fa ρ st with
  | none => simp
  | some p => simp only [gt_some, gt_ite]
@[simp] theorem w_b {Q : D × Store → Prop} : gt (cB fb ρ st) Q ↔ gt (fb ρ st) fun p => Q (.bl p.1, p.2) := by
  unfold cB
  cases fb ρ st <;> simp
def blOf : D → Option Bool
  | .bl b => some b
  | _ => none
@[simp] theorem blOf_bl {b : Bool} : blOf (.bl b) = some b := rfl
@[simp] theorem w_isB {Q : Bool × Store → Prop} : gt (cIsB f ρ st) Q ↔ gt (f ρ st) fun p => gt (blOf p.1) fun b => Q (b, p.2) := by
  unfold cIsB
  cases f ρ st with
  | none => simp
  | some p => obtain ⟨d, s⟩ := p; cases d <;> simp [blOf]
@[simp] theorem w_not {Q : Bool × Store → Prop} : gt (cNot fb ρ st) Q ↔ gt (fb ρ st) fun p => Q (!p.1, p.2) := by
  unfold cNot
  cases fb ρ st <;> simp
@[simp] theorem w_and {Q : Bool × Store → Prop} : gt (cAnd fb gb ρ st) Q ↔ gt (fb ρ st) fun p => if p.1 = true then gt (gb ρ p.2) Q else Q (false, p.2) := by
  unfold cAnd
  cases fb ρ st with
  | none => simp
  | some p => obtain ⟨d, s⟩ := p; cases d <;> simp
@[simp] theorem w_or {Q : Bool × Store → Prop} : gt (cOr fb gb ρ st) Q ↔ gt (fb ρ st) fun p => if p.1 = true then Q (true, p.2) else gt (gb ρ p.2) Q := by
  unfold cOr
  cases fb ρ st with
  | none => simp
  | some p => obtain ⟨d, s⟩ := p; cases d <;> simp
@[simp] theorem w_if {Q : D × Store → Prop} : gt (cIf fb f g ρ st) Q ↔ gt (fb ρ st) fun p => if p.1 = true then gt (f ρ p.2) Q else gt (g ρ p.2) Q := by
  unfold cIf
  cases fb ρ st with
  | none => simp
  | some p => obtain ⟨d, s⟩ := p; cases d <;> simp
@[simp] theorem w_op {o : D → D → Option D} {Q : D × Store → Prop} : gt (cOp o f h ρ st) Q ↔ gt (f ρ st) fun p => gt (h ρ p.2) fun q => gt (o p.1 q.1) fun z => Q (z, q.2) := by
  unfold cOp
  cases f ρ st with
  | none => simp
  | some p =>
    simp only [gt_some]
    cases h ρ p.2 with
    | none => simp
    | some q =>
      simp only [gt_some]
      cases o p.1 q.1 <;> simp
@[simp] theorem w_cmp {o : D → D → Option Bool} {Q : Bool × Store → Prop} : gt (cCmp o f h ρ st) Q ↔ gt (f ρ st) fun p => gt (h ρ p.2) fun q => gt (o p.1 q.1) fun z => Q (z, q.2) := by
  unfold cCmp
  cases f ρ st with
  | none => simp
  | some p =>
    simp only [gt_some]
    cases h ρ p.2 with
    | none => simp
    | some q =>
      simp only [gt_some]
      cases o p.1 q.1 <;> simp
@[simp] theorem w_on {Q : Option Int × Store → Prop} : gt (cON ρ st) Q ↔ Q (none, st) := gt_some _ _
def inOf : D → Option Int
  | .int b => some b
  | _ => none
@[simp] theorem inOf_int {b : Int} : inOf (.int b) = some b := rfl
@[simp] theorem w_os {Q : Option Int × Store → Prop} : gt (cOS f ρ st) Q ↔ gt (f ρ st) fun p => gt (inOf p.1) fun i => Q (some i, p.2) := by
  unfold cOS
  cases f ρ st with
  | none => simp
  | some p => obtain ⟨d, s⟩ := p; cases d <;> simp [inOf]
@[simp] theorem w_sl {o : D → Option Int → Option Int → Option D} {lo hi : Env → Store → Option (Option Int × Store)} {Q : D × Store → Prop} :
    gt (cSl o f lo hi ρ st) Q ↔ gt (f ρ st) fun p => gt (lo ρ p.2) fun q => gt (hi ρ q.2) fun r => gt (o p.1 q.1 r.1) fun z => Q (z, r.2) := by
  unfold cSl
  cases f ρ st with
  | none => simp
  | some p =>
    simp only [gt_some]
    cases lo ρ p.2 with
    | none => simp
    | some q =>
      simp only [gt_some]
      cases hi ρ q.2 with
      | none => simp
      | some r =>
        simp only [gt_some]
        cases o p.1 q.1 r.1 <;> simp
@[simp] theorem w_fn {o : List D → Option D} {Q : D × Store → Prop} : gt (cFn o fa ρ st) Q ↔ gt (fa ρ st) fun p => gt (o p.1) fun z => Q (z, p.2) := by
  unfold cFn
  cases fa ρ st with
  | none => simp
  | some p =>
    simp only [gt_some]
    cases o p.1 <;> simp
def lsOf : D → Option (List D)
  | .lst b => some b
  | _ => none
@[simp] theorem lsOf_lst {b : List D} : lsOf (.lst b) = some b := rfl
@[simp] theorem w_rev {Q : D × Store → Prop} : gt (cRev f ρ st) Q ↔ gt (f ρ st) fun p => gt (lsOf p.1) fun xs => Q (.lst xs.reverse, p.2) := by
  unfold cRev
  cases f ρ st with
  | none => simp
  | some p => obtain ⟨d, s⟩ := p; cases d <;> simp [lsOf]
@[simp] theorem w_neg {Q : D × Store → Prop} : gt (cNeg f ρ st) Q ↔ gt (f ρ st) fun p => gt (inOf p.1) fun i => Q (.int (-i), p.2) := by
  unfold cNeg
  cases f ρ st with
  | none => simp
  | some p => obtain ⟨d, s⟩ := p; cases d <;> simp [inOf]
@[simp] theorem w_bits {Q : D × Store → Prop} : gt (cBits f ρ st) Q ↔ gt (f ρ st) fun p => gt (inOf p.1) fun i => Q (.int (Builtin.Int.intBits i : Nat), p.2) := by
  unfold cBits
  cases f ρ st with
  | none => simp
  | some p => obtain ⟨d, s⟩ := p; cases d <;> simp [inOf]
@[simp] theorem w_atom {Q : D × Store → Prop} : gt (cAtom f ρ st) Q ↔ gt (f ρ st) fun p => p.1.atom = true ∧ Q p := by
  unfold cAtom
  cases f ρ st with
  | none => simp
  | some p => simp only [gt_some, gt_ite]
@[simp] theorem w_flat {Q : D × Store → Prop} : gt (cFlat f ρ st) Q ↔ gt (f ρ st) fun p => gt (lsOf p.1) fun xs => xs.all D.atom = true ∧ Q (.lst xs, p.2) := by
  unfold cFlat
  cases f ρ st with
  | none => simp
  | some p => obtain ⟨d, s⟩ := p; cases d <;> simp only [lsOf, gt_some, gt_none, gt_ite]
@[simp] theorem w_is {t : BT} {Q : Bool × Store → Prop} : gt (cIs t f ρ st) Q ↔ gt (f ρ st) fun p => gt p.1.bt fun u => Q (u.sub t, p.2) := by
  unfold cIs
  cases f ρ st with
  | none => simp
  | some p => obtain ⟨d, s⟩ := p; simp only [gt_some]; cases d.bt <;> simp
@[simp] theorem w_isT {ts : List BT} {Q : Bool × Store → Prop} : gt (cIsT ts f ρ st) Q ↔ gt (f ρ st) fun p => gt p.1.bt fun u => Q (ts.any u.sub, p.2) := by
  unfold cIsT
  cases f ρ st with
  | none => simp
  | some p => obtain ⟨d, s⟩ := p; simp only [gt_some]; cases d.bt <;> simp
@[simp] theorem w_call {F : Fn} {Q : D × Store → Prop} : gt (cCall F fa ρ st) Q ↔ gt (fa ρ st) fun p => gt (F p.1 p.2) (okK fun d s => Q (d, s)) := by
  unfold cCall
  cases fa ρ st with
  | none => simp
  | some p =>
    simp only [gt_some]
    cases F p.1 p.2 with
    | none => simp
    | some r => cases r <;> simp [gt_ite]
@[simp] theorem w_callA {F : Fn} {Q : D × Store → Prop} : gt (cCallA F fa ρ st) Q ↔ gt (fa ρ st) fun p => (p.1.all D.atom = true ∧ flatSt p.2 = true) ∧ gt (F p.1 p.2) (okK fun d s => Q (d, s)) := by
  unfold cCallA
  cases fa ρ st with
  | none => simp
  | some p =>
    simp only [gt_some]
    split
    · rename_i h
      simp only [h, and_self, true_and]
      cases F p.1 p.2 with
      | none => simp
      | some r => cases r <;> simp [gt_ite]
    · rename_i h
      simp only [gt_none, h, false_and]
@[simp] theorem w_dfl {dds : List D} {Q : List D × Store → Prop} : gt (cDfl dds fa ρ st) Q ↔ gt (fa ρ st) fun p => Q (p.1 ++ dds, p.2) := by
  unfold cDfl
  cases fa ρ st <;> simp
@[simp] theorem w_perm {is : List Nat} {Q : List D × Store → Prop} : gt (cPerm m is fa ρ st) Q ↔ gt (fa ρ st) fun p => p.1.length = m ∧ Q (permL is p.1, p.2) := by
  unfold cPerm
  cases fa ρ st with
  | none => simp
  | some p => simp only [gt_some, gt_ite]
/-! iterables -/
def itOf : D → Option (List D)
  | .lst ds => some ds
  | .tup ds => some ds
  | .str z => some (z.cps.toList.map fun c => .str ⟨#[c]⟩)
  | _ => none
@[simp] theorem itOf_lst {b : List D} : itOf (.lst b) = some b := rfl
@[simp] theorem itOf_tup {b : List D} : itOf (.tup b) = some b := rfl
@[simp] theorem w_seqI {Q : List D × Store → Prop} : gt (cSeqI f ρ st) Q ↔ gt (f ρ st) fun p => gt (itOf p.1) fun ds => Q (ds, p.2) := by
  unfold cSeqI
  cases f ρ st with
  | none => simp
  | some p => obtain ⟨d, s⟩ := p; cases d <;> simp [itOf]
def rng1Of : List D → Option (List D)
  | [.int j] => if -(2 ^ 62) ≤ j ∧ j < 2 ^ 62 then some (rangeD 0 j.toNat) else none
  | _ => none
def rng2Of : List D → Option (List D)
  | [.int i, .int j] => if -(2 ^ 62) ≤ i ∧ i < 2 ^ 62 ∧ -(2 ^ 62) ≤ j ∧ j < 2 ^ 62 then some (rangeD i (j - i).toNat) else none
  | _ => none
@[simp] theorem w_rng1 {Q : List D × Store → Prop} : gt (cRng1 fa ρ st) Q ↔ gt (fa ρ st) fun p => gt (rng1Of p.1) fun ds => Q (ds, p.2) := by
  unfold cRng1
  cases fa ρ st with
  | none => simp
  | some p =>
    obtain ⟨ds, s⟩ := p
    simp only [gt_some]
    unfold rng1Of
    split
    · rename_i e; cases e; simp only [gt_ite]
    · rename_i h
      split
      · rename_i j; exact absurd rfl (h j s)
      · simp
@[simp] theorem w_rng2 {Q : List D × Store → Prop} : gt (cRng2 fa ρ st) Q ↔ gt (fa ρ st) fun p => gt (rng2Of p.1) fun ds => Q (ds, p.2) := by
  unfold cRng2
  cases fa ρ st with
  | none => simp
  | some p =>
    obtain ⟨ds, s⟩ := p
    simp only [gt_some]
    unfold rng2Of
    split
    · rename_i e; cases e; simp only [gt_ite]
    · rename_i h
      split
      · rename_i i j; exact absurd rfl (h i j s)
      · simp
@[simp] theorem rng1Of_nat {n : Nat} {Q : List D → Prop} : gt (rng1Of [.int n]) Q ↔ n < 2 ^ 62 ∧ Q (rangeD 0 n) := by
  unfold rng1Of
  rw [gt_ite]
  constructor
  · rintro ⟨a, b⟩; exact ⟨by omega, by simpa using b⟩
  · rintro ⟨a, b⟩; exact ⟨by omega, by simpa using b⟩
@[simp] theorem w_for {gh : SemG} {fi : SemI} {Q : SR → Prop} : gt (cFor fi gh gs ρ st) Q ↔ gt (fi ρ st) fun p => gt (forD gh gs p.1 ρ p.2) Q := by
  unfold cFor
  cases fi ρ st <;> simp
@[simp] theorem w_lc {own : List Nat} {gh : SemG} {fi : SemI} {Q : D × Store → Prop} : gt (cLc own fi gh fb f ρ st) Q ↔ gt (fi ρ st) fun p => gt (lcD gh fb f (wipeE ρ own) p.1 p.2 []) fun q => Q (.lst q.1, q.2) := by
  unfold cLc
  cases fi ρ st with
  | none => simp
  | some p =>
    simp only [gt_some]
    cases lcD gh fb f (wipeE ρ own) p.1 p.2 [] <;> simp
def zipOf : List D → Option (List D)
  | [.lst xs, .lst ys] => some (zipD xs ys)
  | [.tup xs, .tup ys] => some (zipD xs ys)
  | _ => none
@[simp] theorem zipOf_lst {xs ys : List D} : zipOf [.lst xs, .lst ys] = some (zipD xs ys) := rfl
@[simp] theorem w_zip {Q : List D × Store → Prop} : gt (cZip fa ρ st) Q ↔ gt (fa ρ st) fun p => gt (zipOf p.1) fun ds => Q (ds, p.2) := by
  unfold cZip
  cases fa ρ st with
  | none => simp
  | some p =>
    obtain ⟨ds, s⟩ := p
    simp only [gt_some]
    unfold zipOf
    split
    · rename_i e; cases e; simp
    · rename_i e; cases e; simp
    · rename_i h h'
      split
      · rename_i xs ys; exact absurd rfl (h xs ys s)
      · rename_i xs ys; exact absurd rfl (h' xs ys s)
      · simp
/-! statements -/
@[simp] theorem w_skip {Q : SR → Prop} : gt (cSkip ρ st) Q ↔ Q (.nx ρ st) := gt_some _ _
@[simp] theorem w_seq {Q : SR → Prop} : gt (cSeq gs hs ρ st) Q ↔ gt (gs ρ st) (nxK hs Q) := by
  unfold cSeq
  cases gs ρ st with
  | none => simp
  | some r => cases r <;> simp
@[simp] theorem w_set {Q : SR → Prop} : gt (cSet i f ρ st) Q ↔ gt (f ρ st) fun p => Q (.nx (ρ.set i (some p.1)) p.2) := by
  unfold cSet
  cases f ρ st <;> simp
@[simp] theorem w_drop {Q : SR → Prop} : gt (cDrop f ρ st) Q ↔ gt (f ρ st) fun p => Q (.nx ρ p.2) := by
  unfold cDrop
  cases f ρ st <;> simp
@[simp] theorem w_ret {Q : SR → Prop} : gt (cRet f ρ st) Q ↔ gt (f ρ st) fun p => Q (.rt p.1 p.2) := by
  unfold cRet
  cases f ρ st <;> simp
@[simp] theorem w_ifS {Q : SR → Prop} : gt (cIfS fb gs hs ρ st) Q ↔ gt (fb ρ st) fun p => if p.1 = true then gt (gs ρ p.2) Q else gt (hs ρ p.2) Q := by
  unfold cIfS
  cases fb ρ st with
  | none => simp
  | some p => obtain ⟨d, s⟩ := p; cases d <;> simp
@[simp] theorem w_app {Q : SR → Prop} : gt (cApp i f ρ st) Q ↔ gt (f ρ st) fun p => gt ρ[i]? fun o => gt o fun d => gt (lsOf d) fun xs => xs.length < sizeLine ∧ Q (.nx (ρ.set i (some (.lst (xs ++ [p.1])))) p.2) := by
  unfold cApp
  cases f ρ st with
  | none => simp
  | some p =>
    simp only [gt_some]
    cases ρ[i]? with
    | none => simp
    | some o => cases o with
      | none => simp
      | some d => cases d <;> simp [lsOf, gt_ite]
@[simp] theorem w_raise {c : Str} {Q : SR → Prop} : gt (cRaise c fa ρ st) Q ↔ gt (fa ρ st) fun p => gt (match p.1 with | [d] => some d | _ => none) fun d => Q (.ex c d p.2) := by
  unfold cRaise
  cases fa ρ st with
  | none => simp
  | some p =>
    obtain ⟨ds, s⟩ := p
    cases ds with
    | nil => simp
    | cons d ds => cases ds <;> simp
@[simp] theorem w_callX {F : Fn} {g : D → Env → Store → Option SR} {Q : SR → Prop} : gt (cCallX F fa g ρ st) Q ↔ gt (fa ρ st) fun p => gt (F p.1 p.2) (xK g ρ Q) := by
  unfold cCallX
  cases fa ρ st with
  | none => simp
  | some p =>
    simp only [gt_some]
    cases F p.1 p.2 with
    | none => simp
    | some r =>
      cases r with
      | ok d s =>
        simp only [gt_some, xK_ok]
        split
        · rename_i h; simp [h]
        · rename_i h; simp [h]
      | ex c d s => simp only [gt_some, xK_ex, gt_ite]
@[simp] theorem w_gDrop {d : D} {Q : SR → Prop} : gt (gDrop d ρ st) Q ↔ Q (.nx ρ st) := gt_some _ _
@[simp] theorem w_gRet {d : D} {Q : SR → Prop} : gt (gRet d ρ st) Q ↔ Q (.rt d st) := gt_some _ _
@[simp] theorem w_gPut {d : D} {Q : SR → Prop} : gt (gPut i d ρ st) Q ↔ Q (.nx (ρ.set i (some d)) st) := gt_some _ _
@[simp] theorem w_asg {gh : SemG} {Q : SR → Prop} : gt (cAsg gh f ρ st) Q ↔ gt (f ρ st) fun p => gt (gh p.1 ρ) fun ρ1 => Q (.nx ρ1 p.2) := by
  unfold cAsg
  cases f ρ st with
  | none => simp
  | some p =>
    simp only [gt_some]
    cases gh p.1 ρ <;> simp
@[simp] theorem w_spoil {qs : List (List Nat)} {Q : SR → Prop} : gt (cSpoil i qs n gs ρ st) Q ↔ gt ρ[i]? fun o => gt o fun d => okPaths d qs n = true ∧ gt (gs (ρ.set i none) st) Q := by
  unfold cSpoil
  cases ρ[i]? with
  | none => simp
  | some o => cases o with
    | none => simp
    | some d =>
      simp only [gt_some]
      split
      · rename_i h; simp [h]
      · rename_i h; simp [h]
/-! cells -/
def celOf : D → Option Nat
  | .cel n => some n
  | _ => none
@[simp] theorem celOf_cel {n : Nat} : celOf (.cel n) = some n := rfl
def clsOf : Cel → Option (List D)
  | .lst ds => some ds
  | _ => none
@[simp] theorem clsOf_lst {b : List D} : clsOf (.lst b) = some b := rfl
@[simp] theorem w_cnew {Q : D × Store → Prop} : gt (cCnew fa ρ st) Q ↔ gt (fa ρ st) fun p => (p.1.length ≤ sizeLine ∧ p.1.all D.atom = true) ∧ Q (.cel p.2.length, p.2 ++ [.lst p.1]) := by
  unfold cCnew
  cases fa ρ st with
  | none => simp
  | some p => simp only [gt_some, gt_ite]
@[simp] theorem w_cix {Q : D × Store → Prop} : gt (cCix f h ρ st) Q ↔ gt (f ρ st) fun p => gt (celOf p.1) fun n => gt (h ρ p.2) fun q => gt (inOf q.1) fun i => gt q.2[n]? fun c => gt (clsOf c) fun ds => gt (atI ds i) fun d => Q (d, q.2) := by
  unfold cCix
  cases f ρ st with
  | none => simp
  | some p =>
    obtain ⟨d, s⟩ := p
    cases d <;> simp only [gt_some, gt_none, celOf]
    rename_i n
    cases h ρ s with
    | none => simp
    | some q =>
      obtain ⟨e, s2⟩ := q
      cases e <;> simp only [gt_some, gt_none, inOf]
      rename_i i
      cases s2[n]? with
      | none => simp
      | some c =>
        cases c <;> simp only [gt_some, gt_none, clsOf]
        rename_i ds
        cases atI ds i <;> simp
@[simp] theorem w_cset {fo : SemE} {Q : SR → Prop} : gt (cCset fo h f ρ st) Q ↔ gt (f ρ st) fun p => gt (fo ρ p.2) fun o => gt (celOf o.1) fun n => gt (h ρ o.2) fun q => gt (inOf q.1) fun i => gt q.2[n]? fun c => gt (clsOf c) fun ds => gt (ixN ds.length i) fun j => p.1.atom = true ∧ Q (.nx ρ (q.2.set n (.lst (ds.set j p.1)))) := by
  unfold cCset
  cases f ρ st with
  | none => simp
  | some p =>
    obtain ⟨d, s⟩ := p
    simp only [gt_some]
    cases fo ρ s with
    | none => simp
    | some o =>
      obtain ⟨e, s2⟩ := o
      cases e <;> simp only [gt_some, gt_none, celOf]
      rename_i n
      cases h ρ s2 with
      | none => simp
      | some q =>
        obtain ⟨e, s3⟩ := q
        cases e <;> simp only [gt_some, gt_none, inOf]
        rename_i i
        cases s3[n]? with
        | none => simp
        | some c =>
          cases c <;> simp only [gt_some, gt_none, clsOf]
          rename_i ds
          cases ixN ds.length i with
          | none => simp
          | some j => simp only [gt_some, gt_ite]
theorem w_fun {N : Nat} {ds : List D} {Q : FR → Prop} : gt (cFun N n gs ds st) Q ↔ ds.length = n ∧ gt (gs (ds.map some ++ List.replicate (N - n) none) st) (frK Q) := by
  unfold cFun
  split
  · rename_i h
    simp only [h, true_and]
    cases gs (ds.map some ++ List.replicate (N - n) none) st with
    | none => simp
    | some r => cases r <;> simp
  · rename_i h
    simp [h]
end

/-! ### targets -/
@[simp] theorem gSet_eq {i : Nat} {d : D} {ρ : Env} : gSet i d ρ = some (ρ.set i (some d)) := rfl
@[simp] theorem gsNil_eq {ρ : Env} : gsNil [] ρ = some ρ := rfl
@[simp] theorem gsCons_set {i : Nat} {hs : List D → Env → Option Env} {d : D} {ds : List D} {ρ : Env} : gsCons (gSet i) hs (d :: ds) ρ = hs ds (ρ.set i (some d)) := rfl
@[simp] theorem gSeq_tup2 {hs : List D → Env → Option Env} {x y : D} {ρ : Env} : gSeq 2 hs (.tup [x, y]) ρ = hs [x, y] ρ := rfl
@[simp] theorem gSeq_tup3 {hs : List D → Env → Option Env} {x y z : D} {ρ : Env} : gSeq 3 hs (.tup [x, y, z]) ρ = hs [x, y, z] ρ := rfl
@[simp] theorem gSeq_lst2 {hs : List D → Env → Option Env} {x y : D} {ρ : Env} : gSeq 2 hs (.lst [x, y]) ρ = hs [x, y] ρ := rfl

/-! ### values -/
@[simp] theorem addI_int {a b : Int} : addI (.int a) (.int b) = some (.int (a + b)) := rfl
@[simp] theorem addD_int {a b : Int} : addD (.int a) (.int b) = some (.int (a + b)) := rfl
@[simp] theorem subD_int {a b : Int} : subD (.int a) (.int b) = some (.int (a - b)) := rfl
@[simp] theorem addD_lst {a b : List D} {Q : D → Prop} : gt (addD (.lst a) (.lst b)) Q ↔ a.length + b.length ≤ sizeLine ∧ Q (.lst (a ++ b)) := gt_ite
@[simp] theorem modD_int {a b : Int} {Q : D → Prop} : gt (modD (.int a) (.int b)) Q ↔ 0 < b ∧ Q (.int (a % b)) := by
  unfold modD iop
  dsimp only
  rw [gt_ite, decide_eq_true_eq]
@[simp] theorem fdivD_int {a b : Int} {Q : D → Prop} : gt (fdivD (.int a) (.int b)) Q ↔ (0 < b ∧ b.natAbs.log2 < 9000) ∧ Q (.int (a / b)) := by
  unfold fdivD iop
  dsimp only
  rw [gt_ite, Bool.and_eq_true, decide_eq_true_eq, decide_eq_true_eq]
@[simp] theorem ltD_int {a b : Int} : ltD (.int a) (.int b) = some (decide (a < b)) := rfl
@[simp] theorem leD_int {a b : Int} : leD (.int a) (.int b) = some (decide (a ≤ b)) := rfl
@[simp] theorem gtD_int {a b : Int} : gtD (.int a) (.int b) = some (decide (b < a)) := rfl
@[simp] theorem geD_int {a b : Int} : geD (.int a) (.int b) = some (decide (b ≤ a)) := rfl
@[simp] theorem eqD_int {a b : Int} : eqD (.int a) (.int b) = some (decide (a = b)) := by
  have e0 : eqD0 (.int a) (.int b) = some (decide (a = b)) := by
    unfold eqD0
    refine (if_pos ?_).trans rfl
    show min (PyData.depth (.int a)) (PyData.depth (.int b)) ≤ 60
    unfold PyData.depth; decide
  unfold eqD
  rw [e0]
@[simp] theorem neD_int {a b : Int} : neD (.int a) (.int b) = some (!decide (a = b)) := by
  have e0 : eqD0 (.int a) (.int b) = some (decide (a = b)) := by
    unfold eqD0
    refine (if_pos ?_).trans rfl
    show min (PyData.depth (.int a)) (PyData.depth (.int b)) ≤ 60
    unfold PyData.depth; decide
  unfold neD
  rw [e0]
@[simp] theorem lenD_lst {xs : List D} : lenD [.lst xs] = some (.int xs.length) := rfl
@[simp] theorem lenD_tup {xs : List D} : lenD [.tup xs] = some (.int xs.length) := rfl
@[simp] theorem lenD_fro {xs : List D} : lenD [.fro xs] = some (.int xs.length) := rfl
@[simp] theorem int1D_int {i : Int} : int1D [.int i] = some (.int i) := rfl
@[simp] theorem int1D_bl {k : Bool} : int1D [.bl k] = some (.int (if k then 1 else 0)) := rfl
@[simp] theorem max2D_int {i j : Int} : max2D [.int i, .int j] = some (.int (if j > i then j else i)) := rfl
@[simp] theorem min2D_int {i j : Int} : min2D [.int i, .int j] = some (.int (if j < i then j else i)) := rfl
@[simp] theorem ixD_lst {xs : List D} {i : Int} : ixD (.lst xs) (.int i) = atI xs i := rfl
@[simp] theorem ixD_tup {xs : List D} {i : Int} : ixD (.tup xs) (.int i) = atI xs i := rfl
@[simp] theorem listD_lst {xs : List D} : listD [.lst xs] = some (.lst xs) := rfl
@[simp] theorem listD_tup {xs : List D} : listD [.tup xs] = some (.lst xs) := rfl
@[simp] theorem tupleD_lst {xs : List D} : tupleD [.lst xs] = some (.tup xs) := rfl
@[simp] theorem bt_non : D.bt .non = some .non := rfl
@[simp] theorem bt_bl {b : Bool} : D.bt (.bl b) = some .bl := rfl
@[simp] theorem bt_int {b : Int} : D.bt (.int b) = some .int := rfl
@[simp] theorem bt_str {b : Str} : D.bt (.str b) = some .str := rfl
@[simp] theorem bt_lst {b : List D} : D.bt (.lst b) = some .lst := rfl
@[simp] theorem bt_tup {b : List D} : D.bt (.tup b) = some .tup := rfl
@[simp] theorem atom_int {b : Int} : D.atom (.int b) = true := rfl
@[simp] theorem atom_cel {b : Nat} : D.atom (.cel b) = true := rfl
@[simp] theorem atom_bl {b : Bool} : D.atom (.bl b) = true := rfl
@[simp] theorem atom_str {b : Str} : D.atom (.str b) = true := rfl
@[simp] theorem atom_non : D.atom .non = true := rfl
@[simp] theorem bt_sub_same {t : BT} : BT.sub t t = true := by cases t <;> rfl
theorem w_mul {a b : Int} (n m : Nat) (ha : a.natAbs < 2 ^ n) (hb : b.natAbs < 2 ^ m) (h : n + m ≤ 134217728) : mulI (.int a) (.int b) = some (.int (a * b)) := by
  have h1 := PyProof.Rows.intBits_le ha
  have h2 := PyProof.Rows.intBits_le hb
  unfold mulI iop
  dsimp only
  rw [if_pos]
  exact decide_eq_true (by omega)

/-! ### loops -/
/-- behind a turn: the invariant, or the end -/
def trnK (J : Env → Store → Prop) (Q : SR → Prop) : SR → Prop
  | .nx ρ st => J ρ st
  | .rt d st => Q (.rt d st)
  | .ex c d st => Q (.ex c d st)
@[simp] theorem trnK_nx {J : Env → Store → Prop} {Q : SR → Prop} {ρ : Env} {st : Store} : trnK J Q (.nx ρ st) ↔ J ρ st := Iff.rfl
@[simp] theorem trnK_rt {J : Env → Store → Prop} {Q : SR → Prop} {d : D} {st : Store} : trnK J Q (.rt d st) ↔ Q (.rt d st) := Iff.rfl
@[simp] theorem trnK_ex {J : Env → Store → Prop} {Q : SR → Prop} {c : Str} {d : D} {st : Store} : trnK J Q (.ex c d st) ↔ Q (.ex c d st) := Iff.rfl
theorem w_forD {h : SemG} {g : SemS} {Q : SR → Prop} : ∀ (ds : List D) (J : Nat → Env → Store → Prop) {ρ : Env} {st : Store} (_ : J 0 ρ st)
    (_ : ∀ k d ρ st, ds[k]? = some d → J k ρ st → ∃ ρ1, h d ρ = some ρ1 ∧ gt (g ρ1 st) (trnK (J (k + 1)) Q)) (_ : ∀ ρ st, J ds.length ρ st → Q (.nx ρ st)), gt (forD h g ds ρ st) Q
  | [], J, ρ, st, h0, _, hq => (gt_some _ _).mpr (hq _ _ h0)
  | d :: ds, J, ρ, st, h0, hs, hq => by
    obtain ⟨ρ1, e1, r, e2, t⟩ := hs 0 d ρ st rfl h0
    unfold forD
    rw [e1]
    dsimp only
    rw [e2]
    cases r with
    | nx ρ2 s2 => exact w_forD ds (fun k => J (k + 1)) t (fun k d' ρ st hd hj => hs (k + 1) d' ρ st (by simpa using hd) hj) hq
    | rt d s => exact (gt_some _ _).mpr t
    | ex c d s => exact (gt_some _ _).mpr t
theorem w_lcD {h : SemG} {b : SemB} {f : SemE} {ρ : Env} {Q : List D × Store → Prop} : ∀ (ds : List D) (J : Nat → List D → Store → Prop) {st : Store} {acc : List D} (_ : J 0 acc st)
    (_ : ∀ k d acc st, ds[k]? = some d → J k acc st → ∃ ρ1, h d ρ = some ρ1 ∧ gt (b ρ1 st) fun p => if p.1 = true then gt (f ρ1 p.2) fun q => acc.length < sizeLine ∧ J (k + 1) (acc ++ [q.1]) q.2 else J (k + 1) acc p.2) (_ : ∀ acc st, J ds.length acc st → Q (acc, st)), gt (lcD h b f ρ ds st acc) Q
  | [], J, st, acc, h0, _, hq => (gt_some _ _).mpr (hq _ _ h0)
  | d :: ds, J, st, acc, h0, hs, hq => by
    obtain ⟨ρ1, e1, ⟨t, s1⟩, e2, h2⟩ := hs 0 d acc st rfl h0
    unfold lcD
    rw [e1]
    dsimp only
    rw [e2]
    cases t with
    | false =>
      dsimp only at h2 ⊢
      rw [if_neg Bool.false_ne_true] at h2
      exact w_lcD ds (fun k => J (k + 1)) h2 (fun k d' acc st hd hj => hs (k + 1) d' acc st (by simpa using hd) hj) hq
    | true =>
      dsimp only at h2 ⊢
      rw [if_pos rfl] at h2
      obtain ⟨⟨y, s2⟩, e3, hl, j⟩ := h2
      rw [e3]
      dsimp only at hl j ⊢
      rw [if_pos hl]
      exact w_lcD ds (fun k => J (k + 1)) j (fun k d' acc st hd hj => hs (k + 1) d' acc st (by simpa using hd) hj) hq
/-- a comprehension over coded items, the store as it was -/
theorem w_lcM {α : Type} {h : SemG} {b : SemB} {f : SemE} {ρ : Env} {st : Store} {Q : List D × Store → Prop} (xs : List α) (enc : α → D) (p : α → Option D) (hl : xs.length ≤ sizeLine)
    (hs : ∀ x, x ∈ xs → ∃ ρ1, h (enc x) ρ = some ρ1 ∧ gt (b ρ1 st) fun q => q.2 = st ∧ q.1 = (p x).isSome ∧ ∀ y, p x = some y → gt (f ρ1 st) fun r => r = (y, st)) (hq : Q (xs.filterMap p, st)) : gt (lcD h b f ρ (xs.map enc) st []) Q := by
  refine w_lcD (xs.map enc) (fun k acc s => s = st ∧ acc = (xs.take k).filterMap p) ⟨rfl, rfl⟩ ?_ ?_
  · rintro k d acc s hd ⟨rfl, rfl⟩
    rw [List.getElem?_map] at hd
    obtain ⟨x, hx, rfl⟩ := Option.map_eq_some_iff.mp hd
    obtain ⟨ρ1, e1, ⟨t, s1⟩, e2, e3, e4, e5⟩ := hs x (List.mem_of_getElem? hx)
    dsimp only at e3 e4
    subst e3 e4
    refine ⟨ρ1, e1, ⟨_, _⟩, e2, ?_⟩
    dsimp only
    cases hp : p x with
    | none => simp [List.take_add_one, hx, List.filterMap_append, hp]
    | some y =>
      obtain ⟨r, e6, rfl⟩ := e5 y hp
      rw [e6]
      simp only [Option.isSome_some, if_true, gt_some, true_and]
      refine ⟨?_, by simp [List.take_add_one, hx, List.filterMap_append, hp]⟩
      obtain ⟨hk, _⟩ := List.getElem?_eq_some_iff.mp hx
      have := List.length_filterMap_le p (xs.take k)
      rw [List.length_take] at this
      omega
  · rintro acc s ⟨rfl, rfl⟩
    rw [List.length_map, List.take_length]
    exact hq
end DL

set_option Elab.async false
set_option linter.all false
set_option maxRecDepth 100000
/-! DL28: more meanings run by simp. -/
namespace DL
open PySem PySem.Spec PyProof.Rows L2
section
variable {f g h : SemE} {fa : SemA} {fb gb : SemB} {gs hs : SemS} {ρ : Env} {st : Store} {i j n m : Nat}
def twoOf : List D → Option (D × D)
  | [d, e] => some (d, e)
  | _ => none
@[simp] theorem twoOf_2 {d e : D} : twoOf [d, e] = some (d, e) := rfl
@[simp] theorem w_par {Q : SR → Prop} : gt (cPar i j fa ρ st) Q ↔ gt (fa ρ st) fun p => gt (twoOf p.1) fun q => Q (.nx ((ρ.set i (some q.1)).set j (some q.2)) p.2) := by
  unfold cPar
  cases fa ρ st with
  | none => simp
  | some p =>
    obtain ⟨ds, s⟩ := p
    cases ds with
    | nil => simp [twoOf]
    | cons d ds => cases ds with
      | nil => simp [twoOf]
      | cons e ds => cases ds <;> simp [twoOf]
@[simp] theorem w_dput {Q : SR → Prop} : gt (cDput i h f ρ st) Q ↔ gt (f ρ st) fun p => gt (h ρ p.2) fun q => gt ρ[i]? fun o => gt o fun c => gt (putDict c q.1 p.1) fun c' => Q (.nx (ρ.set i (some c')) q.2) := by
  unfold cDput
  cases f ρ st with
  | none => simp
  | some p =>
    simp only [gt_some]
    cases h ρ p.2 with
    | none => simp
    | some q =>
      simp only [gt_some]
      cases ρ[i]? with
      | none => simp
      | some o => cases o with
        | none => simp
        | some c =>
          simp only [gt_some]
          cases putDict c q.1 p.1 <;> simp
@[simp] theorem w_pnil {Q : List (Key × D) × Store → Prop} : gt (cPnil ρ st) Q ↔ Q ([], st) := gt_some _ _
@[simp] theorem w_pcons {gp : SemP} {Q : List (Key × D) × Store → Prop} : gt (cPcons f h gp ρ st) Q ↔ gt (f ρ st) fun p => gt p.1.key fun k => gt (h ρ p.2) fun q => gt (gp ρ q.2) fun r => Q ((k, q.1) :: r.1, r.2) := by
  unfold cPcons
  cases f ρ st with
  | none => simp
  | some p =>
    simp only [gt_some]
    cases p.1.key with
    | none => simp
    | some k =>
      simp only [gt_some]
      cases h ρ p.2 with
      | none => simp
      | some q =>
        simp only [gt_some]
        cases gp ρ q.2 <;> simp
@[simp] theorem w_disp {gp : SemP} {Q : D × Store → Prop} : gt (cDisp gp ρ st) Q ↔ gt (gp ρ st) fun p => Q (.dK (mergeD [] p.1), p.2) := by
  unfold cDisp
  cases gp ρ st <;> simp
end
/-- in, over ints -/
theorem depthAll_ints : ∀ xs : List Int, PyData.depthAll (xs.map PyData.int) ≤ 1
  | [] => by show PyData.depthAll [] ≤ 1; decide
  | x :: xs => by
    have := depthAll_ints xs
    rw [List.map_cons]
    unfold PyData.depthAll
    have h : (PyData.int x).depth ≤ 1 := by unfold PyData.depth; decide
    omega
theorem py_intsD (xs : List Int) : (intsD xs).py = some (.list (xs.map .int)) := by
  show D.py (.lst _) = _
  unfold D.py
  rw [ints_pys]
theorem inD_ints (c : Int) (xs : List Int) : inD (.int c) (intsD xs) = some (decide (c ∈ xs)) := by
  unfold inD
  rw [show D.py (.int c) = some (.int c) from rfl, py_intsD]
  dsimp only
  rw [if_pos (by have := depthAll_ints xs; omega), List.any_map]
  congr 1
  show (xs.any fun y => decide (y = c)) = decide (c ∈ xs)
  by_cases h : c ∈ xs
  · rw [decide_eq_true h, List.any_eq_true]
    exact ⟨c, h, decide_eq_true rfl⟩
  · rw [decide_eq_false h, List.any_eq_false]
    intro y hy z
    exact h (of_decide_eq_true z ▸ hy)
@[simp] theorem perm10 {α : Type} {a b : α} : permL [1, 0] [a, b] = [b, a] := rfl
@[simp] theorem perm210 {α : Type} {a b c : α} : permL [2, 1, 0] [a, b, c] = [c, b, a] := rfl
theorem mem_insD {α : Type} {le : α → α → Bool} {a x : α} : ∀ {l : List α}, x ∈ insD le a l ↔ x = a ∨ x ∈ l
  | [] => by simp [insD]
  | b :: t => by
    unfold insD
    split
    · simp
    · simp only [List.mem_cons, mem_insD (l := t)]
      constructor
      · rintro (h | h | h)
        · exact .inr (.inl h)
        · exact .inl h
        · exact .inr (.inr h)
      · rintro (h | h | h)
        · exact .inr (.inl h)
        · exact .inl h
        · exact .inr (.inr h)
theorem mem_isort {α : Type} {le : α → α → Bool} {x : α} : ∀ {l : List α}, x ∈ isort le l ↔ x ∈ l
  | [] => Iff.rfl
  | a :: t => by
    show x ∈ insD le a (isort le t) ↔ _
    rw [mem_insD, mem_isort (l := t), List.mem_cons]
end DL

set_option Elab.async false
set_option linter.all false
set_option maxRecDepth 100000
set_option maxHeartbeats 0
namespace K80
open PySem PySem.Spec PyProof.Rows L2 DL
def cellsAcc (s w : Nat) (ss : List (List Int)) : Nat → List (List Int)
  | 0 => []
  | k + 1 => accI s (digR s k w).reverse (cellsAcc s w ss k) ss
theorem cellsAcc_len (s w : Nat) (ss : List (List Int)) : ∀ k, (cellsAcc s w ss k).length ≤ k * ss.length
  | 0 => Nat.zero_le _
  | k + 1 => by
    have h1 := cellsAcc_len s w ss k
    have h2 := accI_len s (digR s k w).reverse ss (cellsAcc s w ss k)
    unfold cellsAcc
    rw [Nat.add_mul]
    omega
theorem ents_keys (acc : List (List Int)) : (acc.map entL).map (·.1) = acc.map fun x => (x.map Sum.inl : List Key) := by rw [List.map_map]; rfl
theorem keysD_ints (x : List Int) : keysD (x.map Sum.inl) = .tup (x.map D.int) := by
  show D.tup ((x.map Sum.inl).map keyD) = _
  rw [List.map_map]; rfl
theorem enc_keys (x : List Int) : (keysD (x.map Sum.inl)).enc = .tuple (x.map .int) := enc_of (by
  rw [keysD_ints]
  show D.py (.tup _) = _
  unfold D.py
  rw [ints_pys])
theorem sortB_tups {xs : List (List Int)} (hx : ∀ x, x ∈ xs → x ≠ []) : sortB (xs.map fun x => PyData.tuple (x.map PyData.int)) = true := by
  unfold sortB alikeB
  simp only [List.all_map, Bool.and_eq_true, Bool.or_eq_true, List.all_eq_true]
  refine ⟨⟨fun x _ => List.all_eq_true.mpr fun y _ => ?_, .inl fun x hm => ?_⟩, fun x _ => decide_eq_true ?_⟩
  · show PySem.W.alike (.tuple (x.map .int)) (.tuple (y.map .int)) = true
    unfold PySem.W.alike
    exact alikeAll_ints x y
  · cases x with
    | nil => exact absurd rfl (hx _ hm)
    | cons a l => rfl
  · show (PyData.tuple (x.map PyData.int)).depth ≤ 50
    have := depthAll_ints x
    unfold PyData.depth
    omega
theorem sortedX_keys {acc : List (List Int)} (hx : ∀ x, x ∈ acc → x ≠ []) : sortedXD [.dT (acc.map entL)] = some (.lst ((isort leIs acc).map fun x => .tup (x.map D.int))) := by
  have e : ((acc.map entL).map fun p => (keysD p.1).enc) = acc.map fun x => PyData.tuple (x.map PyData.int) := by
    rw [List.map_map]
    exact List.map_congr_left fun x _ => enc_keys x
  unfold sortedXD
  dsimp only
  rw [e, if_pos (sortB_tups hx), ents_keys, sortK_rows, List.map_map]
  congr 2
  exact List.map_congr_left fun x _ => keysD_ints x
theorem isort_len {α : Type} {le : α → α → Bool} : ∀ l : List α, (isort le l).length = l.length := by
  have h : ∀ (a : α) (l : List α), (insD le a l).length = l.length + 1 := fun a l => by
    induction l with
    | nil => rfl
    | cons b t ih => unfold insD; split <;> simp [ih]
  intro l
  induction l with
  | nil => rfl
  | cons a t ih => show (insD le a (isort le t)).length = _; rw [h, ih]; rfl
theorem nextKeys_ne {s : Nat} (h1 : 1 ≤ s) {counts : List Int} {acc : List (List Int)} {t : List Int} (h : ∀ x, x ∈ acc → x ≠ []) : ∀ x, x ∈ nextKeys s counts acc t → x ≠ [] := by
  intro x hx
  unfold nextKeys at hx
  split at hx
  · unfold addKey at hx
    split at hx
    · exact h x hx
    · rcases List.mem_append.mp hx with hx | hx
      · exact h x hx
      · rw [List.mem_singleton.mp hx]
        intro z
        have := congrArg List.length z
        rw [isort_len, rowsN_len] at this
        simp at this
        omega
  · exact h x hx
theorem accI_ne {s : Nat} (h1 : 1 ≤ s) {counts : List Int} : ∀ (l acc : List (List Int)), (∀ x, x ∈ acc → x ≠ []) → ∀ x, x ∈ accI s counts acc l → x ≠ []
  | [], acc, h => h
  | t :: l, acc, h => accI_ne h1 l (nextKeys s counts acc t) (nextKeys_ne h1 h)
theorem cellsAcc_ne {s w : Nat} (h1 : 1 ≤ s) {ss : List (List Int)} : ∀ k x, x ∈ cellsAcc s w ss k → x ≠ []
  | 0, _, h => nomatch h
  | k + 1, x, h => accI_ne h1 ss _ (cellsAcc_ne h1 k) x h
def cellG : SemS := (cSeq (cSet 4 (cCallA F__law_figures (cCons (cVar 0) (cCons (cVar 1) (cCons (cVar 3) cNil))))) (cSeq (cFor (cSeqI (cCallA F__law_steps (cCons (cVar 1) cNil))) (gSet 5) stepsG) cSkip))
theorem law_lines_run {s w : Nat} {ss : List (List Int)} (hs : s ≤ 8) (h1 : 1 ≤ s) (hw : w ≤ 1000) (hF : F__law_steps [.int w] [] = some (.ok (.lst (ss.map intsD)) [])) (ht : ∀ r, r ∈ ss → ∀ t, t ∈ r → t = 0 ∨ t = 1 ∨ t = -1) (hb : s ^ w * ss.length < 100000) (hb2 : s ^ w < 100000) (hss : ss.length < 1000) :
    F__law_lines [.int s, .int w] [] = some (.ok (.lst ((isort leIs (cellsAcc s w ss (s ^ w))).map intsD)) []) := by
  have hp := lawpower_run (a := s) (n := w) (by show s < _; omega) hw []
  rw [show ((s : Int) ^ w) = ((s ^ w : Nat) : Int) by rw [Int.natCast_pow]] at hp
  generalize s ^ w = N at hp hb hb2
  have hfig : ∀ k : Nat, F__law_figures [.int s, .int w, .int k] [] = some (.ok (intsD (digR s k w).reverse) []) := fun k => figures_run (by omega) (by
    show (s : Nat).log2 < 9000
    exact Nat.lt_of_le_of_lt (Nat.log2_le_self _) (by omega)) (by omega) []
  have key : gt (F__law_lines [.int s, .int w] []) fun r => r = .ok (.lst ((isort leIs (cellsAcc s w ss N)).map intsD)) [] := by
    unfold F__law_lines
    rw [w_fun]
    refine ⟨rfl, ?_⟩
    show gt (m__law_lines [some (.int s), some (.int w), none, none, none, none, none, none, none, none, none] []) _
    show gt (cSeq (cSet 2 (cC (.dT []))) (cSeq (cFor (cRng1 (cCons (cCallA F__law_power (cCons (cVar 0) (cCons (cVar 1) cNil))) cNil)) (gSet 3) cellG) (cSeq (cRet (cLc [9] (cSeqI (cFn sortedXD (cCons (cVar 2) cNil))) (gSet 9) cYes (cFn listD (cCons (cVar 9) cNil)))) cSkip)) _ _) _
    simp [hp]
    refine ⟨by omega, ?_⟩
    refine w_forD _ (fun k ρ st => st = [] ∧ ∃ o3 o4 o5 o6 o7 o8 o9 o10, ρ = [some (.int s), some (.int w), some (.dT ((cellsAcc s w ss k).map entL)), o3, o4, o5, o6, o7, o8, o9, o10]) ⟨rfl, none, none, none, none, none, none, none, none, rfl⟩ ?_ ?_
    · rintro k d ρ st hd ⟨rfl, o3, o4, o5, o6, o7, o8, o9, o10, rfl⟩
      obtain ⟨hk, rfl⟩ := rangeD0_get hd
      refine ⟨_, gSet_eq, ?_⟩
      unfold cellG
      have hlen := cellsAcc_len s w ss k
      have hmul : k * ss.length ≤ N * ss.length := Nat.mul_le_mul_right _ (Nat.le_of_lt hk)
      have hcnt : ∀ c, c ∈ (digR s k w).reverse → c.natAbs ≤ 16 := fun c hc => by
        have := digR_mem (b := (s : Int)) (n := k) (by omega) w c (List.mem_reverse.mp hc)
        omega
      obtain ⟨p5, p6, p7, p8, p9, p10, e⟩ := stepsI_run (s := s) (w := w) (counts := (digR s k w).reverse) (acc := cellsAcc s w ss k) (ss := ss) (cel := some (.int k)) (o5 := o5) (o6 := o6) (o7 := o7) (o8 := o8) (o9 := o9) (o10 := o10) hs (by rw [List.length_reverse, digR_len]; exact hw) hcnt hF ht (by omega)
      rw [w_seq]
      simp only [w_set, w_callA, w_cons, w_var, w_nil, List.set_cons_succ, List.set_cons_zero, List.getElem?_cons_succ, List.getElem?_cons_zero, gt_some, hfig, okK_ok, nxK_nx]
      refine ⟨⟨rfl, rfl⟩, rfl, ?_⟩
      rw [w_seq, e]
      simp only [gt_some, nxK_nx, w_skip, trnK_nx]
      exact ⟨trivial, _, _, _, _, _, _, _, _, rfl⟩
    · rintro ρ st ⟨rfl, o3, o4, o5, o6, o7, o8, o9, o10, rfl⟩
      rw [rangeD_length]
      have hn := cellsAcc_ne (w := w) h1 (ss := ss) N
      have hlen := cellsAcc_len s w ss N
      simp [sortedX_keys hn, wipeE]
      refine w_lcM (isort leIs (cellsAcc s w ss N)) (fun x => .tup (x.map D.int)) (fun x => some (intsD x)) (by rw [isort_len, sizeLine_eq]; omega) ?_ ?_
      · intro x _
        simp [cYes, intsD]
      · simp
  obtain ⟨r, e, rfl⟩ := key
  exact e
end K80

set_option Elab.async false
set_option linter.all false
set_option maxRecDepth 100000
set_option maxHeartbeats 0
namespace K80
open PySem PySem.Spec PyProof.Rows L2 DL
def linesL (s w : Nat) : List (List Int) := isort leIs (cellsAcc s w (steps' w) (s ^ w))
theorem same_21 : linesP 2 1 = linesL 2 1 := by decide +kernel
theorem same_22 : linesP 2 2 = linesL 2 2 := by decide +kernel
theorem same_23 : linesP 2 3 = linesL 2 3 := by decide +kernel
theorem same_24 : linesP 2 4 = linesL 2 4 := by decide +kernel
theorem same_31 : linesP 3 1 = linesL 3 1 := by decide +kernel
theorem same_32 : linesP 3 2 = linesL 3 2 := by decide +kernel
theorem same_33 : linesP 3 3 = linesL 3 3 := by decide +kernel
theorem same_42 : linesP 4 2 = linesL 4 2 := by decide +kernel
theorem same_51 : linesP 5 1 = linesL 5 1 := by decide +kernel
theorem same_52 : linesP 5 2 = linesL 5 2 := by decide +kernel
end K80

set_option Elab.async false
set_option linter.all false
set_option maxRecDepth 100000
set_option maxHeartbeats 0
namespace K80
open PySem PySem.Spec PyProof.Rows L2 DL
def S34 : List (List Int) := [[-1, -1, -1, -1], [-1, -1, -1, 0], [-1, -1, -1, 1], [-1, -1, 0, -1], [-1, -1, 0, 0], [-1, -1, 0, 1], [-1, -1, 1, -1], [-1, -1, 1, 0], [-1, -1, 1, 1], [-1, 0, -1, -1], [-1, 0, -1, 0], [-1, 0, -1, 1], [-1, 0, 0, -1], [-1, 0, 0, 0], [-1, 0, 0, 1], [-1, 0, 1, -1], [-1, 0, 1, 0], [-1, 0, 1, 1], [-1, 1, -1, -1], [-1, 1, -1, 0], [-1, 1, -1, 1], [-1, 1, 0, -1], [-1, 1, 0, 0], [-1, 1, 0, 1], [-1, 1, 1, -1], [-1, 1, 1, 0], [-1, 1, 1, 1], [0, -1, -1, -1], [0, -1, -1, 0], [0, -1, -1, 1], [0, -1, 0, -1], [0, -1, 0, 0], [0, -1, 0, 1], [0, -1, 1, -1], [0, -1, 1, 0], [0, -1, 1, 1], [0, 0, -1, -1], [0, 0, -1, 0], [0, 0, -1, 1], [0, 0, 0, -1], [0, 0, 0, 1], [0, 0, 1, -1], [0, 0, 1, 0], [0, 0, 1, 1], [0, 1, -1, -1], [0, 1, -1, 0], [0, 1, -1, 1], [0, 1, 0, -1], [0, 1, 0, 0], [0, 1, 0, 1], [0, 1, 1, -1], [0, 1, 1, 0], [0, 1, 1, 1], [1, -1, -1, -1], [1, -1, -1, 0], [1, -1, -1, 1], [1, -1, 0, -1], [1, -1, 0, 0], [1, -1, 0, 1], [1, -1, 1, -1], [1, -1, 1, 0], [1, -1, 1, 1], [1, 0, -1, -1], [1, 0, -1, 0], [1, 0, -1, 1], [1, 0, 0, -1], [1, 0, 0, 0], [1, 0, 0, 1], [1, 0, 1, -1], [1, 0, 1, 0], [1, 0, 1, 1], [1, 1, -1, -1], [1, 1, -1, 0], [1, 1, -1, 1], [1, 1, 0, -1], [1, 1, 0, 0], [1, 1, 0, 1], [1, 1, 1, -1], [1, 1, 1, 0], [1, 1, 1, 1]]
def A27 : List (List Int) := [[0, 1, 2], [0, 3, 6], [0, 4, 8], [0, 9, 18], [0, 10, 20], [0, 12, 24], [0, 13, 26], [0, 27, 54], [0, 28, 56], [0, 30, 60], [0, 31, 62], [0, 36, 72], [0, 37, 74], [0, 39, 78], [0, 40, 80], [1, 4, 7], [1, 10, 19], [1, 13, 25], [1, 28, 55], [1, 31, 61], [1, 37, 73], [1, 40, 79], [2, 4, 6], [2, 5, 8], [2, 10, 18], [2, 11, 20], [2, 13, 24], [2, 14, 26], [2, 28, 54], [2, 29, 56], [2, 31, 60], [2, 32, 62], [2, 37, 72], [2, 38, 74], [2, 40, 78], [2, 41, 80], [3, 4, 5], [3, 12, 21], [3, 13, 23], [3, 30, 57], [3, 31, 59], [3, 39, 75], [3, 40, 77], [4, 13, 22], [4, 31, 58], [4, 40, 76], [5, 13, 21], [5, 14, 23], [5, 31, 57], [5, 32, 59], [5, 40, 75], [5, 41, 77], [6, 7, 8], [6, 12, 18], [6, 13, 20], [6, 15, 24], [6, 16, 26], [6, 30, 54], [6, 31, 56], [6, 33, 60], [6, 34, 62], [6, 39, 72], [6, 40, 74], [6, 42, 78], [6, 43, 80], [7, 13, 19], [7, 16, 25], [7, 31, 55], [7, 34, 61], [7, 40, 73], [7, 43, 79], [8, 13, 18], [8, 14, 20], [8, 16, 24], [8, 17, 26], [8, 31, 54], [8, 32, 56], [8, 34, 60], [8, 35, 62], [8, 40, 72], [8, 41, 74], [8, 43, 78], [8, 44, 80], [9, 10, 11], [9, 12, 15], [9, 13, 17], [9, 36, 63], [9, 37, 65], [9, 39, 69], [9, 40, 71], [10, 13, 16], [10, 37, 64], [10, 40, 70], [11, 13, 15], [11, 14, 17], [11, 37, 63], [11, 38, 65], [11, 40, 69], [11, 41, 71], [12, 13, 14], [12, 39, 66], [12, 40, 68], [13, 40, 67], [14, 40, 66], [14, 41, 68], [15, 16, 17], [15, 39, 63], [15, 40, 65], [15, 42, 69], [15, 43, 71], [16, 40, 64], [16, 43, 70], [17, 40, 63], [17, 41, 65], [17, 43, 69], [17, 44, 71], [18, 19, 20], [18, 21, 24], [18, 22, 26], [18, 36, 54], [18, 37, 56], [18, 39, 60], [18, 40, 62], [18, 45, 72], [18, 46, 74], [18, 48, 78], [18, 49, 80], [19, 22, 25], [19, 37, 55], [19, 40, 61], [19, 46, 73], [19, 49, 79], [20, 22, 24], [20, 23, 26], [20, 37, 54], [20, 38, 56], [20, 40, 60], [20, 41, 62], [20, 46, 72], [20, 47, 74], [20, 49, 78], [20, 50, 80], [21, 22, 23], [21, 39, 57], [21, 40, 59], [21, 48, 75], [21, 49, 77], [22, 40, 58], [22, 49, 76], [23, 40, 57], [23, 41, 59], [23, 49, 75], [23, 50, 77], [24, 25, 26], [24, 39, 54], [24, 40, 56], [24, 42, 60], [24, 43, 62], [24, 48, 72], [24, 49, 74], [24, 51, 78], [24, 52, 80], [25, 40, 55], [25, 43, 61], [25, 49, 73], [25, 52, 79], [26, 40, 54], [26, 41, 56], [26, 43, 60], [26, 44, 62], [26, 49, 72], [26, 50, 74], [26, 52, 78], [26, 53, 80]]
def A54 : List (List Int) := [[0, 1, 2], [0, 3, 6], [0, 4, 8], [0, 9, 18], [0, 10, 20], [0, 12, 24], [0, 13, 26], [0, 27, 54], [0, 28, 56], [0, 30, 60], [0, 31, 62], [0, 36, 72], [0, 37, 74], [0, 39, 78], [0, 40, 80], [1, 4, 7], [1, 10, 19], [1, 13, 25], [1, 28, 55], [1, 31, 61], [1, 37, 73], [1, 40, 79], [2, 4, 6], [2, 5, 8], [2, 10, 18], [2, 11, 20], [2, 13, 24], [2, 14, 26], [2, 28, 54], [2, 29, 56], [2, 31, 60], [2, 32, 62], [2, 37, 72], [2, 38, 74], [2, 40, 78], [2, 41, 80], [3, 4, 5], [3, 12, 21], [3, 13, 23], [3, 30, 57], [3, 31, 59], [3, 39, 75], [3, 40, 77], [4, 13, 22], [4, 31, 58], [4, 40, 76], [5, 13, 21], [5, 14, 23], [5, 31, 57], [5, 32, 59], [5, 40, 75], [5, 41, 77], [6, 7, 8], [6, 12, 18], [6, 13, 20], [6, 15, 24], [6, 16, 26], [6, 30, 54], [6, 31, 56], [6, 33, 60], [6, 34, 62], [6, 39, 72], [6, 40, 74], [6, 42, 78], [6, 43, 80], [7, 13, 19], [7, 16, 25], [7, 31, 55], [7, 34, 61], [7, 40, 73], [7, 43, 79], [8, 13, 18], [8, 14, 20], [8, 16, 24], [8, 17, 26], [8, 31, 54], [8, 32, 56], [8, 34, 60], [8, 35, 62], [8, 40, 72], [8, 41, 74], [8, 43, 78], [8, 44, 80], [9, 10, 11], [9, 12, 15], [9, 13, 17], [9, 36, 63], [9, 37, 65], [9, 39, 69], [9, 40, 71], [10, 13, 16], [10, 37, 64], [10, 40, 70], [11, 13, 15], [11, 14, 17], [11, 37, 63], [11, 38, 65], [11, 40, 69], [11, 41, 71], [12, 13, 14], [12, 39, 66], [12, 40, 68], [13, 40, 67], [14, 40, 66], [14, 41, 68], [15, 16, 17], [15, 39, 63], [15, 40, 65], [15, 42, 69], [15, 43, 71], [16, 40, 64], [16, 43, 70], [17, 40, 63], [17, 41, 65], [17, 43, 69], [17, 44, 71], [18, 19, 20], [18, 21, 24], [18, 22, 26], [18, 36, 54], [18, 37, 56], [18, 39, 60], [18, 40, 62], [18, 45, 72], [18, 46, 74], [18, 48, 78], [18, 49, 80], [19, 22, 25], [19, 37, 55], [19, 40, 61], [19, 46, 73], [19, 49, 79], [20, 22, 24], [20, 23, 26], [20, 37, 54], [20, 38, 56], [20, 40, 60], [20, 41, 62], [20, 46, 72], [20, 47, 74], [20, 49, 78], [20, 50, 80], [21, 22, 23], [21, 39, 57], [21, 40, 59], [21, 48, 75], [21, 49, 77], [22, 40, 58], [22, 49, 76], [23, 40, 57], [23, 41, 59], [23, 49, 75], [23, 50, 77], [24, 25, 26], [24, 39, 54], [24, 40, 56], [24, 42, 60], [24, 43, 62], [24, 48, 72], [24, 49, 74], [24, 51, 78], [24, 52, 80], [25, 40, 55], [25, 43, 61], [25, 49, 73], [25, 52, 79], [26, 40, 54], [26, 41, 56], [26, 43, 60], [26, 44, 62], [26, 49, 72], [26, 50, 74], [26, 52, 78], [26, 53, 80], [27, 28, 29], [27, 30, 33], [27, 31, 35], [27, 36, 45], [27, 37, 47], [27, 39, 51], [27, 40, 53], [28, 31, 34], [28, 37, 46], [28, 40, 52], [29, 31, 33], [29, 32, 35], [29, 37, 45], [29, 38, 47], [29, 40, 51], [29, 41, 53], [30, 31, 32], [30, 39, 48], [30, 40, 50], [31, 40, 49], [32, 40, 48], [32, 41, 50], [33, 34, 35], [33, 39, 45], [33, 40, 47], [33, 42, 51], [33, 43, 53], [34, 40, 46], [34, 43, 52], [35, 40, 45], [35, 41, 47], [35, 43, 51], [35, 44, 53], [36, 37, 38], [36, 39, 42], [36, 40, 44], [37, 40, 43], [38, 40, 42], [38, 41, 44], [39, 40, 41], [42, 43, 44], [45, 46, 47], [45, 48, 51], [45, 49, 53], [46, 49, 52], [47, 49, 51], [47, 50, 53], [48, 49, 50], [51, 52, 53]]
def A81 : List (List Int) := [[0, 1, 2], [0, 3, 6], [0, 4, 8], [0, 9, 18], [0, 10, 20], [0, 12, 24], [0, 13, 26], [0, 27, 54], [0, 28, 56], [0, 30, 60], [0, 31, 62], [0, 36, 72], [0, 37, 74], [0, 39, 78], [0, 40, 80], [1, 4, 7], [1, 10, 19], [1, 13, 25], [1, 28, 55], [1, 31, 61], [1, 37, 73], [1, 40, 79], [2, 4, 6], [2, 5, 8], [2, 10, 18], [2, 11, 20], [2, 13, 24], [2, 14, 26], [2, 28, 54], [2, 29, 56], [2, 31, 60], [2, 32, 62], [2, 37, 72], [2, 38, 74], [2, 40, 78], [2, 41, 80], [3, 4, 5], [3, 12, 21], [3, 13, 23], [3, 30, 57], [3, 31, 59], [3, 39, 75], [3, 40, 77], [4, 13, 22], [4, 31, 58], [4, 40, 76], [5, 13, 21], [5, 14, 23], [5, 31, 57], [5, 32, 59], [5, 40, 75], [5, 41, 77], [6, 7, 8], [6, 12, 18], [6, 13, 20], [6, 15, 24], [6, 16, 26], [6, 30, 54], [6, 31, 56], [6, 33, 60], [6, 34, 62], [6, 39, 72], [6, 40, 74], [6, 42, 78], [6, 43, 80], [7, 13, 19], [7, 16, 25], [7, 31, 55], [7, 34, 61], [7, 40, 73], [7, 43, 79], [8, 13, 18], [8, 14, 20], [8, 16, 24], [8, 17, 26], [8, 31, 54], [8, 32, 56], [8, 34, 60], [8, 35, 62], [8, 40, 72], [8, 41, 74], [8, 43, 78], [8, 44, 80], [9, 10, 11], [9, 12, 15], [9, 13, 17], [9, 36, 63], [9, 37, 65], [9, 39, 69], [9, 40, 71], [10, 13, 16], [10, 37, 64], [10, 40, 70], [11, 13, 15], [11, 14, 17], [11, 37, 63], [11, 38, 65], [11, 40, 69], [11, 41, 71], [12, 13, 14], [12, 39, 66], [12, 40, 68], [13, 40, 67], [14, 40, 66], [14, 41, 68], [15, 16, 17], [15, 39, 63], [15, 40, 65], [15, 42, 69], [15, 43, 71], [16, 40, 64], [16, 43, 70], [17, 40, 63], [17, 41, 65], [17, 43, 69], [17, 44, 71], [18, 19, 20], [18, 21, 24], [18, 22, 26], [18, 36, 54], [18, 37, 56], [18, 39, 60], [18, 40, 62], [18, 45, 72], [18, 46, 74], [18, 48, 78], [18, 49, 80], [19, 22, 25], [19, 37, 55], [19, 40, 61], [19, 46, 73], [19, 49, 79], [20, 22, 24], [20, 23, 26], [20, 37, 54], [20, 38, 56], [20, 40, 60], [20, 41, 62], [20, 46, 72], [20, 47, 74], [20, 49, 78], [20, 50, 80], [21, 22, 23], [21, 39, 57], [21, 40, 59], [21, 48, 75], [21, 49, 77], [22, 40, 58], [22, 49, 76], [23, 40, 57], [23, 41, 59], [23, 49, 75], [23, 50, 77], [24, 25, 26], [24, 39, 54], [24, 40, 56], [24, 42, 60], [24, 43, 62], [24, 48, 72], [24, 49, 74], [24, 51, 78], [24, 52, 80], [25, 40, 55], [25, 43, 61], [25, 49, 73], [25, 52, 79], [26, 40, 54], [26, 41, 56], [26, 43, 60], [26, 44, 62], [26, 49, 72], [26, 50, 74], [26, 52, 78], [26, 53, 80], [27, 28, 29], [27, 30, 33], [27, 31, 35], [27, 36, 45], [27, 37, 47], [27, 39, 51], [27, 40, 53], [28, 31, 34], [28, 37, 46], [28, 40, 52], [29, 31, 33], [29, 32, 35], [29, 37, 45], [29, 38, 47], [29, 40, 51], [29, 41, 53], [30, 31, 32], [30, 39, 48], [30, 40, 50], [31, 40, 49], [32, 40, 48], [32, 41, 50], [33, 34, 35], [33, 39, 45], [33, 40, 47], [33, 42, 51], [33, 43, 53], [34, 40, 46], [34, 43, 52], [35, 40, 45], [35, 41, 47], [35, 43, 51], [35, 44, 53], [36, 37, 38], [36, 39, 42], [36, 40, 44], [37, 40, 43], [38, 40, 42], [38, 41, 44], [39, 40, 41], [42, 43, 44], [45, 46, 47], [45, 48, 51], [45, 49, 53], [46, 49, 52], [47, 49, 51], [47, 50, 53], [48, 49, 50], [51, 52, 53], [54, 55, 56], [54, 57, 60], [54, 58, 62], [54, 63, 72], [54, 64, 74], [54, 66, 78], [54, 67, 80], [55, 58, 61], [55, 64, 73], [55, 67, 79], [56, 58, 60], [56, 59, 62], [56, 64, 72], [56, 65, 74], [56, 67, 78], [56, 68, 80], [57, 58, 59], [57, 66, 75], [57, 67, 77], [58, 67, 76], [59, 67, 75], [59, 68, 77], [60, 61, 62], [60, 66, 72], [60, 67, 74], [60, 69, 78], [60, 70, 80], [61, 67, 73], [61, 70, 79], [62, 67, 72], [62, 68, 74], [62, 70, 78], [62, 71, 80], [63, 64, 65], [63, 66, 69], [63, 67, 71], [64, 67, 70], [65, 67, 69], [65, 68, 71], [66, 67, 68], [69, 70, 71], [72, 73, 74], [72, 75, 78], [72, 76, 80], [73, 76, 79], [74, 76, 78], [74, 77, 80], [75, 76, 77], [78, 79, 80]]
theorem st_34 : steps' 4 = S34 := by decide +kernel
def cellsFrom (s w : Nat) (ss acc : List (List Int)) (k : Nat) : Nat → List (List Int)
  | 0 => acc
  | n + 1 => accI s (digR s (k + n : Nat) w).reverse (cellsFrom s w ss acc k n) ss
theorem cells_from (s w : Nat) (ss : List (List Int)) (k : Nat) : ∀ n, cellsAcc s w ss (k + n) = cellsFrom s w ss (cellsAcc s w ss k) k n
  | 0 => rfl
  | n + 1 => by
    show accI s (digR s (k + n : Nat) w).reverse (cellsAcc s w ss (k + n)) ss = _
    rw [cells_from s w ss k n]
    rfl
theorem a_27 : cellsAcc 3 4 S34 27 = A27 := by decide +kernel
theorem a_54 : cellsFrom 3 4 S34 A27 27 27 = A54 := by decide +kernel
theorem a_81 : isort leIs (cellsFrom 3 4 S34 A54 54 27) = A81 := by decide +kernel
theorem p_81 : linesP 3 4 = A81 := by decide +kernel
theorem same_34 : linesP 3 4 = linesL 3 4 := by
  rw [p_81]
  unfold linesL
  rw [st_34]
  show A81 = isort leIs (cellsAcc 3 4 S34 (27 + 27 + 27))
  rw [cells_from 3 4 S34 (27 + 27) 27, cells_from 3 4 S34 27 27, a_27, a_54]
  exact a_81.symm
theorem same_43 : linesP 4 3 = linesL 4 3 := by decide +kernel
theorem same_53 : linesP 5 3 = linesL 5 3 := by decide +kernel
end K80

set_option Elab.async false
set_option linter.all false
set_option maxRecDepth 100000
set_option maxHeartbeats 0
namespace K80
open PySem PySem.Spec PyProof.Rows L2 DL
/-! ### draws -/
theorem mul_na {a b : Int} {n m : Nat} (ha : a.natAbs < 2 ^ n) (hb : b.natAbs < 2 ^ m) : (a * b).natAbs < 2 ^ (n + m) := by
  rw [Int.natAbs_mul, Nat.pow_add]
  exact Nat.mul_lt_mul'' ha hb
theorem add_na {a b : Int} {n : Nat} (ha : a.natAbs < 2 ^ n) (hb : b.natAbs < 2 ^ n) : (a + b).natAbs < 2 ^ (n + 1) := by
  have := Int.natAbs_add_le a b
  rw [Nat.pow_succ]
  omega
theorem mixed_run {b c d : Int} (hb : b.natAbs < 2 ^ 60) (hc : c.natAbs < 2 ^ 60) (hd : d.natAbs < 2 ^ 60) (st : Store) : ∃ v : Int, F__law_mixed [.int b, .int c, .int d] st = some (.ok (.int v) st) ∧ 0 ≤ v ∧ v < 2147483587 := by
  have m1 := w_mul 60 17 hb (b := 69069) (by decide) (by decide)
  have m2 := w_mul 17 60 (a := 104729) (by decide) hc (by decide)
  have m3 := w_mul 77 60 (mul_na (n := 17) (m := 60) (a := 104729) (by decide) hc) hc (by decide)
  have m4 := w_mul 13 60 (a := 7919) (by decide) hd (by decide)
  have key : gt (F__law_mixed [.int b, .int c, .int d] st) fun r => ∃ v : Int, r = .ok (.int v) st ∧ 0 ≤ v ∧ v < 2147483587 := by
    unfold F__law_mixed
    rw [w_fun]
    refine ⟨rfl, ?_⟩
    unfold m__law_mixed
    simp [N__law_mixed, m1, m2, m3, m4]
    generalize hx : (b * 69069 + 104729 * c * c + 7919 * d + c) % 2147483647 = x
    have hx1 : x.natAbs < 2 ^ 31 := by
      have := Int.emod_nonneg (b * 69069 + 104729 * c * c + 7919 * d + c) (b := 2147483647) (by decide)
      have := Int.emod_lt_of_pos (b * 69069 + 104729 * c * c + 7919 * d + c) (b := 2147483647) (by decide)
      omega
    simp [w_mul 31 31 hx1 hx1 (by decide)]
    generalize hy : (x * x + 40503) % 2147483629 = y
    have hy1 : y.natAbs < 2 ^ 31 := by
      have := Int.emod_nonneg (x * x + 40503) (b := 2147483629) (by decide)
      have := Int.emod_lt_of_pos (x * x + 40503) (b := 2147483629) (by decide)
      omega
    simp [w_mul 31 16 hy1 (b := 48271) (by decide) (by decide)]
    exact ⟨Int.emod_nonneg _ (by decide), Int.emod_lt_of_pos _ (by decide)⟩
  obtain ⟨r, e, v, rfl, h⟩ := key
  exact ⟨v, e, h⟩
def purse (a b c d : Int) : Cel := .lst [.int a, .int b, .int c, .int d]
theorem atI4_0 {x y z w : D} : atI [x, y, z, w] 0 = some x := rfl
theorem atI4_1 {x y z w : D} : atI [x, y, z, w] 1 = some y := rfl
theorem atI4_2 {x y z w : D} : atI [x, y, z, w] 2 = some z := rfl
theorem atI4_3 {x y z w : D} : atI [x, y, z, w] 3 = some w := rfl
theorem ixN4_0 : ixN 4 0 = some 0 := rfl
theorem ixN4_2 : ixN 4 2 = some 2 := rfl
theorem flat_set {st : Store} {n : Nat} {c : Cel} (h : flatSt st = true) (hc : c.flat = true) : flatSt (st.set n c) = true := by
  unfold flatSt at *
  rw [List.all_eq_true] at *
  intro x hx
  rcases List.mem_or_eq_of_mem_set hx with h1 | h1
  · exact h x h1
  · rw [h1]; exact hc
theorem set_same {α : Type} : ∀ {l : List α} {n : Nat} {x : α}, l[n]? = some x → l.set n x = l
  | [], _, _, h => by simp at h
  | a :: l, 0, x, h => by simp at h; subst h; rfl
  | a :: l, n + 1, x, h => by
    rw [List.set_cons_succ, set_same (l := l) (by simpa using h)]
theorem purse_flat {a b c d : Int} : (purse a b c d).flat = true := rfl
theorem draw_run {st : Store} {n : Nat} {a b c d many : Int} (h : st[n]? = some (purse a b c d)) (hf : flatSt st = true) (ha : 0 ≤ a) (hb : b.natAbs < 2 ^ 60) (hc : 0 ≤ c) (hc2 : c < 2 ^ 50) (hd : d.natAbs < 2 ^ 60) (h1 : 1 ≤ many) (hm : many.natAbs < 2 ^ 300) :
    ∃ r a' c' : Int, F__law_draw [.cel n, .int many] st = some (.ok (.int r) (st.set n (purse a' b c' d))) ∧ 0 ≤ r ∧ r < many ∧ 0 ≤ a' ∧ c ≤ c' ∧ c' ≤ c + 12 := by
  have key : gt (F__law_draw [.cel n, .int many] st) fun r => ∃ v a' c' : Int, r = .ok (.int v) (st.set n (purse a' b c' d)) ∧ 0 ≤ v ∧ v < many ∧ 0 ≤ a' ∧ c ≤ c' ∧ c' ≤ c + 12 := by
    unfold F__law_draw
    rw [w_fun]
    refine ⟨rfl, ?_⟩
    unfold m__law_draw
    have hl : many.natAbs.log2 < 9000 := by
      by_cases h0 : many.natAbs = 0
      · rw [h0]; decide
      · have := (Nat.log2_lt h0).mpr hm
        omega
    have hbit := PyProof.Rows.intBits_le hm
    obtain ⟨hn, _⟩ := List.getElem?_eq_some_iff.mp h
    simp only [w_seq, w_ifS, w_cmp, w_cix, w_var, w_c, List.map_cons, List.map_nil, List.cons_append, List.getElem?_cons_zero, gt_some, celOf_cel, inOf_int, h]
    unfold purse at h ⊢
    simp only [clsOf_lst, gt_some, atI4_0, gtD_int]
    by_cases hp : 0 < a
    · simp [hp, N__law_draw, h, atI4_0, ixN4_0, w_fun, hl]
      refine ⟨by omega, _, _, _, ⟨rfl, rfl⟩, Int.emod_nonneg _ (by omega), Int.emod_lt_of_pos _ (by omega), Int.ediv_nonneg ha (by omega), Int.le_refl _, by omega⟩
    · simp [hp, N__law_draw, h, atI4_0, ixN4_0]
      refine ⟨by decide, ?_⟩
      have e0 : (1 + ((Builtin.Int.intBits many : Nat) : Int) / 28) = ((1 + Builtin.Int.intBits many / 28 : Nat) : Int) := by omega
      rw [e0, rng1Of_nat]
      refine ⟨by omega, ?_⟩
      generalize hN : 1 + Builtin.Int.intBits many / 28 = N
      have hN2 : N ≤ 12 := by omega
      refine w_forD _ (fun k ρ s => s = st.set n (purse a b (c + k) d) ∧ ∃ f : Int, f.natAbs < 2 ^ (32 * k) ∧ ∃ o, ρ = [some (.cel n), some (.int many), none, some (.int f), o]) ⟨?_, 0, by decide, none, rfl⟩ ?_ ?_
      · have : purse a b (c + (0 : Nat)) d = purse a b c d := by simp
        rw [this]
        unfold purse
        exact (set_same h).symm
      · rintro k dd ρ s hdd ⟨rfl, f, hfk, o, rfl⟩
        obtain ⟨hk, rfl⟩ := rangeD0_get hdd
        refine ⟨_, gSet_eq, ?_⟩
        have g1 : (st.set n (purse a b (c + k) d))[n]? = some (purse a b (c + k) d) := by rw [List.getElem?_set_self hn]
        have g2 : (st.set n (purse a b (c + (k + 1 : Nat)) d))[n]? = some (purse a b (c + (k + 1 : Nat)) d) := by rw [List.getElem?_set_self hn]
        have e2 : (c + (k : Int) + 1) = c + (k + 1 : Nat) := by omega
        have mm := w_mul (32 * k) 31 hfk (b := 2147483587) (by decide) (by omega)
        obtain ⟨v, ev, v1, v2⟩ := mixed_run hb (c := c + (k + 1 : Nat)) (by omega) hd (st.set n (purse a b (c + (k + 1 : Nat)) d))
        have hfl : flatSt (st.set n (purse a b (c + (k + 1 : Nat)) d)) = true := flat_set hf rfl
        simp only [w_seq, w_cset, w_op, w_cix, w_var, w_c, List.getElem?_cons_zero, List.getElem?_cons_succ, List.set_cons_succ, List.set_cons_zero, gt_some, celOf_cel, inOf_int, g1]
        unfold purse
        simp only [clsOf_lst, gt_some, atI4_2, addI_int, List.length_cons, List.length_nil]
        show gt (ixN 4 2) _
        rw [ixN4_2]
        simp only [gt_some, List.set_cons_succ, List.set_cons_zero, List.set_set, e2, nxK_nx]
        refine ⟨rfl, ?_⟩
        change gt (cSeq _ _ _ (st.set n (purse a b (c + (k + 1 : Nat)) d))) _
        have mm' := gt_iff (Q := fun _ => True) mm
        simp only [w_seq, w_set, w_op, w_cix, w_callA, w_cons, w_nil, w_var, w_c, List.getElem?_cons_zero, List.getElem?_cons_succ, List.set_cons_succ, List.set_cons_zero, gt_some, celOf_cel, inOf_int, g2, mm]
        unfold purse at ev hfl g2 ⊢
        simp only [clsOf_lst, gt_some, atI4_1, atI4_2, atI4_3, ev, okK_ok, hfl, addI_int, nxK_nx, w_skip, trnK_nx, List.all_cons, List.all_nil, atom_int, true_and, Bool.and_self]
        refine ⟨f * 2147483587 + v, ?_, _, rfl⟩
        have h1 := mul_na hfk (b := 2147483587) (m := 31) (by decide)
        have h2 := Int.natAbs_add_le (f * 2147483587) v
        rw [show 32 * (k + 1) = (32 * k + 31) + 1 by omega, Nat.pow_succ]
        have h3 : 2 ^ 31 ≤ 2 ^ (32 * k + 31) := Nat.pow_le_pow_right (by decide) (by omega)
        omega
      · rintro ρ s ⟨rfl, f, _, o, rfl⟩
        rw [rangeD_length]
        simp only [nxK_nx, w_seq, w_ret, w_op, w_fn, w_cons, w_nil, w_var, List.getElem?_cons_zero, List.getElem?_cons_succ, gt_some, int1D_int, modD_int, nxK_rt, frK_rt]
        exact ⟨by omega, _, a, _, rfl, Int.emod_nonneg _ (by omega), Int.emod_lt_of_pos _ (by omega), ha, by omega, by omega⟩
  obtain ⟨r, e, v, a', c', rfl, hh⟩ := key
  exact ⟨v, a', c', e, hh⟩
end K80

set_option Elab.async false
set_option linter.all false
set_option maxRecDepth 100000
set_option maxHeartbeats 0
namespace K80
open PySem PySem.Spec PyProof.Rows L2 DL
/-- a store of purses from which at most m draws were taken -/
def GP (m : Int) (p : Cel) : Prop := ∃ a b c d : Int, p = purse a b c d ∧ 0 ≤ a ∧ b.natAbs < 2 ^ 60 ∧ 0 ≤ c ∧ c ≤ m ∧ d.natAbs < 2 ^ 60
def GS (m : Int) (st : Store) : Prop := ∀ p, p ∈ st → GP m p
theorem GS.flat {m : Int} {st : Store} (h : GS m st) : flatSt st = true := by
  unfold flatSt
  rw [List.all_eq_true]
  intro p hp
  obtain ⟨a, b, c, d, rfl, _⟩ := h p hp
  rfl
theorem GS.mono {m k : Int} {st : Store} (h : GS m st) (hk : m ≤ k) : GS k st := fun p hp => by
  obtain ⟨a, b, c, d, e, h1, h2, h3, h4, h5⟩ := h p hp
  exact ⟨a, b, c, d, e, h1, h2, h3, by omega, h5⟩
theorem draw_ok {st : Store} {n : Nat} {many m : Int} (g : GS m st) (hn : n < st.length) (hm : m < 2 ^ 49) (h1 : 1 ≤ many) (h2 : many.natAbs < 2 ^ 300) :
    ∃ (r : Int) (st' : Store), F__law_draw [.cel n, .int many] st = some (.ok (.int r) st') ∧ 0 ≤ r ∧ r < many ∧ GS (m + 12) st' ∧ st'.length = st.length := by
  obtain ⟨a, b, c, d, e, g1, g2, g3, g4, g5⟩ := g st[n] (List.getElem_mem hn)
  obtain ⟨r, a', c', e1, q1, q2, q3, q4, q5⟩ := draw_run (st := st) (n := n) (by rw [List.getElem?_eq_getElem hn, e]) g.flat g1 g2 g3 (by omega) g5 h1 h2
  refine ⟨r, _, e1, q1, q2, fun p hp => ?_, List.length_set ..⟩
  rcases List.mem_or_eq_of_mem_set hp with h | h
  · exact (g.mono (by omega)) p h
  · exact ⟨a', b, c', d, h, q3, g2, by omega, by omega, g5⟩
theorem ints_map : ∀ xs : List Int, D.ints (xs.map D.int) = some xs
  | [] => rfl
  | x :: xs => by
    rw [List.map_cons]
    unfold D.ints
    rw [ints_map xs]
theorem sumD_ints (xs : List Int) : sumD [.lst (xs.map D.int)] = some (.int xs.sum) := by
  unfold sumD
  dsimp only
  rw [ints_map]
theorem cut_map (xs : List Int) (lo hi : Option Int) : ∃ ys : List Int, DL.cutD (xs.map D.int) lo hi = ys.map D.int := by
  unfold DL.cutD
  rw [← List.map_drop, ← List.map_take]
  exact ⟨_, rfl⟩
theorem purse_ok {ns : List Int} {at_ m : Int} {st : Store} (g : GS m st) (hm : 0 ≤ m) (ha : at_.natAbs < 2 ^ 60) : ∃ st', F__law_purse [.fro (ns.map D.int), .int at_] st = some (.ok (.cel st.length) st') ∧ GS m st' ∧ st'.length = st.length + 1 := by
  have key : gt (F__law_purse [.fro (ns.map D.int), .int at_] st) fun r => ∃ st', r = .ok (.cel st.length) st' ∧ GS m st' ∧ st'.length = st.length + 1 := by
    unfold F__law_purse
    rw [w_fun]
    refine ⟨rfl, ?_⟩
    unfold m__law_purse
    have sl : ∀ lo hi, slD (.fro (ns.map D.int)) lo hi = some (.lst (DL.cutD (ns.map D.int) lo hi)) := fun _ _ => rfl
    obtain ⟨ys, hy⟩ := cut_map ns (some at_) (some (at_ + 1))
    have p1 : powD (.int 10) (.int 18) = some (.int (10 ^ 18)) := rfl
    have p2 : powD (.int 10) (.int 60) = some (.int (10 ^ 60)) := by kernel_rfl
    have p3 : powD (.int (10 ^ 60)) (.int 8) = some (.int ((10 ^ 60) ^ 8)) := by kernel_rfl
    simp only [N__law_purse, w_seq, w_set, w_fn, w_cons, w_sl, w_os, w_op, w_var, w_c, w_nil, w_ret, w_cnew, List.map_cons, List.map_nil, List.cons_append, List.nil_append, List.length_cons, List.length_nil, List.getElem?_cons_zero, List.getElem?_cons_succ, List.set_cons_zero, List.set_cons_succ, gt_some, inOf_int, sl, hy, sumD_ints, nxK_nx, addI_int, subD_int, max2D_int, int1D_int, p1, p2, p3, modD_int, List.replicate_succ, List.replicate_zero, Nat.reduceAdd, Nat.reduceSub, Nat.sub_self]
    refine ⟨by decide, by decide, ⟨?_, rfl⟩, ?_⟩
    · decide
    · simp only [nxK_rt, frK_rt]
      refine ⟨_, rfl, ?_, by rw [List.length_append]; rfl⟩
      intro p hp
      rcases List.mem_append.mp hp with hp | hp
      · exact g p hp
      · rw [List.mem_singleton.mp hp]
        refine ⟨_, _, _, _, rfl, Int.emod_nonneg _ (by decide), ?_, Int.le_refl _, hm, ha⟩
        have h1 := Int.emod_nonneg ys.sum (b := 2147483629) (by decide)
        have h2 := Int.emod_lt_of_pos ys.sum (b := 2147483629) (by decide)
        omega
  obtain ⟨r, e, st', rfl, hh⟩ := key
  exact ⟨st', e, hh⟩
theorem purses_ok (ns : List Int) : ∃ (k : Nat) (st : Store), F__law_purses [.fro (ns.map D.int), .int 3] [] = some (.ok (.lst ((List.range k).map D.cel)) st) ∧ GS 0 st ∧ st.length = k ∧ k ≤ 3 := by
  have key : gt (F__law_purses [.fro (ns.map D.int), .int 3] []) fun r => ∃ (k : Nat) (st : Store), r = .ok (.lst ((List.range k).map D.cel)) st ∧ GS 0 st ∧ st.length = k ∧ k ≤ 3 := by
    unfold F__law_purses
    rw [w_fun]
    refine ⟨rfl, ?_⟩
    unfold m__law_purses
    simp only [N__law_purses, w_seq, w_ret, w_lc, w_rng1, w_fn, w_cons, w_var, w_c, w_nil, List.map_cons, List.map_nil, List.cons_append, List.nil_append, List.length_cons, List.length_nil, List.getElem?_cons_zero, List.getElem?_cons_succ, gt_some, lenD_fro, min2D_int, max2D_int, List.length_map]
    obtain ⟨k, hk, e⟩ : ∃ k : Nat, k ≤ 3 ∧ (if (if (ns.length : Int) < 3 then (ns.length : Int) else 3) > 1 then (if (ns.length : Int) < 3 then (ns.length : Int) else 3) else 1) = (k : Int) := by
      by_cases h : (ns.length : Int) < 3
      · rw [if_pos h]
        by_cases h' : (ns.length : Int) > 1
        · exact ⟨ns.length, by omega, by rw [if_pos h']⟩
        · exact ⟨1, by omega, by rw [if_neg h']; rfl⟩
      · rw [if_neg h]
        exact ⟨3, by omega, rfl⟩
    rw [e, rng1Of_nat]
    refine ⟨by omega, ?_⟩
    refine w_lcD _ (fun j acc s => acc = (List.range j).map D.cel ∧ s.length = j ∧ GS 0 s) ⟨rfl, rfl, fun _ h => nomatch h⟩ ?_ ?_
    · rintro j d acc s hd ⟨rfl, hl, g⟩
      obtain ⟨hj, rfl⟩ := rangeD0_get hd
      refine ⟨_, gSet_eq, ?_⟩
      obtain ⟨st', e1, g', hl'⟩ := purse_ok (ns := ns) (at_ := j) g (Int.le_refl _) (by omega)
      simp only [cYes, gt_some, if_true, w_call, w_cons, w_var, w_nil, wipeE, List.replicate_succ, List.replicate_zero, Nat.reduceAdd, Nat.reduceSub, List.set_cons_zero, List.set_cons_succ, List.getElem?_cons_zero, List.getElem?_cons_succ, e1, okK_ok, g'.flat, true_and]
      refine ⟨by rw [List.length_map, List.length_range, sizeLine_eq]; omega, ?_, by omega, g'⟩
      rw [List.range_succ, List.map_append, hl]; rfl
    · rintro acc s ⟨rfl, hl, g⟩
      rw [rangeD_length] at *
      simp only [nxK_rt, frK_rt]
      exact ⟨k, s, rfl, g, hl, hk⟩
  obtain ⟨r, e, k, st, rfl, hh⟩ := key
  exact ⟨k, st, e, hh⟩
end K80

set_option Elab.async false
set_option linter.all false
set_option maxRecDepth 100000
set_option maxHeartbeats 0
namespace K80
open PySem PySem.Spec PyProof.Rows L2 DL
theorem one_of_ok {st : Store} {n : Nat} {m : Int} {ds : List D} (g : GS m st) (hn : n < st.length) (hm : m < 2 ^ 49) (h1 : 1 ≤ ds.length) (h2 : ds.length < 2 ^ 60) :
    ∃ d st', d ∈ ds ∧ F__law_one_of [.cel n, .lst ds] st = some (.ok d st') ∧ GS (m + 12) st' ∧ st'.length = st.length := by
  obtain ⟨r, st', e, r1, r2, g', hl⟩ := draw_ok (many := ds.length) g hn hm (by omega) (by
    have : (2 : Nat) ^ 60 ≤ 2 ^ 300 := Nat.pow_le_pow_right (by decide) (by decide)
    omega)
  obtain ⟨k, rfl⟩ := Int.eq_ofNat_of_zero_le r1
  have hk : k < ds.length := by omega
  have hat : atI ds (k : Int) = some ds[k] := by
    rw [atI_nat (j := k) (List.getElem?_eq_getElem hk)]
  have key : gt (F__law_one_of [.cel n, .lst ds] st) fun r => r = .ok ds[k] st' := by
    unfold F__law_one_of
    rw [w_fun]
    refine ⟨rfl, ?_⟩
    unfold m__law_one_of
    simp [N__law_one_of, e, g.flat, g'.flat, hat]
  obtain ⟨r, e', rfl⟩ := key
  exact ⟨ds[k], st', List.getElem_mem hk, e', g', hl⟩
def boards : List (Nat × Nat) := [(2, 1), (2, 2), (2, 3), (2, 4), (3, 1), (3, 2), (3, 3), (3, 4), (4, 2), (4, 3), (5, 1), (5, 2), (5, 3)]
theorem board_ok {st : Store} {n : Nat} {m : Int} (g : GS m st) (hn : n < st.length) (hm : m < 2 ^ 49) :
    ∃ (s w : Nat) (st' : Store), (s, w) ∈ boards ∧ F__law_board [.cel n] st = some (.ok (.tup [.int s, .int w]) st') ∧ GS (m + 12) st' ∧ st'.length = st.length := by
  obtain ⟨d, st', hd, e, g', hl⟩ := one_of_ok (ds := boards.map fun p => .tup [.int p.1, .int p.2]) g hn hm (by decide) (by decide)
  obtain ⟨p, hp, rfl⟩ := List.mem_map.mp hd
  obtain ⟨s, w⟩ := p
  refine ⟨s, w, st', hp, ?_, g', hl⟩
  have hz : 13 ≤ sizeLine := by decide
  have hz2 : 2 ≤ sizeLine := by decide
  have e : F__law_one_of [.cel n, .lst [.tup [.int 2, .int 1], .tup [.int 2, .int 2], .tup [.int 2, .int 3], .tup [.int 2, .int 4], .tup [.int 3, .int 1], .tup [.int 3, .int 2], .tup [.int 3, .int 3], .tup [.int 3, .int 4], .tup [.int 4, .int 2], .tup [.int 4, .int 3], .tup [.int 5, .int 1], .tup [.int 5, .int 2], .tup [.int 5, .int 3]]] st = some (.ok (.tup [.int s, .int w]) st') := e
  have key : gt (F__law_board [.cel n] st) fun r => r = .ok (.tup [.int s, .int w]) st' := by
    unfold F__law_board
    rw [w_fun]
    refine ⟨rfl, ?_⟩
    unfold m__law_board
    simp [N__law_board, e, g'.flat, hz, hz2]
  obtain ⟨r, e', rfl⟩ := key
  exact e'
theorem is_whole_int (i : Int) : F_is_whole [.int i] [] = some (.ok (.bl true) []) := rfl
theorem is_count_int {i l : Int} (h0 : 0 ≤ l) (h : l ≤ i) : F_is_count [.int i, .int l] [] = some (.ok (.bl true) []) := by
  have key : gt (F_is_count [.int i, .int l] []) fun r => r = .ok (.bl true) [] := by
    unfold F_is_count
    rw [w_fun]
    refine ⟨rfl, ?_⟩
    unfold m_is_count
    simp [N_is_count, is_whole_int]
    split <;> omega
  obtain ⟨r, e', rfl⟩ := key
  exact e'
theorem check_board_ok {side ways : Int} (h : 2 ≤ side) (h' : 1 ≤ ways) : F_check_board [.int side, .int ways] [] = some (.ok .non []) := by
  have key : gt (F_check_board [.int side, .int ways] []) fun r => r = .ok .non [] := by
    unfold F_check_board
    rw [w_fun]
    refine ⟨rfl, ?_⟩
    unfold m_check_board
    simp [N_check_board, is_count_int (l := 2) (by decide) h, is_count_int (l := 1) (by decide) h']
  obtain ⟨r, e', rfl⟩ := key
  exact e'
theorem check_cell_ok {side : Int} {w : Nat} {cell : Int} (h : 2 ≤ side) (hs : side.natAbs < 2 ^ 21) (h' : 1 ≤ w) (hw : w ≤ 1000) (h0 : 0 ≤ cell) (h1 : cell < side ^ w) : F_check_cell [.int side, .int w, .int cell] [] = some (.ok .non []) := by
  have key : gt (F_check_cell [.int side, .int w, .int cell] []) fun r => r = .ok .non [] := by
    unfold F_check_cell
    rw [w_fun]
    refine ⟨rfl, ?_⟩
    unfold m_check_cell
    have nl : ¬ side ^ w ≤ cell := by omega
    simp [N_check_cell, check_board_ok h (show 1 ≤ (w : Int) by omega), is_count_int (l := 0) (by decide) h0, power_run hs hw, nl]
  obtain ⟨r, e', rfl⟩ := key
  exact e'
theorem cell_counts_ok {side : Int} {w : Nat} {cell : Int} (h : 2 ≤ side) (hs : side.natAbs < 2 ^ 21) (h' : 1 ≤ w) (hw : w ≤ 1000) (h0 : 0 ≤ cell) (h1 : cell < side ^ w) : F_cell_counts [.int side, .int w, .int cell] [] = some (.ok (intsD (digR side cell w).reverse) []) := by
  have key : gt (F_cell_counts [.int side, .int w, .int cell] []) fun r => r = .ok (intsD (digR side cell w).reverse) [] := by
    unfold F_cell_counts
    rw [w_fun]
    refine ⟨rfl, ?_⟩
    unfold m_cell_counts
    have hl : side.natAbs.log2 < 9000 := by
      have := (Nat.log2_lt (by omega)).mpr hs
      omega
    simp [N_cell_counts, check_cell_ok h hs h' hw h0 h1, counts_run (n := cell) (show 0 < side by omega) hl (show w ≤ 10000 by omega)]
  obtain ⟨r, e', rfl⟩ := key
  exact e'
theorem how_many_ok {side : Int} {w : Nat} (h : 2 ≤ side) (hs : (side + 2).natAbs < 2 ^ 21) (h' : 1 ≤ w) (hw : w ≤ 1000) : F_how_many_board_lines [.int side, .int w] [] = some (.ok (.int (((side + 2) ^ w - side ^ w) / 2)) []) := by
  have key : gt (F_how_many_board_lines [.int side, .int w] []) fun r => r = .ok (.int (((side + 2) ^ w - side ^ w) / 2)) [] := by
    unfold F_how_many_board_lines
    rw [w_fun]
    refine ⟨rfl, ?_⟩
    unfold m_how_many_board_lines
    have hl : Nat.log2 2 < 9000 := by decide
    simp [N_how_many_board_lines, check_board_ok h (show 1 ≤ (w : Int) by omega), power_run hs hw, power_run (a := side) (n := w) (by omega) hw, hl]
  obtain ⟨r, e', rfl⟩ := key
  exact e'
theorem board_lines_ok {s w : Nat} (h : 2 ≤ s) (hs : s ≤ 8) (h' : 1 ≤ w) (hw : w ≤ 100) (hp : (s + 2) ^ w ≤ 100000) : F_board_lines [.int s, .int w] [] = some (.ok (.lst ((linesP s w).map intsD)) []) := by
  have key : gt (F_board_lines [.int s, .int w] []) fun r => r = .ok (.lst ((linesP s w).map intsD)) [] := by
    unfold F_board_lines
    rw [w_fun]
    refine ⟨rfl, ?_⟩
    unfold m_board_lines
    simp [N_board_lines, check_board_ok (show 2 ≤ (s : Int) by omega) (show 1 ≤ (w : Int) by omega), lines_there_run hs hw hp]
  obtain ⟨r, e', rfl⟩ := key
  exact e'
end K80

set_option Elab.async false
set_option linter.all false
set_option maxRecDepth 100000
set_option maxHeartbeats 0
namespace K80
open PySem PySem.Spec PyProof.Rows L2 DL
theorem linesP_row {s w : Nat} {l : List Int} (h : l ∈ linesP s w) : l.length = s := by
  unfold linesP at h
  rw [mem_isort] at h
  unfold linesR at h
  obtain ⟨k, _, e⟩ := List.mem_filterMap.mp h
  unfold lineAt at e
  split at e
  · split at e
    · cases e
      unfold lineP
      rw [isort_len, lineR_len]
    · cases e
  · cases e
structure BF (s w : Nat) : Prop where
  s2 : 2 ≤ s
  s5 : s ≤ 5
  w1 : 1 ≤ w
  w4 : w ≤ 4
  pw : (s + 2) ^ w ≤ 1000
  pw1 : s ^ w ≤ 1000
  same : linesP s w = linesL s w
  len : ((linesP s w).length : Int) = (((s : Int) + 2) ^ w - (s : Int) ^ w) / 2
  ne : ∃ l r, linesP s w = l :: r
  st : F__law_steps [.int w] [] = some (.ok (.lst ((steps' w).map intsD)) [])
  ss : (steps' w).length ≤ 90
  sv : ∀ r, r ∈ steps' w → ∀ t, t ∈ r → t = 0 ∨ t = 1 ∨ t = -1
theorem ne_of_len {α : Type} {l : List α} (h : l.length ≠ 0) : ∃ a r, l = a :: r := by
  cases l with
  | nil => exact absurd rfl h
  | cons a r => exact ⟨a, r, rfl⟩
theorem sv_of {w : Nat} (h : ((steps' w).all fun r => r.all fun t => decide (t = 0 ∨ t = 1 ∨ t = -1)) = true) : ∀ r, r ∈ steps' w → ∀ t, t ∈ r → t = 0 ∨ t = 1 ∨ t = -1 := fun r hr t ht => of_decide_eq_true (List.all_eq_true.mp (List.all_eq_true.mp h r hr) t ht)
theorem sv_1 : ∀ r, r ∈ steps' 1 → ∀ t, t ∈ r → t = 0 ∨ t = 1 ∨ t = -1 := sv_of (by decide +kernel)
theorem sv_2 : ∀ r, r ∈ steps' 2 → ∀ t, t ∈ r → t = 0 ∨ t = 1 ∨ t = -1 := sv_of (by decide +kernel)
theorem sv_3 : ∀ r, r ∈ steps' 3 → ∀ t, t ∈ r → t = 0 ∨ t = 1 ∨ t = -1 := sv_of (by decide +kernel)
theorem sv_4 : ∀ r, r ∈ steps' 4 → ∀ t, t ∈ r → t = 0 ∨ t = 1 ∨ t = -1 := sv_of (by decide +kernel)
theorem bf_of {s w : Nat} {n : Nat} (h : 2 ≤ s ∧ s ≤ 5 ∧ 1 ≤ w ∧ w ≤ 4 ∧ (s + 2) ^ w ≤ 1000 ∧ s ^ w ≤ 1000 ∧ (n : Int) = (((s : Int) + 2) ^ w - (s : Int) ^ w) / 2 ∧ n ≠ 0) (same : linesP s w = linesL s w) (hl : (linesP s w).length = n)
    (st : F__law_steps [.int w] [] = some (.ok (.lst ((steps' w).map intsD)) [])) (ss : (steps' w).length ≤ 90) (sv : ∀ r, r ∈ steps' w → ∀ t, t ∈ r → t = 0 ∨ t = 1 ∨ t = -1) : BF s w := by
  obtain ⟨h1, h2, h3, h4, h5, h6, h7, h8⟩ := h
  exact ⟨h1, h2, h3, h4, h5, h6, same, by rw [hl]; exact h7, ne_of_len (by rw [hl]; exact h8), st, ss, sv⟩
theorem bf_21 : BF 2 1 := bf_of (n := 1) (by decide +kernel) same_21 (by decide +kernel) steps_1 (by decide +kernel) sv_1
theorem bf_22 : BF 2 2 := bf_of (n := 6) (by decide +kernel) same_22 (by decide +kernel) steps_2 (by decide +kernel) sv_2
theorem bf_23 : BF 2 3 := bf_of (n := 28) (by decide +kernel) same_23 (by decide +kernel) steps_3 (by decide +kernel) sv_3
theorem bf_24 : BF 2 4 := bf_of (n := 120) (by decide +kernel) same_24 (by decide +kernel) steps_4 (by decide +kernel) sv_4
theorem bf_31 : BF 3 1 := bf_of (n := 1) (by decide +kernel) same_31 (by decide +kernel) steps_1 (by decide +kernel) sv_1
theorem bf_32 : BF 3 2 := bf_of (n := 8) (by decide +kernel) same_32 (by decide +kernel) steps_2 (by decide +kernel) sv_2
theorem bf_33 : BF 3 3 := bf_of (n := 49) (by decide +kernel) same_33 (by decide +kernel) steps_3 (by decide +kernel) sv_3
theorem bf_34 : BF 3 4 := bf_of (n := 272) (by decide +kernel) same_34 (by rw [p_81]; decide +kernel) steps_4 (by decide +kernel) sv_4
theorem bf_42 : BF 4 2 := bf_of (n := 10) (by decide +kernel) same_42 (by decide +kernel) steps_2 (by decide +kernel) sv_2
theorem bf_43 : BF 4 3 := bf_of (n := 76) (by decide +kernel) same_43 (by decide +kernel) steps_3 (by decide +kernel) sv_3
theorem bf_51 : BF 5 1 := bf_of (n := 1) (by decide +kernel) same_51 (by decide +kernel) steps_1 (by decide +kernel) sv_1
theorem bf_52 : BF 5 2 := bf_of (n := 12) (by decide +kernel) same_52 (by decide +kernel) steps_2 (by decide +kernel) sv_2
theorem bf_53 : BF 5 3 := bf_of (n := 109) (by decide +kernel) same_53 (by decide +kernel) steps_3 (by decide +kernel) sv_3
theorem bf_all {s w : Nat} (h : (s, w) ∈ boards) : BF s w := by
  unfold boards at h
  simp only [List.mem_cons, List.not_mem_nil, or_false, Prod.mk.injEq] at h
  rcases h with ⟨rfl, rfl⟩ | ⟨rfl, rfl⟩ | ⟨rfl, rfl⟩ | ⟨rfl, rfl⟩ | ⟨rfl, rfl⟩ | ⟨rfl, rfl⟩ | ⟨rfl, rfl⟩ | ⟨rfl, rfl⟩ | ⟨rfl, rfl⟩ | ⟨rfl, rfl⟩ | ⟨rfl, rfl⟩ | ⟨rfl, rfl⟩ | ⟨rfl, rfl⟩
  · exact bf_21
  · exact bf_22
  · exact bf_23
  · exact bf_24
  · exact bf_31
  · exact bf_32
  · exact bf_33
  · exact bf_34
  · exact bf_42
  · exact bf_43
  · exact bf_51
  · exact bf_52
  · exact bf_53
theorem law_lines_ok {s w : Nat} (b : BF s w) : F__law_lines [.int s, .int w] [] = some (.ok (.lst ((linesP s w).map intsD)) []) := by
  rw [b.same]
  have h2 := b.s2
  have h5 := b.s5
  have h4 := b.w4
  have hp := b.pw1
  have hs := b.ss
  exact law_lines_run (ss := steps' w) (by omega) (by omega) (by omega) b.st b.sv (Nat.lt_of_le_of_lt (Nat.mul_le_mul hp hs) (by decide)) (by omega) (by omega)
def linesAt (s w : Nat) (cell : Int) : List (List Int) := (linesP s w).filter fun l => decide (cell ∈ l)
theorem linesP_len (s w : Nat) : (linesP s w).length ≤ (s + 2) ^ w := by
  unfold linesP
  rw [isort_len]
  exact linesR_len s w _
theorem filterMap_if {α β : Type} (p : α → Bool) (f : α → β) (l : List α) : l.filterMap (fun x => if p x = true then some (f x) else none) = (l.filter p).map f := by
  induction l with
  | nil => rfl
  | cons x l ih =>
    rw [List.filterMap_cons]
    cases hp : p x with
    | true => simp [hp, ih]
    | false => simp [hp, ih]
/-- the lines that have a cell -/
def atP (cell : Int) (l : List Int) : Option D := if decide (cell ∈ l) = true then some (intsD l) else none
theorem atP_map (s w : Nat) (cell : Int) : (linesP s w).filterMap (atP cell) = (linesAt s w cell).map intsD := filterMap_if _ _ _
theorem lines_at_ok {s w : Nat} (b : BF s w) {cell : Int} (h0 : 0 ≤ cell) (h1 : cell < (s : Int) ^ w) : F_lines_at [.int s, .int w, .int cell] [] = some (.ok (.lst ((linesAt s w cell).map intsD)) []) := by
  have h2 := b.s2
  have h5 := b.s5
  have h4 := b.w4
  have hp := b.pw
  have hw1 := b.w1
  have hl := linesP_len s w
  have key : gt (F_lines_at [.int s, .int w, .int cell] []) fun r => r = .ok (.lst ((linesAt s w cell).map intsD)) [] := by
    unfold F_lines_at
    rw [w_fun]
    refine ⟨rfl, ?_⟩
    unfold m_lines_at
    have c := check_cell_ok (side := s) (w := w) (cell := cell) (by omega) (show (s : Int).natAbs < 2 ^ 21 by omega) hw1 (by omega) h0 h1
    have l := lines_there_run (s := s) (w := w) (by omega) (by omega) (by omega)
    simp [N_lines_at, c, l, wipeE]
    refine w_lcM (linesP s w) intsD (atP cell) (by rw [sizeLine_eq]; omega) ?_ (by simp [atP_map])
    intro x _
    refine ⟨_, gSet_eq, ?_⟩
    simp [inD_ints, atP]
    by_cases hx : cell ∈ x
    · simp [hx]
    · simp [hx]
  obtain ⟨r, e', rfl⟩ := key
  exact e'
/-- one of the four draws -/
def turnG : SemS := (cSeq (cSet 7 (cCallA F__law_draw (cCons (cVar 0) (cCons (cCallA F__law_power (cCons (cVar 1) (cCons (cVar 2) cNil))) cNil)))) (cSeq (cSet 8 (cCallA F__law_figures (cCons (cVar 1) (cCons (cVar 2) (cCons (cVar 7) cNil))))) (cSeq (cSet 9 (cLst (cCons (cCallA F_cell_counts (cCons (cVar 1) (cCons (cVar 2) (cCons (cVar 7) cNil)))) (cCons (cCallA F_cell_counts (cPerm 3 [2, 1, 0] (cCons (cVar 7) (cCons (cVar 2) (cCons (cVar 1) cNil))))) cNil)))) (cSeq (cSet 10 (cLc [11] (cSeqI (cVar 3)) (gSet 11) (cCmp inD (cVar 7) (cVar 11)) (cVar 11))) (cSeq (cSet 12 (cLst (cCons (cCallA F_lines_at (cCons (cVar 1) (cCons (cVar 2) (cCons (cVar 7) cNil)))) (cCons (cCallA F_lines_at (cPerm 3 [2, 1, 0] (cCons (cVar 7) (cCons (cVar 2) (cCons (cVar 1) cNil))))) cNil)))) (cSeq (cIfS (cNot (cIsB (cCall (F__law_exact 8) (cCons (cLst (cCons (cLst (cCons (cVar 8) (cCons (cVar 8) cNil))) (cCons (cLst (cCons (cVar 10) (cCons (cVar 10) cNil))) cNil))) (cCons (cLst (cCons (cVar 9) (cCons (cVar 12) cNil))) cNil))))) (cSeq (cRet (cC (.bl false))) cSkip) cSkip) (cSpoil 9 [[0]] 1 (cSpoil 12 [[0]] 1 cSkip))))))))
theorem nice_ints {n : Nat} {xs : List Int} (h : xs.length ≤ 1000000) : nice (n + 2) (intsD xs) := by
  refine ⟨by rw [List.length_map]; exact h, fun d hd => ?_⟩
  obtain ⟨x, _, rfl⟩ := List.mem_map.mp hd
  trivial
theorem nice_rows {n : Nat} {xs : List (List Int)} (h : xs.length ≤ 1000000) (hr : ∀ x, x ∈ xs → x.length ≤ 1000000) : nice (n + 3) (.lst (xs.map intsD)) := by
  refine ⟨by rw [List.length_map]; exact h, fun d hd => ?_⟩
  obtain ⟨x, hx, rfl⟩ := List.mem_map.mp hd
  exact nice_ints (hr x hx)
theorem nice_2 {n : Nat} {x y : D} (h1 : nice n x) (h2 : nice n y) : nice (n + 1) (.lst [x, y]) := by
  refine ⟨by simp, fun d hd => ?_⟩
  simp only [List.mem_cons, List.not_mem_nil, or_false] at hd
  rcases hd with rfl | rfl
  · exact h1
  · exact h2
theorem turn_ok {s w : Nat} (b : BF s w) {n : Nat} {m : Int} {st : Store} (g : GS m st) (hn : n < st.length) (hm : m < 2 ^ 49) {o4 o5 o6 o7 o8 o9 o10 o11 o12 : Option D} (Q : SR → Prop)
    (hq : ∀ st' p7 p8 p9 p10 p11 p12, GS (m + 12) st' → st'.length = st.length → Q (.nx [some (.cel n), some (.int s), some (.int w), some (.lst ((linesP s w).map intsD)), o4, o5, o6, p7, p8, p9, p10, p11, p12] st')) :
    gt (turnG [some (.cel n), some (.int s), some (.int w), some (.lst ((linesP s w).map intsD)), o4, o5, o6, o7, o8, o9, o10, o11, o12] st) Q := by
  have h2 := b.s2
  have h5 := b.s5
  have h4 := b.w4
  have hp := b.pw
  have hp1 := b.pw1
  have hw1 := b.w1
  have hl := linesP_len s w
  have hsa : (s : Int).natAbs < 2 ^ 21 := by omega
  obtain ⟨cell, st', e1, c0, c1, g', hl'⟩ := draw_ok (many := ((s ^ w : Nat) : Int)) g hn hm (by
    have : 0 < s ^ w := Nat.pow_pos (by omega)
    omega) (by
    have : (1000 : Nat) < 2 ^ 300 := by decide +kernel
    omega)
  have epow : (s : Int) ^ w = ((s ^ w : Nat) : Int) := by rw [Int.natCast_pow]
  have e2 := lawpower_run (a := s) (n := w) hsa (by omega) st
  rw [epow] at e2
  have e3 := figures_run (b := s) (n := cell) (w := w) (by omega) (by
    have : (s : Int).natAbs = s := rfl
    rw [this]
    exact Nat.lt_of_le_of_lt (Nat.log2_le_self _) (by omega)) (by omega) st'
  have c1' : cell < (s : Int) ^ w := by rw [epow]; exact c1
  have e4 := lift pu_F_cell_counts (cell_counts_ok (side := s) (w := w) (cell := cell) (by omega) hsa hw1 (by omega) c0 c1') g'.flat
  have e5 := lift pu_F_lines_at (lines_at_ok b c0 c1') g'.flat
  have hz : 2 ≤ sizeLine := by decide
  unfold turnG
  simp only [w_seq, w_set, w_callA, w_cons, w_nil, w_var, w_lst, w_perm, List.getElem?_cons_zero, List.getElem?_cons_succ, List.set_cons_zero, List.set_cons_succ, gt_some, e2, okK_ok, g.flat, true_and, List.all_cons, List.all_nil, atom_int, atom_cel, Bool.and_self, e1, g'.flat, nxK_nx, e3, e4, List.length_cons, List.length_nil, w_lc, w_seqI, itOf_lst, perm210, Nat.zero_add, Nat.reduceAdd, hz]
  have hlw : (linesAt s w cell).length ≤ 1000000 := by
    have := List.length_filter_le (fun l => decide (cell ∈ l)) (linesP s w)
    unfold linesAt
    omega
  have hdig : (digR (s : Int) cell w).reverse.length = w := by rw [List.length_reverse, digR_len]
  refine w_lcM (linesP s w) intsD (atP cell) (by rw [sizeLine_eq]; omega) ?_ ?_
  · intro x _
    refine ⟨_, gSet_eq, ?_⟩
    simp only [w_cmp, w_var, wipeE, List.getElem?_cons_zero, List.getElem?_cons_succ, List.set_cons_zero, List.set_cons_succ, gt_some, inD_ints, atP]
    by_cases hx : cell ∈ x
    · simp [hx]
    · simp [hx]
  · rw [atP_map]
    have ex : F__law_exact 8 [.lst [.lst [intsD (digR (s : Int) cell w).reverse, intsD (digR (s : Int) cell w).reverse], .lst [.lst ((linesAt s w cell).map intsD), .lst ((linesAt s w cell).map intsD)]], .lst [.lst [intsD (digR (s : Int) cell w).reverse, intsD (digR (s : Int) cell w).reverse], .lst [.lst ((linesAt s w cell).map intsD), .lst ((linesAt s w cell).map intsD)]]] st' = some (.ok (.bl true) st') :=
      lift (pu_F__law_exact 8) (exact_refl 8 _ (nice_2 (nice_2 (nice_ints (by omega)) (nice_ints (by omega))) (nice_2 (nice_rows hlw fun x hx => by
        rw [linesP_row ((List.mem_filter.mp hx).1)]; omega) (nice_rows hlw fun x hx => by
        rw [linesP_row ((List.mem_filter.mp hx).1)]; omega)))) g'.flat
    simp only [g'.flat, true_and, e5, gt_some, okK_ok, w_ifS, w_not, w_isB, w_call, w_cons, w_lst, w_var, w_nil, List.getElem?_cons_zero, List.getElem?_cons_succ, List.length_cons, List.length_nil, Nat.zero_add, Nat.reduceAdd, hz, ex, blOf_bl, Bool.not_true, Bool.false_eq_true, if_false, w_skip, nxK_nx, w_spoil, List.set_cons_zero, List.set_cons_succ]
    have e8 : 8 ≤ sizeLine := by decide
    have p1 : okPaths (.lst [intsD (digR (s : Int) cell w).reverse, intsD (digR (s : Int) cell w).reverse]) [[0]] 1 = true := by
      show ((decide (((digR (s : Int) cell w).reverse.map D.int).length + 1 ≤ sizeLine)) && true) = true
      rw [ints_len, decide_eq_true (by omega)]; rfl
    have p2 : okPaths (.lst [.lst ((linesAt s w cell).map intsD), .lst ((linesAt s w cell).map intsD)]) [[0]] 1 = true := by
      show ((decide (((linesAt s w cell).map intsD).length + 1 ≤ sizeLine)) && true) = true
      rw [List.length_map, decide_eq_true (by rw [sizeLine_eq]; omega)]; rfl
    exact ⟨p1, p2, hq _ _ _ _ _ _ _ g' hl'⟩
end K80

set_option Elab.async false
set_option linter.all false
set_option maxRecDepth 100000
set_option maxHeartbeats 0
namespace K80
open PySem PySem.Spec PyProof.Rows L2 DL
/-- what stands behind the four draws -/
def restG : SemS := (cSeq (cIfS (cNot (cIsB (cCall (F__law_exact 8) (cCons (cVar 3) (cCons (cCallA F_board_lines (cCons (cVar 1) (cCons (cVar 2) cNil))) cNil))))) (cSeq (cRet (cC (.bl false))) cSkip) cSkip) (cSeq (cPar 1 2 (cCons (cOp addI (cC (.int 2)) (cCallA F__law_draw (cCons (cVar 0) (cCons (cOp powD (cC (.int 10)) (cC (.int 6))) cNil)))) (cCons (cOp addI (cC (.int 1)) (cCallA F__law_draw (cCons (cVar 0) (cCons (cC (.int 30)) cNil)))) cNil))) (cSeq (cSet 7 (cOp modD (cCallA F__law_draw (cCons (cVar 0) (cCons (cOp powD (cC (.int 10)) (cC (.int 60))) cNil))) (cCallA F__law_power (cCons (cVar 1) (cCons (cVar 2) cNil))))) (cSeq (cSet 4 (cLst (cCons (cCallA F_how_many_board_lines (cCons (cVar 1) (cCons (cVar 2) cNil))) (cCons (cCallA F_cell_counts (cCons (cVar 1) (cCons (cVar 2) (cCons (cVar 7) cNil)))) cNil)))) (cSeq (cSet 3 (cOp fdivD (cOp subD (cCallA F__law_power (cCons (cOp addI (cVar 1) (cC (.int 2))) (cCons (cVar 2) cNil))) (cCallA F__law_power (cCons (cVar 1) (cCons (cVar 2) cNil)))) (cC (.int 2)))) (cSeq (cRet (cCall (F__law_exact 8) (cCons (cLst (cCons (cVar 3) (cCons (cCallA F__law_figures (cCons (cVar 1) (cCons (cVar 2) (cCons (cVar 7) cNil)))) cNil))) (cCons (cVar 4) cNil)))) cSkip))))))
theorem rest_ok {s w : Nat} (b : BF s w) {n : Nat} {m : Int} {st : Store} (g : GS m st) (hn : n < st.length) (hm : m < 2 ^ 48) {o4 o5 o6 o7 o8 o9 o10 o11 o12 : Option D} (Q : SR → Prop)
    (hq : ∀ st', GS (m + 36) st' → st'.length = st.length → Q (.rt (.bl true) st')) :
    gt (restG [some (.cel n), some (.int s), some (.int w), some (.lst ((linesP s w).map intsD)), o4, o5, o6, o7, o8, o9, o10, o11, o12] st) Q := by
  have h2 := b.s2
  have h5 := b.s5
  have h4 := b.w4
  have hp := b.pw
  have hw1 := b.w1
  have hl := linesP_len s w
  have e1 := lift pu_F_board_lines (board_lines_ok (s := s) (w := w) h2 (by omega) hw1 (by omega) (by omega)) g.flat
  have ex1 := lift (pu_F__law_exact 8) (exact_refl 8 (.lst ((linesP s w).map intsD)) (nice_rows (by omega) fun x hx => by rw [linesP_row hx]; omega)) g.flat
  obtain ⟨d1, st1, f1, p1, q1, g1, l1⟩ := draw_ok (n := n) (many := 10 ^ 6) g hn (by omega) (by decide) (by decide +kernel)
  obtain ⟨d2, st2, f2, p2, q2, g2, l2⟩ := draw_ok (n := n) (many := 30) g1 (by omega) (by omega) (by decide) (by decide +kernel)
  obtain ⟨d3, st3, f3, p3, q3, g3, l3⟩ := draw_ok (n := n) (many := 10 ^ 60) g2 (by omega) (by omega) (by decide) (by decide +kernel)
  obtain ⟨k, rfl⟩ := Int.eq_ofNat_of_zero_le p2
  have ew : (1 + (k : Int)) = ((1 + k : Nat) : Int) := by omega
  have hs : (2 + d1).natAbs < 2 ^ 21 := by omega
  have hs2 : (2 + d1 + 2).natAbs < 2 ^ 21 := by omega
  have e2 := lawpower_run (a := 2 + d1) (n := 1 + k) hs (by omega) st3
  have e3 := lawpower_run (a := 2 + d1 + 2) (n := 1 + k) hs2 (by omega) st3
  have hpos : 0 < (2 + d1) ^ (1 + k) := Int.pow_pos (by omega)
  have c0 := Int.emod_nonneg d3 (b := (2 + d1) ^ (1 + k)) (by omega)
  have c1 := Int.emod_lt_of_pos d3 hpos
  have e4 := lift pu_F_how_many_board_lines (how_many_ok (side := 2 + d1) (w := 1 + k) (by omega) hs2 (by omega) (by omega)) g3.flat
  have hz : 2 ≤ sizeLine := by decide
  have r1 : powD (.int 10) (.int 6) = some (.int (10 ^ 6)) := by kernel_rfl
  have r2 : powD (.int 10) (.int 60) = some (.int (10 ^ 60)) := by kernel_rfl
  generalize hc : d3 % (2 + d1) ^ (1 + k) = cell at c0 c1
  have hlog : (2 + d1).natAbs.log2 < 9000 := by
    have := (Nat.log2_lt (by omega)).mpr hs
    omega
  have e5 := lift pu_F_cell_counts (cell_counts_ok (side := 2 + d1) (w := 1 + k) (by omega) hs (by omega) (by omega) c0 c1) g3.flat
  have e6 := figures_run (b := 2 + d1) (n := cell) (w := 1 + k) (by omega) hlog (by omega) st3
  have ex2 := lift (pu_F__law_exact 8) (exact_refl 8 (.lst [.int (((2 + d1 + 2) ^ (1 + k) - (2 + d1) ^ (1 + k)) / 2), intsD (digR (2 + d1) cell (1 + k)).reverse]) (nice_2 trivial (nice_ints (by rw [List.length_reverse, digR_len]; omega)))) g3.flat
  unfold restG
  have hl2 : (2 : Int).natAbs.log2 < 9000 := by decide
  have two_pos : (0 : Int) < 2 := by decide
  simp only [w_seq, w_ifS, w_not, w_isB, w_call, w_callA, w_cons, w_nil, w_c, w_var, w_lst, w_op, w_par, w_set, w_ret, List.getElem?_cons_zero, List.getElem?_cons_succ, List.set_cons_zero, List.set_cons_succ, gt_some, okK_ok, true_and, List.all_cons, List.all_nil, atom_int, atom_cel, Bool.and_self, nxK_nx, nxK_rt, e1, ex1, g.flat, blOf_bl, Bool.not_true, Bool.false_eq_true, if_false, w_skip, r1, f1, g1.flat, addI_int, f2, g2.flat, twoOf_2, r2, f3, g3.flat, ew, e2, modD_int, hpos, hc, e4, e5, List.length_cons, List.length_nil, Nat.zero_add, Nat.reduceAdd, hz, e3, subD_int, fdivD_int, hl2, two_pos, e6, ex2, and_self]
  exact hq _ (g3.mono (by omega)) (by omega)
theorem case_ok {n : Nat} {m : Int} {st : Store} (g : GS m st) (hn : n < st.length) (hm : m < 2 ^ 40) : ∃ st', F__law_case_right [.cel n] st = some (.ok (.bl true) st') ∧ GS (m + 96) st' ∧ st'.length = st.length := by
  have key : gt (F__law_case_right [.cel n] st) fun r => ∃ st', r = .ok (.bl true) st' ∧ GS (m + 96) st' ∧ st'.length = st.length := by
    unfold F__law_case_right
    rw [w_fun]
    refine ⟨rfl, ?_⟩
    obtain ⟨s, w, st1, hb, f1, g1, l1⟩ := board_ok g hn (by omega)
    have b := bf_all hb
    have h2 := b.s2
    have h5 := b.s5
    have h4 := b.w4
    have hp := b.pw
    have hw1 := b.w1
    have hl := linesP_len s w
    have e1 := lift pu_F__law_lines (law_lines_ok b) g1.flat
    have e2 := lift pu_F_board_lines (board_lines_ok (s := s) (w := w) h2 (by omega) hw1 (by omega) (by omega)) g1.flat
    have e3 := lift pu_F_how_many_board_lines (how_many_ok (side := s) (w := w) (by omega) (by omega) hw1 (by omega)) g1.flat
    rw [← b.len] at e3
    have nr : ∀ j, nice (j + 3) (.lst ((linesP s w).map intsD)) := fun j => nice_rows (by omega) fun x hx => by rw [linesP_row hx]; omega
    have e4 : mulD (.lst [.int (linesP s w).length]) (.int 2) = some (.lst [.int (linesP s w).length, .int (linesP s w).length]) := rfl
    have ex1 := lift (pu_F__law_exact 8) (exact_refl 8 (.lst [.lst [.lst ((linesP s w).map intsD), .lst ((linesP s w).map intsD)], .lst [.int (linesP s w).length, .int (linesP s w).length]]) (nice_2 (nice_2 (nr 3) (nr 3)) (nice_2 trivial trivial))) g1.flat
    have hz : 2 ≤ sizeLine := by decide
    have hz1 : 1 ≤ sizeLine := by decide
    have op : okPaths (.lst [.lst ((linesP s w).map intsD), .lst ((linesP s w).map intsD)]) [[0, 0], [0]] 2 = true := by
      obtain ⟨l, r, hlr⟩ := b.ne
      have hll : l.length = s := linesP_row (s := s) (w := w) (by rw [hlr]; exact List.mem_cons_self ..)
      rw [hlr] at hl ⊢
      show ((decide ((l.map D.int).length + 2 ≤ sizeLine)) && ((decide (((l :: r).map intsD).length + 2 ≤ sizeLine)) && true)) = true
      rw [ints_len, List.length_map, decide_eq_true (by rw [sizeLine_eq]; omega), decide_eq_true (by rw [sizeLine_eq]; omega)]; rfl
    unfold m__law_case_right
    change gt (cSeq _ (cSeq _ (cSeq _ (cSeq _ (cSeq _ (cSpoil 4 [[0, 0], [0]] 2 (cSeq (cFor (cRng1 (cCons (cC (.int 4)) cNil)) (gSet 6) turnG) restG)))))) _ _) _
    simp only [N__law_case_right, w_seq, w_asg, w_ifS, w_not, w_isB, w_call, w_callA, w_cons, w_nil, w_c, w_var, w_lst, w_op, w_set, w_ret, w_perm, w_fn, List.map_cons, List.map_nil, List.cons_append, List.nil_append, List.length_cons, List.length_nil, Nat.zero_add, Nat.reduceAdd, Nat.reduceSub, List.replicate_succ, List.replicate_zero, List.getElem?_cons_zero, List.getElem?_cons_succ, List.set_cons_zero, List.set_cons_succ, gt_some, okK_ok, true_and, List.all_cons, List.all_nil, atom_int, atom_cel, Bool.and_self, nxK_nx, nxK_rt, f1, g1.flat, gSeq_tup2, gsCons_set, gsNil_eq, e1, e2, e3, perm10, hz, hz1, lenD_lst, List.length_map, e4, ex1, blOf_bl, Bool.not_true, Bool.false_eq_true, if_false, w_skip, w_spoil, op, w_for, w_rng1]
    refine (rng1Of_nat (n := 4)).mpr ⟨by omega, ?_⟩
    refine w_forD _ (fun j ρ s' => GS (m + 12 + 12 * j) s' ∧ s'.length = st.length ∧ ∃ o5 o6 o7 o8 o9 o10 o11 o12, ρ = [some (.cel n), some (.int s), some (.int w), some (.lst ((linesP s w).map intsD)), none, o5, o6, o7, o8, o9, o10, o11, o12]) ⟨g1.mono (by omega), l1, _, _, _, _, _, _, _, _, rfl⟩ ?_ ?_
    · rintro j d ρ s' hd ⟨g', hl', o5, o6, o7, o8, o9, o10, o11, o12, rfl⟩
      obtain ⟨hj, rfl⟩ := rangeD0_get hd
      refine ⟨_, gSet_eq, ?_⟩
      exact turn_ok b g' (by omega) (by omega) _ fun st' p7 p8 p9 p10 p11 p12 g'' l'' => ⟨g''.mono (by omega), by omega, _, _, _, _, _, _, _, _, rfl⟩
    · rintro ρ s' ⟨g', hl', o5, o6, o7, o8, o9, o10, o11, o12, rfl⟩
      rw [rangeD_length] at g'
      exact rest_ok b g' (by omega) (by omega) _ fun st' g'' l'' => ⟨st', rfl, g''.mono (by omega), by omega⟩
  obtain ⟨r, e, st', rfl, hh⟩ := key
  exact ⟨st', e, hh⟩
end K80

set_option Elab.async false
set_option linter.all false
set_option maxRecDepth 100000
set_option maxHeartbeats 0
namespace K80
open PySem PySem.Spec PyProof.Rows L2 DL
theorem refused_ok : F__law_refused_right [] [] = some (.ok (.bl true) []) := by kernel_rfl
theorem bl_32 : F_board_lines [.int 3, .int 2] [] = some (.ok (.lst [.lst [.int 0, .int 1, .int 2], .lst [.int 0, .int 3, .int 6], .lst [.int 0, .int 4, .int 8], .lst [.int 1, .int 4, .int 7], .lst [.int 2, .int 4, .int 6], .lst [.int 2, .int 5, .int 8], .lst [.int 3, .int 4, .int 5], .lst [.int 6, .int 7, .int 8]]) []) := by kernel_rfl
theorem cc_14 : F_cell_counts [.int 3, .int 3, .int 14] [] = some (.ok (.lst [.int 1, .int 1, .int 2]) []) := by kernel_rfl
theorem hm_43 : F_how_many_board_lines [.int 4, .int 3] [] = some (.ok (.int 76) []) := by kernel_rfl
theorem ex_law : F__law_exact 8 [.lst [.lst [.lst [.int 0, .int 1, .int 2], .lst [.int 0, .int 3, .int 6], .lst [.int 0, .int 4, .int 8], .lst [.int 1, .int 4, .int 7], .lst [.int 2, .int 4, .int 6], .lst [.int 2, .int 5, .int 8], .lst [.int 3, .int 4, .int 5], .lst [.int 6, .int 7, .int 8]], .lst [.int 1, .int 1, .int 2], .int 76], .lst [.lst [.lst [.int 0, .int 1, .int 2], .lst [.int 0, .int 3, .int 6], .lst [.int 0, .int 4, .int 8], .lst [.int 1, .int 4, .int 7], .lst [.int 2, .int 4, .int 6], .lst [.int 2, .int 5, .int 8], .lst [.int 3, .int 4, .int 5], .lst [.int 6, .int 7, .int 8]], .lst [.int 1, .int 1, .int 2], .int 76]] [] = some (.ok (.bl true) []) := by kernel_rfl
theorem hF : ∀ ns : List Int, ns.length ≤ 63 → ∃ st, F_law [.fro (ns.map D.int)] [] = some (.ok (.bl true) st) := fun ns _ => by
  have key : gt (F_law [.fro (ns.map D.int)] []) fun r => ∃ st, r = .ok (.bl true) st := by
    unfold F_law
    rw [w_fun]
    refine ⟨rfl, ?_⟩
    unfold m_law
    obtain ⟨k, st, e1, g, hl, hk⟩ := purses_ok ns
    simp only [N_law, w_seq, w_for, w_seqI, w_call, w_cons, w_nil, w_c, w_var, List.map_cons, List.map_nil, List.cons_append, List.nil_append, List.length_cons, List.length_nil, Nat.zero_add, Nat.reduceAdd, Nat.reduceSub, List.replicate_succ, List.replicate_zero, List.getElem?_cons_zero, List.getElem?_cons_succ, gt_some, e1, okK_ok, g.flat, true_and, itOf_lst]
    refine w_forD _ (fun j ρ s => GS (96 * j) s ∧ s.length = k ∧ ∃ o1, ρ = [some (.fro (ns.map D.int)), o1, none]) ⟨g.mono (by omega), hl, none, rfl⟩ ?_ ?_
    · rintro j d ρ s hd ⟨g', hl', o1, rfl⟩
      rw [List.getElem?_map] at hd
      obtain ⟨i, hi, rfl⟩ := Option.map_eq_some_iff.mp hd
      obtain ⟨hj, e⟩ := List.getElem?_eq_some_iff.mp hi
      rw [List.getElem_range] at e
      subst e
      rw [List.length_range] at hj
      obtain ⟨st', e2, g2, l2⟩ := case_ok (n := j) g' (by omega) (by omega)
      refine ⟨_, gSet_eq, ?_⟩
      simp only [w_seq, w_ifS, w_not, w_isB, w_call, w_cons, w_nil, w_var, List.getElem?_cons_zero, List.getElem?_cons_succ, List.set_cons_zero, List.set_cons_succ, gt_some, e2, okK_ok, g2.flat, true_and, blOf_bl, Bool.not_true, Bool.false_eq_true, if_false, w_skip, nxK_nx, trnK_nx]
      exact ⟨g2.mono (by omega), by omega, _, rfl⟩
    · rintro ρ s ⟨g', hl', o1, rfl⟩
      have a1 := lift pu_F_board_lines bl_32 g'.flat
      have a2 := lift pu_F_cell_counts cc_14 g'.flat
      have a3 := lift pu_F_how_many_board_lines hm_43 g'.flat
      have a4 := lift (pu_F__law_exact 8) ex_law g'.flat
      have a5 := lift pu_F__law_refused_right refused_ok g'.flat
      have hz : 8 ≤ sizeLine := by decide
      have hz3 : 3 ≤ sizeLine := by decide
      simp only [nxK_nx, w_seq, w_set, w_ret, w_c, w_ifS, w_not, w_isB, w_call, w_callA, w_cons, w_nil, w_var, w_lst, List.length_cons, List.length_nil, Nat.zero_add, Nat.reduceAdd, hz, hz3, List.getElem?_cons_zero, List.getElem?_cons_succ, List.set_cons_zero, List.set_cons_succ, gt_some, List.all_cons, List.all_nil, atom_int, Bool.and_self, g'.flat, and_self, true_and, a1, a2, a3, a4, a5, okK_ok, blOf_bl, Bool.not_true, Bool.false_eq_true, if_false, w_skip, nxK_rt, frK_rt]
      exact ⟨s, rfl⟩
  obtain ⟨r, e, st, rfl⟩ := key
  exact ⟨st, e⟩
end K80

set_option Elab.async false
set_option linter.all false
set_option maxRecDepth 100000
set_option maxHeartbeats 0
namespace K80
open PySem PySem.Spec PyProof.Rows L2 DL
def clsB (s : Stmt) : List Stmt := match s with
  | .ClassDef _ _ _ b _ _ _ _ _ _ _ => b
  | _ => []
def d_is_whole : He.DefD := ⟨((PySem.Str.ofString "is_whole"), none), (PySem.Str.ofString "is_whole"), (PySem.Str.ofString "is_whole"), defArgs s_is_whole, defBody s_is_whole, defScope s_is_whole, [], []⟩
def d_is_count : He.DefD := ⟨((PySem.Str.ofString "is_count"), none), (PySem.Str.ofString "is_count"), (PySem.Str.ofString "is_count"), defArgs s_is_count, defBody s_is_count, defScope s_is_count, [.int 0], []⟩
def d_power : He.DefD := ⟨((PySem.Str.ofString "power"), none), (PySem.Str.ofString "power"), (PySem.Str.ofString "power"), defArgs s_power, defBody s_power, defScope s_power, [], []⟩
def d_check_board : He.DefD := ⟨((PySem.Str.ofString "check_board"), none), (PySem.Str.ofString "check_board"), (PySem.Str.ofString "check_board"), defArgs s_check_board, defBody s_check_board, defScope s_check_board, [], []⟩
def d_check_cell : He.DefD := ⟨((PySem.Str.ofString "check_cell"), none), (PySem.Str.ofString "check_cell"), (PySem.Str.ofString "check_cell"), defArgs s_check_cell, defBody s_check_cell, defScope s_check_cell, [], []⟩
def d_counts_there : He.DefD := ⟨((PySem.Str.ofString "counts_there"), none), (PySem.Str.ofString "counts_there"), (PySem.Str.ofString "counts_there"), defArgs s_counts_there, defBody s_counts_there, defScope s_counts_there, [], []⟩
def d_number_there : He.DefD := ⟨((PySem.Str.ofString "number_there"), none), (PySem.Str.ofString "number_there"), (PySem.Str.ofString "number_there"), defArgs s_number_there, defBody s_number_there, defScope s_number_there, [], []⟩
def d_cell_counts : He.DefD := ⟨((PySem.Str.ofString "cell_counts"), none), (PySem.Str.ofString "cell_counts"), (PySem.Str.ofString "cell_counts"), defArgs s_cell_counts, defBody s_cell_counts, defScope s_cell_counts, [], []⟩
def d_line_by : He.DefD := ⟨((PySem.Str.ofString "line_by"), none), (PySem.Str.ofString "line_by"), (PySem.Str.ofString "line_by"), defArgs s_line_by, defBody s_line_by, defScope s_line_by, [], []⟩
def d_lines_there : He.DefD := ⟨((PySem.Str.ofString "lines_there"), none), (PySem.Str.ofString "lines_there"), (PySem.Str.ofString "lines_there"), defArgs s_lines_there, defBody s_lines_there, defScope s_lines_there, [], []⟩
def d_board_lines : He.DefD := ⟨((PySem.Str.ofString "board_lines"), none), (PySem.Str.ofString "board_lines"), (PySem.Str.ofString "board_lines"), defArgs s_board_lines, defBody s_board_lines, defScope s_board_lines, [], []⟩
def d_lines_at : He.DefD := ⟨((PySem.Str.ofString "lines_at"), none), (PySem.Str.ofString "lines_at"), (PySem.Str.ofString "lines_at"), defArgs s_lines_at, defBody s_lines_at, defScope s_lines_at, [], []⟩
def d_how_many_board_lines : He.DefD := ⟨((PySem.Str.ofString "how_many_board_lines"), none), (PySem.Str.ofString "how_many_board_lines"), (PySem.Str.ofString "how_many_board_lines"), defArgs s_how_many_board_lines, defBody s_how_many_board_lines, defScope s_how_many_board_lines, [], []⟩
def d__law_purse : He.DefD := ⟨((PySem.Str.ofString "_law_purse"), none), (PySem.Str.ofString "_law_purse"), (PySem.Str.ofString "_law_purse"), defArgs s__law_purse, defBody s__law_purse, defScope s__law_purse, [], []⟩
def d__law_mixed : He.DefD := ⟨((PySem.Str.ofString "_law_mixed"), none), (PySem.Str.ofString "_law_mixed"), (PySem.Str.ofString "_law_mixed"), defArgs s__law_mixed, defBody s__law_mixed, defScope s__law_mixed, [], []⟩
def d__law_draw : He.DefD := ⟨((PySem.Str.ofString "_law_draw"), none), (PySem.Str.ofString "_law_draw"), (PySem.Str.ofString "_law_draw"), defArgs s__law_draw, defBody s__law_draw, defScope s__law_draw, [], []⟩
def d__law_purses : He.DefD := ⟨((PySem.Str.ofString "_law_purses"), none), (PySem.Str.ofString "_law_purses"), (PySem.Str.ofString "_law_purses"), defArgs s__law_purses, defBody s__law_purses, defScope s__law_purses, [], []⟩
def d__law_one_of : He.DefD := ⟨((PySem.Str.ofString "_law_one_of"), none), (PySem.Str.ofString "_law_one_of"), (PySem.Str.ofString "_law_one_of"), defArgs s__law_one_of, defBody s__law_one_of, defScope s__law_one_of, [], []⟩
def d__law_exact : He.DefD := ⟨((PySem.Str.ofString "_law_exact"), none), (PySem.Str.ofString "_law_exact"), (PySem.Str.ofString "_law_exact"), defArgs s__law_exact, defBody s__law_exact, defScope s__law_exact, [], []⟩
def d__law_power : He.DefD := ⟨((PySem.Str.ofString "_law_power"), none), (PySem.Str.ofString "_law_power"), (PySem.Str.ofString "_law_power"), defArgs s__law_power, defBody s__law_power, defScope s__law_power, [], []⟩
def d__law_figures : He.DefD := ⟨((PySem.Str.ofString "_law_figures"), none), (PySem.Str.ofString "_law_figures"), (PySem.Str.ofString "_law_figures"), defArgs s__law_figures, defBody s__law_figures, defScope s__law_figures, [], []⟩
def d__law_number : He.DefD := ⟨((PySem.Str.ofString "_law_number"), none), (PySem.Str.ofString "_law_number"), (PySem.Str.ofString "_law_number"), defArgs s__law_number, defBody s__law_number, defScope s__law_number, [], []⟩
def d__law_steps : He.DefD := ⟨((PySem.Str.ofString "_law_steps"), none), (PySem.Str.ofString "_law_steps"), (PySem.Str.ofString "_law_steps"), defArgs s__law_steps, defBody s__law_steps, defScope s__law_steps, [], []⟩
def d__law_lines : He.DefD := ⟨((PySem.Str.ofString "_law_lines"), none), (PySem.Str.ofString "_law_lines"), (PySem.Str.ofString "_law_lines"), defArgs s__law_lines, defBody s__law_lines, defScope s__law_lines, [], []⟩
def d__law_board : He.DefD := ⟨((PySem.Str.ofString "_law_board"), none), (PySem.Str.ofString "_law_board"), (PySem.Str.ofString "_law_board"), defArgs s__law_board, defBody s__law_board, defScope s__law_board, [], []⟩
def d__law_case_right : He.DefD := ⟨((PySem.Str.ofString "_law_case_right"), none), (PySem.Str.ofString "_law_case_right"), (PySem.Str.ofString "_law_case_right"), defArgs s__law_case_right, defBody s__law_case_right, defScope s__law_case_right, [], []⟩
def d__law_heard : He.DefD := ⟨((PySem.Str.ofString "_law_heard"), none), (PySem.Str.ofString "_law_heard"), (PySem.Str.ofString "_law_heard"), defArgs s__law_heard, defBody s__law_heard, defScope s__law_heard, [], []⟩
def d__law_refused_right : He.DefD := ⟨((PySem.Str.ofString "_law_refused_right"), none), (PySem.Str.ofString "_law_refused_right"), (PySem.Str.ofString "_law_refused_right"), defArgs s__law_refused_right, defBody s__law_refused_right, defScope s__law_refused_right, [], []⟩
def d_law : He.DefD := ⟨((PySem.Str.ofString "law"), none), (PySem.Str.ofString "law"), (PySem.Str.ofString "law"), defArgs s_law, defBody s_law, defScope s_law, [], []⟩
abbrev s_init_InvalidSide : Stmt := (clsB (top 6)).getD 0 (.Pass ⟨0, 0, 0, 0⟩)
def d_init_InvalidSide : He.DefD := ⟨((PySem.Str.ofString "InvalidSide"), some (PySem.Str.ofString "__init__")), (PySem.Str.ofString "__init__"), (PySem.Str.ofString "InvalidSide.__init__"), defArgs s_init_InvalidSide, defBody s_init_InvalidSide, defScope s_init_InvalidSide, [.non], []⟩
theorem Sinit_InvalidSide : FnScope initN initN (defScope s_init_InvalidSide) := ⟨rfl, rfl, rfl, by decide +kernel, rfl, by decide +kernel, by decide +kernel⟩
abbrev s_init_InvalidWays : Stmt := (clsB (top 7)).getD 0 (.Pass ⟨0, 0, 0, 0⟩)
def d_init_InvalidWays : He.DefD := ⟨((PySem.Str.ofString "InvalidWays"), some (PySem.Str.ofString "__init__")), (PySem.Str.ofString "__init__"), (PySem.Str.ofString "InvalidWays.__init__"), defArgs s_init_InvalidWays, defBody s_init_InvalidWays, defScope s_init_InvalidWays, [.non], []⟩
theorem Sinit_InvalidWays : FnScope initN initN (defScope s_init_InvalidWays) := ⟨rfl, rfl, rfl, by decide +kernel, rfl, by decide +kernel, by decide +kernel⟩
abbrev s_init_InvalidCell : Stmt := (clsB (top 8)).getD 0 (.Pass ⟨0, 0, 0, 0⟩)
def d_init_InvalidCell : He.DefD := ⟨((PySem.Str.ofString "InvalidCell"), some (PySem.Str.ofString "__init__")), (PySem.Str.ofString "__init__"), (PySem.Str.ofString "InvalidCell.__init__"), defArgs s_init_InvalidCell, defBody s_init_InvalidCell, defScope s_init_InvalidCell, [.non], []⟩
theorem Sinit_InvalidCell : FnScope initN initN (defScope s_init_InvalidCell) := ⟨rfl, rfl, rfl, by decide +kernel, rfl, by decide +kernel, by decide +kernel⟩
def fns : List He.DefD := [d_is_whole, d_is_count, d_power, d_check_board, d_check_cell, d_counts_there, d_number_there, d_cell_counts, d_line_by, d_lines_there, d_board_lines, d_lines_at, d_how_many_board_lines, d__law_purse, d__law_mixed, d__law_draw, d__law_purses, d__law_one_of, d__law_exact, d__law_power, d__law_figures, d__law_number, d__law_steps, d__law_lines, d__law_board, d__law_case_right, d__law_heard, d__law_refused_right, d_law, d_init_InvalidSide, d_init_InvalidWays, d_init_InvalidCell]
def fas : List He.Fa := [.glo (PySem.Str.ofString "is_whole"), .glo (PySem.Str.ofString "is_count"), .glo (PySem.Str.ofString "power"), .glo (PySem.Str.ofString "check_board"), .glo (PySem.Str.ofString "check_cell"), .glo (PySem.Str.ofString "counts_there"), .glo (PySem.Str.ofString "number_there"), .glo (PySem.Str.ofString "cell_counts"), .glo (PySem.Str.ofString "line_by"), .glo (PySem.Str.ofString "lines_there"), .glo (PySem.Str.ofString "board_lines"), .glo (PySem.Str.ofString "lines_at"), .glo (PySem.Str.ofString "how_many_board_lines"), .glo (PySem.Str.ofString "_law_purse"), .glo (PySem.Str.ofString "_law_mixed"), .glo (PySem.Str.ofString "_law_draw"), .glo (PySem.Str.ofString "_law_purses"), .glo (PySem.Str.ofString "_law_one_of"), .glo (PySem.Str.ofString "_law_exact"), .glo (PySem.Str.ofString "_law_power"), .glo (PySem.Str.ofString "_law_figures"), .glo (PySem.Str.ofString "_law_number"), .glo (PySem.Str.ofString "_law_steps"), .glo (PySem.Str.ofString "_law_lines"), .glo (PySem.Str.ofString "_law_board"), .glo (PySem.Str.ofString "_law_case_right"), .glo (PySem.Str.ofString "_law_heard"), .glo (PySem.Str.ofString "_law_refused_right"), .glo (PySem.Str.ofString "law"), .free (PySem.Str.ofString "ValueError"), .free (PySem.Str.ofString "all"), .free (PySem.Str.ofString "bool"), .free (PySem.Str.ofString "int"), .free (PySem.Str.ofString "isinstance"), .free (PySem.Str.ofString "len"), .free (PySem.Str.ofString "list"), .free (PySem.Str.ofString "max"), .free (PySem.Str.ofString "min"), .free (PySem.Str.ofString "range"), .free (PySem.Str.ofString "sorted"), .free (PySem.Str.ofString "str"), .free (PySem.Str.ofString "sum"), .free (PySem.Str.ofString "tuple"), .free (PySem.Str.ofString "zip"), .glo (PySem.Str.ofString "BoundError")]
def exB (K : PySem.W.Frag) : Bool := [eclsB K (PySem.Str.ofString "InvalidSide"), eclsB K (PySem.Str.ofString "InvalidWays"), eclsB K (PySem.Str.ofString "InvalidCell"), isT (PySem.W.exmOne K (.ref (He.ga K (PySem.Str.ofString "InvalidSide"))) (.ref (He.ga K (PySem.Str.ofString "BoundError")))) (some true), isT (PySem.W.kitOne K (.ref (He.ga K (PySem.Str.ofString "InvalidSide"))) (.ref (He.ga K (PySem.Str.ofString "InvalidCell")))) (some (sub__law_heard_0 (PySem.Str.ofString "InvalidSide"))), isT (PySem.W.kitOne K (.ref (He.ga K (PySem.Str.ofString "InvalidSide"))) (.ref (He.ga K (PySem.Str.ofString "InvalidWays")))) (some (sub__law_heard_1 (PySem.Str.ofString "InvalidSide"))), isT (PySem.W.kitOne K (.ref (He.ga K (PySem.Str.ofString "InvalidSide"))) (.ref (He.ga K (PySem.Str.ofString "InvalidSide")))) (some (sub__law_heard_2 (PySem.Str.ofString "InvalidSide"))), isT (PySem.W.kitOne K (.ref (He.ga K (PySem.Str.ofString "InvalidSide"))) (.type "ValueError")) (some (sub__law_heard_3 (PySem.Str.ofString "InvalidSide"))), isT (PySem.W.exmOne K (.ref (He.ga K (PySem.Str.ofString "InvalidWays"))) (.ref (He.ga K (PySem.Str.ofString "BoundError")))) (some true), isT (PySem.W.kitOne K (.ref (He.ga K (PySem.Str.ofString "InvalidWays"))) (.ref (He.ga K (PySem.Str.ofString "InvalidCell")))) (some (sub__law_heard_0 (PySem.Str.ofString "InvalidWays"))), isT (PySem.W.kitOne K (.ref (He.ga K (PySem.Str.ofString "InvalidWays"))) (.ref (He.ga K (PySem.Str.ofString "InvalidWays")))) (some (sub__law_heard_1 (PySem.Str.ofString "InvalidWays"))), isT (PySem.W.kitOne K (.ref (He.ga K (PySem.Str.ofString "InvalidWays"))) (.ref (He.ga K (PySem.Str.ofString "InvalidSide")))) (some (sub__law_heard_2 (PySem.Str.ofString "InvalidWays"))), isT (PySem.W.kitOne K (.ref (He.ga K (PySem.Str.ofString "InvalidWays"))) (.type "ValueError")) (some (sub__law_heard_3 (PySem.Str.ofString "InvalidWays"))), isT (PySem.W.exmOne K (.ref (He.ga K (PySem.Str.ofString "InvalidCell"))) (.ref (He.ga K (PySem.Str.ofString "BoundError")))) (some true), isT (PySem.W.kitOne K (.ref (He.ga K (PySem.Str.ofString "InvalidCell"))) (.ref (He.ga K (PySem.Str.ofString "InvalidCell")))) (some (sub__law_heard_0 (PySem.Str.ofString "InvalidCell"))), isT (PySem.W.kitOne K (.ref (He.ga K (PySem.Str.ofString "InvalidCell"))) (.ref (He.ga K (PySem.Str.ofString "InvalidWays")))) (some (sub__law_heard_1 (PySem.Str.ofString "InvalidCell"))), isT (PySem.W.kitOne K (.ref (He.ga K (PySem.Str.ofString "InvalidCell"))) (.ref (He.ga K (PySem.Str.ofString "InvalidSide")))) (some (sub__law_heard_2 (PySem.Str.ofString "InvalidCell"))), isT (PySem.W.kitOne K (.ref (He.ga K (PySem.Str.ofString "InvalidCell"))) (.type "ValueError")) (some (sub__law_heard_3 (PySem.Str.ofString "InvalidCell")))].all id
theorem facts {P : Program} {w : World} {K : PySem.W.Frag} {h : Heap} {mg : Str → Option Value} {f : Addr} (X : K.In h) (G : h.Ns mainGlobals mg) (hfa : mg (PySem.Str.ofString "law") = some (.ref f)) (c : He.SaysD fas fns K) (xb : exB K = true)
    (hF : ∀ ns : List Int, ns.length ≤ 63 → ∃ st, F_law [.fro (ns.map D.int)] [] = some (.ok (.bl true) st)) :
    ∃ fd : FuncData, (∀ (s : Shared) (v : Value), BindsTo s fd ⟨[v], []⟩ [((PySem.Str.ofString "script"), v)]) ∧ ∀ base : Heap, K.In base → base.Ns mainGlobals mg → FnOk P w K mg base (L2N.CX P w) 11 f fd [(PySem.Str.ofString "script")] (spLaw K) := by
  unfold exB at xb
  simp only [List.all_cons, List.all_nil, Bool.and_eq_true, id] at xb
  obtain ⟨x0, x1, x2, x3, x4, x5, x6, x7, x8, x9, x10, x11, x12, x13, x14, x15, x16, x17, _⟩ := xb
  obtain ⟨fd_is_whole, FD_is_whole⟩ := c.def_ 0 (d := d_is_whole) rfl
  obtain ⟨fd_is_count, FD_is_count⟩ := c.def_ 1 (d := d_is_count) rfl
  obtain ⟨fd_power, FD_power⟩ := c.def_ 2 (d := d_power) rfl
  obtain ⟨fd_check_board, FD_check_board⟩ := c.def_ 3 (d := d_check_board) rfl
  obtain ⟨fd_check_cell, FD_check_cell⟩ := c.def_ 4 (d := d_check_cell) rfl
  obtain ⟨fd_counts_there, FD_counts_there⟩ := c.def_ 5 (d := d_counts_there) rfl
  obtain ⟨fd_number_there, FD_number_there⟩ := c.def_ 6 (d := d_number_there) rfl
  obtain ⟨fd_cell_counts, FD_cell_counts⟩ := c.def_ 7 (d := d_cell_counts) rfl
  obtain ⟨fd_line_by, FD_line_by⟩ := c.def_ 8 (d := d_line_by) rfl
  obtain ⟨fd_lines_there, FD_lines_there⟩ := c.def_ 9 (d := d_lines_there) rfl
  obtain ⟨fd_board_lines, FD_board_lines⟩ := c.def_ 10 (d := d_board_lines) rfl
  obtain ⟨fd_lines_at, FD_lines_at⟩ := c.def_ 11 (d := d_lines_at) rfl
  obtain ⟨fd_how_many_board_lines, FD_how_many_board_lines⟩ := c.def_ 12 (d := d_how_many_board_lines) rfl
  obtain ⟨fd__law_purse, FD__law_purse⟩ := c.def_ 13 (d := d__law_purse) rfl
  obtain ⟨fd__law_mixed, FD__law_mixed⟩ := c.def_ 14 (d := d__law_mixed) rfl
  obtain ⟨fd__law_draw, FD__law_draw⟩ := c.def_ 15 (d := d__law_draw) rfl
  obtain ⟨fd__law_purses, FD__law_purses⟩ := c.def_ 16 (d := d__law_purses) rfl
  obtain ⟨fd__law_one_of, FD__law_one_of⟩ := c.def_ 17 (d := d__law_one_of) rfl
  obtain ⟨fd__law_exact, FD__law_exact⟩ := c.def_ 18 (d := d__law_exact) rfl
  obtain ⟨fd__law_power, FD__law_power⟩ := c.def_ 19 (d := d__law_power) rfl
  obtain ⟨fd__law_figures, FD__law_figures⟩ := c.def_ 20 (d := d__law_figures) rfl
  obtain ⟨fd__law_number, FD__law_number⟩ := c.def_ 21 (d := d__law_number) rfl
  obtain ⟨fd__law_steps, FD__law_steps⟩ := c.def_ 22 (d := d__law_steps) rfl
  obtain ⟨fd__law_lines, FD__law_lines⟩ := c.def_ 23 (d := d__law_lines) rfl
  obtain ⟨fd__law_board, FD__law_board⟩ := c.def_ 24 (d := d__law_board) rfl
  obtain ⟨fd__law_case_right, FD__law_case_right⟩ := c.def_ 25 (d := d__law_case_right) rfl
  obtain ⟨fd__law_heard, FD__law_heard⟩ := c.def_ 26 (d := d__law_heard) rfl
  obtain ⟨fd__law_refused_right, FD__law_refused_right⟩ := c.def_ 27 (d := d__law_refused_right) rfl
  obtain ⟨fd_law, FD_law⟩ := c.def_ 28 (d := d_law) rfl
  obtain ⟨fd_init_InvalidSide, FD_init_InvalidSide⟩ := c.def_ 29 (d := d_init_InvalidSide) rfl
  obtain ⟨fd_init_InvalidWays, FD_init_InvalidWays⟩ := c.def_ 30 (d := d_init_InvalidWays) rfl
  obtain ⟨fd_init_InvalidCell, FD_init_InvalidCell⟩ := c.def_ 31 (d := d_init_InvalidCell) rfl
  have h_is_whole := He.glo_ok X G (c.fact 0 (f := .glo (PySem.Str.ofString "is_whole")) rfl)
  have h_is_count := He.glo_ok X G (c.fact 1 (f := .glo (PySem.Str.ofString "is_count")) rfl)
  have h_power := He.glo_ok X G (c.fact 2 (f := .glo (PySem.Str.ofString "power")) rfl)
  have h_check_board := He.glo_ok X G (c.fact 3 (f := .glo (PySem.Str.ofString "check_board")) rfl)
  have h_check_cell := He.glo_ok X G (c.fact 4 (f := .glo (PySem.Str.ofString "check_cell")) rfl)
  have h_counts_there := He.glo_ok X G (c.fact 5 (f := .glo (PySem.Str.ofString "counts_there")) rfl)
  have h_number_there := He.glo_ok X G (c.fact 6 (f := .glo (PySem.Str.ofString "number_there")) rfl)
  have h_cell_counts := He.glo_ok X G (c.fact 7 (f := .glo (PySem.Str.ofString "cell_counts")) rfl)
  have h_line_by := He.glo_ok X G (c.fact 8 (f := .glo (PySem.Str.ofString "line_by")) rfl)
  have h_lines_there := He.glo_ok X G (c.fact 9 (f := .glo (PySem.Str.ofString "lines_there")) rfl)
  have h_board_lines := He.glo_ok X G (c.fact 10 (f := .glo (PySem.Str.ofString "board_lines")) rfl)
  have h_lines_at := He.glo_ok X G (c.fact 11 (f := .glo (PySem.Str.ofString "lines_at")) rfl)
  have h_how_many_board_lines := He.glo_ok X G (c.fact 12 (f := .glo (PySem.Str.ofString "how_many_board_lines")) rfl)
  have h__law_purse := He.glo_ok X G (c.fact 13 (f := .glo (PySem.Str.ofString "_law_purse")) rfl)
  have h__law_mixed := He.glo_ok X G (c.fact 14 (f := .glo (PySem.Str.ofString "_law_mixed")) rfl)
  have h__law_draw := He.glo_ok X G (c.fact 15 (f := .glo (PySem.Str.ofString "_law_draw")) rfl)
  have h__law_purses := He.glo_ok X G (c.fact 16 (f := .glo (PySem.Str.ofString "_law_purses")) rfl)
  have h__law_one_of := He.glo_ok X G (c.fact 17 (f := .glo (PySem.Str.ofString "_law_one_of")) rfl)
  have h__law_exact := He.glo_ok X G (c.fact 18 (f := .glo (PySem.Str.ofString "_law_exact")) rfl)
  have h__law_power := He.glo_ok X G (c.fact 19 (f := .glo (PySem.Str.ofString "_law_power")) rfl)
  have h__law_figures := He.glo_ok X G (c.fact 20 (f := .glo (PySem.Str.ofString "_law_figures")) rfl)
  have h__law_number := He.glo_ok X G (c.fact 21 (f := .glo (PySem.Str.ofString "_law_number")) rfl)
  have h__law_steps := He.glo_ok X G (c.fact 22 (f := .glo (PySem.Str.ofString "_law_steps")) rfl)
  have h__law_lines := He.glo_ok X G (c.fact 23 (f := .glo (PySem.Str.ofString "_law_lines")) rfl)
  have h__law_board := He.glo_ok X G (c.fact 24 (f := .glo (PySem.Str.ofString "_law_board")) rfl)
  have h__law_case_right := He.glo_ok X G (c.fact 25 (f := .glo (PySem.Str.ofString "_law_case_right")) rfl)
  have h__law_heard := He.glo_ok X G (c.fact 26 (f := .glo (PySem.Str.ofString "_law_heard")) rfl)
  have h__law_refused_right := He.glo_ok X G (c.fact 27 (f := .glo (PySem.Str.ofString "_law_refused_right")) rfl)
  have h_law := He.glo_ok X G (c.fact 28 (f := .glo (PySem.Str.ofString "law")) rfl)
  have b_ValueError := He.free_ok X G (c.fact 29 (f := .free (PySem.Str.ofString "ValueError")) rfl)
  have b_all := He.free_ok X G (c.fact 30 (f := .free (PySem.Str.ofString "all")) rfl)
  have b_bool := He.free_ok X G (c.fact 31 (f := .free (PySem.Str.ofString "bool")) rfl)
  have b_int := He.free_ok X G (c.fact 32 (f := .free (PySem.Str.ofString "int")) rfl)
  have b_isinstance := He.free_ok X G (c.fact 33 (f := .free (PySem.Str.ofString "isinstance")) rfl)
  have b_len := He.free_ok X G (c.fact 34 (f := .free (PySem.Str.ofString "len")) rfl)
  have b_list := He.free_ok X G (c.fact 35 (f := .free (PySem.Str.ofString "list")) rfl)
  have b_max := He.free_ok X G (c.fact 36 (f := .free (PySem.Str.ofString "max")) rfl)
  have b_min := He.free_ok X G (c.fact 37 (f := .free (PySem.Str.ofString "min")) rfl)
  have b_range := He.free_ok X G (c.fact 38 (f := .free (PySem.Str.ofString "range")) rfl)
  have b_sorted := He.free_ok X G (c.fact 39 (f := .free (PySem.Str.ofString "sorted")) rfl)
  have b_str := He.free_ok X G (c.fact 40 (f := .free (PySem.Str.ofString "str")) rfl)
  have b_sum := He.free_ok X G (c.fact 41 (f := .free (PySem.Str.ofString "sum")) rfl)
  have b_tuple := He.free_ok X G (c.fact 42 (f := .free (PySem.Str.ofString "tuple")) rfl)
  have b_zip := He.free_ok X G (c.fact 43 (f := .free (PySem.Str.ofString "zip")) rfl)
  have g_BoundError := He.glo_ok X G (c.fact 44 (f := .glo (PySem.Str.ofString "BoundError")) rfl)
  have e := hfa.symm.trans h_law
  cases e
  refine ⟨fd_law, fun s v => FunD.bindsA (ps := [(PySem.Str.ofString "script")]) FD_law (fun _ _ _ _ _ _ us hl => match us, hl with | [_], _ => rfl) s [v] rfl, fun base _ _ => ?_⟩
  obtain ⟨g_InvalidSide, E_InvalidSide, EC_InvalidSide, XF_InvalidSide, nv_InvalidSide⟩ := ecls_ok (P := P) (w := w) (base := base) X G x0 FD_init_InvalidSide rfl Sinit_InvalidSide rfl rfl (by exact fun z => nomatch z) (by
    intro T kV doc pm an cdv ct us its h1 h2
    exact match us, its, h1, h2 with | [_, _], [_], _, _ => ⟨_, rfl, rfl⟩)
  obtain ⟨g_InvalidWays, E_InvalidWays, EC_InvalidWays, XF_InvalidWays, nv_InvalidWays⟩ := ecls_ok (P := P) (w := w) (base := base) X G x1 FD_init_InvalidWays rfl Sinit_InvalidWays rfl rfl (by exact fun z => nomatch z) (by
    intro T kV doc pm an cdv ct us its h1 h2
    exact match us, its, h1, h2 with | [_, _], [_], _, _ => ⟨_, rfl, rfl⟩)
  obtain ⟨g_InvalidCell, E_InvalidCell, EC_InvalidCell, XF_InvalidCell, nv_InvalidCell⟩ := ecls_ok (P := P) (w := w) (base := base) X G x2 FD_init_InvalidCell rfl Sinit_InvalidCell rfl rfl (by exact fun z => nomatch z) (by
    intro T kV doc pm an cdv ct us its h1 h2
    exact match us, its, h1, h2 with | [_, _], [_], _, _ => ⟨_, rfl, rfl⟩)
  have hm__law_heard : ∀ c, c ∈ ([(PySem.Str.ofString "InvalidSide"), (PySem.Str.ofString "InvalidWays"), (PySem.Str.ofString "InvalidCell")] : List Str) → ∀ C, mg c = some (.ref C) → PySem.W.exmOne K (.ref C) (.ref (He.ga K (PySem.Str.ofString "BoundError"))) = some true := by
    intro c hc C hC
    rcases List.mem_cons.mp hc with rfl | hc
    · rw [g_InvalidSide] at hC
      cases hC
      exact isT_ok x3
    rcases List.mem_cons.mp hc with rfl | hc
    · rw [g_InvalidWays] at hC
      cases hC
      exact isT_ok x8
    rcases List.mem_cons.mp hc with rfl | hc
    · rw [g_InvalidCell] at hC
      cases hC
      exact isT_ok x13
    · cases hc
  have hs__law_heard : ∀ c, c ∈ ([(PySem.Str.ofString "InvalidSide"), (PySem.Str.ofString "InvalidWays"), (PySem.Str.ofString "InvalidCell")] : List Str) → ∀ C, mg c = some (.ref C) → ExcC K C ∧ XfC K C ∧ PySem.W.findIn K (.ref C) "value" = some none ∧ PySem.W.kitOne K (.ref C) (.ref (He.ga K (PySem.Str.ofString "InvalidCell"))) = some (sub__law_heard_0 c) ∧ PySem.W.kitOne K (.ref C) (.ref (He.ga K (PySem.Str.ofString "InvalidWays"))) = some (sub__law_heard_1 c) ∧ PySem.W.kitOne K (.ref C) (.ref (He.ga K (PySem.Str.ofString "InvalidSide"))) = some (sub__law_heard_2 c) ∧ PySem.W.kitOne K (.ref C) (.type "ValueError") = some (sub__law_heard_3 c) ∧ True := by
    intro c hc C hC
    rcases List.mem_cons.mp hc with rfl | hc
    · rw [g_InvalidSide] at hC
      cases hC
      exact ⟨EC_InvalidSide, XF_InvalidSide, nv_InvalidSide, isT_ok x4, isT_ok x5, isT_ok x6, isT_ok x7, trivial⟩
    rcases List.mem_cons.mp hc with rfl | hc
    · rw [g_InvalidWays] at hC
      cases hC
      exact ⟨EC_InvalidWays, XF_InvalidWays, nv_InvalidWays, isT_ok x9, isT_ok x10, isT_ok x11, isT_ok x12, trivial⟩
    rcases List.mem_cons.mp hc with rfl | hc
    · rw [g_InvalidCell] at hC
      cases hC
      exact ⟨EC_InvalidCell, XF_InvalidCell, nv_InvalidCell, isT_ok x14, isT_ok x15, isT_ok x16, isT_ok x17, trivial⟩
    · cases hc
  have C_is_whole := cal_is_whole (P := P) (w := w) (base := base) FD_is_whole h_is_whole b_bool b_int b_isinstance
  have C_is_count := cal_is_count (P := P) (w := w) (base := base) FD_is_count h_is_count C_is_whole b_max
  have D_is_count_1 := calD_is_count_1 (P := P) (w := w) (base := base) FD_is_count h_is_count C_is_whole b_max
  have C_power := cal_power (P := P) (w := w) (base := base) FD_power h_power b_range
  have C_check_board := cal_check_board (P := P) (w := w) (base := base) FD_check_board h_check_board C_is_count E_InvalidSide E_InvalidWays
  have C_check_cell := cal_check_cell (P := P) (w := w) (base := base) FD_check_cell h_check_cell C_check_board D_is_count_1 C_power E_InvalidCell
  have C_counts_there := cal_counts_there (P := P) (w := w) (base := base) FD_counts_there h_counts_there b_range
  have C_number_there := cal_number_there (P := P) (w := w) (base := base) FD_number_there h_number_there
  have C_cell_counts := cal_cell_counts (P := P) (w := w) (base := base) FD_cell_counts h_cell_counts C_check_cell C_counts_there
  have K_cell_counts_cell_ways_side := calK_cell_counts_cell_ways_side (P := P) (w := w) (base := base) FD_cell_counts h_cell_counts C_check_cell C_counts_there
  have C_line_by := cal_line_by (P := P) (w := w) (base := base) FD_line_by h_line_by C_number_there b_range b_sorted
  have C_lines_there := cal_lines_there (P := P) (w := w) (base := base) FD_lines_there h_lines_there C_counts_there C_line_by C_power b_range b_sorted
  have C_board_lines := cal_board_lines (P := P) (w := w) (base := base) FD_board_lines h_board_lines C_check_board C_lines_there
  have K_board_lines_ways_side := calK_board_lines_ways_side (P := P) (w := w) (base := base) FD_board_lines h_board_lines C_check_board C_lines_there
  have C_lines_at := cal_lines_at (P := P) (w := w) (base := base) FD_lines_at h_lines_at C_check_cell C_lines_there
  have K_lines_at_cell_ways_side := calK_lines_at_cell_ways_side (P := P) (w := w) (base := base) FD_lines_at h_lines_at C_check_cell C_lines_there
  have C_how_many_board_lines := cal_how_many_board_lines (P := P) (w := w) (base := base) FD_how_many_board_lines h_how_many_board_lines C_check_board C_power
  have K_how_many_board_lines_ways_side := calK_how_many_board_lines_ways_side (P := P) (w := w) (base := base) FD_how_many_board_lines h_how_many_board_lines C_check_board C_power
  have C__law_purse := cal__law_purse (P := P) (w := w) (base := base) FD__law_purse h__law_purse b_int b_max b_sum
  have C__law_mixed := cal__law_mixed (P := P) (w := w) (base := base) FD__law_mixed h__law_mixed b_int
  have C__law_draw := cal__law_draw (P := P) (w := w) (base := base) FD__law_draw h__law_draw C__law_mixed b_int b_range
  have C__law_purses := cal__law_purses (P := P) (w := w) (base := base) FD__law_purses h__law_purses C__law_purse b_len b_max b_min b_range
  have C__law_one_of := cal__law_one_of (P := P) (w := w) (base := base) FD__law_one_of h__law_one_of C__law_draw b_len
  have C__law_exact := cal__law_exact (P := P) (w := w) (base := base) FD__law_exact h__law_exact b_all b_bool b_int b_isinstance b_len b_list b_str b_tuple b_zip 8
  have C__law_power := cal__law_power (P := P) (w := w) (base := base) FD__law_power h__law_power b_range
  have C__law_figures := cal__law_figures (P := P) (w := w) (base := base) FD__law_figures h__law_figures b_range
  have C__law_number := cal__law_number (P := P) (w := w) (base := base) FD__law_number h__law_number
  have C__law_steps := cal__law_steps (P := P) (w := w) (base := base) FD__law_steps h__law_steps b_range
  have C__law_lines := cal__law_lines (P := P) (w := w) (base := base) FD__law_lines h__law_lines C__law_figures C__law_number C__law_steps C__law_power b_list b_range b_sorted b_tuple b_zip
  have C__law_board := cal__law_board (P := P) (w := w) (base := base) FD__law_board h__law_board C__law_one_of
  have C__law_case_right := cal__law_case_right (P := P) (w := w) (base := base) FD__law_case_right h__law_case_right C__law_board C__law_lines K_board_lines_ways_side C_board_lines K_how_many_board_lines_ways_side C_how_many_board_lines C__law_exact C__law_power C__law_draw C__law_figures K_cell_counts_cell_ways_side C_cell_counts K_lines_at_cell_ways_side C_lines_at b_len b_range
  have C__law_heard := cal__law_heard (P := P) (w := w) (base := base) FD__law_heard h__law_heard C_how_many_board_lines C_board_lines C_lines_at C_cell_counts b_ValueError b_isinstance b_range g_BoundError g_InvalidCell g_InvalidSide g_InvalidWays hm__law_heard hs__law_heard
  have C__law_refused_right := cal__law_refused_right (P := P) (w := w) (base := base) FD__law_refused_right h__law_refused_right C__law_heard C__law_exact b_int b_range
  have C_law := cal_law (P := P) (w := w) (base := base) FD_law h_law C__law_case_right C__law_purses C_how_many_board_lines C_cell_counts C_board_lines C__law_exact C__law_refused_right
  exact law_ok (ok_law FD_law C__law_case_right C__law_purses C_how_many_board_lines C_cell_counts C_board_lines C__law_exact C__law_refused_right) rfl hF
end K80
open PySem PySem.W PyProof.Rows
set_option maxHeartbeats 0 in
theorem PySem.Challenge.cw_boundtobe_k80_whole_lines_of_boards_holds : PySem.Challenge.rw_boundtobe_k80_whole_lines_of_boards.Holds := by
  w_on; o_law; k_head; (case hw => w_witness2)
  k_fill
  refine L2.walk_of (l := PySem.Challenge.rw_boundtobe_k80_whole_lines_of_boards) (n := 63) (k := 11) (x := "script") (CX := fun w => L2N.CX (PySem.Challenge.rw_boundtobe_k80_whole_lines_of_boards).prog w) (sp := fun w => DL.spLaw _) rfl (by decide) rfl ⟨rfl, by decide, by decide⟩ (fun w h Y => PySem.W.kIn_of Y) ?F (fun _ _ a ns hl _ hS => ⟨rfl, a, ns, rfl, hl, hS, fun _ => rfl⟩) (fun _ _ _ _ _ h => DL.no_out h)
  case F =>
    intro w mg fa h KX G hmg
    exact K80.facts KX G hmg (by unfold He.SaysD; kernel_rfl) (by kernel_rfl) K80.hF
