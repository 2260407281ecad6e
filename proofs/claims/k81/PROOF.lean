import PyProof.Rows.All
import Wide.All
import OpenK.AllK
import Wide.FinOn
import HandS.ForMost
import HandS.ForExc
import HandS.Wide
import HandS.Deep
import HandS.CallSlots
import HandS.Defaults
import HandS.Lambda
import HandS.TupAny
import HandS.TupMul
import HandS.Style
import HandS.WideBits
import HandS.IsInst
import HandS.Rev
import HandS.RevTup
import HandS.Zip
import HandS.Iter
import HandS.SortInts
import HandS.ExcCtx
import HandS.WordsExc
import HandS.NoneIn
import HandS.EndBits
import KE.GoesEnum
import HandS.Strs
import KE.DatumOrd
import HandS.SortKw
import HandS.TryMany
import HandS.ExcIs
import HandS.ExcField
import HandS.ExcInit
import KE.KExcIs
import HandS.Conv
import HandS.More
import HandS.SetFor
import HandS.Small
import HandS.HotCalls
import KE.RegKTryMore
import KE.RegKIsAll
import PySem.Challenge.RW_boughswap_k81_powers_of_racks
set_option Elab.async false
set_option linter.all false
set_option maxRecDepth 100000
/-! Fv: values by themselves. D: data that never changes again; S: what a variable holds (data, or a list or dict of its own). -/
namespace Fv
open PySem PySem.Spec PyProof.Rows L2

inductive D where
  | non | bl (b : Bool) | int (i : Int) | str (x : Str)
  | tup (xs : List D) | lst (xs : List D)
  | dic (ks : List Key) (vs : List D)
  | ins (c : Nat) (ns : List Str) (vs : List D)
  | fn (f : Nat) | ty (n : String)

inductive S where
  | fr (d : D)
  | ol (xs : List D)
  | od (ks : List Key) (vs : List D)
  | oi (c : Nat) (ns : List Str) (vs : List D)

/-- what is seen of it -/
def S.d : S → D
  | .fr d => d
  | .ol xs => .lst xs
  | .od ks vs => .dic ks vs
  | .oi c ns vs => .ins c ns vs

/-- what is known of a heap, and stays so -/
structure Kn where
  P : Hp → Prop
  m : ∀ G G', (∀ b o, G b = some o → G' b = some o) → P G → P G'
def Kn.all : Kn := ⟨fun _ => True, fun _ _ _ _ => trivial⟩
structure Tb where
  K : PySem.W.Frag
  ca : Nat → Addr
  fa : Nat → Addr
  xk : Kn := Kn.all
  tbs : List (Addr × Str) := []

/-- a tuple whose object is known: it has no dict of its own -/
abbrev tbO (its : Array Value) (xs : List V) : HO := .frz { cls := .type "tuple", data := .seq its } (.tup xs)
/-- a tuple without a dict: one that was made here, or an object of the module -/
def TupAt (K : PySem.W.Frag) (H : Hp) (a : Addr) (xs : List V) : Prop :=
  (∃ its, H a = some (tbO its xs)) ∨ ∃ (o : Obj) (its : Array Value) (n : Nat), K.lookup a = some o ∧ o.cls = .type "tuple" ∧ o.dict = none ∧ o.data = .seq its n ∧ its.size ≤ sizeLine ∧ Vals xs its.toList
theorem TupAt.sq {K : PySem.W.Frag} {H : Hp} {a : Addr} {xs : List V} (h : TupAt K H a xs) : SqT K H a xs := by
  rcases h with ⟨its, h⟩ | ⟨o, its, n, h1, h2, _, h3⟩
  · exact .inl (.inr ⟨_, h⟩)
  · exact .inr ⟨o, its, n, h1, h2, h3⟩
theorem TupAt.of {K : PySem.W.Frag} {H : Hp} {a : Addr} {its : Array Value} {xs : List V} (h : H a = some (tbO its xs)) : TupAt K H a xs := .inl ⟨its, h⟩
/-- a new tuple is laid -/
theorem tupN {X : Cx} {pins : List (Addr × Obj)} {σ : List (Option V)} {H : Hp} {s : Shared} (I : Inv X pins σ H s) {xs : List V} {its : List Value} (r : Vals xs its) (hz : xs.length ≤ sizeLine) :
    Inv X pins σ (upd H s.heap.objs.size (tbO its.toArray xs)) { s with heap := s.heap.push { cls := .type "tuple", data := .seq its.toArray } } :=
  I.laid (t' := s.toks) (fun b u e => Heap.get?_push_of_some _ e) (Nat.le_refl _) ⟨Heap.get?_push_size _ rfl, hz, its, r, IsTup.new _ _⟩
/-- the promise of a new tuple -/
def NewT (Q : VK) (H : Hp) (xs : List V) : Prop := ∀ p its, H p = none → Q (.ref p) (upd H p (tbO its xs))
mutual
inductive RepF (T : Tb) (G : Hp) : V → D → Prop
  | non : RepF T G .non .non
  | bl (b : Bool) : RepF T G (.bl b) (.bl b)
  | int (i : Int) : RepF T G (.int i) (.int i)
  | str (x : Str) : RepF T G (.str x) (.str x)
  | tup {a : Addr} {xs : List V} {ds : List D} : TupAt T.K G a xs → RepFs T G xs ds → RepF T G (.ref a) (.tup ds)
  | lst {a : Addr} {xs : List V} {ds : List D} : SqL T.K G a xs → RepFs T G xs ds → RepF T G (.ref a) (.lst ds)
  | dic {a : Addr} {ks : List Key} {vs : List V} {ds : List D} : G a = some (.dK (ks.zip vs)) → ks.length = vs.length → RepFs T G vs ds → RepF T G (.ref a) (.dic ks ds)
  | ins {a dx : Addr} {c : Nat} {ns : List Str} {vs : List V} {ds : List D} : G a = some (.ins (T.ca c) dx (ns.zip vs)) → ns.length = vs.length → RepFs T G vs ds → RepF T G (.ref a) (.ins c ns ds)
  | fn (f : Nat) : T.xk.P G → RepF T G (.ref (T.fa f)) (.fn f)
  | ty (n : String) : RepF T G (.ty n) (.ty n)
inductive RepFs (T : Tb) (G : Hp) : List V → List D → Prop
  | nil : RepFs T G [] []
  | cons {v : V} {vs : List V} {d : D} {ds : List D} : RepF T G v d → RepFs T G vs ds → RepFs T G (v :: vs) (d :: ds)
end

def Sub (G H : Hp) : Prop := ∀ b o, G b = some o → H b = some o
theorem Sub.refl (G : Hp) : Sub G G := fun _ _ h => h
theorem Sub.trans {A B C : Hp} (h : Sub A B) (k : Sub B C) : Sub A C := fun b o e => k b o (h b o e)
theorem Sub.rd {G H : Hp} (s : Sub G H) {a : Addr} {u : HO} (h : Rd G a u) : Rd H a u := by
  rcases h with h | ⟨o, h⟩
  · exact .inl (s _ _ h)
  · exact .inr ⟨o, s _ _ h⟩
theorem Sub.sqL {G H : Hp} (s : Sub G H) {K : PySem.W.Frag} {a : Addr} {xs : List V} (h : SqL K G a xs) : SqL K H a xs := h.imp s.rd id
theorem Sub.tupAt {G H : Hp} (s : Sub G H) {K : PySem.W.Frag} {a : Addr} {xs : List V} (h : TupAt K G a xs) : TupAt K H a xs := h.imp (fun ⟨its, h⟩ => ⟨its, s _ _ h⟩) id
theorem Sub.sqT {G H : Hp} (s : Sub G H) {K : PySem.W.Frag} {a : Addr} {xs : List V} (h : SqT K G a xs) : SqT K H a xs := h.imp s.rd id

mutual
theorem RepF.mono {T : Tb} {G G' : Hp} (s : Sub G G') : ∀ {v : V} {d : D}, RepF T G v d → RepF T G' v d
  | _, _, .non => .non
  | _, _, .bl b => .bl b
  | _, _, .int i => .int i
  | _, _, .str x => .str x
  | _, _, .tup h k => .tup (s.tupAt h) (RepFs.mono s k)
  | _, _, .lst h k => .lst (s.sqL h) (RepFs.mono s k)
  | _, _, .dic h l k => .dic (s _ _ h) l (RepFs.mono s k)
  | _, _, .ins h l k => .ins (s _ _ h) l (RepFs.mono s k)
  | _, _, .fn f h => .fn f (T.xk.m _ _ s h)
  | _, _, .ty n => .ty n
theorem RepFs.mono {T : Tb} {G G' : Hp} (s : Sub G G') : ∀ {vs : List V} {ds : List D}, RepFs T G vs ds → RepFs T G' vs ds
  | _, _, .nil => .nil
  | _, _, .cons h k => .cons (RepF.mono s h) (RepFs.mono s k)
end

theorem RepFs.length {T : Tb} {G : Hp} : ∀ {vs : List V} {ds : List D}, RepFs T G vs ds → vs.length = ds.length
  | _, _, .nil => rfl
  | _, _, .cons _ k => by simp [RepFs.length k]
theorem RepFs.append {T : Tb} {G : Hp} : ∀ {vs ws : List V} {ds es : List D}, RepFs T G vs ds → RepFs T G ws es → RepFs T G (vs ++ ws) (ds ++ es)
  | _, _, _, _, .nil, k => k
  | _, _, _, _, .cons h t, k => .cons h (RepFs.append t k)
theorem RepFs.take {T : Tb} {G : Hp} : ∀ {vs : List V} {ds : List D} (n : Nat), RepFs T G vs ds → RepFs T G (vs.take n) (ds.take n)
  | _, _, 0, _ => .nil
  | _, _, _ + 1, .nil => .nil
  | _, _, n + 1, .cons h t => .cons h (RepFs.take n t)
theorem RepFs.drop {T : Tb} {G : Hp} : ∀ {vs : List V} {ds : List D} (n : Nat), RepFs T G vs ds → RepFs T G (vs.drop n) (ds.drop n)
  | _, _, 0, h => h
  | _, _, _ + 1, .nil => .nil
  | _, _, n + 1, .cons _ t => RepFs.drop n t
theorem RepFs.get {T : Tb} {G : Hp} : ∀ {vs : List V} {ds : List D} {i : Nat} {d : D}, RepFs T G vs ds → ds[i]? = some d → ∃ v, vs[i]? = some v ∧ RepF T G v d
  | _, _, _, _, .nil, e => by simp at e
  | _, _, 0, _, .cons h _, e => by simp at e; subst e; exact ⟨_, rfl, h⟩
  | _, _, i + 1, d, .cons _ t, e => by
    obtain ⟨v, h1, h2⟩ := RepFs.get (i := i) (d := d) t (by simpa using e)
    exact ⟨v, by simpa using h1, h2⟩
theorem RepFs.set {T : Tb} {G : Hp} {v : V} {d : D} (r : RepF T G v d) : ∀ {vs : List V} {ds : List D} (i : Nat), RepFs T G vs ds → RepFs T G (vs.set i v) (ds.set i d)
  | _, _, _, .nil => .nil
  | _, _, 0, .cons _ t => .cons r t
  | _, _, i + 1, .cons q t => .cons q (RepFs.set r i t)

/-- a variable's thing; a list of its own stands at an address that nothing else knows -/
inductive RepO (T : Tb) (G H : Hp) : V → S → Prop
  | fr {v : V} {d : D} : RepF T G v d → RepO T G H v (.fr d)
  | ol {a : Addr} {vs : List V} {ds : List D} : H a = some (.lst vs) → G a = none → RepFs T G vs ds → RepO T G H (.ref a) (.ol ds)
  | od {a : Addr} {ks : List Key} {vs : List V} {ds : List D} : H a = some (.dK (ks.zip vs)) → G a = none → ks.length = vs.length → RepFs T G vs ds → RepO T G H (.ref a) (.od ks ds)
  | oi {a dx : Addr} {c : Nat} {ns : List Str} {vs : List V} {ds : List D} : H a = some (.ins (T.ca c) dx (ns.zip vs)) → G a = none → ns.length = vs.length → RepFs T G vs ds → RepO T G H (.ref a) (.oi c ns ds)
/-- its own address -/
def fp : V → S → List Addr
  | _, .fr _ => []
  | .ref a, _ => [a]
  | _, _ => []
theorem RepO.own {T : Tb} {G H : Hp} {v : V} {s : S} (r : RepO T G H v s) : ∀ b ∈ fp v s, G b = none ∧ ∃ o, H b = some o := by
  cases r with
  | fr _ => intro b hb; exact absurd (show b ∈ ([] : List Addr) from by cases v <;> exact hb) (by simp)
  | ol h g _ => intro b hb; simp [fp] at hb; subst hb; exact ⟨g, _, h⟩
  | od h g _ _ => intro b hb; simp [fp] at hb; subst hb; exact ⟨g, _, h⟩
  | oi h g _ _ => intro b hb; simp [fp] at hb; subst hb; exact ⟨g, _, h⟩
/-- neither a table nor a code object -/
def Od (o : HO) : Prop := (∀ ps, o ≠ .tbl ps) ∧ ∀ f, o ≠ .ext f
theorem Od.lst {vs : List V} : Od (.lst vs) := ⟨fun _ z => (by cases z), fun _ z => (by cases z)⟩
theorem Od.dK {es : List (Key × V)} : Od (.dK es) := ⟨fun _ z => (by cases z), fun _ z => (by cases z)⟩
theorem Od.ins {c dx : Addr} {fs : List (Str × V)} : Od (.ins c dx fs) := ⟨fun _ z => (by cases z), fun _ z => (by cases z)⟩
theorem RepO.plain {T : Tb} {G H : Hp} {v : V} {s : S} (r : RepO T G H v s) : ∀ b ∈ fp v s, ∀ o, H b = some o → Od o := by
  cases r with
  | fr _ => intro b hb; exact absurd (show b ∈ ([] : List Addr) from by cases v <;> exact hb) (by simp)
  | ol h g _ => intro b hb o ho; simp [fp] at hb; subst hb; rw [h] at ho; cases ho; exact .lst
  | od h g _ _ => intro b hb o ho; simp [fp] at hb; subst hb; rw [h] at ho; cases ho; exact .dK
  | oi h g _ _ => intro b hb o ho; simp [fp] at hb; subst hb; rw [h] at ho; cases ho; exact .ins
theorem fp_fr (v : V) (d : D) : fp v (.fr d) = [] := by cases v <;> rfl
/-- where its own address is kept -/
theorem RepO.frame {T : Tb} {G H G' H' : Hp} {v : V} {s : S} (r : RepO T G H v s) (m : Sub G G') (k : ∀ b ∈ fp v s, H' b = H b ∧ G' b = none) : RepO T G' H' v s := by
  cases r with
  | fr h => exact .fr (h.mono m)
  | ol h g q => obtain ⟨e1, e2⟩ := k _ (List.mem_singleton.mpr rfl); exact .ol (e1.trans h) e2 (q.mono m)
  | od h g l q => obtain ⟨e1, e2⟩ := k _ (List.mem_singleton.mpr rfl); exact .od (e1.trans h) e2 l (q.mono m)
  | oi h g l q => obtain ⟨e1, e2⟩ := k _ (List.mem_singleton.mpr rfl); exact .oi (e1.trans h) e2 l (q.mono m)

abbrev En := List (Option S)
abbrev SV := List (Option V)
/-- all own addresses of the slots -/
def fps : SV → En → List Addr
  | some v :: σ, some s :: e => fp v s ++ fps σ e
  | _ :: σ, _ :: e => fps σ e
  | _, _ => []
theorem fps_cons (x : Option V) (σ : SV) (y : Option S) (e : En) : fps (x :: σ) (y :: e) = (match x, y with | some v, some s => fp v s | _, _ => []) ++ fps σ e := by
  cases x <;> cases y <;> rfl
theorem fps_append : ∀ {σ : SV} {e : En} (σ' : SV) (e' : En), σ.length = e.length → fps (σ ++ σ') (e ++ e') = fps σ e ++ fps σ' e'
  | [], [], _, _, _ => rfl
  | x :: σ, y :: e, σ', e', h => by
    have ih := fps_append (σ := σ) (e := e) σ' e' (by simpa using h)
    show fps (x :: (σ ++ σ')) (y :: (e ++ e')) = _
    rw [fps_cons, fps_cons, ih, List.append_assoc]
  | [], _ :: _, _, _, h => by simp at h
  | _ :: _, [], _, _, h => by simp at h
/-- a slot taken out -/
theorem fps_out : ∀ {σ : SV} {e : En} {i : Nat} {v : V} {s : S}, σ[i]? = some (some v) → e[i]? = some (some s) → (fps σ e).Perm (fp v s ++ fps σ (e.set i none))
  | [], _, _, _, _, h, _ => by simp at h
  | _ :: _, [], _, _, _, _, h => by simp at h
  | x :: σ, y :: e, 0, v, s, h1, h2 => by
    simp at h1 h2; subst h1; subst h2
    exact List.Perm.refl _
  | x :: σ, y :: e, i + 1, v, s, h1, h2 => by
    have ih := fps_out (σ := σ) (e := e) (i := i) (by simpa using h1) (by simpa using h2)
    show (fps (x :: σ) (y :: e)).Perm (fp v s ++ fps (x :: σ) (y :: e.set i none))
    rw [fps_cons, fps_cons]
    refine (List.Perm.append_left _ ih).trans ?_
    rw [← List.append_assoc, ← List.append_assoc]
    exact List.Perm.append_right _ List.perm_append_comm
/-- a slot filled -/
theorem fps_in : ∀ {σ : SV} {e : En} {i : Nat} {v : V} {s : S}, i < e.length → σ[i]? = some (some v) → (fps σ (e.set i (some s))).Perm (fp v s ++ fps σ (e.set i none))
  | [], _, _, _, _, _, h => by simp at h
  | _ :: _, [], _, _, _, hl, _ => by simp at hl
  | x :: σ, y :: e, 0, v, s, _, h1 => by
    simp at h1; subst h1
    exact List.Perm.refl _
  | x :: σ, y :: e, i + 1, v, s, hl, h1 => by
    have ih := fps_in (σ := σ) (e := e) (i := i) (v := v) (s := s) (by simpa using hl) (by simpa using h1)
    show (fps (x :: σ) (y :: e.set i (some s))).Perm (fp v s ++ fps (x :: σ) (y :: e.set i none))
    rw [fps_cons, fps_cons]
    refine (List.Perm.append_left _ ih).trans ?_
    rw [← List.append_assoc, ← List.append_assoc]
    exact List.Perm.append_right _ List.perm_append_comm
/-- a slot emptied does not ask what stands there -/
theorem fps_none : ∀ {σ : SV} {e : En} {i : Nat} (x : Option V), fps (σ.set i x) (e.set i none) = fps σ (e.set i none)
  | [], e, i, x => by simp
  | _ :: _, [], _, _ => by simp [fps]
  | y :: σ, z :: e, 0, x => by
    show fps (x :: σ) (none :: e) = fps (y :: σ) (none :: e)
    rw [fps_cons, fps_cons]
    cases x <;> cases y <;> rfl
  | y :: σ, z :: e, i + 1, x => by
    show fps (y :: σ.set i x) (z :: e.set i none) = fps (y :: σ) (z :: e.set i none)
    rw [fps_cons, fps_cons, fps_none x]
theorem fps_mem : ∀ {σ : SV} {e : En} {b : Addr}, b ∈ fps σ e → ∃ (i : Nat) (v : V) (s : S), σ[i]? = some (some v) ∧ e[i]? = some (some s) ∧ b ∈ fp v s
  | [], _, _, h => by simp [fps] at h
  | _ :: _, [], _, h => by simp [fps] at h
  | x :: σ, y :: e, b, h => by
    rw [fps_cons] at h
    rcases List.mem_append.mp h with h | h
    · cases x with
      | none => simp at h
      | some v => cases y with
        | none => simp at h
        | some s => exact ⟨0, v, s, rfl, rfl, h⟩
    · obtain ⟨i, v, s, a, b, c⟩ := fps_mem h
      exact ⟨i + 1, v, s, by simpa using a, by simpa using b, c⟩
theorem mem_fps : ∀ {σ : SV} {e : En} {i : Nat} {v : V} {s : S} {b : Addr}, σ[i]? = some (some v) → e[i]? = some (some s) → b ∈ fp v s → b ∈ fps σ e := fun h1 h2 h3 =>
  (fps_out h1 h2).mem_iff.mpr (List.mem_append_left _ h3)
theorem fps_sub {σ : SV} {e : En} {i : Nat} : ∀ b, b ∈ fps σ (e.set i none) → b ∈ fps σ e := fun b hb => by
  obtain ⟨j, v, s, h1, h2, h3⟩ := fps_mem hb
  by_cases hj : i = j
  · subst hj
    by_cases hl : i < e.length
    · rw [List.getElem?_set_self hl] at h2; cases h2
    · rw [List.getElem?_eq_none (by simpa using hl)] at h2; cases h2
  · rw [List.getElem?_set_ne hj] at h2
    exact mem_fps h1 h2 h3
theorem fps_nodup_out {σ : SV} {e : En} {i : Nat} (h : (fps σ e).Nodup) : (fps σ (e.set i none)).Nodup := by
  cases h2 : e[i]? with
  | none => rw [List.set_eq_of_length_le (by simpa using List.getElem?_eq_none_iff.mp h2)]; exact h
  | some y => cases y with
    | none =>
      have : e.set i none = e := by
        obtain ⟨hl, e1⟩ := List.getElem?_eq_some_iff.mp h2
        rw [← e1]; exact List.set_getElem_self hl
      rw [this]; exact h
    | some s => cases h1 : σ[i]? with
      | some x => cases x with
        | some v => exact ((fps_out h1 h2).nodup_iff.mp h).sublist (List.sublist_append_right _ _)
        | none =>
          have : fps σ (e.set i none) = fps σ e := by
            clear h
            induction σ generalizing e i with
            | nil => simp at h1
            | cons y σ ih => cases e with
              | nil => simp at h2
              | cons z e => cases i with
                | zero => simp at h1; subst h1; show fps (none :: σ) (none :: e) = fps (none :: σ) (z :: e); rw [fps_cons, fps_cons]
                | succ i => show fps (y :: σ) (z :: e.set i none) = fps (y :: σ) (z :: e); rw [fps_cons, fps_cons, ih (by simpa using h2) (by simpa using h1)]
          rw [this]; exact h
      | none =>
        have : fps σ (e.set i none) = fps σ e := by
          clear h
          induction σ generalizing e i with
          | nil => simp [fps]
          | cons y σ ih => cases e with
            | nil => simp at h2
            | cons z e => cases i with
              | zero => simp at h1
              | succ i => show fps (y :: σ) (z :: e.set i none) = fps (y :: σ) (z :: e); rw [fps_cons, fps_cons, ih (by simpa using h2) (by simpa using h1)]
        rw [this]; exact h

/-- the tables of code objects; none of what stands frozen is a table -/
def TabG (T : List (Addr × Str)) (G H : Hp) : Prop := LamX.Tabs T H ∧ ∀ b ps, G b ≠ some (HO.tbl ps)
/-- the slots as they stand -/
structure Sl (T : Tb) (G H : Hp) (σ : SV) (e : En) : Prop where
  sub : Sub G H
  len : σ.length = e.length
  rep : ∀ (i : Nat) (s : S), e[i]? = some (some s) → ∃ v, σ[i]? = some (some v) ∧ RepO T G H v s
  nd : (fps σ e).Nodup
  tab : TabG T.tbs G H
/-- nothing stands there, or a table -/
def NT (H : Hp) (b : Addr) : Prop := ∀ o, H b = some o → ∃ ps, o = .tbl ps
theorem NT.of {H : Hp} {b : Addr} (h : H b = none) : NT H b := fun o e => by rw [h] at e; cases e
theorem tabs_keep {H H' : Hp} {A : List Addr} (keep : ∀ b o, H b = some o → b ∉ A → H' b = some o) (nt : ∀ b ∈ A, ∀ o, H b = some o → Od o) (T : List (Addr × Str)) (h : LamX.Tabs T H) : LamX.Tabs T H' := fun p hp => by
  obtain ⟨ps, h1, h2, h3⟩ := h p hp
  refine ⟨ps, keep _ _ h1 fun hm => (nt _ hm _ h1).1 ps rfl, h2, fun pos cv hc => ?_⟩
  obtain ⟨c, e1, e2⟩ := h3 pos cv hc
  exact ⟨c, e1, keep _ _ e2 fun hm => (nt _ hm _ e2).2 _ rfl⟩
theorem tabs_upd {H : Hp} {q : Addr} {o : HO} (ho : ∀ o', H q = some o' → Od o') (T : List (Addr × Str)) (h : LamX.Tabs T H) : LamX.Tabs T (upd H q o) :=
  tabs_keep (A := [q]) (fun b ob hb hn => by rw [upd_ne (by simpa using hn)]; exact hb) (fun b hb o' h' => by simp at hb; subst hb; exact ho o' h') T h
/-- what may have become of the heaps -/
structure Evo (Ts : List (Addr × Str)) (G H : Hp) (A : List Addr) (G' H' : Hp) (A' : List Addr) : Prop where
  mono : Sub G G'
  keep : ∀ b o, H b = some o → b ∉ A → (∀ ps, o ≠ .tbl ps) → H' b = some o
  own : ∀ b ∈ A', b ∈ A ∨ NT H b
  frz : ∀ b o, G' b = some o → G b = some o ∨ b ∈ A ∨ NT H b
  tab : TabG Ts G H → TabG Ts G' H'
section
variable {Ts : List (Addr × Str)} {G H G1 H1 G2 H2 : Hp} {A A1 A2 : List Addr}
theorem Evo.mk' {G' H' : Hp} {A' : List Addr} (mono : Sub G G') (keep : ∀ b o, H b = some o → b ∉ A → H' b = some o) (own : ∀ b ∈ A', b ∈ A ∨ H b = none) (frz : ∀ b o, G' b = some o → G b = some o ∨ b ∈ A ∨ H b = none) (nt : ∀ b ∈ A, ∀ o, H b = some o → Od o) (ng : ∀ b ps, G' b = some (HO.tbl ps) → G b = some (HO.tbl ps)) : Evo Ts G H A G' H' A' :=
  ⟨mono, fun b o h n _ => keep b o h n, fun b h => (own b h).imp id .of, fun b o h => (frz b o h).imp id (Or.imp id .of), fun h => ⟨tabs_keep keep nt _ h.1, fun b ps z => h.2 b ps (ng b ps z)⟩⟩
theorem Evo.refl : Evo Ts G H A G H A := ⟨.refl _, fun _ _ h _ _ => h, fun _ h => .inl h, fun _ _ h => .inl h, fun h => h⟩
theorem Evo.trans (a : Evo Ts G H A G1 H1 A1) (b : Evo Ts G1 H1 A1 G2 H2 A2) : Evo Ts G H A G2 H2 A2 := by
  have non : ∀ c, NT H1 c → c ∈ A ∨ NT H c := fun c n => by
    by_cases hc : c ∈ A
    · exact .inl hc
    · refine .inr fun o e => ?_
      by_cases z : ∃ ps, o = .tbl ps
      · exact z
      · exact n o (a.keep c o e hc fun ps q => z ⟨ps, q⟩)
  refine ⟨a.mono.trans b.mono, fun c o h hc nz => b.keep c o (a.keep c o h hc nz) (fun hm => ?_) nz, fun c hc => ?_, fun c o h => ?_, fun h => b.tab (a.tab h)⟩
  · rcases a.own c hm with z | z
    · exact hc z
    · obtain ⟨ps, q⟩ := z o h
      exact nz ps q
  · rcases b.own c hc with z | z
    · exact a.own c z
    · exact non c z
  · rcases b.frz c o h with z | z | z
    · exact a.frz c o z
    · exact .inr (a.own c z)
    · exact .inr (non c z)
theorem Evo.less (a : Evo Ts G H A G1 H1 A1) (h : ∀ b ∈ A2, b ∈ A1) : Evo Ts G H A G1 H1 A2 := ⟨a.mono, a.keep, fun b hb => a.own b (h b hb), a.frz, a.tab⟩
theorem Evo.wide (a : Evo Ts G H A G1 H1 A1) (h : ∀ b ∈ A, b ∈ A2) : Evo Ts G H A2 G1 H1 A1 :=
  ⟨a.mono, fun b o e n => a.keep b o e fun m => n (h b m), fun b hb => (a.own b hb).imp (h b) id, fun b o e => (a.frz b o e).imp id (Or.imp (h b) id), a.tab⟩
end
section
variable {T : Tb} {G H G' H' : Hp} {σ σ' : SV} {e e' : En}
theorem Sl.own (x : Sl T G H σ e) : ∀ b ∈ fps σ e, G b = none ∧ ∃ o, H b = some o := fun b hb => by
  obtain ⟨i, v, s, h1, h2, h3⟩ := fps_mem hb
  obtain ⟨v', e1, r⟩ := x.rep i s h2
  rw [h1] at e1; cases e1
  exact r.own b h3
theorem NT.no {b : Addr} {o : HO} (n : NT H b) (h : H b = some o) (d : Od o) : False := let ⟨ps, q⟩ := n o h; d.1 ps q
theorem Sl.od (x : Sl T G H σ e) : ∀ b ∈ fps σ e, ∀ o, H b = some o → Od o := fun b hb o ho => by
  obtain ⟨i, v, s, h1, h2, h3⟩ := fps_mem hb
  obtain ⟨v', e1, r⟩ := x.rep i s h2
  rw [h1] at e1; cases e1
  exact r.plain b h3 o ho
theorem Sl.nt (x : Sl T G H σ e) {b : Addr} (hb : b ∈ fps σ e) (n : NT H b) : False := let ⟨_, o, ho⟩ := x.own b hb; n.no ho (x.od b hb o ho)
/-- a slot's thing -/
theorem Sl.at (x : Sl T G H σ e) {i : Nat} {s : S} (h : e[i]? = some (some s)) : ∃ v, σ[i]? = some (some v) ∧ RepO T G H v s := x.rep i s h
/-- a slot emptied -/
theorem Sl.out (x : Sl T G H σ e) (i : Nat) : Sl T G H σ (e.set i none) := by
  refine ⟨x.sub, by rw [List.length_set]; exact x.len, fun j s h => ?_, fps_nodup_out x.nd, x.tab⟩
  by_cases hj : i = j
  · subst hj
    by_cases hl : i < e.length
    · rw [List.getElem?_set_self hl] at h; cases h
    · rw [List.getElem?_eq_none (by simpa using hl)] at h; cases h
  · rw [List.getElem?_set_ne hj] at h
    exact x.rep j s h
/-- the rest where something else went on -/
theorem Sl.frame (x : Sl T G H σ e) {A A' : List Addr} (E : Evo T.tbs G H A G' H' A') (hs : Sub G' H') (dis : ∀ b ∈ fps σ e, b ∉ A) : Sl T G' H' σ e := by
  refine ⟨hs, x.len, fun i s h => ?_, x.nd, E.tab x.tab⟩
  obtain ⟨v, h1, r⟩ := x.rep i s h
  refine ⟨v, h1, r.frame E.mono fun b hb => ?_⟩
  have hm := mem_fps h1 h hb
  obtain ⟨g, o, ho⟩ := x.own b hm
  have od := x.od b hm o ho
  refine ⟨by rw [ho]; exact E.keep b o ho (dis b hm) od.1, ?_⟩
  cases q : G' b with
  | none => rfl
  | some u => rcases E.frz b u q with z | z | z
              · rw [g] at z; cases z
              · exact absurd z (dis b hm)
              · obtain ⟨ps, q⟩ := z o ho; exact absurd q (od.1 ps)
/-- a slot filled anew -/
theorem Sl.put (x : Sl T G H σ (e.set i none)) {v : V} {s : S} (hi : i < e.length) (r : RepO T G H v s) (hn : ∀ b ∈ fp v s, b ∉ fps σ (e.set i none)) : Sl T G H (σ.set i (some v)) (e.set i (some s)) := by
  have hl : σ.length = e.length := by have := x.len; rwa [List.length_set] at this
  have hv : (σ.set i (some v))[i]? = some (some v) := List.getElem?_set_self (by omega)
  refine ⟨x.sub, by rw [List.length_set, List.length_set]; exact hl, fun j t h => ?_, ?_, x.tab⟩
  · by_cases hj : i = j
    · subst hj
      rw [List.getElem?_set_self hi] at h; cases h
      exact ⟨v, hv, r⟩
    · rw [List.getElem?_set_ne hj] at h
      obtain ⟨u, h1, r'⟩ := x.rep j t (by rw [List.getElem?_set_ne hj]; exact h)
      exact ⟨u, by rw [List.getElem?_set_ne hj]; exact h1, r'⟩
  · refine (fps_in hi hv).nodup_iff.mpr ?_
    rw [fps_none]
    refine List.nodup_append.mpr ⟨?_, x.nd, fun a ha b hb => fun z => hn a ha (z ▸ hb)⟩
    cases v <;> cases s <;> simp [fp]
theorem fps_set_mem {v : V} {s : S} (hi : i < e.length) (hl : σ.length = e.length) : ∀ b, b ∈ fps (σ.set i (some v)) (e.set i (some s)) ↔ b ∈ fp v s ∨ b ∈ fps σ (e.set i none) := fun b => by
  have hv : (σ.set i (some v))[i]? = some (some v) := List.getElem?_set_self (by omega)
  rw [(fps_in hi hv).mem_iff, List.mem_append, fps_none]
/-- two rows of slots beside -/
theorem Sl.append (x : Sl T G H σ e) (y : Sl T G H σ' e') (dis : ∀ b ∈ fps σ e, b ∉ fps σ' e') : Sl T G H (σ ++ σ') (e ++ e') := by
  refine ⟨x.sub, by rw [List.length_append, List.length_append, x.len, y.len], fun i s h => ?_, ?_, x.tab⟩
  · by_cases hi : i < e.length
    · rw [List.getElem?_append_left hi] at h
      obtain ⟨v, h1, r⟩ := x.rep i s h
      exact ⟨v, by rw [List.getElem?_append_left (by rw [x.len]; exact hi)]; exact h1, r⟩
    · rw [List.getElem?_append_right (by omega)] at h
      obtain ⟨v, h1, r⟩ := y.rep _ s h
      exact ⟨v, by rw [List.getElem?_append_right (by rw [x.len]; omega), x.len]; exact h1, r⟩
  · rw [fps_append _ _ x.len]
    exact List.nodup_append.mpr ⟨x.nd, y.nd, fun a ha b hb z => dis a ha (z ▸ hb)⟩
theorem Sl.left (x : Sl T G H (σ ++ σ') (e ++ e')) (hl : σ.length = e.length) : Sl T G H σ e := by
  refine ⟨x.sub, hl, fun i s h => ?_, ?_, x.tab⟩
  · have hi : i < e.length := (List.getElem?_eq_some_iff.mp h).1
    obtain ⟨v, h1, r⟩ := x.rep i s (by rw [List.getElem?_append_left hi]; exact h)
    exact ⟨v, by rw [List.getElem?_append_left (by omega)] at h1; exact h1, r⟩
  · have := x.nd
    rw [fps_append _ _ hl] at this
    exact (List.nodup_append.mp this).1
theorem Sl.right (x : Sl T G H (σ ++ σ') (e ++ e')) (hl : σ.length = e.length) : Sl T G H σ' e' := by
  refine ⟨x.sub, by have := x.len; simp only [List.length_append] at this; omega, fun i s h => ?_, ?_, x.tab⟩
  · obtain ⟨v, h1, r⟩ := x.rep (e.length + i) s (by rw [List.getElem?_append_right (by omega)]; simpa using h)
    exact ⟨v, by rw [List.getElem?_append_right (by omega), hl] at h1; simpa using h1, r⟩
  · have := x.nd
    rw [fps_append _ _ hl] at this
    exact (List.nodup_append.mp this).2.1
theorem Sl.dis (x : Sl T G H (σ ++ σ') (e ++ e')) (hl : σ.length = e.length) : ∀ b ∈ fps σ e, b ∉ fps σ' e' := fun b h1 h2 => by
  have := x.nd
  rw [fps_append _ _ hl] at this
  exact (List.nodup_append.mp this).2.2 b h1 b h2 rfl
theorem Sl.nil (h : Sub G H) (t : TabG T.tbs G H) : Sl T G H [] [] := ⟨h, rfl, fun i s h => by simp at h, by simp [fps], t⟩
theorem Sl.one (h : Sub G H) {v : V} {s : S} (r : RepO T G H v s) (t : TabG T.tbs G H) : Sl T G H [some v] [some s] := by
  refine ⟨h, rfl, fun i t q => ?_, ?_, t⟩
  · cases i with
    | zero => simp at q; subst q; exact ⟨v, rfl, r⟩
    | succ i => simp at q
  · show (fp v s ++ []).Nodup
    cases v <;> cases s <;> simp [fp]
end
end Fv

namespace Fv
open PySem PySem.Spec PyProof.Rows L2

/-- what an expression hands on: a thing, or the place of a variable that has a thing of its own -/
inductive R where
  | vl (s : S)
  | pl (i : Nat)
/-- an exception of a class of the text -/
structure Xn where
  c : Nat
  ns : List Str
  ds : List D
inductive Ou (α : Type) where
  | ok (a : α) (e : En)
  | ex (x : Xn) (e : En)
  | no
def Ou.bnd {α β : Type} (o : Ou β) (f : β → En → Ou α) : Ou α :=
  match o with
  | .ok k e => f k e
  | .ex x e => .ex x e
  | .no => .no
def RepX (T : Tb) (G : Hp) (c : Value) (dx : Option Addr) (x : Xn) : Prop :=
  c = .ref (T.ca x.c) ∧ ((x.ns = [] ∧ x.ds = [] ∧ dx = none) ∨ ∃ (d : Addr) (vs : List V), dx = some d ∧ G d = some (.xd (x.ns.zip vs)) ∧ x.ns.length = vs.length ∧ RepFs T G vs x.ds)

/-- the names' slots and, behind them, what was reckoned on the way -/
structure Md (T : Tb) (G H : Hp) (σ : SV) (e : En) (τ : List V) (u : List S) : Prop where
  l1 : σ.length = e.length
  l2 : τ.length = u.length
  sl : Sl T G H (σ ++ τ.map some) (e ++ u.map some)
def As (σ : SV) (e : En) (τ : List V) (u : List S) : List Addr := fps (σ ++ τ.map some) (e ++ u.map some)

inductive HR (σ : SV) : List R → List V → List V → List S → Prop
  | nil : HR σ [] [] [] []
  | vl {s : S} {v : V} {rs : List R} {vs τ : List V} {u : List S} : HR σ rs vs τ u → HR σ (.vl s :: rs) (v :: vs) (v :: τ) (s :: u)
  | pl {i : Nat} {v : V} {rs : List R} {vs τ : List V} {u : List S} : σ[i]? = some (some v) → HR σ rs vs τ u → HR σ (.pl i :: rs) (v :: vs) τ u
theorem HR.len {σ : SV} {rs : List R} {vs τ : List V} {u : List S} (h : HR σ rs vs τ u) : τ.length = u.length ∧ rs.length = vs.length := by
  induction h with
  | nil => exact ⟨rfl, rfl⟩
  | vl _ ih => simp [ih]
  | pl _ _ ih => simp [ih]
theorem HR.app {σ : SV} {rs rs' : List R} {vs vs' τ τ' : List V} {u u' : List S} (h : HR σ rs vs τ u) (k : HR σ rs' vs' τ' u') : HR σ (rs ++ rs') (vs ++ vs') (τ ++ τ') (u ++ u') := by
  induction h with
  | nil => exact k
  | vl _ ih => exact .vl ih
  | pl e _ ih => exact .pl e ih

/-! ### states -/
section
variable {T : Tb} {G H G' H' : Hp} {σ : SV} {e e' : En} {τ τ' : List V} {u u' : List S}
theorem Md.dropT (m : Md T G H σ e (τ ++ τ') (u ++ u')) (h : τ.length = u.length) : Md T G H σ e τ u := by
  refine ⟨m.l1, h, ?_⟩
  have x := m.sl
  rw [List.map_append, List.map_append, ← List.append_assoc, ← List.append_assoc] at x
  exact x.left (by simp [m.l1, h])
theorem As_drop (h1 : σ.length = e.length) (h : τ.length = u.length) : ∀ b ∈ As σ e τ u, b ∈ As σ e (τ ++ τ') (u ++ u') := fun b hb => by
  unfold As at *
  rw [List.map_append, List.map_append, ← List.append_assoc, ← List.append_assoc, fps_append _ _ (by simp [h1, h])]
  exact List.mem_append_left _ hb
theorem Md.push (m : Md T G H σ e τ u) {v : V} {s : S} (r : RepO T G H v s) (hn : ∀ b ∈ fp v s, b ∉ As σ e τ u) : Md T G H σ e (τ ++ [v]) (u ++ [s]) := by
  refine ⟨m.l1, by simp [m.l2], ?_⟩
  rw [List.map_append, List.map_append, ← List.append_assoc, ← List.append_assoc]
  refine m.sl.append (Sl.one m.sl.sub r m.sl.tab) fun b hb hc => hn b ?_ hb
  have : b ∈ fp v s ++ [] := hc
  simpa using this
theorem As_push (h1 : σ.length = e.length) (h : τ.length = u.length) {v : V} {s : S} : ∀ b, b ∈ As σ e (τ ++ [v]) (u ++ [s]) ↔ b ∈ As σ e τ u ∨ b ∈ fp v s := fun b => by
  unfold As
  rw [List.map_append, List.map_append, ← List.append_assoc, ← List.append_assoc, fps_append _ _ (by simp [h1, h]), List.mem_append]
  show _ ∨ b ∈ fp v s ++ [] ↔ _
  rw [List.append_nil]
/-- frozen: nothing of it is anyone's own any more -/
theorem Sl.freeze {σ : SV} {e : En} (x : Sl T G H σ e) {i : Nat} {s : S} (h : e[i]? = some (some s)) :
    ∃ (G' : Hp) (v : V), Evo T.tbs G H (fps σ e) G' H (fps σ (e.set i (some (.fr s.d)))) ∧ Sl T G' H σ (e.set i (some (.fr s.d))) ∧ σ[i]? = some (some v) ∧ RepF T G' v s.d := by
  obtain ⟨v, hv, r⟩ := x.rep i s h
  have hi : i < e.length := (List.getElem?_eq_some_iff.mp h).1
  have hset : σ.set i (some v) = σ := by
    obtain ⟨hl, e1⟩ := List.getElem?_eq_some_iff.mp hv
    rw [← e1]; exact List.set_getElem_self hl
  have fin : ∀ (G' : Hp) (a : Addr) (o : HO), H a = some o → G a = none → a ∈ fps σ e → a ∉ fps σ (e.set i none) → G' = upd G a o → RepF T G' v s.d →
      ∃ (G' : Hp) (v : V), Evo T.tbs G H (fps σ e) G' H (fps σ (e.set i (some (.fr s.d)))) ∧ Sl T G' H σ (e.set i (some (.fr s.d))) ∧ σ[i]? = some (some v) ∧ RepF T G' v s.d := by
    intro G' a o ha hg hm hn hG' hr
    have mono : Sub G G' := fun b u q => by rw [hG', upd_ne (fun z => by rw [z, hg] at q; cases q)]; exact q
    have tg : TabG T.tbs G H → TabG T.tbs G' H := fun h => ⟨h.1, fun b ps z => by
      by_cases hb : b = a
      · rw [hG', hb, upd_same] at z; exact (x.od a hm o ha).1 ps (Option.some.inj z)
      · rw [hG', upd_ne hb] at z; exact h.2 b ps z⟩
    have sub : Sub G' H := fun b u q => by
      by_cases hb : b = a
      · rw [hG', hb, upd_same] at q; cases q; rw [hb]; exact ha
      · rw [hG', upd_ne hb] at q; exact x.sub b u q
    have ev : Evo T.tbs G H [a] G' H [] := ⟨mono, fun _ _ q _ _ => q, fun _ q => absurd q (by simp), fun b u q => by
      by_cases hb : b = a
      · exact .inr (.inl (by simp [hb]))
      · rw [hG', upd_ne hb] at q; exact .inl q, tg⟩
    have y : Sl T G' H σ (e.set i none) := (x.out i).frame ev sub fun b hb q => by
      have : b = a := by simpa using q
      subst this; exact hn hb
    have z := y.put hi (RepO.fr hr) (by rw [fp_fr]; simp)
    rw [hset] at z
    refine ⟨G', v, ⟨mono, fun _ _ q _ _ => q, fun b hb => ?_, fun b u q => ?_, tg⟩, z, hv, hr⟩
    · have := (fps_set_mem (σ := σ) (v := v) (s := .fr s.d) hi (by exact x.len) b).mp (by rw [hset]; exact hb)
      rcases this with q | q
      · rw [fp_fr] at q; simp at q
      · exact .inl (fps_sub b q)
    · rcases ev.frz b u q with q | q | q
      · exact .inl q
      · exact .inr (.inl (by have : b = a := by simpa using q
                             rw [this]; exact hm))
      · exact .inr (.inr q)
  have nin : ∀ a, fp v s = [a] → a ∉ fps σ (e.set i none) := fun a q hm => by
    have := (fps_out hv h).nodup_iff.mp x.nd
    rw [q] at this
    exact (List.nodup_append.mp this).2.2 a (by simp) a hm rfl
  cases r with
  | @fr _ d hr =>
    have : e.set i (some (.fr (S.fr d).d)) = e := by
      obtain ⟨hl, e1⟩ := List.getElem?_eq_some_iff.mp h
      show e.set i (some (.fr d)) = e
      rw [← e1]; exact List.set_getElem_self hl
    rw [this]
    exact ⟨G, v, .refl, x, hv, hr⟩
  | @ol a vs ds ha hg q => 
    have mono : Sub G (upd G a (.lst vs)) := fun b u q => by rw [upd_ne (fun z => by rw [z, hg] at q; cases q)]; exact q
    exact fin _ a _ ha hg (mem_fps hv h (by simp [fp])) (nin a rfl) rfl (.lst (.of upd_same) (q.mono mono))
  | @od a ks vs ds ha hg l q =>
    have mono : Sub G (upd G a (.dK (ks.zip vs))) := fun b u q => by rw [upd_ne (fun z => by rw [z, hg] at q; cases q)]; exact q
    exact fin _ a _ ha hg (mem_fps hv h (by simp [fp])) (nin a rfl) rfl (.dic upd_same l (q.mono mono))
  | @oi a dx c ns vs ds ha hg l q =>
    have mono : Sub G (upd G a (.ins (T.ca c) dx (ns.zip vs))) := fun b u q => by rw [upd_ne (fun z => by rw [z, hg] at q; cases q)]; exact q
    exact fin _ a _ ha hg (mem_fps hv h (by simp [fp])) (nin a rfl) rfl (.ins upd_same l (q.mono mono))
end

/-! ### readings -/
section
variable (T : Tb) (W : WX)
def Post (G H : Hp) (σ : SV) (A : List Addr) (τ : List V) (u : List S) (o : Ou R) (Q : VK) : Prop :=
  match o with
  | .ok r e' => ∀ (G' H' : Hp) (v : V) (τ' : List V) (u' : List S), Evo T.tbs G H A G' H' (As σ e' (τ ++ τ') (u ++ u')) → Md T G' H' σ e' (τ ++ τ') (u ++ u') → HR σ [r] [v] τ' u' → Q v H'
  | .ex x e' => ∀ (G' H' : Hp) (c : Value) (dx : Option Addr), Evo T.tbs G H A G' H' (As σ e' τ u) → Md T G' H' σ e' τ u → RepX T G' c dx x → W c dx σ H'
  | .no => False
def PostL (G H : Hp) (σ : SV) (A : List Addr) (τ : List V) (u : List S) (o : Ou (List R)) (Q : List V → Hp → Prop) : Prop :=
  match o with
  | .ok rs e' => ∀ (G' H' : Hp) (vs : List V) (τ' : List V) (u' : List S), Evo T.tbs G H A G' H' (As σ e' (τ ++ τ') (u ++ u')) → Md T G' H' σ e' (τ ++ τ') (u ++ u') → HR σ rs vs τ' u' → Q vs H'
  | .ex x e' => ∀ (G' H' : Hp) (c : Value) (dx : Option Addr), Evo T.tbs G H A G' H' (As σ e' τ u) → Md T G' H' σ e' τ u → RepX T G' c dx x → W c dx σ H'
  | .no => False
def PostB {α : Type} (G H : Hp) (σ : SV) (A : List Addr) (τ : List V) (u : List S) (o : Ou α) (Q : α → Hp → Prop) : Prop :=
  match o with
  | .ok b e' => ∀ (G' H' : Hp), Evo T.tbs G H A G' H' (As σ e' τ u) → Md T G' H' σ e' τ u → Q b H'
  | .ex x e' => ∀ (G' H' : Hp) (c : Value) (dx : Option Addr), Evo T.tbs G H A G' H' (As σ e' τ u) → Md T G' H' σ e' τ u → RepX T G' c dx x → W c dx σ H'
  | .no => False
def tE (m : En → Ou R) : TE := fun σ H Q => ∃ (G : Hp) (e : En) (τ : List V) (u : List S), Md T G H σ e τ u ∧ Post T W G H σ (As σ e τ u) τ u (m e) Q
def tEs (m : En → Ou (List R)) : TA := fun σ H Q => ∃ (G : Hp) (e : En) (τ : List V) (u : List S), Md T G H σ e τ u ∧ PostL T W G H σ (As σ e τ u) τ u (m e) Q
def tB {α : Type} (m : En → Ou α) : SV → Hp → (α → Hp → Prop) → Prop := fun σ H Q => ∃ (G : Hp) (e : En) (τ : List V) (u : List S), Md T G H σ e τ u ∧ PostB T W G H σ (As σ e τ u) τ u (m e) Q
end
section
variable {T : Tb} {W : WX} {G H G1 H1 : Hp} {σ : SV} {A A1 : List Addr} {τ : List V} {u : List S}
theorem Post.after {o : Ou R} {Q : VK} (p : Post T W G H σ A τ u o Q) (E : Evo T.tbs G H A G1 H1 A1) : Post T W G1 H1 σ A1 τ u o Q := by
  cases o with
  | ok r e' => exact fun G' H' v τ' u' ev md hr => p G' H' v τ' u' (E.trans ev) md hr
  | ex x e' => exact fun G' H' c dx ev md rx => p G' H' c dx (E.trans ev) md rx
  | no => exact p
theorem PostL.after {o : Ou (List R)} {Q : List V → Hp → Prop} (p : PostL T W G H σ A τ u o Q) (E : Evo T.tbs G H A G1 H1 A1) : PostL T W G1 H1 σ A1 τ u o Q := by
  cases o with
  | ok r e' => exact fun G' H' v τ' u' ev md hr => p G' H' v τ' u' (E.trans ev) md hr
  | ex x e' => exact fun G' H' c dx ev md rx => p G' H' c dx (E.trans ev) md rx
  | no => exact p
theorem PostB.after {α : Type} {o : Ou α} {Q : α → Hp → Prop} (p : PostB T W G H σ A τ u o Q) (E : Evo T.tbs G H A G1 H1 A1) : PostB T W G1 H1 σ A1 τ u o Q := by
  cases o with
  | ok r e' => exact fun G' H' ev md => p G' H' (E.trans ev) md
  | ex x e' => exact fun G' H' c dx ev md rx => p G' H' c dx (E.trans ev) md rx
  | no => exact p
theorem tE.mono {m : En → Ou R} {Q Q' : VK} (hq : ∀ v H, Q v H → Q' v H) : tE T W m σ H Q → tE T W m σ H Q' := by
  rintro ⟨G, e, τ, u, md, p⟩
  refine ⟨G, e, τ, u, md, ?_⟩
  revert p
  cases m e with
  | ok r e' => exact fun p G' H' v τ' u' ev md hr => hq _ _ (p G' H' v τ' u' ev md hr)
  | ex x e' => exact id
  | no => exact id
theorem tEs.mono {m : En → Ou (List R)} {Q Q' : List V → Hp → Prop} (hq : ∀ v H, Q v H → Q' v H) : tEs T W m σ H Q → tEs T W m σ H Q' := by
  rintro ⟨G, e, τ, u, md, p⟩
  refine ⟨G, e, τ, u, md, ?_⟩
  revert p
  cases m e with
  | ok r e' => exact fun p G' H' v τ' u' ev md hr => hq _ _ (p G' H' v τ' u' ev md hr)
  | ex x e' => exact id
  | no => exact id
end

/-! ### rows of expressions -/
def aNil : En → Ou (List R) := fun e => .ok [] e
def aCons (m : En → Ou R) (ms : En → Ou (List R)) : En → Ou (List R) := fun e =>
  match m e with
  | .ok r e1 => match ms e1 with
    | .ok rs e2 => .ok (r :: rs) e2
    | .ex x e2 => .ex x e2
    | .no => .no
  | .ex x e1 => .ex x e1
  | .no => .no
def bP (p : List R → En → Ou R) (ms : En → Ou (List R)) : En → Ou R := fun e =>
  match ms e with
  | .ok rs e1 => p rs e1
  | .ex x e1 => .ex x e1
  | .no => .no
/-- a step by things -/
def PrimOk (T : Tb) (W : WX) (rd : SV → List V → Hp → VK → Prop) (p : List R → En → Ou R) : Prop :=
  ∀ (G H : Hp) (σ : SV) (e : En) (τ τ1 : List V) (u u1 : List S) (rs : List R) (vs : List V) (Q : VK), Md T G H σ e (τ ++ τ1) (u ++ u1) → τ.length = u.length → HR σ rs vs τ1 u1 →
    Post T W G H σ (As σ e (τ ++ τ1) (u ++ u1)) τ u (p rs e) Q → rd σ vs H Q
section
variable {T : Tb} {W : WX} {σ : SV} {H : Hp} {m : En → Ou R} {ms : En → Ou (List R)}
theorem tEs_nil {Q : List V → Hp → Prop} : tEs T W aNil σ H Q → Q [] H := by
  rintro ⟨G, e, τ, u, md, p⟩
  have p' := p G H [] [] [] (by simpa using Evo.refl) (by simpa using md) .nil
  exact p'
theorem tEs_cons {Q : List V → Hp → Prop} : tEs T W (aCons m ms) σ H Q → tE T W m σ H fun x H1 => tEs T W ms σ H1 fun xs H2 => Q (x :: xs) H2 := by
  rintro ⟨G, e, τ, u, md, p⟩
  refine ⟨G, e, τ, u, md, ?_⟩
  unfold aCons at p
  cases hm : m e with
  | no => rw [hm] at p; exact p
  | ex x e1 => rw [hm] at p; exact p
  | ok r e1 =>
    rw [hm] at p
    refine fun G1 H1 v τ1 u1 ev1 md1 hr1 => ⟨G1, e1, τ ++ τ1, u ++ u1, md1, ?_⟩
    have p : PostL T W G H σ (As σ e τ u) τ u (match ms e1 with | .ok rs e2 => .ok (r :: rs) e2 | .ex x e2 => .ex x e2 | .no => .no) Q := p
    cases hs : ms e1 with
    | no => rw [hs] at p; exact p
    | ex x e2 =>
      rw [hs] at p
      refine fun G2 H2 c dx ev2 md2 rx => p G2 H2 c dx ((ev1.trans ev2).less (As_drop md2.l1 md.l2)) (md2.dropT md.l2) rx
    | ok rs e2 =>
      rw [hs] at p
      refine fun G2 H2 vs τ2 u2 ev2 md2 hr2 => p G2 H2 (v :: vs) (τ1 ++ τ2) (u1 ++ u2) ?_ ?_ (hr1.app hr2)
      · rw [← List.append_assoc, ← List.append_assoc]; exact ev1.trans ev2
      · rw [← List.append_assoc, ← List.append_assoc]; exact md2
theorem tE_prim {rd : SV → List V → Hp → VK → Prop} {p : List R → En → Ou R} (hp : PrimOk T W rd p) {Q : VK} : tE T W (bP p ms) σ H Q → tEs T W ms σ H fun vs H' => rd σ vs H' Q := by
  rintro ⟨G, e, τ, u, md, q⟩
  refine ⟨G, e, τ, u, md, ?_⟩
  unfold bP at q
  cases hm : ms e with
  | no => rw [hm] at q; exact q
  | ex x e1 => rw [hm] at q; exact q
  | ok rs e1 =>
    rw [hm] at q
    exact fun G1 H1 vs τ1 u1 ev1 md1 hr1 => hp G1 H1 σ e1 τ τ1 u u1 rs vs Q md1 md.l2 hr1 (Post.after q ev1)
theorem PE.imp {X : Cx} {e : Expr} {t t' : TE} (h : PE X e t) (k : ∀ σ H Q, t' σ H Q → t σ H Q) : PE X e t' := ⟨fun pins s σ H Q I q => h.run pins s σ H Q I (k σ H Q q)⟩
theorem PT.imp {X : Cx} {e : Expr} {t t' : TT} (h : PT X e t) (k : ∀ σ H Q, t' σ H Q → t σ H Q) : PT X e t' := ⟨fun pins s σ H Q I q => h.run pins s σ H Q I (k σ H Q q)⟩
theorem PA.imp {X : Cx} {e : List Expr} {t t' : TA} (h : PA X e t) (k : ∀ σ H Q, t' σ H Q → t σ H Q) : PA X e t' := ⟨fun pos pins s σ H Q I q => h.run pos pins s σ H Q I (k σ H Q q)⟩
theorem PS.imp {X : Cx} {e : Stmt} {t t' : TS} (h : PS X e t) (k : ∀ D σ H, t' D σ H → t D σ H) : PS X e t' := ⟨fun pins s σ H D I q => h.run pins s σ H D I (k D σ H q)⟩
theorem PSs.imp {X : Cx} {e : List Stmt} {t t' : TS} (h : PSs X e t) (k : ∀ D σ H, t' D σ H → t D σ H) : PSs X e t' := ⟨fun pins s σ H D I q => h.run pins s σ H D I (k D σ H q)⟩
/-- one thing, two things -/
theorem tE_prim1 {rd : SV → List V → Hp → VK → Prop} {p : List R → En → Ou R} (hp : PrimOk T W rd p) {Q : VK} : tE T W (bP p (aCons m aNil)) σ H Q → tE T W m σ H fun x H1 => rd σ [x] H1 Q := fun h =>
  tE.mono (fun _ _ k => tEs_nil k) (tEs_cons (tE_prim hp h))
theorem tE_prim2 {m2 : En → Ou R} {rd : SV → List V → Hp → VK → Prop} {p : List R → En → Ou R} (hp : PrimOk T W rd p) {Q : VK} : tE T W (bP p (aCons m (aCons m2 aNil))) σ H Q → tE T W m σ H fun x H1 => tE T W m2 σ H1 fun y H2 => rd σ [x, y] H2 Q := fun h =>
  tE.mono (fun _ _ k => tE.mono (fun _ _ k => tEs_nil k) (tEs_cons k)) (tEs_cons (tE_prim hp h))
end
end Fv

namespace Fv
open PySem PySem.Spec PyProof.Rows L2

/-! ### things looked at -/
inductive RepOs (T : Tb) (G H : Hp) : List V → List S → Prop
  | nil : RepOs T G H [] []
  | cons {v : V} {vs : List V} {s : S} {ss : List S} : RepO T G H v s → RepOs T G H vs ss → RepOs T G H (v :: vs) (s :: ss)
def pk (e : En) : R → Option S
  | .vl s => some s
  | .pl i => (e[i]?).join
def pks (e : En) : List R → Option (List S)
  | [] => some []
  | r :: rs => match pk e r with
    | some s => match pks e rs with
      | some ss => some (s :: ss)
      | none => none
    | none => none
section
variable {T : Tb} {G H : Hp} {σ : SV} {e : En}
theorem Md.var {τ : List V} {u : List S} (m : Md T G H σ e τ u) {i : Nat} {s : S} (h : e[i]? = some (some s)) : ∃ v, σ[i]? = some (some v) ∧ RepO T G H v s := by
  have hi : i < e.length := (List.getElem?_eq_some_iff.mp h).1
  obtain ⟨v, h1, r⟩ := m.sl.rep i s (by rw [List.getElem?_append_left hi]; exact h)
  exact ⟨v, by rw [List.getElem?_append_left (by rw [m.l1]; exact hi)] at h1; exact h1, r⟩
theorem Md.last {τ : List V} {u : List S} {v : V} {s : S} (m : Md T G H σ e (τ ++ [v]) (u ++ [s])) (h : τ.length = u.length) : RepO T G H v s := by
  obtain ⟨w, h1, r⟩ := m.sl.rep (e.length + u.length) s (by rw [List.getElem?_append_right (by omega)]; simp)
  rw [List.getElem?_append_right (by rw [m.l1]; omega), m.l1] at h1
  have h3 : e.length + u.length - e.length = τ.length := by omega
  rw [h3] at h1
  simp at h1
  subst h1
  exact r
theorem HR.peek {rs : List R} {vs τ1 : List V} {u1 : List S} (hr : HR σ rs vs τ1 u1) : ∀ {τ : List V} {u : List S} {ss : List S}, Md T G H σ e (τ ++ τ1) (u ++ u1) → τ.length = u.length → pks e rs = some ss → RepOs T G H vs ss := by
  induction hr with
  | nil => intro τ u ss _ _ h; cases h; exact .nil
  | @vl s v rs vs τ1 u1 k ih =>
    intro τ u ss m hl h
    unfold pks at h
    simp only [pk] at h
    cases h2 : pks e rs with
    | none => rw [h2] at h; cases h
    | some ss' =>
      rw [h2] at h; cases h
      have m' : Md T G H σ e ((τ ++ [v]) ++ τ1) ((u ++ [s]) ++ u1) := by simpa using m
      exact .cons ((m'.dropT (by simp [hl])).last hl) (ih m' (by simp [hl]) h2)
  | @pl i v rs vs τ1 u1 q k ih =>
    intro τ u ss m hl h
    unfold pks at h
    simp only [pk] at h
    cases h1 : (e[i]?).join with
    | none => rw [h1] at h; cases h
    | some s =>
      rw [h1] at h
      cases h2 : pks e rs with
      | none => rw [h2] at h; cases h
      | some ss' =>
        rw [h2] at h; cases h
        have he : e[i]? = some (some s) := by
          cases z : e[i]? with
          | none => rw [z] at h1; cases h1
          | some y => rw [z] at h1; simp at h1; rw [h1]
        obtain ⟨w, hw, r⟩ := m.var he
        rw [q] at hw; cases hw
        exact .cons r (ih m hl h2)
end

/-! ### what grows alone -/
structure Grow (G H G' H' : Hp) : Prop where
  mono : Sub G G'
  sub : Sub G' H'
  keep : Sub H H'
  frz : ∀ b o, G' b = some o → G b = some o ∨ H b = none
  ntg : ∀ b ps, G' b = some (HO.tbl ps) → G b = some (HO.tbl ps)
section
variable {T : Tb} {G H G' H' : Hp} {σ : SV} {e : En} {τ τ1 : List V} {u u1 : List S}
theorem Grow.refl (h : Sub G H) : Grow G H G H := ⟨.refl _, h, .refl _, fun _ _ q => .inl q, fun _ _ q => q⟩
theorem Sub.upd_none {H : Hp} {p : Addr} {o : HO} (h : H p = none) : Sub H (upd H p o) := fun b u q => by rw [upd_ne (ne_of_none q h)]; exact q
theorem Sub.none {G H : Hp} (s : Sub G H) {p : Addr} (h : H p = Option.none) : G p = Option.none := by
  cases q : G p with
  | none => rfl
  | some u => rw [s p u q] at h; cases h
/-- a new object, not to be written -/
theorem Grow.frozen (h : Sub G H) {p : Addr} {o : HO} (hp : H p = Option.none) (ho : ∀ ps, o ≠ .tbl ps) : Grow G H (upd G p o) (upd H p o) :=
  ⟨.upd_none (h.none hp), fun b u q => by
    by_cases hb : b = p
    · subst hb; rw [upd_same] at q ⊢; exact q
    · rw [upd_ne hb] at q ⊢; exact h b u q, .upd_none hp, fun b u q => by
    by_cases hb : b = p
    · subst hb; exact .inr hp
    · rw [upd_ne hb] at q; exact .inl q, fun b ps q => by
    by_cases hb : b = p
    · subst hb; rw [upd_same] at q; exact absurd (Option.some.inj q) (ho ps)
    · rw [upd_ne hb] at q; exact q⟩
/-- a new object of one's own -/
theorem Grow.own (h : Sub G H) {p : Addr} {o : HO} (hp : H p = Option.none) : Grow G H G (upd H p o) :=
  ⟨.refl _, h.trans (.upd_none hp), .upd_none hp, fun _ _ q => .inl q, fun _ _ q => q⟩
theorem Grow.tabs (g : Grow G H G' H') (T : List (Addr × Str)) (h : TabG T G H) : TabG T G' H' := ⟨LamX.Tabs.ext h.1 g.keep, fun b ps z => h.2 b ps (g.ntg b ps z)⟩
theorem Grow.evo (g : Grow G H G' H') (A : List Addr) : Evo T.tbs G H A G' H' A := ⟨g.mono, fun b o q _ _ => g.keep b o q, fun _ h => .inl h, fun b o q => (g.frz b o q).imp id fun z => .inr (.of z), g.tabs _⟩
theorem Md.grow (m : Md T G H σ e τ u) (g : Grow G H G' H') : Md T G' H' σ e τ u := by
  refine ⟨m.l1, m.l2, m.sl.frame (A := []) (A' := []) ⟨g.mono, fun b o q _ _ => g.keep b o q, fun _ h => absurd h (by simp), fun b o q => (g.frz b o q).imp id fun z => .inr (.of z), g.tabs _⟩ g.sub fun _ _ => by simp⟩
/-- a step that looks at things and makes one -/
def pS (f : List D → Option S) : List R → En → Ou R := fun rs e =>
  match pks e rs with
  | some ss => match f (ss.map S.d) with
    | some s => .ok (.vl s) e
    | none => .no
  | none => .no
/-- what a step by data promises -/
def FunOk (T : Tb) (rd : List V → Hp → VK → Prop) (f : List D → Option S) : Prop :=
  ∀ (G H : Hp) (vs : List V) (ss : List S) (s : S) (Q : VK), Sub G H → RepOs T G H vs ss → f (ss.map S.d) = some s →
      (∀ (v : V) (G' H' : Hp), Grow G H G' H' → RepO T G' H' v s → (∀ b ∈ fp v s, H b = Option.none) → Q v H') → rd vs H Q
theorem prim_S {W : WX} {f : List D → Option S} {rd : List V → Hp → VK → Prop} (h : FunOk T rd f) : PrimOk T W (fun _ => rd) (pS f) := by
  intro G H σ e τ τ1 u u1 rs vs Q md hl hr q
  unfold pS at q
  cases h1 : pks e rs with
  | none => rw [h1] at q; exact q.elim
  | some ss =>
    rw [h1] at q
    simp only at q
    cases h2 : f (ss.map S.d) with
    | none => rw [h2] at q; exact q.elim
    | some s =>
      rw [h2] at q
      refine h G H vs ss s Q md.sl.sub (hr.peek md hl h1) h2 fun v G' H' g r hn => ?_
      have md1 : Md T G' H' σ e τ u := (md.dropT hl).grow g
      have own1 : ∀ b ∈ fp v s, b ∉ As σ e τ u := fun b hb hc => by
        obtain ⟨_, o, ho⟩ := (md.dropT hl).sl.own b hc
        rw [hn b hb] at ho; cases ho
      refine q G' H' v [v] [s] ?_ (md1.push r own1) (.vl .nil)
      refine ⟨g.mono, fun b o z _ _ => g.keep b o z, fun b hb => ?_, fun b o z => (g.frz b o z).imp id fun z => .inr (.of z), g.tabs _⟩
      rcases (As_push md.l1 hl b).mp hb with z | z
      · exact .inl (As_drop md.l1 hl b z)
      · exact .inr (.of (hn b z))
end

/-! ### readings of things -/
section
variable {T : Tb} {G H : Hp} {v : V} {s : S}
theorem RepO.non (r : RepO T G H v s) (h : s.d = .non) : v = .non := by
  cases r <;> simp [S.d] at h
  subst h; rename_i q; cases q; rfl
theorem RepO.bl {b : Bool} (r : RepO T G H v s) (h : s.d = .bl b) : v = .bl b := by
  cases r <;> simp [S.d] at h
  subst h; rename_i q; cases q; rfl
theorem RepO.int {i : Int} (r : RepO T G H v s) (h : s.d = .int i) : v = .int i := by
  cases r <;> simp [S.d] at h
  subst h; rename_i q; cases q; rfl
theorem RepO.str {x : Str} (r : RepO T G H v s) (h : s.d = .str x) : v = .str x := by
  cases r <;> simp [S.d] at h
  subst h; rename_i q; cases q; rfl
theorem RepO.tup {ds : List D} (r : RepO T G H v s) (hs : Sub G H) (h : s.d = .tup ds) : ∃ a xs, v = .ref a ∧ SqT T.K H a xs ∧ TupAt T.K G a xs ∧ RepFs T G xs ds := by
  cases r <;> simp [S.d] at h
  subst h; rename_i q; cases q with | tup h k => exact ⟨_, _, rfl, hs.sqT h.sq, h, k⟩
theorem RepO.lst {ds : List D} (r : RepO T G H v s) (hs : Sub G H) (h : s.d = .lst ds) : ∃ a xs, v = .ref a ∧ SqL T.K H a xs ∧ RepFs T G xs ds := by
  cases r with
  | fr q => simp [S.d] at h; subst h; cases q with | lst h k => exact ⟨_, _, rfl, hs.sqL h, k⟩
  | ol h1 h2 k => simp [S.d] at h; subst h; exact ⟨_, _, rfl, .of h1, k⟩
  | od _ _ _ _ => simp [S.d] at h
  | oi _ _ _ _ => simp [S.d] at h
theorem RepO.dic {ks : List Key} {ds : List D} (r : RepO T G H v s) (hs : Sub G H) (h : s.d = .dic ks ds) : ∃ a xs, v = .ref a ∧ H a = some (.dK (ks.zip xs)) ∧ ks.length = xs.length ∧ RepFs T G xs ds := by
  cases r with
  | fr q => simp [S.d] at h; subst h; cases q with | dic h l k => exact ⟨_, _, rfl, hs _ _ h, l, k⟩
  | od h1 h2 l k => simp [S.d] at h; obtain ⟨rfl, rfl⟩ := h; exact ⟨_, _, rfl, h1, l, k⟩
  | ol _ _ _ => simp [S.d] at h
  | oi _ _ _ _ => simp [S.d] at h
theorem RepO.ins {c : Nat} {ns : List Str} {ds : List D} (r : RepO T G H v s) (hs : Sub G H) (h : s.d = .ins c ns ds) : ∃ a dx xs, v = .ref a ∧ H a = some (.ins (T.ca c) dx (ns.zip xs)) ∧ ns.length = xs.length ∧ RepFs T G xs ds := by
  cases r with
  | fr q => simp [S.d] at h; subst h; cases q with | ins h l k => exact ⟨_, _, _, rfl, hs _ _ h, l, k⟩
  | oi h1 h2 l k => simp [S.d] at h; obtain ⟨rfl, rfl, rfl⟩ := h; exact ⟨_, _, _, rfl, h1, l, k⟩
  | ol _ _ _ => simp [S.d] at h
  | od _ _ _ _ => simp [S.d] at h
/-- a known thing made -/
theorem done_fr {d : D} {Q : VK} {v : V} {W : Prop} (hs : Sub G H) (k : ∀ (v : V) (G' H' : Hp), Grow G H G' H' → RepO T G' H' v (.fr d) → (∀ b ∈ fp v (.fr d), H b = none) → Q v H') (r : RepF T G v d) : Q v H :=
  k v G H (.refl hs) (.fr r) (by rw [fp_fr]; simp)
theorem done_ol {ds : List D} {Q : VK} {xs : List V} (hs : Sub G H) (k : ∀ (v : V) (G' H' : Hp), Grow G H G' H' → RepO T G' H' v (.ol ds) → (∀ b ∈ fp v (.ol ds), H b = none) → Q v H') (r : RepFs T G xs ds) {p : Addr} (hp : H p = none) : Q (.ref p) (upd H p (.lst xs)) :=
  k _ G _ (.own hs hp) (.ol upd_same (hs.none hp) r) fun b hb => by simp [fp] at hb; rw [hb]; exact hp
theorem done_tup {ds : List D} {Q : VK} {xs : List V} (hs : Sub G H) (k : ∀ (v : V) (G' H' : Hp), Grow G H G' H' → RepO T G' H' v (.fr (.tup ds)) → (∀ b ∈ fp v (.fr (.tup ds)), H b = none) → Q v H') (r : RepFs T G xs ds) : NewT Q H xs := fun p its hp =>
  k _ _ _ (.frozen hs hp fun _ z => nomatch z) (.fr (.tup (.of upd_same) (r.mono (.upd_none (hs.none hp))))) (by rw [fp_fr]; simp)
theorem done_od {ks : List Key} {ds : List D} {Q : VK} {xs : List V} (hs : Sub G H) (k : ∀ (v : V) (G' H' : Hp), Grow G H G' H' → RepO T G' H' v (.od ks ds) → (∀ b ∈ fp v (.od ks ds), H b = none) → Q v H') (r : RepFs T G xs ds) (hl : ks.length = xs.length) {p : Addr} (hp : H p = none) : Q (.ref p) (upd H p (.dK (ks.zip xs))) :=
  k _ G _ (.own hs hp) (.od upd_same (hs.none hp) hl r) fun b hb => by simp [fp] at hb; rw [hb]; exact hp
end
theorem repOs2 {T : Tb} {G H : Hp} {vs : List V} {ss : List S} {a b : D} (r : RepOs T G H vs ss) (h : ss.map S.d = [a, b]) : ∃ v w s t, vs = [v, w] ∧ RepO T G H v s ∧ RepO T G H w t ∧ s.d = a ∧ t.d = b := by
  cases r with
  | nil => simp at h
  | cons r1 r =>
    cases r with
    | nil => simp at h
    | cons r2 r =>
      cases r with
      | nil => simp at h; exact ⟨_, _, _, _, rfl, r1, r2, h.1, h.2⟩
      | cons _ _ => simp at h
theorem repOs1 {T : Tb} {G H : Hp} {vs : List V} {ss : List S} {a : D} (r : RepOs T G H vs ss) (h : ss.map S.d = [a]) : ∃ v s, vs = [v] ∧ RepO T G H v s ∧ s.d = a := by
  cases r with
  | nil => simp at h
  | cons r1 r =>
    cases r with
    | nil => simp at h; exact ⟨_, _, rfl, r1, h⟩
    | cons _ _ => simp at h

/-! ### data of the library's kind -/
mutual
def D.pd : D → PyData
  | .non => .none
  | .bl b => .bool b
  | .int i => .int i
  | .str x => .str x
  | .tup xs => .tuple (D.pds xs)
  | .lst xs => .list (D.pds xs)
  | .dic _ _ => .dict []
  | .ins _ _ _ => .dict []
  | .fn _ => .dict []
  | .ty _ => .dict []
def D.pds : List D → List PyData
  | [] => []
  | x :: xs => x.pd :: D.pds xs
end
mutual
theorem RepFs.dp {T : Tb} {G H : Hp} (s : Sub G H) : ∀ {vs : List V} {ds : List D}, RepFs T G vs ds → PyData.canLayAll0 (D.pds ds) = true → DpAll T.K H vs (D.pds ds)
  | _, _, .nil, _ => .nil
  | _, _, .cons (d := d) (ds := ds) h k, z => by
    have z' : PyData.canLayAll0 (d.pd :: D.pds ds) = true := z
    simp [PyData.canLayAll0] at z'
    exact .cons (RepF.dp' s h z'.1) (RepFs.dp s k z'.2)
theorem RepF.dp' {T : Tb} {G H : Hp} (s : Sub G H) : ∀ {v : V} {d : D}, RepF T G v d → PyData.canLay0 d.pd = true → Dp T.K H v d.pd
  | _, _, .non, _ => .non
  | _, _, .bl b, _ => .bl b
  | _, _, .int i, _ => .int i
  | _, _, .str x, _ => .str x
  | _, _, .tup h k, z => .tup (s.sqT h.sq) (RepFs.dp s k (by simpa [D.pd, PyData.canLay0] using z))
  | _, _, .lst h k, z => .lst (s.sqL h) (RepFs.dp s k (by simpa [D.pd, PyData.canLay0] using z))
  | _, _, .dic _ _ _, z => by simp [D.pd, PyData.canLay0] at z
  | _, _, .ins _ _ _, z => by simp [D.pd, PyData.canLay0] at z
  | _, _, .fn _ _, z => by simp [D.pd, PyData.canLay0] at z
  | _, _, .ty _, z => by simp [D.pd, PyData.canLay0] at z
end
theorem shaped_lay {d : PyData} (h : SeqAt.shaped d = true) : PyData.canLay0 d = true := SeqAt.canLay_of_shaped h
theorem RepO.dp {T : Tb} {G H : Hp} {v : V} {s : S} (r : RepO T G H v s) (hs : Sub G H) (h : SeqAt.shaped s.d.pd = true) : Dp T.K H v s.d.pd := by
  have z := shaped_lay h
  cases r with
  | fr q => exact q.dp' hs z
  | ol h1 h2 k => exact .lst (.of h1) (k.dp hs (by simpa [S.d, D.pd, PyData.canLay0] using z))
  | od _ _ _ _ => simp [S.d, D.pd, PyData.canLay0] at z
  | oi _ _ _ _ => simp [S.d, D.pd, PyData.canLay0] at z
end Fv

namespace Fv
open PySem PySem.Spec PyProof.Rows L2

/-! ### operators -/
def mulB (i j : Int) : Bool := decide (Builtin.Int.intBits i > shortFactorBits) && decide (Builtin.Int.intBits j > shortFactorBits) && Builtin.Int.intTooBig (Builtin.Int.intBits i + Builtin.Int.intBits j)
def dAdd : List D → Option S
  | [.int i, .int j] => some (.fr (.int (i + j)))
  | [.str x, .str y] => if x.length + y.length ≤ 16777216 then some (.fr (.str (x ++ y))) else none
  | [.lst xs, .lst ys] => if xs.length + ys.length ≤ 16777216 then some (.ol (xs ++ ys)) else none
  | [.tup xs, .tup ys] => if xs.length + ys.length ≤ 16777216 then some (.fr (.tup (xs ++ ys))) else none
  | _ => none
def dSub : List D → Option S
  | [.int i, .int j] => some (.fr (.int (i - j)))
  | _ => none
def dMul : List D → Option S
  | [.int i, .int j] => if mulB i j then none else some (.fr (.int (i * j)))
  | [.lst xs, .int k] => if -(2 ^ 62) ≤ k ∧ k < 2 ^ 62 ∧ xs.length * k.toNat ≤ 16777216 then some (.ol (List.replicate k.toNat xs).flatten) else none
  | _ => none
def dDiv : List D → Option S
  | [.int i, .int j] => if j = 0 then none else if Builtin.divisionGoesByPylong i j then none else some (.fr (.int (if 0 < j then i / j else i.fdiv j)))
  | _ => none
def dMod : List D → Option S
  | [.int i, .int j] => if j = 0 then none else some (.fr (.int (if 0 < j then i % j else i.fmod j)))
  | _ => none
def dPow : List D → Option S
  | [.int i, .int j] => if 0 ≤ j ∧ j ≤ 1000000 ∧ i.natAbs < 2 ^ 64 then some (.fr (.int (i ^ j.toNat))) else none
  | _ => none
def dNeg : List D → Option S
  | [.int i] => some (.fr (.int (-i)))
  | _ => none
def dBin : Operator → Option (List D → Option S)
  | .Add => some dAdd
  | .Sub => some dSub
  | .Mult => some dMul
  | .FloorDiv => some dDiv
  | .Mod => some dMod
  | .Pow => some dPow
  | _ => none
def r2 (r : R2) : List V → Hp → VK → Prop := fun vs H Q => ∃ x y, vs = [x, y] ∧ r x y H Q
def r1 (r : V → Hp → VK → Prop) : List V → Hp → VK → Prop := fun vs H Q => ∃ x, vs = [x] ∧ r x H Q
section
variable {X : Cx}
def rCatL (K : PySem.W.Frag) : R2 := fun x y H Q => ∃ a b xs ys, x = .ref a ∧ y = .ref b ∧ SqL K H a xs ∧ SqL K H b ys ∧ xs.length + ys.length ≤ sizeLine ∧ ∀ p, H p = none → Q (.ref p) (upd H p (.lst (xs ++ ys)))
theorem op_catL : OpR X (binaryOp .Add) (rCatL X.K) := by
  intro pins s σ H x y v u Q I rx ry h
  obtain ⟨a, b, xs, ys, rfl, rfl, ha, hb, hz, q⟩ := h
  cases rx
  cases ry
  obtain ⟨its, r1, ⟨⟨cls, dd, data, sl⟩, n, ho, hc, hd, hdt⟩, _⟩ := I.list ha
  obtain ⟨its2, r2, ⟨⟨cls2, dd2, data2, sl2⟩, n2, ho2, hc2, hd2, hdt2⟩, _⟩ := I.list hb
  simp only at hc hd hdt hc2 hd2 hdt2
  subst hc hd hdt hc2 hd2 hdt2
  have e1 := r1.length
  have e2 := r2.length
  have e : its.toArray ++ its2.toArray = (its ++ its2).toArray := by simp
  refine concat_meets ⟨_, ho, rfl⟩ ⟨_, ho2, rfl⟩ noFill_list_add seq_list_add PySem.F.slot_list_add PySem.F.entry_list_add (PySem.F.args_list_add_2 _ _) (list_addW a b its.toArray its2.toArray n n2 none none sl sl2 (by simp only [List.size_toArray]; omega)) ⟨ho, ho2, ?_⟩
  rw [e]
  exact ⟨.ref _, _, I.lnew (t' := s.toks) (r1.append r2) (by rw [List.length_append]; omega), rfl, q _ I.fresh⟩
theorem op_mulG : OpR X (binaryOp .Mult) (rI IntMulOk fun i j => .int (i * j)) := opI fun _ _ _ _ _ _ _ hc q => mul_int q hc
def CDivG (i j : Int) : Prop := j ≠ 0 ∧ Builtin.divisionGoesByPylong i j = false
theorem op_fdivG : OpR X (binaryOp .FloorDiv) (rI CDivG fun i j => .int (i.fdiv j)) := opI fun _ _ _ _ _ _ _ hc q => floordiv_int hc.1 q (.inl hc.2)
/-- tuples put together -/
def rCatB (K : PySem.W.Frag) : R2 := fun x y H Q => ∃ a b xs ys, x = .ref a ∧ y = .ref b ∧ SqT K H a xs ∧ SqT K H b ys ∧ xs.length + ys.length ≤ sizeLine ∧
  (xs = [] → Q (.ref b) H) ∧ (xs ≠ [] → ys = [] → Q (.ref a) H) ∧ (xs ≠ [] → ys ≠ [] → NewT Q H (xs ++ ys))
theorem op_catB : OpR X (binaryOp .Add) (rCatB X.K) := by
  rintro pins s σ H _ _ v u Q I rx ry ⟨a, b, xs, ys, rfl, rfl, ha, hb, hz, k0, k1, k2⟩
  by_cases e0 : xs = []
  · exact op_catA pins s σ H _ _ v u Q I rx ry ⟨a, b, xs, ys, rfl, rfl, ha, hb, hz, k0, fun z => (z e0).elim, fun z => (z e0).elim⟩
  · cases rx
    cases ry
    obtain ⟨us, ru, pu, _⟩ := I.tuple ha
    obtain ⟨ws, rw', pw, _⟩ := I.tuple hb
    exact HT.cat_tup pu pw (fun z => e0 (ru.nil_iff.mp z)) (fun z => ⟨.ref a, H, I, rfl, k1 e0 (rw'.nil_iff.mp z)⟩)
      (fun z => ⟨.ref s.heap.objs.size, _, tupN I (ru.append rw') (by rw [List.length_append]; exact hz), rfl, k2 e0 (fun w => z (rw'.nil_iff.mpr w)) _ _ (I.hok.fresh (Nat.le_refl _))⟩)
      (by rw [← ru.length, ← rw'.length]; exact hz)
def rAddA (K : PySem.W.Frag) : R2 := fun x y H Q => (((rI0 (fun i j => .int (i + j)) x y H Q ∨ (∃ i j, x = .str i ∧ y = .str j ∧ i.length + j.length ≤ sizeLine ∧ Q (.str (i ++ j)) H)) ∨ rCatL K x y H Q) ∨ rCatB K x y H Q)
theorem op_addA : OpR X (binaryOp .Add) (rAddA X.K) := ((op_add.or op_add_str).or op_catL).or op_catB
def rMulA : R2 := fun x y H Q => rI IntMulOk (fun i j => .int (i * j)) x y H Q ∨ rRep x y H Q
theorem op_mulA : OpR X (binaryOp .Mult) rMulA := op_mulG.or op_rep
end
theorem sizeL {n : Nat} (h : n ≤ 16777216) : n ≤ sizeLine := by rw [sizeLine_eq]; exact h
section
variable {T : Tb} {W : WX}
theorem pr_add : FunOk T (r2 (rAddA T.K)) dAdd := fun G H vs ss s Q hs r h k => by
  unfold dAdd at h
  split at h
  · rename_i i j heq
    cases h
    obtain ⟨v, w, s1, s2, rfl, r1, r2, e1, e2⟩ := repOs2 r heq
    obtain rfl := r1.int e1
    obtain rfl := r2.int e2
    exact ⟨_, _, rfl, .inl (.inl (.inl ⟨i, j, rfl, rfl, done_fr (W := True) hs k (.int _)⟩))⟩
  · rename_i x y heq
    split at h
    · rename_i hz
      cases h
      obtain ⟨v, w, s1, s2, rfl, r1, r2, e1, e2⟩ := repOs2 r heq
      obtain rfl := r1.str e1
      obtain rfl := r2.str e2
      exact ⟨_, _, rfl, .inl (.inl (.inr ⟨x, y, rfl, rfl, sizeL hz, done_fr (W := True) hs k (.str _)⟩))⟩
    · cases h
  · rename_i xs ys heq
    split at h
    · rename_i hz
      cases h
      obtain ⟨v, w, s1, s2, rfl, r1, r2, e1, e2⟩ := repOs2 r heq
      obtain ⟨a, as, rfl, q1, k1⟩ := r1.lst hs e1
      obtain ⟨b, bs, rfl, q2, k2⟩ := r2.lst hs e2
      exact ⟨_, _, rfl, .inl (.inr ⟨a, b, as, bs, rfl, rfl, q1, q2, sizeL (by rw [k1.length, k2.length]; exact hz), fun p hp => done_ol hs k (k1.append k2) hp⟩)⟩
    · cases h
  · rename_i xs ys heq
    split at h
    · rename_i hz
      cases h
      obtain ⟨v, w, s1, s2, rfl, r1, r2, e1, e2⟩ := repOs2 r heq
      obtain ⟨a, as, rfl, q1, t1, k1⟩ := r1.tup hs e1
      obtain ⟨b, bs, rfl, q2, t2, k2⟩ := r2.tup hs e2
      refine ⟨_, _, rfl, .inr ⟨a, b, as, bs, rfl, rfl, q1, q2, sizeL (by rw [k1.length, k2.length]; exact hz), fun e0 => ?_, fun _ e0 => ?_, fun _ _ => done_tup hs k (k1.append k2)⟩⟩
      · subst e0
        cases k1
        exact done_fr (W := True) hs k (.tup t2 k2)
      · subst e0
        cases k2
        rw [List.append_nil] at k
        exact done_fr (W := True) hs k (.tup t1 k1)
    · cases h
  · cases h
theorem pr_int {C : Int → Int → Prop} {g : Int → Int → Int} {f : List D → Option S} (h : ∀ l s, f l = some s → ∃ i j, l = [.int i, .int j] ∧ C i j ∧ s = .fr (.int (g i j))) : FunOk T (r2 (rI C fun i j => .int (g i j))) f := fun G H vs ss s Q hs r hf k => by
  obtain ⟨i, j, e, c, rfl⟩ := h _ _ hf
  obtain ⟨v, w, s1, s2, rfl, r1, r2, e1, e2⟩ := repOs2 r e
  obtain rfl := r1.int e1
  obtain rfl := r2.int e2
  exact ⟨_, _, rfl, i, j, rfl, rfl, c, done_fr (W := True) hs k (.int _)⟩
theorem pr_sub : FunOk T (r2 (rI0 fun i j => .int (i - j))) dSub := fun G H vs ss s Q hs r h k => by
  unfold dSub at h
  split at h
  · rename_i i j heq
    cases h
    obtain ⟨v, w, s1, s2, rfl, r1, r2, e1, e2⟩ := repOs2 r heq
    obtain rfl := r1.int e1
    obtain rfl := r2.int e2
    exact ⟨_, _, rfl, i, j, rfl, rfl, done_fr (W := True) hs k (.int _)⟩
  · cases h
theorem pr_div : FunOk T (r2 (rI CDivG fun i j => .int (i.fdiv j))) dDiv := pr_int fun l s h => by
  unfold dDiv at h
  split at h
  · rename_i i j
    split at h
    · cases h
    · rename_i hj
      split at h
      · cases h
      · rename_i hp
        cases h
        refine ⟨i, j, rfl, ⟨hj, by simpa using hp⟩, ?_⟩
        by_cases h0 : 0 < j
        · rw [if_pos h0, Int.fdiv_eq_ediv_of_nonneg i (by omega)]
        · rw [if_neg h0]
  · cases h
theorem pr_mod : FunOk T (r2 (rI (fun _ j => j ≠ 0) fun i j => .int (i.fmod j))) dMod := pr_int fun l s h => by
  unfold dMod at h
  split at h
  · rename_i i j
    split at h
    · cases h
    · rename_i hj
      cases h
      refine ⟨i, j, rfl, hj, ?_⟩
      by_cases h0 : 0 < j
      · rw [if_pos h0, Int.fmod_eq_emod_of_nonneg i (by omega)]
      · rw [if_neg h0]
  · cases h
theorem pr_pow : FunOk T (r2 (rI CPow fun i j => .int (i ^ j.toNat))) dPow := pr_int fun l s h => by
  unfold dPow at h
  split at h
  · rename_i i j
    split at h
    · rename_i hj
      cases h
      exact ⟨i, j, rfl, hj, rfl⟩
    · cases h
  · cases h
/-- things by what they hold -/
def pSS (f : List S → Option S) : List R → En → Ou R := fun rs e =>
  match pks e rs with
  | some ss => match f ss with
    | some s => .ok (.vl s) e
    | none => .no
  | none => .no
theorem prim_SS {f : List S → Option S} {rd : List V → Hp → VK → Prop}
    (h : ∀ (G H : Hp) (vs : List V) (ss : List S) (s : S) (Q : VK), Sub G H → RepOs T G H vs ss → f ss = some s →
      (∀ (v : V) (G' H' : Hp), Grow G H G' H' → RepO T G' H' v s → (∀ b ∈ fp v s, H b = Option.none) → Q v H') → rd vs H Q) : PrimOk T W (fun _ => rd) (pSS f) := by
  intro G H σ e τ τ1 u u1 rs vs Q md hl hr q
  unfold pSS at q
  cases h1 : pks e rs with
  | none => rw [h1] at q; exact q.elim
  | some ss =>
    rw [h1] at q
    simp only at q
    cases h2 : f ss with
    | none => rw [h2] at q; exact q.elim
    | some s =>
      rw [h2] at q
      refine h G H vs ss s Q md.sl.sub (hr.peek md hl h1) h2 fun v G' H' g r hn => ?_
      have md1 : Md T G' H' σ e τ u := (md.dropT hl).grow g
      have own1 : ∀ b ∈ fp v s, b ∉ As σ e τ u := fun b hb hc => by
        obtain ⟨_, o, ho⟩ := (md.dropT hl).sl.own b hc
        rw [hn b hb] at ho; cases ho
      refine q G' H' v [v] [s] ?_ (md1.push r own1) (.vl .nil)
      refine ⟨g.mono, fun b o z _ _ => g.keep b o z, fun b hb => ?_, fun b o z => (g.frz b o z).imp id fun z => .inr (.of z), g.tabs _⟩
      rcases (As_push md.l1 hl b).mp hb with z | z
      · exact .inl (As_drop md.l1 hl b z)
      · exact .inr (.of (hn b z))
def dMulS : List S → Option S
  | [.fr (.int i), .fr (.int j)] => if mulB i j then none else some (.fr (.int (i * j)))
  | [.ol xs, .fr (.int k)] => if -(2 ^ 62) ≤ k ∧ k < 2 ^ 62 ∧ xs.length * k.toNat ≤ 16777216 then some (.ol (List.replicate k.toNat xs).flatten) else none
  | _ => none
theorem RepFs.rep {G : Hp} {vs : List V} {ds : List D} (r : RepFs T G vs ds) : ∀ n : Nat, RepFs T G (List.replicate n vs).flatten (List.replicate n ds).flatten
  | 0 => .nil
  | n + 1 => by
    rw [List.replicate_succ, List.replicate_succ, List.flatten_cons, List.flatten_cons]
    exact r.append (RepFs.rep r n)
theorem pr_mul : PrimOk T W (fun _ => r2 rMulA) (pSS dMulS) := prim_SS fun G H vs ss s Q hs r h k => by
  unfold dMulS at h
  split at h
  · rename_i i j
    split at h
    · cases h
    · rename_i hm
      cases h
      obtain ⟨v, w, s1, s2, rfl, r1, r2, e1, e2⟩ := repOs2 r rfl
      obtain rfl := r1.int e1
      obtain rfl := r2.int e2
      exact ⟨_, _, rfl, .inl ⟨i, j, rfl, rfl, hm, done_fr (W := True) hs k (.int _)⟩⟩
  · rename_i xs j
    split at h
    · rename_i hz
      cases h
      cases r with
      | cons r1 r => cases r with
        | cons r2 r => cases r with
          | nil =>
            obtain rfl := r2.int rfl
            cases r1 with
            | ol h1 h2 q =>
              refine ⟨_, _, rfl, .inr ⟨_, j, _, rfl, rfl, h1, by omega, by omega, sizeL (by rw [q.length]; exact hz.2.2), fun p hp => done_ol hs k (q.rep _) hp⟩⟩
    · cases h
  · cases h
theorem pr_neg : FunOk T (r1 (rU fun i => .int (-i))) dNeg := fun G H vs ss s Q hs r h k => by
  unfold dNeg at h
  split at h
  · rename_i i heq
    cases h
    obtain ⟨v, s1, rfl, r1, e1⟩ := repOs1 r heq
    obtain rfl := r1.int e1
    exact ⟨_, rfl, i, rfl, done_fr (W := True) hs k (.int _)⟩
  · cases h
end
section
variable {X : Cx} {T : Tb} {W : WX} {a b : Expr} {ma mb : En → Ou R} {pos : Pos}
def b2 (p : List R → En → Ou R) (ma mb : En → Ou R) : En → Ou R := bP p (aCons ma (aCons mb aNil))
def b1 (p : List R → En → Ou R) (ma : En → Ou R) : En → Ou R := bP p (aCons ma aNil)
theorem pe_b2 {op : Operator} {r : R2} {p : List R → En → Ou R} (hp : PrimOk T W (fun _ => r2 r) p) (ho : OpR X (binaryOp op) r) (ha : PE X a (tE T W ma)) (hb : PE X b (tE T W mb)) : PE X (.BinOp a op b pos) (tE T W (b2 p ma mb)) :=
  PE.imp (pe_op ho ha hb) fun σ H Q h => tE.mono (fun _ _ k => tE.mono (fun _ _ k => by
    obtain ⟨x, y, e, q⟩ := k
    cases e
    exact q) k) (tE_prim2 hp h)
/-- the operators -/
def bBin : Operator → (En → Ou R) → (En → Ou R) → En → Ou R
  | .Add, a, b => b2 (pS dAdd) a b
  | .Sub, a, b => b2 (pS dSub) a b
  | .Mult, a, b => b2 (pSS dMulS) a b
  | .FloorDiv, a, b => b2 (pS dDiv) a b
  | .Mod, a, b => b2 (pS dMod) a b
  | .Pow, a, b => b2 (pS dPow) a b
  | _, _, _ => fun _ => .no
theorem pe_no {e : Expr} : PE X e (tE T W fun _ => .no) := ⟨fun _ _ _ _ _ _ h => by obtain ⟨_, _, _, _, _, h⟩ := h; exact h.elim⟩
theorem pe_bin {op : Operator} (hK : T.K = X.K) (ha : PE X a (tE T W ma)) (hb : PE X b (tE T W mb)) : PE X (.BinOp a op b pos) (tE T W (bBin op ma mb)) := by
  cases op with
  | Add => exact pe_b2 (r := rAddA X.K) (by rw [← hK]; exact prim_S pr_add) op_addA ha hb
  | Sub => exact pe_b2 (prim_S pr_sub) op_sub ha hb
  | Mult => exact pe_b2 pr_mul op_mulA ha hb
  | FloorDiv => exact pe_b2 (prim_S pr_div) op_fdivG ha hb
  | Mod => exact pe_b2 (prim_S pr_mod) op_modN ha hb
  | Pow => exact pe_b2 (prim_S pr_pow) op_pow ha hb
  | _ => exact pe_no
theorem pe_neg (ha : PE X a (tE T W ma)) : PE X (.UnaryOp .USub a pos) (tE T W (b1 (pS dNeg) ma)) :=
  PE.imp (pe_un un_neg ha) fun σ H Q h => tE.mono (fun _ _ k => by
    obtain ⟨x, e, q⟩ := k
    cases e
    exact q) (tE_prim1 (prim_S pr_neg) h)
end

/-! ### comparisons -/
def dEqv (a b : D) : Option Bool := if SeqAt.shaped a.pd && SeqAt.shaped b.pd then some (PyData.eqv a.pd b.pd) else none
def dEq : List D → Option S
  | [a, b] => (dEqv a b).map fun k => .fr (.bl k)
  | _ => none
def dNe : List D → Option S
  | [a, b] => (dEqv a b).map fun k => .fr (.bl (!k))
  | _ => none
def dLt : List D → Option S
  | [.int i, .int j] => some (.fr (.bl (decide (i < j))))
  | _ => none
def dLe : List D → Option S
  | [.int i, .int j] => some (.fr (.bl (decide (i ≤ j))))
  | _ => none
def dGt : List D → Option S
  | [.int i, .int j] => some (.fr (.bl (decide (j < i))))
  | _ => none
def dGe : List D → Option S
  | [.int i, .int j] => some (.fr (.bl (decide (j ≤ i))))
  | _ => none
def D.isNon : D → Bool
  | .non => true
  | _ => false
def dIs (neg : Bool) : List D → Option S
  | [a, b] => match b with
    | .non => some (.fr (.bl (if neg then !a.isNon else a.isNon)))
    | .bl k => match a with
      | .bl j => some (.fr (.bl (if neg then !decide (j = k) else decide (j = k))))
      | _ => none
    | _ => none
  | _ => none
def dIn (neg : Bool) : List D → Option S
  | [a, b] => match b with
    | .str y => match a with
      | .str x => some (.fr (.bl (if neg then !(!(Builtin.Str.occurrences y x 0 y.length 1).isEmpty) else !(Builtin.Str.occurrences y x 0 y.length 1).isEmpty)))
      | _ => none
    | .lst ds => if SeqAt.shaped a.pd && SeqAt.shaped (D.lst ds).pd then some (.fr (.bl (if neg then !(D.pds ds).any fun z => PyData.eqv z a.pd else (D.pds ds).any fun z => PyData.eqv z a.pd))) else none
    | .tup ds => if SeqAt.shaped a.pd && SeqAt.shaped (D.tup ds).pd then some (.fr (.bl (if neg then !(D.pds ds).any fun z => PyData.eqv z a.pd else (D.pds ds).any fun z => PyData.eqv z a.pd))) else none
    | _ => none
  | _ => none
section
variable {X : Cx}
def rInDT (K : PySem.W.Frag) (neg : Bool) : R2 := fun x y H Q => ∃ d ds, Dp K H x d ∧ Dp K H y (.tuple ds) ∧ SeqAt.shaped d = true ∧ SeqAt.shaped (.tuple ds) = true ∧ Q (.bl (if neg then !ds.any fun z => PyData.eqv z d else ds.any fun z => PyData.eqv z d)) H
theorem op_inDT (hu : X.A.units + 65 < cLine) : OpR X (compareOp .In) (rInDT X.K false) := by
  intro pins s σ H x y v u Q I rx ry h
  obtain ⟨d, ds, hd, he, sd, se, q⟩ := h
  obtain ⟨as, r1⟩ := Dp.reads I d x v hd rx
  obtain ⟨bs, r2⟩ := Dp.reads I (.tuple ds) y u he ry
  exact SeqAt.in_tuple_reads r2 r1 (by simpa [PyData.canLay0] using SeqAt.canLay_of_shaped se) (SeqAt.canLay_of_shaped sd) (room_in_shaped sd hu) ⟨.bl _, H, I, rfl, q⟩
theorem op_notInDT (hu : X.A.units + 65 < cLine) : OpR X (compareOp .NotIn) (rInDT X.K true) := by
  intro pins s σ H x y v u Q I rx ry h
  obtain ⟨d, ds, hd, he, sd, se, q⟩ := h
  obtain ⟨as, r1⟩ := Dp.reads I d x v hd rx
  obtain ⟨bs, r2⟩ := Dp.reads I (.tuple ds) y u he ry
  exact SeqAt.notIn_tuple_reads r2 r1 (by simpa [PyData.canLay0] using SeqAt.canLay_of_shaped se) (SeqAt.canLay_of_shaped sd) (room_in_shaped sd hu) ⟨.bl _, H, I, rfl, q⟩
end
section
variable {X : Cx}
def rIsA : R2 := fun x y H Q => (y = .non ∧ Q (.bl (decide (x = .non))) H) ∨ rIsB x y H Q
def rIsnA : R2 := fun x y H Q => (y = .non ∧ Q (.bl (!decide (x = .non))) H) ∨ rNotB x y H Q
theorem op_isA : OpR X (compareOp .Is) rIsA := op_isN.or op_isBl
theorem op_isnA : OpR X (compareOp .IsNot) rIsnA := op_notN.or op_notBl
def rInS (neg : Bool) : R2 := fun x y H Q => ∃ i j, x = .str i ∧ y = .str j ∧ Q (.bl (if neg then !(!(Builtin.Str.occurrences j i 0 j.length 1).isEmpty) else !(Builtin.Str.occurrences j i 0 j.length 1).isEmpty)) H
def rInA (K : PySem.W.Frag) : R2 := fun x y H Q => (rInS false x y H Q ∨ rInD K x y H Q) ∨ rInDT K false x y H Q
def rNinA (K : PySem.W.Frag) : R2 := fun x y H Q => (rInS true x y H Q ∨ rNotInD K x y H Q) ∨ rInDT K true x y H Q
theorem op_inA (hu : X.A.units + 65 < cLine) : OpR X (compareOp .In) (rInA X.K) := ((OpR.or (r := rInS false) op_in_str (op_inD hu))).or (op_inDT hu)
theorem op_ninA (hu : X.A.units + 65 < cLine) : OpR X (compareOp .NotIn) (rNinA X.K) := ((OpR.or (r := rInS true) op_notin_str (op_notInD hu))).or (op_notInDT hu)
end
section
variable {T : Tb} {W : WX}
theorem pr_eq : FunOk T (r2 (rEqD T.K)) dEq := fun G H vs ss s Q hs r h k => by
  unfold dEq at h
  split at h
  · rename_i a b heq
    unfold dEqv at h
    split at h
    · rename_i hz
      cases h
      rw [Bool.and_eq_true] at hz
      obtain ⟨v, w, s1, s2, rfl, r1, r2, rfl, rfl⟩ := repOs2 r heq
      exact ⟨_, _, rfl, _, _, r1.dp hs hz.1, r2.dp hs hz.2, hz.1, hz.2, done_fr (W := True) hs k (.bl _)⟩
    · cases h
  · cases h
theorem pr_ne : FunOk T (r2 (rNeD T.K)) dNe := fun G H vs ss s Q hs r h k => by
  unfold dNe at h
  split at h
  · rename_i a b heq
    unfold dEqv at h
    split at h
    · rename_i hz
      cases h
      rw [Bool.and_eq_true] at hz
      obtain ⟨v, w, s1, s2, rfl, r1, r2, rfl, rfl⟩ := repOs2 r heq
      exact ⟨_, _, rfl, _, _, r1.dp hs hz.1, r2.dp hs hz.2, hz.1, hz.2, done_fr (W := True) hs k (.bl _)⟩
    · cases h
  · cases h
theorem pr_cmp {g : Int → Int → Bool} {f : List D → Option S} (h : ∀ l s, f l = some s → ∃ i j, l = [.int i, .int j] ∧ s = .fr (.bl (g i j))) : FunOk T (r2 (rI0 fun i j => .bl (g i j))) f := fun G H vs ss s Q hs r hf k => by
  obtain ⟨i, j, e, rfl⟩ := h _ _ hf
  obtain ⟨v, w, s1, s2, rfl, r1, r2, e1, e2⟩ := repOs2 r e
  obtain rfl := r1.int e1
  obtain rfl := r2.int e2
  exact ⟨_, _, rfl, i, j, rfl, rfl, done_fr (W := True) hs k (.bl _)⟩
theorem pr_lt : FunOk T (r2 (rI0 fun i j => .bl (decide (i < j)))) dLt := pr_cmp fun l s h => by
  unfold dLt at h; split at h
  · cases h; exact ⟨_, _, rfl, rfl⟩
  · cases h
theorem pr_le : FunOk T (r2 (rI0 fun i j => .bl (decide (i ≤ j)))) dLe := pr_cmp fun l s h => by
  unfold dLe at h; split at h
  · cases h; exact ⟨_, _, rfl, rfl⟩
  · cases h
theorem pr_gt : FunOk T (r2 (rI0 fun i j => .bl (decide (j < i)))) dGt := pr_cmp fun l s h => by
  unfold dGt at h; split at h
  · cases h; exact ⟨_, _, rfl, rfl⟩
  · cases h
theorem pr_ge : FunOk T (r2 (rI0 fun i j => .bl (decide (j ≤ i)))) dGe := pr_cmp fun l s h => by
  unfold dGe at h; split at h
  · cases h; exact ⟨_, _, rfl, rfl⟩
  · cases h
theorem RepO.isNon {G H : Hp} {v : V} {s : S} (r : RepO T G H v s) : s.d.isNon = decide (v = .non) := by
  cases r with
  | fr q => cases q <;> rfl
  | ol _ _ _ => rfl
  | od _ _ _ _ => rfl
  | oi _ _ _ _ => rfl
theorem pr_is : FunOk T (r2 rIsA) (dIs false) := fun G H vs ss s Q hs r h k => by
  unfold dIs at h
  split at h
  · rename_i a b heq
    obtain ⟨v, w, s1, s2, rfl, r1, r2, e1, e2⟩ := repOs2 r heq
    split at h
    · cases h
      obtain rfl := r2.non e2
      subst e1
      refine ⟨_, _, rfl, .inl ⟨rfl, ?_⟩⟩
      rw [← r1.isNon]
      exact done_fr (W := True) hs k (.bl _)
    · split at h
      · cases h
        obtain rfl := r2.bl e2
        obtain rfl := r1.bl e1
        exact ⟨_, _, rfl, .inr ⟨_, _, rfl, rfl, done_fr (W := True) hs k (.bl _)⟩⟩
      · cases h
    · cases h
  · cases h
theorem pr_isn : FunOk T (r2 rIsnA) (dIs true) := fun G H vs ss s Q hs r h k => by
  unfold dIs at h
  split at h
  · rename_i a b heq
    obtain ⟨v, w, s1, s2, rfl, r1, r2, e1, e2⟩ := repOs2 r heq
    split at h
    · cases h
      obtain rfl := r2.non e2
      subst e1
      refine ⟨_, _, rfl, .inl ⟨rfl, ?_⟩⟩
      rw [← r1.isNon]
      exact done_fr (W := True) hs k (.bl _)
    · split at h
      · cases h
        obtain rfl := r2.bl e2
        obtain rfl := r1.bl e1
        exact ⟨_, _, rfl, .inr ⟨_, _, rfl, rfl, done_fr (W := True) hs k (.bl _)⟩⟩
      · cases h
    · cases h
  · cases h
theorem pr_in : FunOk T (r2 (rInA T.K)) (dIn false) := fun G H vs ss s Q hs r h k => by
  unfold dIn at h
  split at h
  · rename_i a b heq
    obtain ⟨v, w, s1, s2, rfl, r1, r2, e1, e2⟩ := repOs2 r heq
    split at h
    · split at h
      · cases h
        obtain rfl := r2.str e2
        obtain rfl := r1.str e1
        exact ⟨_, _, rfl, .inl (.inl ⟨_, _, rfl, rfl, done_fr (W := True) hs k (.bl _)⟩)⟩
      · cases h
    · split at h
      · rename_i hz
        cases h
        rw [Bool.and_eq_true] at hz
        subst e1
        have d2 := r2.dp hs (by rw [e2]; exact hz.2)
        rw [e2] at d2
        exact ⟨_, _, rfl, .inl (.inr ⟨_, _, r1.dp hs hz.1, d2, hz.1, hz.2, done_fr (W := True) hs k (.bl _)⟩)⟩
      · cases h
    · split at h
      · rename_i hz
        cases h
        rw [Bool.and_eq_true] at hz
        subst e1
        have d2 := r2.dp hs (by rw [e2]; exact hz.2)
        rw [e2] at d2
        exact ⟨_, _, rfl, .inr ⟨_, _, r1.dp hs hz.1, d2, hz.1, hz.2, done_fr (W := True) hs k (.bl _)⟩⟩
      · cases h
    · cases h
  · cases h
theorem pr_nin : FunOk T (r2 (rNinA T.K)) (dIn true) := fun G H vs ss s Q hs r h k => by
  unfold dIn at h
  split at h
  · rename_i a b heq
    obtain ⟨v, w, s1, s2, rfl, r1, r2, e1, e2⟩ := repOs2 r heq
    split at h
    · split at h
      · cases h
        obtain rfl := r2.str e2
        obtain rfl := r1.str e1
        exact ⟨_, _, rfl, .inl (.inl ⟨_, _, rfl, rfl, done_fr (W := True) hs k (.bl _)⟩)⟩
      · cases h
    · split at h
      · rename_i hz
        cases h
        rw [Bool.and_eq_true] at hz
        subst e1
        have d2 := r2.dp hs (by rw [e2]; exact hz.2)
        rw [e2] at d2
        exact ⟨_, _, rfl, .inl (.inr ⟨_, _, r1.dp hs hz.1, d2, hz.1, hz.2, done_fr (W := True) hs k (.bl _)⟩)⟩
      · cases h
    · split at h
      · rename_i hz
        cases h
        rw [Bool.and_eq_true] at hz
        subst e1
        have d2 := r2.dp hs (by rw [e2]; exact hz.2)
        rw [e2] at d2
        exact ⟨_, _, rfl, .inr ⟨_, _, r1.dp hs hz.1, d2, hz.1, hz.2, done_fr (W := True) hs k (.bl _)⟩⟩
      · cases h
    · cases h
  · cases h
end
/-- one comparison -/
def dCmp : CmpOp → Option (List D → Option S)
  | .Eq => some dEq
  | .NotEq => some dNe
  | .Lt => some dLt
  | .LtE => some dLe
  | .Gt => some dGt
  | .GtE => some dGe
  | .Is => some (dIs false)
  | .IsNot => some (dIs true)
  | .In => some (dIn false)
  | .NotIn => some (dIn true)
def bCmp (op : CmpOp) (a b : En → Ou R) : En → Ou R := match dCmp op with
  | some f => b2 (pS f) a b
  | none => fun _ => .no
section
variable {X : Cx} {T : Tb} {W : WX} {a b c : Expr} {ma mb mc : En → Ou R} {pos : Pos}
theorem cmp_ok (op : CmpOp) (hK : T.K = X.K) (hu : X.A.units + 65 < cLine) : ∃ r f, dCmp op = some f ∧ OpR X (compareOp op) r ∧ FunOk T (r2 r) f := by
  cases op with
  | Eq => exact ⟨_, _, rfl, op_eqD (by omega), by have := pr_eq (T := T); rwa [hK] at this⟩
  | NotEq => exact ⟨_, _, rfl, op_neD (by omega), by have := pr_ne (T := T); rwa [hK] at this⟩
  | Lt => exact ⟨_, _, rfl, op_lt, pr_lt⟩
  | LtE => exact ⟨_, _, rfl, op_le, pr_le⟩
  | Gt => exact ⟨_, _, rfl, op_gt, pr_gt⟩
  | GtE => exact ⟨_, _, rfl, op_ge, pr_ge⟩
  | Is => exact ⟨_, _, rfl, op_isA, pr_is⟩
  | IsNot => exact ⟨_, _, rfl, op_isnA, pr_isn⟩
  | In => exact ⟨_, _, rfl, op_inA hu, by have := pr_in (T := T); rwa [hK] at this⟩
  | NotIn => exact ⟨_, _, rfl, op_ninA hu, by have := pr_nin (T := T); rwa [hK] at this⟩
theorem pe_cmpF {op : CmpOp} (hK : T.K = X.K) (hu : X.A.units + 65 < cLine) (hm : behindInMarks op b = false) (ha : PE X a (tE T W ma)) (hb : PE X b (tE T W mb)) : PE X (.Compare a [op] [b] pos) (tE T W (bCmp op ma mb)) := by
  obtain ⟨r, f, h1, h2, h3⟩ := cmp_ok (T := T) op hK hu
  unfold bCmp
  rw [h1]
  exact PE.imp (pe_cmpR h2 ha hb hm) fun σ H Q h => tE.mono (fun _ _ k => tE.mono (fun _ _ k => by
    obtain ⟨x, y, e, q⟩ := k
    cases e
    exact q) k) (tE_prim2 (prim_S h3) h)
end
end Fv

namespace Fv
open PySem PySem.Spec PyProof.Rows L2

/-! ### names, constants -/
def bVar (i : Nat) : En → Ou R := fun e =>
  match e[i]? with
  | some (some (.fr d)) => .ok (.vl (.fr d)) e
  | some (some _) => .ok (.pl i) e
  | _ => .no
def bCon (d : D) : En → Ou R := fun e => .ok (.vl (.fr d)) e
section
variable {X : Cx} {T : Tb} {W : WX}
theorem post_vl {G H : Hp} {σ : SV} {e : En} {τ : List V} {u : List S} {s : S} {Q : VK} {v : V} (md : Md T G H σ e τ u) (p : Post T W G H σ (As σ e τ u) τ u (.ok (.vl s) e) Q) (r : RepO T G H v s) (hn : fp v s = []) : Q v H := by
  refine p G H v [v] [s] (Evo.refl.less fun b hb => ?_) (md.push r (by rw [hn]; simp)) (.vl .nil)
  rcases (As_push md.l1 md.l2 b).mp hb with z | z
  · exact z
  · rw [hn] at z; simp at z
theorem pe_varF {i : Nat} {x : Str} {pos : Pos} (hN : X.N[i]? = some x) (hv : Vis X.env.scope x) (hd : (x == ("__debug__" : Str)) = false) (hcd : (x == ("__classdict__" : Str)) = false) : PE X (.Name x pos) (tE T W (bVar i)) := by
  refine PE.imp (pe_var hN hv hd hcd) fun σ H Q h => ?_
  obtain ⟨G, e, τ, u, md, p⟩ := h
  unfold bVar at p
  cases he : e[i]? with
  | none => rw [he] at p; exact p.elim
  | some y => cases y with
    | none => rw [he] at p; exact p.elim
    | some s =>
      rw [he] at p
      obtain ⟨v, hv, r⟩ := md.var he
      have pl : Post T W G H σ (As σ e τ u) τ u (.ok (.pl i) e) Q → Q v H := fun p => p G H v [] [] (by simpa using Evo.refl) (by simpa using md) (.pl hv .nil)
      refine ⟨v, hv, ?_⟩
      cases s with
      | fr d => exact post_vl md p r (fp_fr _ _)
      | ol _ => exact pl p
      | od _ _ => exact pl p
      | oi _ _ _ => exact pl p
theorem pe_conF {x : Expr} {v : V} {d : D} (h : PE X x (tC v)) (r : ∀ G, RepF T G v d) : PE X x (tE T W (bCon d)) := by
  refine PE.imp h fun σ H Q k => ?_
  obtain ⟨G, e, τ, u, md, p⟩ := k
  exact post_vl md p (.fr (r G)) (fp_fr _ _)

/-! ### tests -/
def truthD : D → Option Bool
  | .non => some false
  | .bl b => some b
  | .int i => some (i != 0)
  | .str x => if x.length ≤ 16777216 then some ((x.length : Int) != 0) else none
  | .tup xs => some !xs.isEmpty
  | .lst xs => some !xs.isEmpty
  | .dic ks _ => some !ks.isEmpty
  | _ => none
def bTr (m : En → Ou R) : En → Ou Bool := fun e =>
  match m e with
  | .ok r e1 => match pk e1 r with
    | some s => match truthD s.d with
      | some b => .ok b e1
      | none => .no
    | none => .no
  | .ex x e1 => .ex x e1
  | .no => .no
/-- a comparison as a test -/
def bTb (m : En → Ou R) : En → Ou Bool := fun e =>
  match m e with
  | .ok (.vl (.fr (.bl b))) e1 => .ok b e1
  | .ok _ _ => .no
  | .ex x e1 => .ex x e1
  | .no => .no
theorem RepO.truth {G H : Hp} {v : V} {s : S} {k : Bool} (r : RepO T G H v s) (hs : Sub G H) (h : truthD s.d = some k) : TruV T.K v H k := by
  cases hd : s.d with
  | non => rw [hd] at h; cases h; obtain rfl := r.non hd; rfl
  | bl b => rw [hd] at h; cases h; obtain rfl := r.bl hd; rfl
  | int i => rw [hd] at h; cases h; obtain rfl := r.int hd; rfl
  | str x =>
    have h' : (if x.length ≤ 16777216 then some ((x.length : Int) != 0) else none) = some k := by rw [hd] at h; exact h
    split at h'
    · rename_i hz
      cases h'
      obtain rfl := r.str hd
      exact ⟨sizeL hz, rfl⟩
    · cases h'
  | tup xs =>
    rw [hd] at h; cases h
    obtain ⟨a, ys, rfl, q, _, k⟩ := r.tup hs hd
    exact .inr (.inl ⟨ys, q, by cases k <;> rfl⟩)
  | lst xs =>
    rw [hd] at h; cases h
    obtain ⟨a, ys, rfl, q, k⟩ := r.lst hs hd
    exact .inl ⟨ys, q, by cases k <;> rfl⟩
  | dic ks xs =>
    rw [hd] at h; cases h
    obtain ⟨a, ys, rfl, q, l, k⟩ := r.dic hs hd
    refine .inr (.inr ⟨_, q, ?_⟩)
    cases ks with
    | nil => rfl
    | cons _ _ => cases ys with
      | nil => simp at l
      | cons _ _ => rfl
  | ins _ _ _ => rw [hd] at h; cases h
  | fn _ => rw [hd] at h; cases h
  | ty _ => rw [hd] at h; cases h
theorem pk_ok {G H : Hp} {σ : SV} {e : En} {τ τ1 : List V} {u u1 : List S} {r : R} {v : V} {s : S} (md : Md T G H σ e (τ ++ τ1) (u ++ u1)) (hl : τ.length = u.length) (hr : HR σ [r] [v] τ1 u1) (h : pk e r = some s) : RepO T G H v s := by
  have z : pks e [r] = some [s] := by simp [pks, h]
  cases hr.peek md hl z with
  | cons a _ => exact a
/-- what lies on the way is let go -/
theorem PostB.drop {α : Type} {G H : Hp} {σ : SV} {A : List Addr} {e : En} {τ τ1 : List V} {u u1 : List S} {b : α} {Q : α → Hp → Prop} (p : PostB T W G H σ A τ u (.ok b e) Q) (md : Md T G H σ e (τ ++ τ1) (u ++ u1)) (hl : τ.length = u.length) (E : As σ e (τ ++ τ1) (u ++ u1) = A) : Q b H := by
  subst E
  exact p G H (Evo.refl.less (As_drop md.l1 hl)) (md.dropT hl)
theorem tB_truth {m : En → Ou R} {σ : SV} {H : Hp} {Q : Bool → Hp → Prop} : tB T W (bTr m) σ H Q → tE T W m σ H fun x H' => ∃ k, TruV T.K x H' k ∧ Q k H' := by
  rintro ⟨G, e, τ, u, md, p⟩
  refine ⟨G, e, τ, u, md, ?_⟩
  unfold bTr at p
  cases hm : m e with
  | no => rw [hm] at p; exact p
  | ex x e1 => rw [hm] at p; exact p
  | ok r e1 =>
    rw [hm] at p
    intro G1 H1 v τ1 u1 ev1 md1 hr1
    have p := PostB.after p ev1
    simp only at p
    cases h1 : pk e1 r with
    | none => rw [h1] at p; exact p.elim
    | some s =>
      rw [h1] at p
      simp only at p
      cases h2 : truthD s.d with
      | none => rw [h2] at p; exact p.elim
      | some b =>
        rw [h2] at p
        exact ⟨b, (pk_ok md1 md.l2 hr1 h1).truth md1.sl.sub h2, p.drop md1 md.l2 rfl⟩
theorem tB_bool {m : En → Ou R} {σ : SV} {H : Hp} {Q : Bool → Hp → Prop} : tB T W (bTb m) σ H Q → tE T W m σ H fun x H' => ∃ k, x = .bl k ∧ Q k H' := by
  rintro ⟨G, e, τ, u, md, p⟩
  refine ⟨G, e, τ, u, md, ?_⟩
  unfold bTb at p
  cases hm : m e with
  | no => rw [hm] at p; exact p
  | ex x e1 => rw [hm] at p; exact p
  | ok r e1 =>
    rw [hm] at p
    intro G1 H1 v τ1 u1 ev1 md1 hr1
    have p := PostB.after p ev1
    cases r with
    | pl i => exact p.elim
    | vl s => cases s with
      | fr d => cases d with
        | bl b => exact ⟨b, (pk_ok md1 md.l2 hr1 rfl).bl rfl, p.drop md1 md.l2 rfl⟩
        | _ => exact p.elim
      | _ => exact p.elim
/-- tests joined -/
def bAnd (a b : En → Ou Bool) : En → Ou Bool := fun e =>
  match a e with
  | .ok true e1 => b e1
  | .ok false e1 => .ok false e1
  | .ex x e1 => .ex x e1
  | .no => .no
def bOr (a b : En → Ou Bool) : En → Ou Bool := fun e =>
  match a e with
  | .ok true e1 => .ok true e1
  | .ok false e1 => b e1
  | .ex x e1 => .ex x e1
  | .no => .no
def bNot (a : En → Ou Bool) : En → Ou Bool := fun e =>
  match a e with
  | .ok k e1 => .ok (!k) e1
  | .ex x e1 => .ex x e1
  | .no => .no
theorem tB.mono {α : Type} {m : En → Ou α} {σ : SV} {H : Hp} {Q Q' : α → Hp → Prop} (hq : ∀ v H, Q v H → Q' v H) : tB T W m σ H Q → tB T W m σ H Q' := by
  rintro ⟨G, e, τ, u, md, p⟩
  refine ⟨G, e, τ, u, md, ?_⟩
  revert p
  cases m e with
  | ok r e' => exact fun p G' H' ev md => hq _ _ (p G' H' ev md)
  | ex x e' => exact id
  | no => exact id
/-- a test, then what hangs on it -/
theorem tB_then {α β : Type} {a : En → Ou β} {σ : SV} {H : Hp} {f : β → En → Ou α} {P : β → Hp → Prop}
    (Po : Hp → Hp → List Addr → List V → List S → Ou α → Prop) (hx : ∀ {G H A τ u x e1}, Po G H A τ u (.ex x e1) → PostB T W G H σ A τ u (.ex x e1) P) (hn : ∀ {G H A τ u}, Po G H A τ u .no → False)
    (ha : ∀ {G H A G1 H1 A1 τ u o}, Po G H A τ u o → Evo T.tbs G H A G1 H1 A1 → Po G1 H1 A1 τ u o)
    (ht : ∀ {G1 H1 e1 τ u k}, Md T G1 H1 σ e1 τ u → Po G1 H1 (As σ e1 τ u) τ u (f k e1) → P k H1) {G : Hp} {e : En} {τ : List V} {u : List S} (md : Md T G H σ e τ u)
    (p : Po G H (As σ e τ u) τ u ((a e).bnd f)) : tB T W a σ H P := by
  refine ⟨G, e, τ, u, md, ?_⟩
  cases hm : a e with
  | no => rw [hm] at p; exact (hn p).elim
  | ex x e1 => rw [hm] at p; exact hx p
  | ok k e1 =>
    rw [hm] at p
    exact fun G1 H1 ev1 md1 => ht md1 (ha p ev1)
theorem tB_and {a b : En → Ou Bool} {σ : SV} {H : Hp} {Q : Bool → Hp → Prop} : tB T W (bAnd a b) σ H Q → tB T W a σ H fun c H1 => if c = true then tB T W b σ H1 Q else Q false H1 := by
  rintro ⟨G, e, τ, u, md, p⟩
  refine tB_then (f := fun k e1 => if k = true then b e1 else .ok false e1) (fun G H A τ u o => PostB T W G H σ A τ u o Q) id id PostB.after (fun {G1 H1 e1 τ u k} md1 p => ?_) md ?_
  · cases k with
    | true => exact ⟨G1, e1, τ, u, md1, p⟩
    | false => exact p G1 H1 .refl md1
  · unfold bAnd at p
    revert p
    cases a e with
    | ok k e1 => cases k <;> exact id
    | ex x e1 => exact id
    | no => exact id
theorem tB_or {a b : En → Ou Bool} {σ : SV} {H : Hp} {Q : Bool → Hp → Prop} : tB T W (bOr a b) σ H Q → tB T W a σ H fun c H1 => if c = true then Q true H1 else tB T W b σ H1 Q := by
  rintro ⟨G, e, τ, u, md, p⟩
  refine tB_then (f := fun k e1 => if k = true then .ok true e1 else b e1) (fun G H A τ u o => PostB T W G H σ A τ u o Q) id id PostB.after (fun {G1 H1 e1 τ u k} md1 p => ?_) md ?_
  · cases k with
    | false => exact ⟨G1, e1, τ, u, md1, p⟩
    | true => exact p G1 H1 .refl md1
  · unfold bOr at p
    revert p
    cases a e with
    | ok k e1 => cases k <;> exact id
    | ex x e1 => exact id
    | no => exact id
theorem tB_not {a : En → Ou Bool} {σ : SV} {H : Hp} {Q : Bool → Hp → Prop} : tB T W (bNot a) σ H Q → tB T W a σ H fun c H1 => Q (!c) H1 := by
  rintro ⟨G, e, τ, u, md, p⟩
  refine tB_then (f := fun k e1 => .ok (!k) e1) (fun G H A τ u o => PostB T W G H σ A τ u o Q) id id PostB.after (fun {G1 H1 e1 τ u k} md1 p => p G1 H1 .refl md1) md ?_
  unfold bNot at p
  revert p
  cases a e <;> exact id
/-- a if t else b -/
def bIfE (t : En → Ou Bool) (a b : En → Ou R) : En → Ou R := fun e =>
  match t e with
  | .ok true e1 => a e1
  | .ok false e1 => b e1
  | .ex x e1 => .ex x e1
  | .no => .no
theorem tB_ifE {t : En → Ou Bool} {a b : En → Ou R} {σ : SV} {H : Hp} {Q : VK} : tE T W (bIfE t a b) σ H Q → tB T W t σ H fun c H1 => if c = true then tE T W a σ H1 Q else tE T W b σ H1 Q := by
  rintro ⟨G, e, τ, u, md, p⟩
  refine tB_then (f := fun k e1 => if k = true then a e1 else b e1) (fun G H A τ u o => Post T W G H σ A τ u o Q) id id Post.after (fun {G1 H1 e1 τ u k} md1 p => ?_) md ?_
  · cases k with
    | true => exact ⟨G1, e1, τ, u, md1, p⟩
    | false => exact ⟨G1, e1, τ, u, md1, p⟩
  · unfold bIfE at p
    revert p
    cases t e with
    | ok k e1 => cases k <;> exact id
    | ex x e1 => exact id
    | no => exact id
/-- and, or as values -/
def bAndV (a b : En → Ou R) : En → Ou R := fun e =>
  match bTb a e with
  | .ok true e1 => b e1
  | .ok false e1 => .ok (.vl (.fr (.bl false))) e1
  | .ex x e1 => .ex x e1
  | .no => .no
def bOrV (a b : En → Ou R) : En → Ou R := fun e =>
  match bTb a e with
  | .ok true e1 => .ok (.vl (.fr (.bl true))) e1
  | .ok false e1 => b e1
  | .ex x e1 => .ex x e1
  | .no => .no
def bNotV (a : En → Ou R) : En → Ou R := fun e =>
  match bTb a e with
  | .ok k e1 => .ok (.vl (.fr (.bl (!k)))) e1
  | .ex x e1 => .ex x e1
  | .no => .no
theorem tE_boolV {a : En → Ou R} {f : Bool → En → Ou R} {g : En → Ou R} (hg : ∀ e, g e = (bTb a e).bnd f) {σ : SV} {H : Hp} {Q : VK} :
    tE T W g σ H Q → tE T W a σ H fun x H1 => ∃ c, x = .bl c ∧ tE T W (f c) σ H1 Q := by
  rintro ⟨G, e, τ, u, md, p⟩
  rw [hg] at p
  refine tB_bool (tB_then (f := f) (fun G H A τ u o => Post T W G H σ A τ u o Q) id id Post.after (fun {G1 H1 e1 τ u k} md1 p => ⟨G1, e1, τ, u, md1, p⟩) md p)
theorem tE_con {d : D} {v : V} {σ : SV} {H : Hp} {Q : VK} (r : ∀ G, RepF T G v d) : tE T W (fun e => .ok (.vl (.fr d)) e) σ H Q → Q v H := by
  rintro ⟨G, e, τ, u, md, p⟩
  exact post_vl md p (.fr (r G)) (fp_fr _ _)
end
section
variable {X : Cx} {T : Tb} {W : WX} {a b c : Expr} {rest : List Expr} {ma mb mc : En → Ou R} {ta tb : En → Ou Bool} {pos : Pos}
theorem pt_truthF (hK : T.K = X.K) (ha : PE X a (tE T W ma)) (he : ∀ whole, isTrue a X.env whole = (do let v ← whole; standAt a.pos; holding [v] (truthy v))) : PT X a (tB T W (bTr ma)) :=
  PT.imp (pt_truth ha he) fun σ H Q h => by
    have z := tB_truth h
    rw [hK] at z
    exact z
theorem pt_cmpF {op : CmpOp} (hK : T.K = X.K) (hu : X.A.units + 65 < cLine) (hm : behindInMarks op b = false) (ha : PE X a (tE T W ma)) (hb : PE X b (tE T W mb)) : PT X (.Compare a [op] [b] pos) (tB T W (bTb (bCmp op ma mb))) := by
  obtain ⟨r, f, h1, h2, h3⟩ := cmp_ok (T := T) op hK hu
  unfold bCmp
  rw [h1]
  exact PT.imp (pt_cmpR h2 ha hb hm) fun σ H Q h => tE.mono (fun _ _ k => tE.mono (fun _ _ k => by
    obtain ⟨x, y, e, q⟩ := k
    cases e
    exact q) k) (tE_prim2 (prim_S h3) (tB_bool h))
theorem pt_notF (ha : PT X a (tB T W ta)) : PT X (.UnaryOp .Not a pos) (tB T W (bNot ta)) := PT.imp (pt_not ha) fun _ _ _ h => tB_not h
theorem PW.imp {e : Expr} {t t' : TT} (h : PW X e t) (k : ∀ σ H Q, t' σ H Q → t σ H Q) : PW X e t' := ⟨fun w pins s σ H Q I q => h.run w pins s σ H Q I (k σ H Q q)⟩
theorem pw_andF (ha : PT X a (tB T W ta)) (hb : PW X (.BoolOp .And (b :: rest) pos) (tB T W tb)) : PW X (.BoolOp .And (a :: b :: rest) pos) (tB T W (bAnd ta tb)) := PW.imp (pw_and ha hb) fun _ _ _ h => tB_and h
theorem pw_orF (ha : PT X a (tB T W ta)) (hb : PW X (.BoolOp .Or (b :: rest) pos) (tB T W tb)) : PW X (.BoolOp .Or (a :: b :: rest) pos) (tB T W (bOr ta tb)) := PW.imp (pw_or ha hb) fun _ _ _ h => tB_or h
theorem pe_ifF (ht : PT X c (tB T W ta)) (ha : PE X a (tE T W ma)) (hb : PE X b (tE T W mb)) : PE X (.IfExp c a b pos) (tE T W (bIfE ta ma mb)) := PE.imp (pe_ifExp ht ha hb) fun _ _ _ h => tB_ifE h
theorem pe_andF (ha : PE X a (tE T W ma)) (hb : PE X (.BoolOp .And (b :: rest) pos) (tE T W mb)) : PE X (.BoolOp .And (a :: b :: rest) pos) (tE T W (bAndV ma mb)) :=
  PE.imp (pe_and ha hb) fun σ H Q h => tE.mono (fun x H1 k => by
    obtain ⟨c, e, k⟩ := k
    refine ⟨c, e, ?_⟩
    cases c with
    | true => exact k
    | false => exact tE_con (fun _ => .bl false) k) (tE_boolV (f := fun k e1 => match k with | true => mb e1 | false => .ok (.vl (.fr (.bl false))) e1) (fun e => by unfold bAndV; cases bTb ma e with | ok k e1 => cases k <;> rfl | ex x e1 => rfl | no => rfl) h)
theorem pe_orF (ha : PE X a (tE T W ma)) (hb : PE X (.BoolOp .Or (b :: rest) pos) (tE T W mb)) : PE X (.BoolOp .Or (a :: b :: rest) pos) (tE T W (bOrV ma mb)) :=
  PE.imp (pe_or ha hb) fun σ H Q h => tE.mono (fun x H1 k => by
    obtain ⟨c, e, k⟩ := k
    refine ⟨c, e, ?_⟩
    cases c with
    | false => exact k
    | true => exact tE_con (fun _ => .bl true) k) (tE_boolV (f := fun k e1 => match k with | false => mb e1 | true => .ok (.vl (.fr (.bl true))) e1) (fun e => by unfold bOrV; cases bTb ma e with | ok k e1 => cases k <;> rfl | ex x e1 => rfl | no => rfl) h)
theorem pe_notF (ha : PE X a (tE T W ma)) : PE X (.UnaryOp .Not a pos) (tE T W (bNotV ma)) :=
  PE.imp (pe_not ha) fun σ H Q h => tE.mono (fun x H1 k => by
    obtain ⟨c, e, k⟩ := k
    exact ⟨c, e, tE_con (fun _ => .bl _) k⟩) (tE_boolV (f := fun k e1 => .ok (.vl (.fr (.bl (!k)))) e1) (fun e => by unfold bNotV; cases bTb ma e <;> rfl) h)

/-! ### a op b op c -/
def bChain (op op' : CmpOp) (ma mb mc : En → Ou R) : En → Ou R := fun e =>
  match ma e with
  | .ok ra e1 => match mb e1 with
    | .ok rb e2 => match dCmp op with
      | some f => match pks e2 [ra, rb] with
        | some [sa, sb] => match f [sa.d, sb.d] with
          | some (.fr (.bl true)) => (match dCmp op' with
            | some g => match mc e2 with
              | .ok rc e3 => pS g [rb, rc] e3
              | .ex x e3 => .ex x e3
              | .no => .no
            | none => .no)
          | some (.fr (.bl false)) => .ok (.vl (.fr (.bl false))) e2
          | _ => .no
        | _ => .no
      | none => .no
    | .ex x e2 => .ex x e2
    | .no => .no
  | .ex x e1 => .ex x e1
  | .no => .no
theorem FunOk.bool {r : R2} {f : List D → Option S} (h : FunOk T (r2 r) f) {G H : Hp} {v w : V} {s t : S} {k : Bool} {Q : VK} (hs : Sub G H) (r1 : RepO T G H v s) (r2 : RepO T G H w t) (hf : f [s.d, t.d] = some (.fr (.bl k)))
    (q : ∀ G' H', Grow G H G' H' → Q (.bl k) H') : r v w H Q := by
  obtain ⟨x, y, e, z⟩ := h G H [v, w] [s, t] (.fr (.bl k)) Q hs (.cons r1 (.cons r2 .nil)) hf fun v' G' H' g r' _ => by
    obtain rfl := r'.bl rfl
    exact q G' H' g
  cases e
  exact z
theorem tE_chain {op op' : CmpOp} {r r' : R2} {f g : List D → Option S} (h1 : dCmp op = some f) (h1' : dCmp op' = some g) (h3 : FunOk T (r2 r) f) (h3' : FunOk T (r2 r') g) {σ : SV} {H : Hp} {Q : VK} :
    tE T W (bChain op op' ma mb mc) σ H Q → tChain r r' (tE T W ma) (tE T W mb) (tE T W mc) σ H Q := by
  rintro ⟨G, e, τ, u, md, p⟩
  refine ⟨G, e, τ, u, md, ?_⟩
  unfold bChain at p
  cases hm : ma e with
  | no => rw [hm] at p; exact p
  | ex x e1 => rw [hm] at p; exact p
  | ok ra e1 =>
    rw [hm] at p
    refine fun G1 H1 v τ1 u1 ev1 md1 hr1 => ⟨G1, e1, τ ++ τ1, u ++ u1, md1, ?_⟩
    have p := Post.after p ev1
    simp only at p
    cases hm2 : mb e1 with
    | no => rw [hm2] at p; exact p.elim
    | ex x e2 =>
      rw [hm2] at p
      exact fun G2 H2 c dx ev2 md2 rx => p G2 H2 c dx (ev2.less (As_drop md2.l1 md.l2)) (md2.dropT md.l2) rx
    | ok rb e2 =>
      rw [hm2] at p
      refine fun G2 H2 w τ2 u2 ev2 md2 hr2 => ?_
      have p := Post.after p ev2
      simp only [h1, h1'] at p
      cases hp : pks e2 [ra, rb] with
      | none => rw [hp] at p; exact p.elim
      | some ss =>
        have hr12 : HR σ [ra, rb] [v, w] (τ1 ++ τ2) (u1 ++ u2) := hr1.app hr2
        have md12 : Md T G2 H2 σ e2 (τ ++ (τ1 ++ τ2)) (u ++ (u1 ++ u2)) := by rw [← List.append_assoc, ← List.append_assoc]; exact md2
        have rp := hr12.peek md12 md.l2 hp
        rw [hp] at p
        cases rp with
        | cons r1 rp => cases rp with
          | @cons _ _ sb _ r2 rp => cases rp with
            | nil =>
              rename_i sa
              simp only at p
              cases hf : f [sa.d, sb.d] with
              | none => rw [hf] at p; exact p.elim
              | some s => cases s with
                | fr d => cases d with
                  | bl k =>
                    rw [hf] at p
                    refine FunOk.bool h3 md2.sl.sub r1 r2 hf fun G3 H3 gr => ⟨k, rfl, ?_⟩
                    have md3 := md2.grow gr
                    cases k with
                    | false =>
                      rw [if_neg Bool.false_ne_true]
                      have md3' : Md T G3 H3 σ e2 τ u := by
                        rw [List.append_assoc, List.append_assoc] at md3
                        exact md3.dropT md.l2
                      have p := Post.after p (gr.evo _)
                      refine post_vl md3' (Post.after p (Evo.refl.less ?_)) (.fr (.bl false)) (fp_fr _ _)
                      rw [List.append_assoc, List.append_assoc]
                      exact As_drop md3.l1 md.l2
                    | true =>
                      rw [if_pos rfl]
                      have p := Post.after p (gr.evo _)
                      simp only at p
                      refine ⟨G3, e2, (τ ++ τ1) ++ τ2, (u ++ u1) ++ u2, md3, ?_⟩
                      cases hm3 : mc e2 with
                      | no => rw [hm3] at p; exact p
                      | ex x e3 =>
                        rw [hm3] at p
                        refine fun G4 H4 c dx ev4 md4 rx => ?_
                        have md4' := md4
                        rw [List.append_assoc, List.append_assoc] at md4'
                        exact p G4 H4 c dx (ev4.less fun b hb => by rw [List.append_assoc, List.append_assoc]; exact As_drop md4.l1 md.l2 b hb) (md4'.dropT md.l2) rx
                      | ok rc e3 =>
                        rw [hm3] at p
                        refine fun G4 H4 z τ4 u4 ev4 md4 hr4 => ?_
                        have p := Post.after p ev4
                        have hr24 : HR σ [rb, rc] [w, z] (τ2 ++ τ4) (u2 ++ u4) := hr2.app hr4
                        have md4' : Md T G4 H4 σ e3 ((τ ++ τ1) ++ (τ2 ++ τ4)) ((u ++ u1) ++ (u2 ++ u4)) := by rw [← List.append_assoc, ← List.append_assoc]; exact md4
                        -- the temps of the first are let go at the end
                        have pr := prim_S (W := W) h3' G4 H4 σ e3 (τ ++ τ1) (τ2 ++ τ4) (u ++ u1) (u2 ++ u4) [rb, rc] [w, z] Q md4' md1.l2 hr24
                        obtain ⟨x', y', e', q'⟩ := pr (by
                          simp only at p
                          rw [← List.append_assoc, ← List.append_assoc]
                          revert p
                          unfold pS
                          cases hk : pks e3 [rb, rc] with
                          | none => exact id
                          | some ss => 
                            simp only
                            cases g (ss.map S.d) with
                            | none => exact id
                            | some s5 =>
                              intro p G5 H5 v5 τ5 u5 ev5 md5 hr5
                              have hl5 := hr5.len.1
                              -- drop the middle
                              cases hr5 with
                              | vl hn => 
                                cases hn
                                have md6 : Md T G5 H5 σ e3 τ u := by
                                  have := md5.dropT (τ := τ ++ τ1) (u := u ++ u1) md1.l2
                                  exact this.dropT md.l2
                                have r5 := md5.last md1.l2
                                have own5 : ∀ b ∈ fp v5 s5, b ∉ As σ e3 τ u := fun b hb hc => by
                                  have d := md5.sl.nd
                                  have : As σ e3 ((τ ++ τ1) ++ [v5]) ((u ++ u1) ++ [s5]) = As σ e3 (τ ++ τ1) (u ++ u1) ++ fp v5 s5 := by
                                    unfold As
                                    rw [List.map_append (l₂ := [v5]), List.map_append (l₂ := [s5]), ← List.append_assoc, ← List.append_assoc, fps_append _ _ (by have z := md1.l2; simp only [List.length_append, List.length_map] at z ⊢; have z1 := md5.l1; omega)]
                                    show _ ++ (fp v5 s5 ++ []) = _
                                    rw [List.append_nil]
                                  have d' : (As σ e3 (τ ++ τ1) (u ++ u1) ++ fp v5 s5).Nodup := by rw [← this]; exact d
                                  exact (List.nodup_append.mp d').2.2 b (As_drop md5.l1 md.l2 b hc) b hb rfl
                                refine p G5 H5 v5 [v5] [s5] (ev5.less fun b hb => ?_) (md6.push r5 own5) (.vl .nil)
                                rcases (As_push md5.l1 md.l2 b).mp hb with q | q
                                · exact (As_push md5.l1 md1.l2 b).mpr (.inl (As_drop md5.l1 md.l2 b q))
                                · exact (As_push md5.l1 md1.l2 b).mpr (.inr q))
                        cases e'
                        exact q'
                  | _ => rw [hf] at p; exact p.elim
                | _ => rw [hf] at p; exact p.elim
theorem pe_chainF {op op' : CmpOp} (hK : T.K = X.K) (hu : X.A.units + 65 < cLine) (hm : lastMarks [op, op'] [b, c] = false) (ha : PE X a (tE T W ma)) (hb : PE X b (tE T W mb)) (hc : PE X c (tE T W mc)) : PE X (.Compare a [op, op'] [b, c] pos) (tE T W (bChain op op' ma mb mc)) := by
  obtain ⟨r, f, h1, h2, h3⟩ := cmp_ok (T := T) op hK hu
  obtain ⟨r', g, h1', h2', h3'⟩ := cmp_ok (T := T) op' hK hu
  exact PE.imp (pe_chain h2 h2' ha hb hc hm) fun σ H Q h => tE_chain h1 h1' h3 h3' h
theorem pt_chainF {op op' : CmpOp} (hK : T.K = X.K) (hu : X.A.units + 65 < cLine) (hm : lastMarks [op, op'] [b, c] = false) (ha : PE X a (tE T W ma)) (hb : PE X b (tE T W mb)) (hc : PE X c (tE T W mc)) : PT X (.Compare a [op, op'] [b, c] pos) (tB T W (bTb (bChain op op' ma mb mc))) := by
  obtain ⟨r, f, h1, h2, h3⟩ := cmp_ok (T := T) op hK hu
  obtain ⟨r', g, h1', h2', h3'⟩ := cmp_ok (T := T) op' hK hu
  exact PT.imp (pt_chain h2 h2' ha hb hc hm) fun σ H Q h => tE_chain h1 h1' h3 h3' (tB_bool h)
end
end Fv

namespace Fv
open PySem PySem.Spec PyProof.Rows L2

/-! ### things handed over for good -/
def frz1 (e : En) : R → Option (D × En)
  | .vl s => some (s.d, e)
  | .pl i => match e[i]? with
    | some (some s) => some (s.d, e.set i (some (.fr s.d)))
    | _ => none
def frzs (e : En) : List R → Option (List D × En)
  | [] => some ([], e)
  | r :: rs => match frz1 e r with
    | some (d, e1) => match frzs e1 rs with
      | some (ds, e2) => some (d :: ds, e2)
      | none => none
    | none => none
section
variable {T : Tb} {G H G' H' : Hp} {σ : SV} {e e' : En} {τ τ1 : List V} {u u1 : List S}
theorem Md.freezeVar (m : Md T G H σ e τ u) {i : Nat} {s : S} (h : e[i]? = some (some s)) :
    ∃ G' v, Evo T.tbs G H (As σ e τ u) G' H (As σ (e.set i (some (.fr s.d))) τ u) ∧ Md T G' H σ (e.set i (some (.fr s.d))) τ u ∧ σ[i]? = some (some v) ∧ RepF T G' v s.d := by
  have hi : i < e.length := (List.getElem?_eq_some_iff.mp h).1
  obtain ⟨G', v, ev, sl, hv, r⟩ := m.sl.freeze (i := i) (s := s) (by rw [List.getElem?_append_left hi]; exact h)
  rw [List.set_append_left _ _ hi] at ev sl
  refine ⟨G', v, ev, ⟨by rw [List.length_set]; exact m.l1, m.l2, sl⟩, ?_, r⟩
  rw [List.getElem?_append_left (by rw [m.l1]; exact hi)] at hv
  exact hv
theorem Md.freezeTmp {v : V} {s : S} (m : Md T G H σ e (τ ++ v :: τ1) (u ++ s :: u1)) (hl : τ.length = u.length) :
    ∃ G', Evo T.tbs G H (As σ e (τ ++ v :: τ1) (u ++ s :: u1)) G' H (As σ e (τ ++ v :: τ1) (u ++ .fr s.d :: u1)) ∧ Md T G' H σ e (τ ++ v :: τ1) (u ++ .fr s.d :: u1) ∧ RepF T G' v s.d := by
  have e1 : (e ++ (u ++ s :: u1).map some)[e.length + u.length]? = some (some s) := by
    rw [List.getElem?_append_right (by omega)]; simp
  obtain ⟨G', w, ev, sl, hv, r⟩ := m.sl.freeze e1
  have e2 : (e ++ (u ++ s :: u1).map some).set (e.length + u.length) (some (.fr s.d)) = e ++ (u ++ .fr s.d :: u1).map some := by
    rw [List.set_append_right _ _ (by omega)]
    congr 1
    have : e.length + u.length - e.length = u.length := by omega
    rw [this, List.map_append, List.map_append, List.set_append_right _ _ (by simp)]
    simp
  rw [e2] at ev sl
  refine ⟨G', ev, ⟨m.l1, by simpa using m.l2, sl⟩, ?_⟩
  have e3 : (σ ++ (τ ++ v :: τ1).map some)[e.length + u.length]? = some (some v) := by
    rw [List.getElem?_append_right (by rw [m.l1]; omega), m.l1, ← hl]; simp
  rw [e3] at hv; cases hv
  exact r
theorem HR.freeze {rs : List R} {vs : List V} (hr : HR σ rs vs τ1 u1) : ∀ {G : Hp} {e e' : En} {τ : List V} {u : List S} {ds : List D}, Md T G H σ e (τ ++ τ1) (u ++ u1) → τ.length = u.length → frzs e rs = some (ds, e') →
    ∃ G' u1', Evo T.tbs G H (As σ e (τ ++ τ1) (u ++ u1)) G' H (As σ e' (τ ++ τ1) (u ++ u1')) ∧ Md T G' H σ e' (τ ++ τ1) (u ++ u1') ∧ RepFs T G' vs ds := by
  induction hr with
  | nil => intro G e e' τ u ds m hl h; cases h; exact ⟨G, [], .refl, m, .nil⟩
  | @vl s v rs vs τ1 u1 k ih =>
    intro G e e' τ u ds m hl h
    unfold frzs at h
    simp only [frz1] at h
    cases h2 : frzs e rs with
    | none => rw [h2] at h; cases h
    | some q =>
      obtain ⟨ds', e2⟩ := q
      rw [h2] at h; cases h
      obtain ⟨G1, ev1, m1, r1⟩ := m.freezeTmp hl
      have m1' : Md T G1 H σ e ((τ ++ [v]) ++ τ1) ((u ++ [.fr s.d]) ++ u1) := by simpa using m1
      obtain ⟨G2, u2, ev2, m2, r2⟩ := ih m1' (by simp [hl]) h2
      refine ⟨G2, .fr s.d :: u2, ?_, by simpa using m2, .cons (r1.mono ev2.mono) r2⟩
      have ev2' : Evo T.tbs G1 H (As σ e (τ ++ v :: τ1) (u ++ .fr s.d :: u1)) G2 H (As σ e' (τ ++ v :: τ1) (u ++ .fr s.d :: u2)) := by simpa using ev2
      exact ev1.trans ev2'
  | @pl i v rs vs τ1 u1 q k ih =>
    intro G e e' τ u ds m hl h
    unfold frzs at h
    simp only [frz1] at h
    cases h1 : e[i]? with
    | none => rw [h1] at h; cases h
    | some y => cases y with
      | none => rw [h1] at h; cases h
      | some s =>
        rw [h1] at h
        simp only at h
        cases h2 : frzs (e.set i (some (.fr s.d))) rs with
        | none => rw [h2] at h; cases h
        | some q2 =>
          obtain ⟨ds', e2⟩ := q2
          rw [h2] at h; cases h
          obtain ⟨G1, w, ev1, m1, hw, r1⟩ := m.freezeVar h1
          rw [q] at hw; cases hw
          obtain ⟨G2, u2, ev2, m2, r2⟩ := ih m1 hl h2
          exact ⟨G2, u2, ev1.trans ev2, m2, .cons (r1.mono ev2.mono) r2⟩
def FunZ (T : Tb) (rd : List V → Hp → VK → Prop) (f : List D → Option S) : Prop :=
  ∀ (G H : Hp) (vs : List V) (ds : List D) (s : S) (Q : VK), Sub G H → RepFs T G vs ds → f ds = some s →
      (∀ (v : V) (G' H' : Hp), Grow G H G' H' → RepO T G' H' v s → (∀ b ∈ fp v s, H b = Option.none) → Q v H') → rd vs H Q
def pZ (f : List D → Option S) : List R → En → Ou R := fun rs e =>
  match frzs e rs with
  | some (ds, e1) => match f ds with
    | some s => .ok (.vl s) e1
    | none => .no
  | none => .no
/-- a thing newly made, put down -/
theorem post_new {W : WX} {G1 : Hp} {A : List Addr} {s : S} {Q : VK} {v : V} (q : Post T W G1 H σ A τ u (.ok (.vl s) e) Q) (ev : Evo T.tbs G1 H A G H (As σ e τ u)) (md : Md T G H σ e τ u) (g : Grow G H G' H') (r : RepO T G' H' v s) (hn : ∀ b ∈ fp v s, H b = none) : Q v H' := by
  have md1 : Md T G' H' σ e τ u := md.grow g
  have own1 : ∀ b ∈ fp v s, b ∉ As σ e τ u := fun b hb hc => by
    obtain ⟨_, o, ho⟩ := md.sl.own b hc
    rw [hn b hb] at ho; cases ho
  refine q G' H' v [v] [s] (ev.trans ?_) (md1.push r own1) (.vl .nil)
  refine ⟨g.mono, fun b o z _ _ => g.keep b o z, fun b hb => ?_, fun b o z => (g.frz b o z).imp id fun z => .inr (.of z), g.tabs _⟩
  rcases (As_push md.l1 md.l2 b).mp hb with z | z
  · exact .inl z
  · exact .inr (.of (hn b z))
theorem prim_Z {W : WX} {f : List D → Option S} {rd : List V → Hp → VK → Prop} (h : FunZ T rd f) : PrimOk T W (fun _ => rd) (pZ f) := by
  intro G H σ e τ τ1 u u1 rs vs Q md hl hr q
  unfold pZ at q
  cases h1 : frzs e rs with
  | none => rw [h1] at q; exact q.elim
  | some p =>
    obtain ⟨ds, e1⟩ := p
    rw [h1] at q
    simp only at q
    cases h2 : f ds with
    | none => rw [h2] at q; exact q.elim
    | some s =>
      rw [h2] at q
      obtain ⟨G1, u1', ev, m1, r⟩ := hr.freeze md hl h1
      exact h G1 H vs ds s Q m1.sl.sub r h2 fun v G' H' g ro hn => post_new q (ev.less (As_drop m1.l1 hl)) (m1.dropT hl) g ro hn
end
def dTupN (ds : List D) : Option S := if ds.length ≤ 1000 then some (.fr (.tup ds)) else none
def dLstN (ds : List D) : Option S := if ds.length ≤ 1000 then some (.ol ds) else none
section
variable {X : Cx} {T : Tb} {W : WX} {es : List Expr} {ms : En → Ou (List R)} {pos : Pos}
/-- a tuple of written items -/
theorem pe_tupB {x1} {t : TA} (h : PA X es t) : PE X (.Tuple es x1 pos) (fun σ H Q => t σ H fun xs H1 => xs.length ≤ sizeLine ∧ NewT Q H1 xs) :=
  ⟨fun pins s σ H Q I hq => wpAny_Tuple_spliced (thn (h.run pos pins s σ H _ I hq) fun us s1 ⟨xs, H1, I1, r, z, q⟩ =>
    ⟨by rw [← r.length]; exact z, .ref s1.heap.objs.size, _, tupN I1 r z, rfl, q _ _ (I1.hok.fresh (Nat.le_refl _))⟩)⟩
theorem fz_tup : FunZ T (fun xs H1 Q => xs.length ≤ sizeLine ∧ NewT Q H1 xs) dTupN := fun G H vs ds s Q hs r h k => by
  unfold dTupN at h
  split at h
  · rename_i hz
    cases h
    exact ⟨sizeL (by rw [r.length]; omega), done_tup hs k r⟩
  · cases h
theorem fz_lst : FunZ T (fun xs H1 Q => xs.length ≤ sizeLine ∧ ∀ p, H1 p = none → Q (.ref p) (upd H1 p (.lst xs))) dLstN := fun G H vs ds s Q hs r h k => by
  unfold dLstN at h
  split at h
  · rename_i hz
    cases h
    exact ⟨sizeL (by rw [r.length]; omega), fun p hp => done_ol hs k r hp⟩
  · cases h
def bTup (ms : En → Ou (List R)) : En → Ou R := bP (pZ dTupN) ms
def bLst (ms : En → Ou (List R)) : En → Ou R := bP (pZ dLstN) ms
theorem pe_tupF {x1} (h : PA X es (tEs T W ms)) : PE X (.Tuple es x1 pos) (tE T W (bTup ms)) := PE.imp (pe_tupB h) fun σ H Q k => tE_prim (prim_Z fz_tup) k
theorem pe_lstF (h : PA X es (tEs T W ms)) : PE X (.List es pos) (tE T W (bLst ms)) := PE.imp (pe_lst h) fun σ H Q k => tE_prim (prim_Z fz_lst) k
theorem pa_nilF : PA X [] (tEs T W aNil) := PA.imp pa_nil fun σ H Q k => tEs_nil k
theorem pa_consF {e : Expr} {m : En → Ou R} (ha : PE X e (tE T W m)) (hr : PA X es (tEs T W ms)) (hs : starEach (e :: es) X.env = (false, eval e X.env) :: starEach es X.env) : PA X (e :: es) (tEs T W (aCons m ms)) :=
  PA.imp (pa_cons ha hr hs) fun σ H Q k => tEs_cons k

/-! ### places -/
def dIx : List D → Option S
  | [.lst xs, .int i] => (atI xs i).map .fr
  | [.tup xs, .int i] => (atI xs i).map .fr
  | [.str x, .int i] => if x.length ≤ 16777216 then (atI x.cps.toList i).map fun c => .fr (.str ⟨#[c]⟩) else none
  | _ => none
theorem RepFs.atI {G : Hp} {vs : List V} {ds : List D} {i : Int} {d : D} (r : RepFs T G vs ds) (h : L2.atI ds i = some d) : ∃ v, L2.atI vs i = some v ∧ RepF T G v d := by
  unfold L2.atI at h ⊢
  rw [r.length]
  cases e : ixN ds.length i with
  | none => rw [e] at h; cases h
  | some j =>
    rw [e] at h
    exact r.get (by simpa using h)
theorem fo_ix : FunOk T (r2 (rIx T.K)) dIx := fun G H vs ss s Q hs r h k => by
  unfold dIx at h
  split at h
  · rename_i xs i heq
    obtain ⟨v, w, s1, s2, rfl, r1, r2, e1, e2⟩ := repOs2 r heq
    obtain rfl := r2.int e2
    obtain ⟨a, as, rfl, q1, k1⟩ := r1.lst hs e1
    cases hx : L2.atI xs i with
    | none => rw [hx] at h; cases h
    | some d =>
      rw [hx] at h; cases h
      obtain ⟨y, hy, ry⟩ := k1.atI hx
      exact ⟨_, _, rfl, .inl ⟨a, as, i, y, rfl, rfl, q1, hy, done_fr (W := True) hs k ry⟩⟩
  · rename_i xs i heq
    obtain ⟨v, w, s1, s2, rfl, r1, r2, e1, e2⟩ := repOs2 r heq
    obtain rfl := r2.int e2
    obtain ⟨a, as, rfl, q1, _, k1⟩ := r1.tup hs e1
    cases hx : L2.atI xs i with
    | none => rw [hx] at h; cases h
    | some d =>
      rw [hx] at h; cases h
      obtain ⟨y, hy, ry⟩ := k1.atI hx
      exact ⟨_, _, rfl, .inr (.inl ⟨a, as, i, y, rfl, rfl, q1, hy, done_fr (W := True) hs k ry⟩)⟩
  · rename_i x i heq
    split at h
    · rename_i hz
      obtain ⟨v, w, s1, s2, rfl, r1, r2, e1, e2⟩ := repOs2 r heq
      obtain rfl := r2.int e2
      obtain rfl := r1.str e1
      cases hx : L2.atI x.cps.toList i with
      | none => rw [hx] at h; cases h
      | some c =>
        rw [hx] at h; cases h
        exact ⟨_, _, rfl, .inr (.inr ⟨x, i, c, rfl, rfl, sizeL hz, hx, done_fr (W := True) hs k (.str _)⟩)⟩
    · cases h
  · cases h
def bIx (ma mb : En → Ou R) : En → Ou R := b2 (pS dIx) ma mb
theorem pe_ixF {a b : Expr} {ma mb : En → Ou R} (hK : T.K = X.K) (ha : PE X a (tE T W ma)) (hb : PE X b (tE T W mb)) (hs : PlainIx b) : PE X (.Subscript a b pos) (tE T W (bIx ma mb)) :=
  PE.imp (pe_ix ix_seq ha hb hs) fun σ H Q h => tE.mono (fun _ _ k => tE.mono (fun _ _ k => by
    obtain ⟨x, y, e, q⟩ := k
    cases e
    rw [hK] at q
    exact q) k) (tE_prim2 (prim_S fo_ix) h)

/-! ### slices -/
def bInt (m : En → Ou R) : En → Ou Int := fun e =>
  match m e with
  | .ok (.vl (.fr (.int i))) e1 => .ok i e1
  | .ok _ _ => .no
  | .ex x e1 => .ex x e1
  | .no => .no
theorem tB_int {m : En → Ou R} {σ : SV} {H : Hp} {Q : Int → Hp → Prop} : tB T W (bInt m) σ H Q → tE T W m σ H fun x H' => ∃ k, x = .int k ∧ Q k H' := by
  rintro ⟨G, e, τ, u, md, p⟩
  refine ⟨G, e, τ, u, md, ?_⟩
  unfold bInt at p
  cases hm : m e with
  | no => rw [hm] at p; exact p
  | ex x e1 => rw [hm] at p; exact p
  | ok r e1 =>
    rw [hm] at p
    intro G1 H1 v τ1 u1 ev1 md1 hr1
    have p := PostB.after p ev1
    cases r with
    | pl i => exact p.elim
    | vl s => cases s with
      | fr d => cases d with
        | int b => exact ⟨b, (pk_ok md1 md.l2 hr1 rfl).int rfl, p.drop md1 md.l2 rfl⟩
        | _ => exact p.elim
      | _ => exact p.elim
def bPart : Option (En → Ou R) → En → Ou (Option Int)
  | none, e => .ok none e
  | some m, e => (bInt m e).bnd fun i e1 => .ok (some i) e1
def cutD {α : Type} (xs : List α) (lo hi : Option Int) : List α := (xs.drop (HT.sIx xs.length 0 lo)).take (HT.sIx xs.length xs.length hi - HT.sIx xs.length 0 lo)
def dSl (lo hi : Option Int) : List D → Option S
  | [.lst xs] => some (.ol (cutD xs lo hi))
  | [.tup xs] => some (.fr (.tup (cutD xs lo hi)))
  | _ => none
theorem RepFs.cut {G : Hp} {vs : List V} {ds : List D} (r : RepFs T G vs ds) (lo hi : Option Int) : RepFs T G (cutV vs lo hi) (cutD ds lo hi) := by
  unfold cutV cutD
  rw [r.length]
  exact (r.drop _).take _
/-- a part of a tuple -/
def rSlB (K : PySem.W.Frag) : V → Option Int → Option Int → Hp → VK → Prop := fun x lo hi H Q => ∃ a xs, x = .ref a ∧ SqT K H a xs ∧
  (HT.sIx xs.length 0 lo = 0 ∧ HT.sIx xs.length xs.length hi = xs.length → Q (.ref a) H) ∧ (¬ (HT.sIx xs.length 0 lo = 0 ∧ HT.sIx xs.length xs.length hi = xs.length) → NewT Q H (cutV xs lo hi))
theorem sl_tupB {X : Cx} : SlR X (rSlB X.K) := by
  rintro pins s σ H _ v vl vu lo hi sl Q I rx hs pl pu ⟨a, xs, rfl, hx, q1, q2⟩
  by_cases hw : HT.sIx xs.length 0 lo = 0 ∧ HT.sIx xs.length xs.length hi = xs.length
  · exact sl_tupA pins s σ H _ v vl vu lo hi sl Q I rx hs pl pu ⟨a, xs, rfl, hx, q1, fun z => (z hw).elim⟩
  · cases rx
    obtain ⟨us, ru, ht, hz⟩ := I.tuple hx
    have el : us.toArray.size = xs.length := by rw [List.size_toArray]; exact ru.length.symm
    refine ⟨"tuple", _, PyProof.Rows.slot_tuple_getitem.lookup, ht.typeIs, HT.getItem_tuple_cut ht hs pl pu (by rw [el]; exact hw) ?_ (by rw [el]; exact hz)⟩
    rw [el]
    exact ⟨.ref s.heap.objs.size, _, tupN I (xs := cutV xs lo hi) ((ru.drop _).take _) (Nat.le_trans (cutV_length xs lo hi) hz), rfl, q2 hw _ _ (I.hok.fresh (Nat.le_refl _))⟩
def rSl (K : PySem.W.Frag) : V → Option Int → Option Int → Hp → VK → Prop := fun x lo hi H Q => rSlL K x lo hi H Q ∨ rSlB K x lo hi H Q
theorem fo_sl (lo hi : Option Int) : FunOk T (r1 fun x H Q => rSl T.K x lo hi H Q) (dSl lo hi) := fun G H vs ss s Q hs r h k => by
  unfold dSl at h
  split at h
  · rename_i xs heq
    cases h
    obtain ⟨v, s1, rfl, r1, e1⟩ := repOs1 r heq
    obtain ⟨a, as, rfl, q1, k1⟩ := r1.lst hs e1
    exact ⟨_, rfl, .inl ⟨a, as, rfl, q1, fun p hp => done_ol hs k (k1.cut lo hi) hp⟩⟩
  · rename_i xs heq
    cases h
    obtain ⟨v, s1, rfl, r1, e1⟩ := repOs1 r heq
    obtain ⟨a, as, rfl, q1, t1, k1⟩ := r1.tup hs e1
    refine ⟨_, rfl, .inr ⟨a, as, rfl, q1, fun hw => ?_, fun _ => done_tup hs k (k1.cut lo hi)⟩⟩
    have e : cutD xs lo hi = xs := by
      unfold cutD
      rw [← k1.length, hw.1, hw.2, List.drop_zero, Nat.sub_zero, k1.length, List.take_length]
    rw [e] at k
    exact done_fr (W := True) hs k (.tup t1 k1)
  · cases h
def bSl (m : En → Ou R) (lo hi : Option (En → Ou R)) : En → Ou R := fun e =>
  (m e).bnd fun r e1 => (bPart lo e1).bnd fun l e2 => (bPart hi e2).bnd fun h e3 => pS (dSl l h) [r] e3
def tO (T : Tb) (W : WX) (m : Option (En → Ou R)) : TO := fun σ H Q => tB T W (bPart m) σ H Q
theorem po_F {o : Option Expr} {mo : Option (En → Ou R)} (h : (o = none ∧ mo = none) ∨ ∃ e m, o = some e ∧ mo = some m ∧ PE X e (tE T W m)) : PO X o (tO T W mo) := by
  rcases h with ⟨rfl, rfl⟩ | ⟨e, m, rfl, rfl, he⟩
  · refine ⟨fun pins s σ H Q I q => po_none.run pins s σ H Q I ?_⟩
    obtain ⟨G, e, τ, u, md, p⟩ := q
    exact p G H .refl md
  · refine ⟨fun pins s σ H Q I q => (po_some he).run pins s σ H Q I ?_⟩
    obtain ⟨G, e, τ, u, md, p⟩ := q
    exact tB_int (tB_then (f := fun i e1 => .ok (some i) e1) (fun G H A τ u o => PostB T W G H σ A τ u o Q) id id PostB.after (fun {G1 H1 e1 τ u k} md1 p => p G1 H1 .refl md1) md p)
theorem tE_slice {m : En → Ou R} {lo hi : Option (En → Ou R)} {σ : SV} {H : Hp} {Q : VK} : tE T W (bSl m lo hi) σ H Q → tSl (rSl T.K) (tE T W m) (tO T W lo) (tO T W hi) σ H Q := by
  rintro ⟨G, e, τ, u, md, p⟩
  refine ⟨G, e, τ, u, md, ?_⟩
  unfold bSl at p
  cases hm : m e with
  | no => rw [hm] at p; exact p
  | ex x e1 => rw [hm] at p; exact p
  | ok r e1 =>
    rw [hm] at p
    intro G1 H1 v τ1 u1 ev1 md1 hr1
    have p := Post.after p ev1
    -- the parts, the thing kept beneath
    have lift : ∀ {G H : Hp} {A : List Addr} {x : Xn} {e1 : En} {Q' : Option Int → Hp → Prop}, Post T W G H σ A τ u (.ex x e1) Q → PostB T W G H σ A (τ ++ τ1) (u ++ u1) (.ex x e1) Q' := fun {G H A x e1 Q'} p G2 H2 c dx ev2 md2 rx =>
      p G2 H2 c dx (ev2.less (As_drop md2.l1 md.l2)) (md2.dropT md.l2) rx
    have p' : Post T W G1 H1 σ (As σ e1 (τ ++ τ1) (u ++ u1)) τ u ((bPart lo e1).bnd fun l e2 => (bPart hi e2).bnd fun h e3 => pS (dSl l h) [r] e3) Q := p
    refine ⟨G1, e1, τ ++ τ1, u ++ u1, md1, ?_⟩
    cases hl : bPart lo e1 with
    | no => rw [hl] at p'; exact p'
    | ex x e2 => rw [hl] at p'; exact lift p'
    | ok l e2 =>
      rw [hl] at p'
      intro G2 H2 ev2 md2
      have p2 : Post T W G2 H2 σ (As σ e2 (τ ++ τ1) (u ++ u1)) τ u ((bPart hi e2).bnd fun h e3 => pS (dSl l h) [r] e3) Q := Post.after p' ev2
      refine ⟨G2, e2, τ ++ τ1, u ++ u1, md2, ?_⟩
      cases hh : bPart hi e2 with
      | no => rw [hh] at p2; exact p2
      | ex x e3 => rw [hh] at p2; exact lift p2
      | ok h e3 =>
        rw [hh] at p2
        intro G3 H3 ev3 md3
        have p3 : Post T W G3 H3 σ (As σ e3 (τ ++ τ1) (u ++ u1)) τ u (pS (dSl l h) [r] e3) Q := Post.after p2 ev3
        obtain ⟨x, e', q'⟩ := prim_S (W := W) (fo_sl l h) G3 H3 σ e3 τ τ1 u u1 [r] [v] Q md3 md.l2 hr1 p3
        cases e'
        exact q'
theorem pe_sliceF {a : Expr} {lo hi : Option Expr} {m : En → Ou R} {ml mh : Option (En → Ou R)} {p2 : Pos} (hK : T.K = X.K) (ha : PE X a (tE T W m)) (hl : PO X lo (tO T W ml)) (hh : PO X hi (tO T W mh)) : PE X (.Subscript a (.Slice lo hi none p2) pos) (tE T W (bSl m ml mh)) :=
  PE.imp (pe_slice (r := rSl X.K) (sl_list.or sl_tupB) ha hl hh) fun σ H Q h => by
    have := tE_slice h
    rw [hK] at this
    exact this
end
end Fv

namespace Fv
open PySem PySem.Spec PyProof.Rows L2

/-! ### calls of defs -/
inductive FO where
  | ok (s : S) (ss : List S)
  | ex (x : Xn) (ss : List S)
  | no
def mov1 (e : En) : R → Option (S × En)
  | .vl s => some (s, e)
  | .pl i => match e[i]? with
    | some (some s) => some (s, e.set i none)
    | _ => none
def movs (e : En) : List R → Option (List S × En)
  | [] => some ([], e)
  | r :: rs => match mov1 e r with
    | some (s, e1) => match movs e1 rs with
      | some (ss, e2) => some (s :: ss, e2)
      | none => none
    | none => none
def put1 (e : En) : R → S → En
  | .vl _, _ => e
  | .pl i, s => e.set i (some s)
def puts (e : En) : List R → List S → En
  | r :: rs, s :: ss => put1 (puts e rs ss) r s
  | _, _ => e
abbrev sv (vs : List V) : SV := vs.map some
abbrev se (ss : List S) : En := ss.map some
theorem sv_app (a b : List V) : sv (a ++ b) = sv a ++ sv b := List.map_append
theorem se_app (a b : List S) : se (a ++ b) = se a ++ se b := List.map_append
def spD (T : Tb) (np : Nat) (fn : List S → FO) : Sp := fun vs H Q E => ∃ (G : Hp) (ss : List S), ss.length = np ∧ Sl T G H (sv vs) (se ss) ∧
  match fn ss with
  | .ok s ss' => ∀ (v : V) (G' H' : Hp), Evo T.tbs G H (fps (sv vs) (se ss)) G' H' (fps (sv (vs ++ [v])) (se (ss' ++ [s]))) → Sl T G' H' (sv (vs ++ [v])) (se (ss' ++ [s])) → Q v H'
  | .ex x ss' => ∀ (c : Value) (dx : Option Addr) (G' H' : Hp), Evo T.tbs G H (fps (sv vs) (se ss)) G' H' (fps (sv vs) (se ss')) → Sl T G' H' (sv vs) (se ss') → RepX T G' c dx x → E c dx H'
  | .no => False
theorem spD.len {T : Tb} {np : Nat} {fn : List S → FO} {vs : List V} {H : Hp} {Q : VK} {E : XK} (h : spD T np fn vs H Q E) : vs.length = np := by
  obtain ⟨G, ss, hl, sl, _⟩ := h
  have := sl.len
  simp only [List.length_map] at this
  omega
def pCall (np : Nat) (fn : List S → FO) : List R → En → Ou R := fun rs e =>
  match movs e rs with
  | some (ss, e1) => if ss.length = np then match fn ss with
    | .ok s ss' => .ok (.vl s) (puts e1 rs ss')
    | .ex x ss' => .ex x (puts e1 rs ss')
    | .no => .no
    else .no
  | none => .no
section
variable {T : Tb} {G H G' H' : Hp} {σ : SV}
theorem As_set_sub {e : En} {τ : List V} {u : List S} {i : Nat} (hi : i < e.length) : ∀ b, b ∈ As σ (e.set i none) τ u → b ∈ As σ e τ u := fun b hb => by
  unfold As at *
  rw [← List.set_append_left _ _ hi] at hb
  exact fps_sub b hb
theorem Md.out {e : En} {τ : List V} {u : List S} (m : Md T G H σ e τ u) {i : Nat} (hi : i < e.length) : Md T G H σ (e.set i none) τ u := by
  refine ⟨by rw [List.length_set]; exact m.l1, m.l2, ?_⟩
  rw [← List.set_append_left _ _ hi]
  exact m.sl.out i
theorem Md.outDis {e : En} {τ : List V} {u : List S} (m : Md T G H σ e τ u) {i : Nat} {s : S} {v : V} (h : e[i]? = some (some s)) (hv : σ[i]? = some (some v)) : ∀ b ∈ fp v s, b ∈ As σ e τ u ∧ b ∉ As σ (e.set i none) τ u := fun b hb => by
  have hi : i < e.length := (List.getElem?_eq_some_iff.mp h).1
  have h1 : (σ ++ τ.map some)[i]? = some (some v) := by rw [List.getElem?_append_left (by rw [m.l1]; exact hi)]; exact hv
  have h2 : (e ++ u.map some)[i]? = some (some s) := by rw [List.getElem?_append_left hi]; exact h
  refine ⟨mem_fps h1 h2 hb, fun hc => ?_⟩
  unfold As at hc
  rw [← List.set_append_left _ _ hi] at hc
  exact (List.nodup_append.mp ((fps_out h1 h2).nodup_iff.mp m.sl.nd)).2.2 b hb b hc rfl
theorem Md.put {e : En} {τ : List V} {u : List S} {i : Nat} {s : S} {v : V} (m : Md T G H σ e τ u) (h : e[i]? = some none) (hv : σ[i]? = some (some v)) (r : RepO T G H v s) (hn : ∀ b ∈ fp v s, b ∉ As σ e τ u) :
    Md T G H σ (e.set i (some s)) τ u ∧ ∀ b, b ∈ As σ (e.set i (some s)) τ u → b ∈ fp v s ∨ b ∈ As σ e τ u := by
  obtain ⟨hi, he⟩ := List.getElem?_eq_some_iff.mp h
  have hne : e.set i none = e := by rw [← he]; exact List.set_getElem_self hi
  have hset : (σ ++ τ.map some).set i (some v) = σ ++ τ.map some := by
    have h1 : (σ ++ τ.map some)[i]? = some (some v) := by rw [List.getElem?_append_left (by rw [m.l1]; exact hi)]; exact hv
    obtain ⟨hl, e1⟩ := List.getElem?_eq_some_iff.mp h1
    rw [← e1]; exact List.set_getElem_self hl
  have hi2 : i < (e ++ u.map some).length := by rw [List.length_append]; omega
  have hne2 : (e ++ u.map some).set i none = e ++ u.map some := by rw [List.set_append_left _ _ hi, hne]
  have sl := Sl.put (i := i) (by rw [hne2]; exact m.sl) hi2 r (by rw [hne2]; exact hn)
  rw [hset, List.set_append_left _ _ hi] at sl
  refine ⟨⟨by rw [List.length_set]; exact m.l1, m.l2, sl⟩, fun b hb => ?_⟩
  unfold As at hb
  rw [← List.set_append_left _ _ hi, ← hset] at hb
  have := (fps_set_mem (σ := σ ++ τ.map some) hi2 m.sl.len b).mp hb
  rw [hne2] at this
  exact this
theorem movs_none {i : Nat} : ∀ {rs : List R} {e e1 : En} {ss : List S}, movs e rs = some (ss, e1) → e[i]? = some none → e1[i]? = some none ∧ ∀ ss', (puts e1 rs ss')[i]? = some none
  | [], e, e1, ss, h, hn => by cases h; exact ⟨hn, fun ss' => by cases ss' <;> exact hn⟩
  | r :: rs, e, e1, ss, h, hn => by
    unfold movs at h
    cases r with
    | vl s =>
      simp only [mov1] at h
      cases h2 : movs e rs with
      | none => rw [h2] at h; cases h
      | some q =>
        obtain ⟨ss2, e2⟩ := q
        rw [h2] at h; cases h
        obtain ⟨a, b⟩ := movs_none h2 hn
        exact ⟨a, fun ss' => by cases ss' with
          | nil => exact a
          | cons _ _ => exact b _⟩
    | pl j =>
      simp only [mov1] at h
      cases h1 : e[j]? with
      | none => rw [h1] at h; cases h
      | some y => cases y with
        | none => rw [h1] at h; cases h
        | some s =>
          rw [h1] at h
          simp only at h
          have hj : j ≠ i := fun z => by rw [z, hn] at h1; cases h1
          cases h2 : movs (e.set j none) rs with
          | none => rw [h2] at h; cases h
          | some q =>
            obtain ⟨ss2, e2⟩ := q
            rw [h2] at h; cases h
            obtain ⟨a, b⟩ := movs_none h2 (by rw [List.getElem?_set_ne hj]; exact hn)
            exact ⟨a, fun ss' => by cases ss' with
              | nil => exact a
              | cons x xs => show ((puts e1 rs xs).set j (some x))[i]? = _; rw [List.getElem?_set_ne hj]; exact b _⟩
theorem HR.movs {rs : List R} {vs τ1 : List V} {u1 : List S} (hr : HR σ rs vs τ1 u1) : ∀ {e e1 : En} {τ : List V} {u : List S} {ss : List S}, Md T G H σ e (τ ++ τ1) (u ++ u1) → τ.length = u.length → movs e rs = some (ss, e1) →
    Sl T G H (sv vs) (se ss) ∧ Md T G H σ e1 τ u ∧ (∀ b ∈ fps (sv vs) (se ss), b ∉ As σ e1 τ u ∧ b ∈ As σ e (τ ++ τ1) (u ++ u1)) ∧ ∀ b ∈ As σ e1 τ u, b ∈ As σ e (τ ++ τ1) (u ++ u1) := by
  induction hr with
  | nil =>
    intro e e1 τ u ss m hl h
    cases h
    refine ⟨.nil m.sl.sub m.sl.tab, by simpa using m, fun b hb => by simp [fps] at hb, fun b hb => by simpa using hb⟩
  | @vl s v rs vs τ1 u1 k ih =>
    intro e e1 τ u ss m hl h
    unfold Fv.movs at h
    simp only [mov1] at h
    cases h2 : Fv.movs e rs with
    | none => rw [h2] at h; cases h
    | some q =>
      obtain ⟨ss2, e2⟩ := q
      rw [h2] at h; cases h
      have m' : Md T G H σ e ((τ ++ [v]) ++ τ1) ((u ++ [s]) ++ u1) := by simpa using m
      obtain ⟨a, b, c, d⟩ := ih m' (by simp [hl]) h2
      have r := b.last hl
      have eA : ∀ x, x ∈ As σ e ((τ ++ [v]) ++ τ1) ((u ++ [s]) ++ u1) → x ∈ As σ e (τ ++ v :: τ1) (u ++ s :: u1) := fun x hx => by simpa using hx
      have own : ∀ x ∈ fp v s, x ∉ As σ e1 τ u := fun x hx hc => by
        have n := b.sl.nd
        have : fps (σ ++ (τ ++ [v]).map some) (e1 ++ (u ++ [s]).map some) = As σ e1 τ u ++ fp v s := by
          rw [List.map_append (l₂ := [v]), List.map_append (l₂ := [s]), ← List.append_assoc, ← List.append_assoc, fps_append _ _ (by simp [b.l1, hl])]
          show _ ++ (fp v s ++ []) = _
          rw [List.append_nil]; rfl
        rw [this] at n
        exact (List.nodup_append.mp n).2.2 x hc x hx rfl
      have memA : ∀ x ∈ fp v s, x ∈ As σ e1 (τ ++ [v]) (u ++ [s]) := fun x hx => (As_push b.l1 hl x).mpr (.inr hx)
      refine ⟨(Sl.one m.sl.sub r m.sl.tab).append a fun x hx hc => ?_, b.dropT hl, fun x hx => ?_, fun x hx => eA x (d x (As_drop b.l1 hl x hx))⟩
      · have hx : x ∈ fp v s ++ [] := hx
        rw [List.append_nil] at hx
        exact (c x hc).1 (memA x hx)
      · have hx : x ∈ fp v s ++ fps (sv vs) (se ss2) := hx
        rcases List.mem_append.mp hx with z | z
        · exact ⟨own x z, eA x (d x (memA x z))⟩
        · exact ⟨fun hc => (c x z).1 (As_drop b.l1 hl x hc), eA x (c x z).2⟩
  | @pl i v rs vs τ1 u1 q k ih =>
    intro e e1 τ u ss m hl h
    unfold Fv.movs at h
    simp only [mov1] at h
    cases h1 : e[i]? with
    | none => rw [h1] at h; cases h
    | some y => cases y with
      | none => rw [h1] at h; cases h
      | some s =>
        rw [h1] at h
        simp only at h
        cases h2 : Fv.movs (e.set i none) rs with
        | none => rw [h2] at h; cases h
        | some q2 =>
          obtain ⟨ss2, e2⟩ := q2
          rw [h2] at h; cases h
          have hi : i < e.length := (List.getElem?_eq_some_iff.mp h1).1
          obtain ⟨w, hw, r⟩ := m.var h1
          rw [q] at hw; cases hw
          obtain ⟨a, b, c, d⟩ := ih (m.out hi) hl h2
          have od := m.outDis h1 q
          refine ⟨(Sl.one m.sl.sub r m.sl.tab).append a fun x hx hc => ?_, b, fun x hx => ?_, fun x hx => As_set_sub hi x (d x hx)⟩
          · have hx : x ∈ fp v s ++ [] := hx
            rw [List.append_nil] at hx
            exact (od x hx).2 (c x hc).2
          · have hx : x ∈ fp v s ++ fps (sv vs) (se ss2) := hx
            rcases List.mem_append.mp hx with z | z
            · exact ⟨fun hc => (od x z).2 (d x hc), (od x z).1⟩
            · exact ⟨(c x z).1, As_set_sub hi x (c x z).2⟩
theorem HR.puts {rs : List R} {vs τ1 : List V} {u1 : List S} (hr : HR σ rs vs τ1 u1) : ∀ {e e1 : En} {τ : List V} {u : List S} {ss ss' : List S}, Fv.movs e rs = some (ss, e1) → Md T G H σ e1 τ u → Sl T G H (sv vs) (se ss') → (∀ b ∈ fps (sv vs) (se ss'), b ∉ As σ e1 τ u) →
    Md T G H σ (Fv.puts e1 rs ss') τ u ∧ ∀ b ∈ As σ (Fv.puts e1 rs ss') τ u, b ∈ fps (sv vs) (se ss') ∨ b ∈ As σ e1 τ u := by
  induction hr with
  | nil => intro e e1 τ u ss ss' h m sl dis; exact ⟨by cases ss' <;> exact m, fun b hb => .inr (by cases ss' <;> exact hb)⟩
  | @vl s v rs vs τ1 u1 k ih =>
    intro e e1 τ u ss ss' h m sl dis
    unfold Fv.movs at h
    simp only [mov1] at h
    cases h2 : Fv.movs e rs with
    | none => rw [h2] at h; cases h
    | some q =>
      obtain ⟨ss2, e2⟩ := q
      rw [h2] at h; cases h
      cases ss' with
      | nil => have := sl.len; simp at this
      | cons t ts =>
        have sl2 : Sl T G H (sv vs) (se ts) := Sl.right (σ := [some v]) (e := [some t]) sl rfl
        have hm : ∀ b, b ∈ fps (sv vs) (se ts) → b ∈ fps (sv (v :: vs)) (se (t :: ts)) := fun b hb => List.mem_append_right (fp v t) hb
        obtain ⟨a, b⟩ := ih h2 m sl2 fun b hb => dis b (hm b hb)
        exact ⟨a, fun x hx => (b x hx).imp (hm x) id⟩
  | @pl i v rs vs τ1 u1 q k ih =>
    intro e e1 τ u ss ss' h m sl dis
    unfold Fv.movs at h
    simp only [mov1] at h
    cases h1 : e[i]? with
    | none => rw [h1] at h; cases h
    | some y => cases y with
      | none => rw [h1] at h; cases h
      | some s =>
        rw [h1] at h
        simp only at h
        cases h2 : Fv.movs (e.set i none) rs with
        | none => rw [h2] at h; cases h
        | some q2 =>
          obtain ⟨ss2, e2⟩ := q2
          rw [h2] at h; cases h
          have hi : i < e.length := (List.getElem?_eq_some_iff.mp h1).1
          cases ss' with
          | nil => have := sl.len; simp at this
          | cons t ts =>
            have sl2 : Sl T G H (sv vs) (se ts) := Sl.right (σ := [some v]) (e := [some t]) sl rfl
            have dd : ∀ b ∈ fp v t, b ∉ fps (sv vs) (se ts) := fun b hb hc => by
              have := Sl.dis (σ := [some v]) (e := [some t]) sl rfl b (by show b ∈ fp v t ++ []; rw [List.append_nil]; exact hb)
              exact this hc
            have hm : ∀ b, b ∈ fps (sv vs) (se ts) → b ∈ fps (sv (v :: vs)) (se (t :: ts)) := fun b hb => List.mem_append_right (fp v t) hb
            have hm1 : ∀ b, b ∈ fp v t → b ∈ fps (sv (v :: vs)) (se (t :: ts)) := fun b hb => List.mem_append_left _ hb
            obtain ⟨a, b⟩ := ih h2 m sl2 fun b hb => dis b (hm b hb)
            have hn := (movs_none h2 (i := i) (List.getElem?_set_self hi)).2 ts
            obtain ⟨w, hw, r⟩ := sl.rep 0 t rfl
            cases hw
            obtain ⟨a2, b2⟩ := a.put hn q r fun x hx hc => by
              rcases b x hc with z | z
              · exact dd x hx z
              · exact dis x (hm1 x hx) z
            refine ⟨a2, fun x hx => ?_⟩
            rcases b2 x hx with z | z
            · exact .inl (hm1 x z)
            · exact (b x z).imp (hm x) id
/-- the callee's slots, its answer last -/
theorem prim_call {W : WX} {np : Nat} {fn : List S → FO} : PrimOk T W (fun σ vs H Q => spD T np fn vs H Q fun c dx H' => W c dx σ H') (pCall np fn) := by
  intro G H σ e τ τ1 u u1 rs vs Q md hl hr q
  unfold pCall at q
  cases h1 : Fv.movs e rs with
  | none => rw [h1] at q; exact q.elim
  | some p =>
    obtain ⟨ss, e1⟩ := p
    rw [h1] at q
    simp only at q
    split at q
    · rename_i hlen
      obtain ⟨a, b, c, d⟩ := hr.movs md hl h1
      refine ⟨G, ss, hlen, a, ?_⟩
      cases hf : fn ss with
      | no => rw [hf] at q; exact q
      | ex x ss' =>
        rw [hf] at q
        intro cc dx G' H' ev sl rx
        have b' : Md T G' H' σ e1 τ u := ⟨b.l1, b.l2, b.sl.frame ev sl.sub fun x hx hc => (c x hc).1 hx⟩
        have dis' : ∀ x ∈ fps (sv vs) (se ss'), x ∉ As σ e1 τ u := fun x hx hc => by
          rcases ev.own x hx with z | z
          · exact (c x z).1 hc
          · exact b.sl.nt hc z
        obtain ⟨m2, s2⟩ := hr.puts h1 b' sl dis'
        refine q G' H' cc dx ⟨ev.mono, fun x o hx hn => ev.keep x o hx fun hc => hn (c x hc).2, fun x hx => ?_, fun x o hx => (ev.frz x o hx).imp id (Or.imp (fun z => (c x z).2) id), ev.tab⟩ m2 rx
        rcases s2 x hx with z | z
        · exact (ev.own x z).imp (fun z => (c x z).2) id
        · exact .inl (d x z)
      | ok s ss' =>
        rw [hf] at q
        intro v G' H' ev sl
        have b' : Md T G' H' σ e1 τ u := ⟨b.l1, b.l2, b.sl.frame ev sl.sub fun x hx hc => (c x hc).1 hx⟩
        have sl1 : Sl T G' H' (sv vs ++ sv [v]) (se ss' ++ se [s]) := by
          have := sl
          rw [sv_app, se_app] at this
          exact this
        have hl2 : (sv vs).length = (se ss').length := by have := sl1.len; simp only [List.length_append, List.length_map, List.length_cons, List.length_nil] at this; simp only [List.length_map]; omega
        have fpe : fps (sv (vs ++ [v])) (se (ss' ++ [s])) = fps (sv vs) (se ss') ++ fp v s := by
          rw [sv_app, se_app, fps_append _ _ hl2]
          show _ ++ (fp v s ++ []) = _
          rw [List.append_nil]
        have slA := sl1.left hl2
        have disA := sl1.dis hl2
        obtain ⟨w, hw, r⟩ := (sl1.right hl2).rep 0 s rfl
        cases hw
        have own' : ∀ x, x ∈ fps (sv (vs ++ [v])) (se (ss' ++ [s])) → x ∉ As σ e1 τ u := fun x hx hc => by
          rcases ev.own x hx with z | z
          · exact (c x z).1 hc
          · exact b.sl.nt hc z
        obtain ⟨m2, s2⟩ := hr.puts h1 b' slA fun x hx => own' x (by rw [fpe]; exact List.mem_append_left _ hx)
        have m3 := m2.push r fun x hx hc => by
          rcases s2 x hc with z | z
          · exact disA x z (by show x ∈ fp v s ++ []; rw [List.append_nil]; exact hx)
          · exact own' x (by rw [fpe]; exact List.mem_append_right _ hx) z
        refine q G' H' v [v] [s] ⟨ev.mono, fun x o hx hn => ev.keep x o hx fun hc => hn (c x hc).2, fun x hx => ?_, fun x o hx => (ev.frz x o hx).imp id (Or.imp (fun z => (c x z).2) id), ev.tab⟩ m3 (.vl .nil)
        have up : ∀ x, x ∈ fps (sv (vs ++ [v])) (se (ss' ++ [s])) → x ∈ As σ e (τ ++ τ1) (u ++ u1) ∨ NT H x := fun x hx => (ev.own x hx).imp (fun z => (c x z).2) id
        rcases (As_push m2.l1 hl x).mp hx with z | z
        · rcases s2 x z with z | z
          · exact up x (by rw [fpe]; exact List.mem_append_left _ z)
          · exact .inl (d x z)
        · exact up x (by rw [fpe]; exact List.mem_append_right _ z)
    · exact q.elim
end
end Fv

namespace Fv
open PySem PySem.Spec PyProof.Rows L2

inductive Fl where
  | nx (e : En)
  | rt (s : S) (e : En)
  | bk (e : En)
  | ct (e : En)
  | ex (x : Xn) (e : En)
  | no
/-- the slots at p are as they were -/
def Keeps (p : Nat → Bool) (σ σ' : SV) : Prop := ∀ i, p i = true → σ'[i]? = σ[i]?
theorem Keeps.refl {p : Nat → Bool} {σ : SV} : Keeps p σ σ := fun _ _ => rfl
theorem Keeps.trans {p : Nat → Bool} {σ σ1 σ2 : SV} (a : Keeps p σ σ1) (b : Keeps p σ1 σ2) : Keeps p σ σ2 := fun i h => (b i h).trans (a i h)
theorem Keeps.set {p : Nat → Bool} {σ : SV} {i : Nat} {x : Option V} (h : p i = false) : Keeps p σ (σ.set i x) := fun j hj => by
  by_cases e : i = j
  · subst e; rw [h] at hj; cases hj
  · rw [List.getElem?_set_ne e]
section
variable (T : Tb) (W : WX) (p : Nat → Bool)
def PostS (Dn : Ends) (G H : Hp) (σ : SV) (A : List Addr) (o : Fl) : Prop :=
  match o with
  | .nx e' => ∀ (σ' : SV) (G' H' : Hp), Evo T.tbs G H A G' H' (fps σ' e') → Sl T G' H' σ' e' → σ'.length = σ.length → Keeps p σ σ' → Dn.nx σ' H'
  | .bk e' => ∀ (σ' : SV) (G' H' : Hp), Evo T.tbs G H A G' H' (fps σ' e') → Sl T G' H' σ' e' → σ'.length = σ.length → Keeps p σ σ' → Dn.bk σ' H'
  | .ct e' => ∀ (σ' : SV) (G' H' : Hp), Evo T.tbs G H A G' H' (fps σ' e') → Sl T G' H' σ' e' → σ'.length = σ.length → Keeps p σ σ' → Dn.ct σ' H'
  | .rt s e' => ∀ (σ' : SV) (v : V) (G' H' : Hp), Evo T.tbs G H A G' H' (fps (σ' ++ [some v]) (e' ++ [some s])) → Sl T G' H' (σ' ++ [some v]) (e' ++ [some s]) → σ'.length = σ.length → Keeps p σ σ' → Dn.rt v H'
  | .ex x e' => ∀ (σ' : SV) (c : Value) (dx : Option Addr) (G' H' : Hp), Evo T.tbs G H A G' H' (fps σ' e') → Sl T G' H' σ' e' → σ'.length = σ.length → Keeps p σ σ' → RepX T G' c dx x → W c dx σ' H'
  | .no => False
def tS (m : En → Fl) : TS := fun Dn σ H => ∃ (G : Hp) (e : En), Sl T G H σ e ∧ PostS T W p Dn G H σ (fps σ e) (m e)
/-- a target, given the thing -/
def PostG (G H : Hp) (σ : SV) (A : List Addr) (o : Fl) (Q : SV → Hp → Prop) : Prop :=
  match o with
  | .nx e' => ∀ (σ' : SV) (G' H' : Hp), Evo T.tbs G H A G' H' (fps σ' e') → Sl T G' H' σ' e' → σ'.length = σ.length → Keeps p σ σ' → Q σ' H'
  | .ex x e' => ∀ (σ' : SV) (c : Value) (dx : Option Addr) (G' H' : Hp), Evo T.tbs G H A G' H' (fps σ' e') → Sl T G' H' σ' e' → σ'.length = σ.length → Keeps p σ σ' → RepX T G' c dx x → W c dx σ' H'
  | _ => False
def tG (m : S → En → Fl) : TG := fun v σ H Q => ∃ (G : Hp) (e : En) (s : S), σ.length = e.length ∧ Sl T G H (σ ++ [some v]) (e ++ [some s]) ∧ PostG T W p G H σ (fps (σ ++ [some v]) (e ++ [some s])) (m s e) Q
end
section
variable {T : Tb} {W : WX} {p : Nat → Bool} {Dn : Ends} {G H G1 H1 : Hp} {σ σ1 : SV} {A A1 : List Addr}
theorem PostS.after {o : Fl} (q : PostS T W p Dn G H σ A o) (E : Evo T.tbs G H A G1 H1 A1) (hl : σ1.length = σ.length) (k : Keeps p σ σ1) : PostS T W p Dn G1 H1 σ1 A1 o := by
  cases o with
  | nx e => exact fun σ' G' H' ev sl l kp => q σ' G' H' (E.trans ev) sl (l.trans hl) (k.trans kp)
  | bk e => exact fun σ' G' H' ev sl l kp => q σ' G' H' (E.trans ev) sl (l.trans hl) (k.trans kp)
  | ct e => exact fun σ' G' H' ev sl l kp => q σ' G' H' (E.trans ev) sl (l.trans hl) (k.trans kp)
  | rt s e => exact fun σ' v G' H' ev sl l kp => q σ' v G' H' (E.trans ev) sl (l.trans hl) (k.trans kp)
  | ex x e => exact fun σ' c dx G' H' ev sl l kp => q σ' c dx G' H' (E.trans ev) sl (l.trans hl) (k.trans kp)
  | no => exact q
theorem Sl.md {e : En} (x : Sl T G H σ e) : Md T G H σ e [] [] := ⟨x.len, rfl, by simpa using x⟩
theorem Md.sl0 {e : En} (x : Md T G H σ e [] []) : Sl T G H σ e := by simpa using x.sl
theorem As_nil {e : En} : As σ e [] [] = fps σ e := by simp [As]
theorem Md.base {e : En} {τ : List V} {u : List S} (x : Md T G H σ e τ u) : Sl T G H σ e := x.sl.left x.l1
theorem As_base {e : En} {τ : List V} {u : List S} (h : σ.length = e.length) : ∀ b ∈ fps σ e, b ∈ As σ e τ u := fun b hb => by
  unfold As
  rw [fps_append _ _ h]
  exact List.mem_append_left _ hb

/-! ### blocks -/
def sNil : En → Fl := .nx
def sCons (a b : En → Fl) : En → Fl := fun e =>
  match a e with
  | .nx e1 => b e1
  | o => o
theorem tS_nil {Dn : Ends} : tS T W p sNil Dn σ H → Dn.nx σ H := fun ⟨G, e, sl, q⟩ => q σ G H .refl sl rfl .refl
theorem tS_cons {a b : En → Fl} {Dn : Ends} : tS T W p (sCons a b) Dn σ H → tSeq (tS T W p a) (tS T W p b) Dn σ H := by
  rintro ⟨G, e, sl, q⟩
  refine ⟨G, e, sl, ?_⟩
  unfold sCons at q
  cases ha : a e with
  | nx e1 =>
    rw [ha] at q
    exact fun σ1 G1 H1 ev sl1 l k => ⟨G1, e1, sl1, q.after ev l k⟩
  | rt s e1 => rw [ha] at q; exact q
  | bk e1 => rw [ha] at q; exact q
  | ct e1 => rw [ha] at q; exact q
  | ex x e1 => rw [ha] at q; exact q
  | no => rw [ha] at q; exact q
/-- what hangs on an expression's thing: the thing is let go -/
theorem tE_stmt {m : En → Ou R} {Q : VK} {f : R → En → Fl} {e : En} (sl : Sl T G H σ e)
    (q : PostS T W p Dn G H σ (fps σ e) (match m e with | .ok r e1 => f r e1 | .ex x e1 => .ex x e1 | .no => .no))
    (h : ∀ {G1 H1 : Hp} {r : R} {v : V} {e1 : En} {τ : List V} {u : List S}, Md T G1 H1 σ e1 τ u → HR σ [r] [v] τ u → PostS T W p Dn G1 H1 σ (As σ e1 τ u) (f r e1) → Q v H1) : tE T W m σ H Q := by
  refine ⟨G, e, [], [], sl.md, ?_⟩
  cases hm : m e with
  | no => rw [hm] at q; exact q
  | ex x e1 =>
    rw [hm] at q
    exact fun G1 H1 c dx ev md rx => q σ c dx G1 H1 (by rw [As_nil, As_nil] at ev; exact ev) md.sl0 rfl .refl rx
  | ok r e1 =>
    rw [hm] at q
    intro G1 H1 v τ u ev md hr
    simp only [List.nil_append] at ev md
    exact h md hr (q.after (by rw [As_nil] at ev; exact ev) rfl .refl)
theorem tB_stmt {α : Type} {m : En → Ou α} {Q : α → Hp → Prop} {f : α → En → Fl} {e : En} (sl : Sl T G H σ e)
    (q : PostS T W p Dn G H σ (fps σ e) (match m e with | .ok r e1 => f r e1 | .ex x e1 => .ex x e1 | .no => .no))
    (h : ∀ {G1 H1 : Hp} {r : α} {e1 : En}, Sl T G1 H1 σ e1 → PostS T W p Dn G1 H1 σ (fps σ e1) (f r e1) → Q r H1) : tB T W m σ H Q := by
  refine ⟨G, e, [], [], sl.md, ?_⟩
  cases hm : m e with
  | no => rw [hm] at q; exact q
  | ex x e1 =>
    rw [hm] at q
    exact fun G1 H1 c dx ev md rx => q σ c dx G1 H1 (by rw [As_nil, As_nil] at ev; exact ev) md.sl0 rfl .refl rx
  | ok r e1 =>
    rw [hm] at q
    intro G1 H1 ev md
    exact h md.sl0 (q.after (by rw [As_nil, As_nil] at ev; exact ev) rfl .refl)
def sExpr (m : En → Ou R) : En → Fl := fun e =>
  match m e with
  | .ok _ e1 => .nx e1
  | .ex x e1 => .ex x e1
  | .no => .no
theorem tS_expr {m : En → Ou R} : tS T W p (sExpr m) Dn σ H → tDrop (tE T W m) Dn σ H := by
  rintro ⟨G, e, sl, q⟩
  refine tE_stmt (Dn := Dn) (p := p) (f := fun _ e1 => .nx e1) sl q fun {G1 H1 r v e1 τ u} md hr q => ?_
  exact q σ G1 H1 (Evo.refl.less (As_base md.l1)) md.base rfl .refl
/-- return: a list of one's own goes on to be the caller's; a parameter's is frozen -/
def sRet (np : Nat) (m : En → Ou R) : En → Fl := fun e =>
  match m e with
  | .ok (.vl s) e1 => .rt s e1
  | .ok (.pl i) e1 => match e1[i]? with
    | some (some s) => if i < np then .rt (.fr s.d) (e1.set i (some (.fr s.d))) else .rt s (e1.set i none)
    | _ => .no
  | .ex x e1 => .ex x e1
  | .no => .no
def fRet (np : Nat) : R → En → Fl
  | .vl s, e1 => .rt s e1
  | .pl i, e1 => match e1[i]? with
    | some (some s) => if i < np then .rt (.fr s.d) (e1.set i (some (.fr s.d))) else .rt s (e1.set i none)
    | _ => .no
theorem tS_ret {np : Nat} {m : En → Ou R} : tS T W p (sRet np m) Dn σ H → tRet (tE T W m) Dn σ H := by
  rintro ⟨G, e, sl, q⟩
  refine tE_stmt (Dn := Dn) (p := p) (f := fRet np) sl ?_ fun {G1 H1 r v e1 τ u} md hr q => ?_
  · unfold sRet at q
    revert q
    cases m e with
    | ok r e1 => cases r <;> exact id
    | ex x e1 => exact id
    | no => exact id
  · cases hr with
    | vl hn =>
      cases hn
      exact q σ v G1 H1 Evo.refl (by simpa using md.sl) rfl .refl
    | pl hv hn =>
      cases hn
      rename_i i
      have q : PostS T W p Dn G1 H1 σ (As σ e1 [] []) (match e1[i]? with | some (some s) => if i < np then .rt (.fr s.d) (e1.set i (some (.fr s.d))) else .rt s (e1.set i none) | _ => .no) := q
      cases he : e1[i]? with
      | none => rw [he] at q; exact q.elim
      | some y => cases y with
        | none => rw [he] at q; exact q.elim
        | some s =>
          rw [he] at q
          simp only at q
          split at q
          · obtain ⟨G2, w, ev, m2, hw, r⟩ := md.freezeVar he
            rw [hv] at hw; cases hw
            have m3 := m2.push (RepO.fr r) (by rw [fp_fr]; simp)
            refine q σ v G2 H1 (ev.less fun b hb => ?_) (by simpa using m3.sl) rfl .refl
            have : b ∈ As σ (e1.set i (some (.fr s.d))) ([] ++ [v]) ([] ++ [.fr s.d]) := by simpa [As] using hb
            rcases (As_push m2.l1 rfl b).mp this with z | z
            · exact z
            · rw [fp_fr] at z; simp at z
          · have hi : i < e1.length := (List.getElem?_eq_some_iff.mp he).1
            obtain ⟨w, hw, r⟩ := md.var he
            rw [hv] at hw; cases hw
            have od := md.outDis he hv
            have m3 := (md.out hi).push r fun b hb => (od b hb).2
            refine q σ v G1 H1 (Evo.refl.less fun b hb => ?_) (by simpa using m3.sl) rfl .refl
            have : b ∈ As σ (e1.set i none) ([] ++ [v]) ([] ++ [s]) := by simpa [As] using hb
            rcases (As_push (md.out hi).l1 rfl b).mp this with z | z
            · exact As_set_sub hi b z
            · exact (od b z).1
def sRetN : En → Fl := fun e => .rt (.fr .non) e
theorem tS_retN : tS T W p sRetN Dn σ H → Dn.rt .non H := by
  rintro ⟨G, e, sl, q⟩
  have m := sl.md.push (v := .non) (s := .fr .non) (.fr .non) (by simp [fp])
  refine q σ .non G H (Evo.refl.less fun b hb => ?_) (by simpa using m.sl) rfl .refl
  have : b ∈ As σ e ([] ++ [.non]) ([] ++ [.fr .non]) := by simpa [As] using hb
  rcases (As_push sl.len rfl b).mp this with z | z
  · rw [As_nil] at z; exact z
  · simp [fp] at z
def sIf (t : En → Ou Bool) (a b : En → Fl) : En → Fl := fun e =>
  match t e with
  | .ok true e1 => a e1
  | .ok false e1 => b e1
  | .ex x e1 => .ex x e1
  | .no => .no
theorem tS_if {t : En → Ou Bool} {a b : En → Fl} : tS T W p (sIf t a b) Dn σ H → tIfS (tB T W t) (tS T W p a) (tS T W p b) Dn σ H := by
  rintro ⟨G, e, sl, q⟩
  refine tB_stmt (Dn := Dn) (p := p) (f := fun k e1 => if k = true then a e1 else b e1) sl ?_ fun {G1 H1 k e1} sl1 q => ?_
  · unfold sIf at q
    revert q
    cases t e with
    | ok k e1 => cases k <;> exact id
    | ex x e1 => exact id
    | no => exact id
  · cases k with
    | true => exact ⟨G1, e1, sl1, q⟩
    | false => exact ⟨G1, e1, sl1, q⟩

/-! ### targets -/
def gNm (i : Nat) : S → En → Fl := fun s e => if i < e.length then .nx (e.set i (some s)) else .no
/-- a slot filled with the thing at hand -/
theorem Sl.store {e : En} {v : V} {s : S} (sl : Sl T G H (σ ++ [some v]) (e ++ [some s])) (hl : σ.length = e.length) {i : Nat} (hi : i < e.length) :
    Sl T G H (σ.set i (some v)) (e.set i (some s)) ∧ ∀ b ∈ fps (σ.set i (some v)) (e.set i (some s)), b ∈ fps (σ ++ [some v]) (e ++ [some s]) := by
  obtain ⟨w, hw, r⟩ := (sl.right hl).rep 0 s rfl
  cases hw
  have sub := fps_sub (σ := σ) (e := e) (i := i)
  refine ⟨((sl.left hl).out i).put hi r fun b hb hc => sl.dis hl b (sub b hc) (by show b ∈ fp v s ++ []; rw [List.append_nil]; exact hb), fun b hb => ?_⟩
  rw [fps_append _ _ hl]
  rcases (fps_set_mem hi hl b).mp hb with z | z
  · exact List.mem_append_right _ (by show b ∈ fp v s ++ []; rw [List.append_nil]; exact z)
  · exact List.mem_append_left _ (sub b z)
theorem tG_name {i : Nat} (hp : p i = false) {v : V} {Q : SV → Hp → Prop} : tG T W p (gNm i) v σ H Q → gName i v σ H Q := by
  rintro ⟨G, e, s, hl, sl, q⟩
  unfold gNm at q
  split at q
  · rename_i hi
    obtain ⟨a, b⟩ := sl.store hl hi
    exact q _ G H (Evo.refl.less b) a (by simp) (.set hp)
  · exact q.elim
/-- target = value -/
def own1 (e : En) : R → Option (S × En)
  | .vl s => some (s, e)
  | .pl i => match e[i]? with
    | some (some s) => some (.fr s.d, e.set i (some (.fr s.d)))
    | _ => none
def sAsg (g : S → En → Fl) (m : En → Ou R) : En → Fl := fun e =>
  match m e with
  | .ok r e1 => match own1 e1 r with
    | some (s, e2) => g s e2
    | none => .no
  | .ex x e1 => .ex x e1
  | .no => .no
/-- the thing at hand, as one's own -/
theorem Md.own1 {r : R} {v : V} {e e2 : En} {s : S} {τ : List V} {u : List S} (md : Md T G H σ e τ u) (hr : HR σ [r] [v] τ u) (h : Fv.own1 e r = some (s, e2)) :
    ∃ G', Evo T.tbs G H (As σ e τ u) G' H (fps (σ ++ [some v]) (e2 ++ [some s])) ∧ Sl T G' H (σ ++ [some v]) (e2 ++ [some s]) ∧ σ.length = e2.length := by
  cases hr with
  | vl hn =>
    cases hn
    cases h
    exact ⟨G, .refl, by simpa using md.sl, md.l1⟩
  | pl hv hn =>
    cases hn
    rename_i i
    simp only [Fv.own1] at h
    cases he : e[i]? with
    | none => rw [he] at h; cases h
    | some y => cases y with
      | none => rw [he] at h; cases h
      | some t =>
        rw [he] at h; cases h
        obtain ⟨G2, w, ev, m2, hw, r⟩ := md.freezeVar he
        rw [hv] at hw; cases hw
        have m3 := m2.push (RepO.fr r) (by rw [fp_fr]; simp)
        refine ⟨G2, ev.less fun b hb => ?_, by simpa using m3.sl, m2.l1⟩
        have : b ∈ As σ (e.set i (some (.fr t.d))) ([] ++ [v]) ([] ++ [.fr t.d]) := by simpa [As] using hb
        rcases (As_push m2.l1 rfl b).mp this with z | z
        · exact z
        · rw [fp_fr] at z; simp at z
/-- what a target asks, of what a statement asks -/
def PostS.g {Dn : Ends} {o : Fl} (q : PostS T W p Dn G H σ A o) (h : (∃ e, o = .nx e) ∨ (∃ x e, o = .ex x e) ∨ o = .no) : PostG T W p G H σ A o Dn.nx := by
  rcases h with ⟨e, rfl⟩ | ⟨x, e, rfl⟩ | rfl
  · exact q
  · exact q
  · exact q
/-- goes on, raises or is stuck -/
def GoG (g : S → En → Fl) : Prop := ∀ s e, (∃ e', g s e = .nx e') ∨ (∃ x e', g s e = .ex x e') ∨ g s e = .no
theorem GoG.nm {i : Nat} : GoG (gNm i) := fun s e => by
  unfold gNm
  split
  · exact .inl ⟨_, rfl⟩
  · exact .inr (.inr rfl)
theorem tS_asg {g : S → En → Fl} (hg : GoG g) {m : En → Ou R} : tS T W p (sAsg g m) Dn σ H → tAsg (tE T W m) (tG T W p g) Dn σ H := by
  rintro ⟨G, e, sl, q⟩
  refine tE_stmt (Dn := Dn) (p := p) (f := fun r e1 => match Fv.own1 e1 r with | some (s, e2) => g s e2 | none => .no) sl q fun {G1 H1 r v e1 τ u} md hr q => ?_
  have q : PostS T W p Dn G1 H1 σ (As σ e1 τ u) (match Fv.own1 e1 r with | some (s, e2) => g s e2 | none => .no) := q
  cases ho : Fv.own1 e1 r with
  | none => rw [ho] at q; exact q.elim
  | some z =>
    obtain ⟨s, e2⟩ := z
    rw [ho] at q
    obtain ⟨G2, ev, sl2, hl2⟩ := md.own1 hr ho
    exact ⟨G2, e2, s, hl2, sl2, (q.after ev rfl .refl).g (hg s e2)⟩
/-- several targets: the items of a tuple, one after another -/
def gAll : List (S → En → Fl) → List D → En → Fl
  | [], [], e => .nx e
  | g :: gs, d :: ds, e => match g (.fr d) e with
    | .nx e1 => gAll gs ds e1
    | o => o
  | _, _, _ => .no
def gTupF (gs : List (S → En → Fl)) : S → En → Fl := fun s e =>
  match s with
  | .fr (.tup ds) => if ds.length = gs.length then gAll gs ds e else .no
  | .fr (.lst ds) => if ds.length = gs.length then gAll gs ds e else .no
  | .ol ds => if ds.length = gs.length then gAll gs ds e else .no
  | _ => .no
def tGs (T : Tb) (W : WX) (p : Nat → Bool) (gs : List (S → En → Fl)) : TGs := fun vs σ H Q => ∃ (G : Hp) (e : En) (ds : List D), Sl T G H σ e ∧ RepFs T G vs ds ∧ PostG T W p G H σ (fps σ e) (gAll gs ds e) Q
theorem PostG.after {o : Fl} {Q : SV → Hp → Prop} (q : PostG T W p G H σ A o Q) (E : Evo T.tbs G H A G1 H1 A1) (hl : σ1.length = σ.length) (k : Keeps p σ σ1) : PostG T W p G1 H1 σ1 A1 o Q := by
  cases o with
  | nx e => exact fun σ' G' H' ev sl l kp => q σ' G' H' (E.trans ev) sl (l.trans hl) (k.trans kp)
  | ex x e => exact fun σ' c dx G' H' ev sl l kp => q σ' c dx G' H' (E.trans ev) sl (l.trans hl) (k.trans kp)
  | _ => exact q
theorem tGs_nil {vs : List V} {Q : SV → Hp → Prop} : tGs T W p [] vs σ H Q → gNil vs σ H Q := by
  rintro ⟨G, e, ds, sl, r, q⟩
  cases ds with
  | nil => cases r; exact ⟨rfl, q σ G H .refl sl rfl .refl⟩
  | cons d ds => exact q.elim
theorem tGs_cons {g : S → En → Fl} {gs : List (S → En → Fl)} (hg : GoG g) {vs : List V} {Q : SV → Hp → Prop} : tGs T W p (g :: gs) vs σ H Q → gCons (tG T W p g) (tGs T W p gs) vs σ H Q := by
  rintro ⟨G, e, ds, sl, r, q⟩
  cases r with
  | nil => exact q.elim
  | @cons v vs d ds r1 r =>
    refine ⟨v, vs, rfl, G, e, .fr d, sl.len, ?_, ?_⟩
    · have := (sl.md.push (RepO.fr r1) (by rw [fp_fr]; simp)).sl
      simpa using this
    · unfold gAll at q
      have eA : fps (σ ++ [some v]) (e ++ [some (.fr d)]) = fps σ e := by
        rw [fps_append _ _ sl.len]
        show _ ++ (fp v (.fr d) ++ []) = _
        rw [fp_fr, List.append_nil, List.append_nil]
      rw [eA]
      rcases hg (.fr d) e with ⟨e1, h1⟩ | ⟨x, e1, h1⟩ | h1
      · rw [h1] at q ⊢
        exact fun σ1 G1 H1 ev sl1 l k => ⟨G1, e1, ds, sl1, r.mono ev.mono, PostG.after q ev l k⟩
      · rw [h1] at q ⊢; exact q
      · rw [h1] at q; exact q.elim
theorem GoG.all {gs : List (S → En → Fl)} (h : ∀ g ∈ gs, GoG g) : ∀ {ds : List D} {e : En}, (∃ e', gAll gs ds e = .nx e') ∨ (∃ x e', gAll gs ds e = .ex x e') ∨ gAll gs ds e = .no := by
  induction gs with
  | nil => intro ds e; cases ds with
    | nil => exact .inl ⟨e, rfl⟩
    | cons _ _ => exact .inr (.inr rfl)
  | cons g gs ih =>
    intro ds e
    cases ds with
    | nil => exact .inr (.inr rfl)
    | cons d ds =>
      unfold gAll
      rcases h g (by simp) (.fr d) e with ⟨e1, h1⟩ | ⟨x, e1, h1⟩ | h1
      · rw [h1]; exact ih (fun g' hg' => h g' (by simp [hg']))
      · rw [h1]; exact .inr (.inl ⟨x, e1, rfl⟩)
      · rw [h1]; exact .inr (.inr rfl)
theorem GoG.tup {gs : List (S → En → Fl)} (h : ∀ g ∈ gs, GoG g) : GoG (gTupF gs) := fun s e => by
  unfold gTupF
  split
  all_goals first
    | exact .inr (.inr rfl)
    | (split
       · exact GoG.all h
       · exact .inr (.inr rfl))
end
end Fv

namespace Fv
open PySem PySem.Spec PyProof.Rows L2
/-! zip, its pairs without a dict -/
def ItzB (K : PySem.W.Frag) (a b : Addr) : It :=
  { Itz K a b with yld := fun i H v H' => ∃ t its x y, v = .ref t ∧ H t = none ∧ H' = upd H t (tbO its [x, y]) ∧ (∀ xs, SqL K H a xs → xs[i]? = some x) ∧ ∀ ys, SqL K H b ys → ys[i]? = some y }
def ItzC (K : PySem.W.Frag) (a b : Addr) : It :=
  { RZ.ItzT K a b with yld := fun i H v H' => ∃ t its x y, v = .ref t ∧ H t = none ∧ H' = upd H t (tbO its [x, y]) ∧ (∀ xs, SqT K H a xs → xs[i]? = some x) ∧ ∀ ys, SqT K H b ys → ys[i]? = some y }
theorem of5 {c z p q r t : Addr} (h : c ∈ [z, p, q, r, t]) : c = z ∨ c = p ∨ c = q ∨ c = r ∨ c = t := by simpa using h
section
variable {P : Program} {w : World} {K : PySem.W.Frag} {elts : List Expr} {kk : Nat} {tpos : Pos} {a b z ti tu i1 i2 : Addr}
theorem turn_zipB (D : ZipApart z ti tu i1 i2 a b) :
    Turn P w K (.Tuple elts kk tpos) (ItzB K a b) [z, ti, tu, i1, i2] z (fun i h => IsZip h z ti tu .none ∧ IsPair h ti (.ref i1) (.ref i2) ∧ (∃ x y, IsPair h tu x y) ∧ h.IsListIter i1 a i ∧ h.IsListIter i2 b i) :=
  { mem := (turn_zip (P := P) (w := w) (K := K) (elts := elts) (kk := kk) (tpos := tpos) D).mem
    obj := (turn_zip (P := P) (w := w) (K := K) (elts := elts) (kk := kk) (tpos := tpos) D).obj
    keep := (turn_zip (P := P) (w := w) (K := K) (elts := elts) (kk := kk) (tpos := tpos) D).keep
    done := (turn_zip (P := P) (w := w) (K := K) (elts := elts) (kk := kk) (tpos := tpos) D).done
    self := (turn_zip (P := P) (w := w) (K := K) (elts := elts) (kk := kk) (tpos := tpos) D).self
    item := by
      rintro X rfl rfl rfl hc i pins s σ H E I hf ⟨hz, hti, ⟨x0, y0, htu⟩, h1, h2⟩ ⟨xs, ys, x, y, qx, qy, ex, ey⟩
      obtain ⟨us, rus, pu, _⟩ := I.list qx
      obtain ⟨ws, rws, pw, _⟩ := I.list qy
      obtain ⟨u, eu, ru⟩ := rus.get ex
      obtain ⟨v, ev, rv⟩ := rws.get ey
      have zl := Heap.lt_size hz
      refine wpAny_pyNext_zip_item D hz hti htu h1 h2 pu.isList pw.isList (x := u) (y := v) (by simpa using eu) (by simpa using ev) fun h' z' tu' k1 k2 ht hsz hk => ?_
      refine ⟨_, rfl, wpAny_letOwnedTupleGo_zip (s := { s with heap := h' }) z' fun g z2 sb => ?_⟩
      have ht2 := (sb.2 _ (Nat.ne_of_gt zl)).trans ht
      have kp : ∀ c o, c ∉ [z, ti, tu, i1, i2] → s.heap.get? c = some o → g.get? c = some o := fun c o hb q => by
        simp only [List.mem_cons, List.not_mem_nil, or_false, not_or] at hb
        exact (sb.2 c hb.1).trans (hk c o hb.1 hb.2.2.1 hb.2.2.2.1 hb.2.2.2.2 q)
      have I1 := I.turnedNew (t' := s.toks) (ob := tbO #[u, v] [x, y]) kp hf (Nat.le_refl _) ⟨ht2, by show 2 ≤ sizeLine; decide, [u, v], .cons ru (.cons rv .nil), ⟨_, ht2, rfl, _, rfl⟩⟩
      refine ⟨.ref s.heap.objs.size, _, I1, rfl, ⟨_, _, x, y, rfl, I.hok.fresh (Nat.le_refl _), rfl, fun l hl => by rw [I.list_inj hl qx]; exact ex, fun l hl => by rw [I.list_inj hl qy]; exact ey⟩,
        ⟨z2, (sb.2 _ D.TIz).trans (hk _ _ D.TIz D.TITO D.TIi1 D.TIi2 hti), ⟨u, v, (sb.2 _ D.TOz).trans tu'⟩, k1.at fun o q => (sb.2 _ D.i1z).trans q, k2.at fun o q => (sb.2 _ D.i2z).trans q⟩, fun c hcm => ?_⟩
      have lt : c < s.heap.objs.size := by
        rcases of5 hcm with rfl | rfl | rfl | rfl | rfl
        · exact zl
        · exact Heap.lt_size hti
        · exact Heap.lt_size htu
        · exact h1.elim fun _ q => Heap.lt_size q.1
        · exact h2.elim fun _ q => Heap.lt_size q.1
      rw [upd_ne (Nat.ne_of_lt lt)]
      exact (hf c hcm).1 }
theorem turn_zipC (D : ZipApart z ti tu i1 i2 a b) :
    Turn P w K (.Tuple elts kk tpos) (ItzC K a b) [z, ti, tu, i1, i2] z (fun i h => IsZip h z ti tu .none ∧ IsPair h ti (.ref i1) (.ref i2) ∧ (∃ x y, IsPair h tu x y) ∧ h.IsTupleIter i1 a i ∧ h.IsTupleIter i2 b i) :=
  { mem := (RZ.turn_zipT (P := P) (w := w) (K := K) (elts := elts) (kk := kk) (tpos := tpos) D).mem
    obj := (RZ.turn_zipT (P := P) (w := w) (K := K) (elts := elts) (kk := kk) (tpos := tpos) D).obj
    keep := (RZ.turn_zipT (P := P) (w := w) (K := K) (elts := elts) (kk := kk) (tpos := tpos) D).keep
    done := (RZ.turn_zipT (P := P) (w := w) (K := K) (elts := elts) (kk := kk) (tpos := tpos) D).done
    self := (RZ.turn_zipT (P := P) (w := w) (K := K) (elts := elts) (kk := kk) (tpos := tpos) D).self
    item := by
      rintro X rfl rfl rfl hc i pins s σ H E I hf ⟨hz, hti, ⟨x0, y0, htu⟩, h1, h2⟩ ⟨xs, ys, x, y, qx, qy, ex, ey⟩
      obtain ⟨us, rus, pu, _⟩ := I.tuple qx
      obtain ⟨ws, rws, pw, _⟩ := I.tuple qy
      obtain ⟨u, eu, ru⟩ := rus.get ex
      obtain ⟨v, ev, rv⟩ := rws.get ey
      have zl := Heap.lt_size hz
      refine RZ.pyNext_zipT_item D hz hti htu h1 h2 pu pw (x := u) (y := v) (by simpa using eu) (by simpa using ev) fun h' z' tu' k1 k2 ht hsz hk => ?_
      refine ⟨_, rfl, wpAny_letOwnedTupleGo_zip (s := { s with heap := h' }) z' fun g z2 sb => ?_⟩
      have ht2 := (sb.2 _ (Nat.ne_of_gt zl)).trans ht
      have kp : ∀ c o, c ∉ [z, ti, tu, i1, i2] → s.heap.get? c = some o → g.get? c = some o := fun c o hb q => by
        simp only [List.mem_cons, List.not_mem_nil, or_false, not_or] at hb
        exact (sb.2 c hb.1).trans (hk c o hb.1 hb.2.2.1 hb.2.2.2.1 hb.2.2.2.2 q)
      have I1 := I.turnedNew (t' := s.toks) (ob := tbO #[u, v] [x, y]) kp hf (Nat.le_refl _) ⟨ht2, by show 2 ≤ sizeLine; decide, [u, v], .cons ru (.cons rv .nil), ⟨_, ht2, rfl, _, rfl⟩⟩
      refine ⟨.ref s.heap.objs.size, _, I1, rfl, ⟨_, _, x, y, rfl, I.hok.fresh (Nat.le_refl _), rfl, fun l hl => by rw [I.tuple_inj hl qx]; exact ex, fun l hl => by rw [I.tuple_inj hl qy]; exact ey⟩,
        ⟨z2, (sb.2 _ D.TIz).trans (hk _ _ D.TIz D.TITO D.TIi1 D.TIi2 hti), ⟨u, v, (sb.2 _ D.TOz).trans tu'⟩, k1.at fun o q => (sb.2 _ D.i1z).trans q, k2.at fun o q => (sb.2 _ D.i2z).trans q⟩, fun c hcm => ?_⟩
      have lt : c < s.heap.objs.size := by
        rcases of5 hcm with rfl | rfl | rfl | rfl | rfl
        · exact zl
        · exact Heap.lt_size hti
        · exact Heap.lt_size htu
        · exact h1.elim fun _ q => Heap.lt_size q.1
        · exact h2.elim fun _ q => Heap.lt_size q.1
      rw [upd_ne (Nat.ne_of_lt lt)]
      exact (hf c hcm).1 }
end
def iZipB (K : PySem.W.Frag) (ta : TA) : TI := fun σ H R => ta σ H fun vs H1 => ∃ a b xs ys, vs = [.ref a, .ref b] ∧ ((SqL K H1 a xs ∧ SqL K H1 b ys ∧ R (ItzB K a b) H1) ∨ (SqT K H1 a xs ∧ SqT K H1 b ys ∧ R (ItzC K a b) H1))
theorem pi_zipB {X : Cx} {e e2 : Expr} {ta : TA} {p pos tpos : Pos} {elts : List Expr} {kk : Nat} (hg : Gl X "zip") (hm : X.mg "zip" = none) (ha : PA X [e, e2] ta)
    (hs : starEach [e, e2] X.env = (false, eval e X.env) :: starEach [e2] X.env) (hpl : (backTo pos (starEach [e2] X.env)).any (·.1) = false) :
    PI X (.Tuple elts kk tpos) (.Call (.Name "zip" p) [e, e2] [] pos) (iZipB X.K ta) := by
  refine ⟨fun pins s σ H R I h => Call_ (ld_blt I hg hm PyProof.Rows.boot_zip (PyProof.Rows.callWith_type1 (thn (ha.run pos pins s σ H _ I h) fun us s1 ⟨vs, H1, I1, r1, a, b, xs, ys, ex, q1⟩ => ?_) hs hpl))⟩
  subst ex
  cases r1 with
  | cons ra rr => cases rr with
    | cons rb rr =>
      cases rr; cases ra; cases rb
      obtain ⟨n, hn⟩ : ∃ n, n = s1.heap.objs.size := ⟨_, rfl⟩
      have five : ∀ c, c ∈ [n + 4, n + 2, n + 3, n, n + 1] → FpOk X pins H1 c := fun c hcm => by
        have hle : s1.heap.objs.size ≤ c := by
          rcases of5 hcm with z | z | z | z | z <;> rw [z, hn] <;> first | exact Nat.le_add_right _ _ | exact Nat.le_refl _
        exact I1.fpOk hle (I1.hok.fresh hle)
      rw [hn] at five
      rcases q1 with ⟨qx, qy, q⟩ | ⟨qx, qy, q⟩
      · obtain ⟨us, _, p1, _⟩ := I1.list qx
        obtain ⟨ws, _, p2, _⟩ := I1.list qy
        exact call_zip_2 p1.isList p2.isList fun h' hz hti htu h1 h2 hsz hk => wpAny_pyIter_zip hz
          ⟨_, _, _, _, H1, rfl, I1.kept (t' := s1.toks) hk, turn_zipB (PySem.W.ktu_apart s1.heap.objs.size a b p1.lt p2.lt), ⟨hz, hti, ⟨_, _, htu⟩, h1, h2⟩, five, q⟩
      · obtain ⟨us, _, p1, _⟩ := I1.tuple qx
        obtain ⟨ws, _, p2, _⟩ := I1.tuple qy
        exact RZ.call_zipT (show s1.heap.IsTuple a us.toArray from p1) (show s1.heap.IsTuple b ws.toArray from p2) fun h' hz hti htu h1 h2 hsz hk => wpAny_pyIter_zip hz
          ⟨_, _, _, _, H1, rfl, I1.kept (t' := s1.toks) hk, turn_zipC (PySem.W.ktu_apart s1.heap.objs.size a b p1.lt p2.lt), ⟨hz, hti, ⟨_, _, htu⟩, h1, h2⟩, five, q⟩
end Fv

namespace Fv
open PySem PySem.Spec PyProof.Rows L2

/-! ### while -/
def whN (t : En → Ou Bool) (b : En → Fl) : Nat → En → Fl
  | 0, _ => .no
  | n + 1, e => match t e with
    | .ok true e1 => match b e1 with
      | .nx e2 => whN t b n e2
      | .ct e2 => whN t b n e2
      | .bk e2 => .nx e2
      | .rt s e2 => .rt s e2
      | .ex x e2 => .ex x e2
      | .no => .no
    | .ok false e1 => .nx e1
    | .ex x e1 => .ex x e1
    | .no => .no
theorem whN_mono {t : En → Ou Bool} {b : En → Fl} : ∀ {n : Nat} {e : En}, whN t b n e ≠ .no → whN t b (n + 1) e = whN t b n e
  | 0, _, h => absurd rfl h
  | n + 1, e, h => by
    unfold whN at h ⊢
    cases ht : t e with
    | no => rfl
    | ex x e1 => rfl
    | ok k e1 =>
      cases k with
      | false => rfl
      | true =>
        rw [ht] at h
        simp only at h ⊢
        cases hb : b e1 with
        | nx e2 => rw [hb] at h; exact whN_mono h
        | ct e2 => rw [hb] at h; exact whN_mono h
        | bk e2 => rfl
        | rt s e2 => rfl
        | ex x e2 => rfl
        | no => rfl
theorem whN_le {t : En → Ou Bool} {b : En → Fl} {n : Nat} {e : En} (h : whN t b n e ≠ .no) : ∀ k, whN t b (n + k) e = whN t b n e
  | 0 => rfl
  | k + 1 => by
    have ih := whN_le h k
    rw [← Nat.add_assoc, whN_mono (by rw [ih]; exact h), ih]
open Classical in
noncomputable def sWh (t : En → Ou Bool) (b : En → Fl) (e : En) : Fl := if h : ∃ n, whN t b n e ≠ .no then whN t b (choose h) e else .no
theorem sWh_of {t : En → Ou Bool} {b : En → Fl} {n : Nat} {e : En} {o : Fl} (h : whN t b n e = o) (ho : o ≠ .no) : sWh t b e = o := by
  have hx : ∃ n, whN t b n e ≠ .no := ⟨n, by rw [h]; exact ho⟩
  unfold sWh
  rw [dif_pos hx]
  have hc := Classical.choose_spec hx
  rcases Nat.le_total n (Classical.choose hx) with hl | hl
  · obtain ⟨k, hk⟩ := Nat.le.dest hl
    rw [← hk, whN_le (by rw [h]; exact ho), h]
  · obtain ⟨k, hk⟩ := Nat.le.dest hl
    have := whN_le hc k
    rw [hk, h] at this
    exact this.symm
theorem sWh_get {t : En → Ou Bool} {b : En → Fl} {e : En} (h : sWh t b e ≠ .no) : ∃ n, whN t b n e = sWh t b e := by
  unfold sWh at h ⊢
  split at h
  · rename_i hx; exact ⟨_, by rw [dif_pos hx]⟩
  · exact absurd rfl h
theorem whN_ne {t : En → Ou Bool} {b : En → Fl} {e : En} (h : sWh t b e = .no) (n : Nat) : whN t b n e = .no := by
  by_cases hc : whN t b n e = .no
  · exact hc
  · rw [sWh_of rfl hc] at h; exact h
/-- one turn -/
theorem sWh_eq (t : En → Ou Bool) (b : En → Fl) (e : En) : sWh t b e = (match t e with
    | .ok true e1 => match b e1 with
      | .nx e2 => sWh t b e2
      | .ct e2 => sWh t b e2
      | .bk e2 => .nx e2
      | .rt s e2 => .rt s e2
      | .ex x e2 => .ex x e2
      | .no => .no
    | .ok false e1 => .nx e1
    | .ex x e1 => .ex x e1
    | .no => .no) := by
  have step : ∀ (n : Nat), whN t b (n + 1) e = (match t e with
    | .ok true e1 => match b e1 with
      | .nx e2 => whN t b n e2
      | .ct e2 => whN t b n e2
      | .bk e2 => .nx e2
      | .rt s e2 => .rt s e2
      | .ex x e2 => .ex x e2
      | .no => .no
    | .ok false e1 => .nx e1
    | .ex x e1 => .ex x e1
    | .no => .no) := fun n => rfl
  cases ht : t e with
  | no =>
    by_cases hc : sWh t b e = .no
    · exact hc
    · obtain ⟨n, hn⟩ := sWh_get hc
      cases n with
      | zero => exact hn.symm
      | succ n => rw [step, ht] at hn; exact hn.symm
  | ex x e1 => exact sWh_of (n := 1) (by rw [step, ht]) (by simp)
  | ok k e1 =>
    cases k with
    | false => exact sWh_of (n := 1) (by rw [step, ht]) (by simp)
    | true =>
      have go : ∀ e2, (∀ n, whN t b (n + 1) e = whN t b n e2) → sWh t b e = sWh t b e2 := fun e2 he => by
        by_cases hc : sWh t b e2 = .no
        · rw [hc]
          by_cases hc2 : sWh t b e = .no
          · exact hc2
          · obtain ⟨n, hn⟩ := sWh_get hc2
            cases n with
            | zero => exact hn.symm
            | succ n => rw [he, whN_ne hc] at hn; exact hn.symm
        · obtain ⟨n, hn⟩ := sWh_get hc
          exact sWh_of (n := n + 1) (by rw [he]; exact hn) hc
      cases hb : b e1 with
      | nx e2 => simp only [hb]; exact go e2 fun n => by rw [step, ht]; simp only [hb]
      | ct e2 => simp only [hb]; exact go e2 fun n => by rw [step, ht]; simp only [hb]
      | bk e2 => simp only [hb]; exact sWh_of (n := 1) (by rw [step, ht]; simp only [hb]) (by simp)
      | rt s e2 => simp only [hb]; exact sWh_of (n := 1) (by rw [step, ht]; simp only [hb]) (by simp)
      | ex x e2 => simp only [hb]; exact sWh_of (n := 1) (by rw [step, ht]; simp only [hb]) (by simp)
      | no =>
        simp only [hb]
        by_cases hc : sWh t b e = .no
        · exact hc
        · obtain ⟨n, hn⟩ := sWh_get hc
          cases n with
          | zero => exact hn.symm
          | succ n => rw [step, ht] at hn; simp only [hb] at hn; exact hn.symm
section
variable {T : Tb} {W : WX} {p : Nat → Bool} {Dn : Ends} {G H : Hp} {σ : SV}
theorem tS_while {t : En → Ou Bool} {b : En → Fl} : tS T W p (sWh t b) Dn σ H → tWhile (tB T W t) (tS T W p b) Dn σ H := by
  rintro ⟨G, e, sl, q⟩
  have hn : sWh t b e ≠ .no := fun z => by rw [z] at q; exact q
  obtain ⟨n, hn⟩ := sWh_get hn
  refine ⟨fun m σ H => tS T W p (whN t b m) Dn σ H, ⟨n, G, e, sl, by rw [hn]; exact q⟩, ?_⟩
  rintro m σ H ⟨G, e, sl, q⟩
  cases m with
  | zero => exact q.elim
  | succ m =>
    refine tB_stmt (Dn := Dn) (p := p) (f := fun k e1 => if k = true then (match b e1 with
      | .nx e2 => whN t b m e2
      | .ct e2 => whN t b m e2
      | .bk e2 => .nx e2
      | .rt s e2 => .rt s e2
      | .ex x e2 => .ex x e2
      | .no => .no) else .nx e1) sl ?_ fun {G1 H1 k e1} sl1 q => ?_
    · unfold whN at q
      revert q
      cases t e with
      | ok k e1 => cases k <;> exact id
      | ex x e1 => exact id
      | no => exact id
    · cases k with
      | false => exact q σ G1 H1 .refl sl1 rfl .refl
      | true =>
        rw [if_pos rfl] at q ⊢
        refine ⟨fun σ' H' => tS T W p (whN t b m) Dn σ' H', fun σ' H' h => ⟨m, Nat.lt_succ_self m, h⟩, G1, e1, sl1, ?_⟩
        cases hb : b e1 with
        | nx e2 => rw [hb] at q; exact fun σ' G' H' ev sl2 l k => ⟨G', e2, sl2, q.after ev l k⟩
        | ct e2 => rw [hb] at q; exact fun σ' G' H' ev sl2 l k => ⟨G', e2, sl2, q.after ev l k⟩
        | bk e2 => rw [hb] at q; exact q
        | rt s e2 => rw [hb] at q; exact q
        | ex x e2 => rw [hb] at q; exact q
        | no => rw [hb] at q; exact q

/-! ### what is walked -/
structure WalkOk (T : Tb) (G : Hp) (J : It) (ds : List D) : Prop where
  go : ∀ (i : Nat) (d : D) (G' H' : Hp), Sub G G' → Sub G' H' → ds[i]? = some d → J.go i H' ∧ ∀ x H2, J.yld i H' x H2 → ∃ G2, Grow G' H' G2 H2 ∧ RepF T G2 x d
  stop : ∀ (i : Nat) (G' H' : Hp), Sub G G' → Sub G' H' → ds.length ≤ i → J.stop i H'
def tI (T : Tb) (W : WX) (m : En → Ou (List D)) : TI := fun σ H R => ∃ (G : Hp) (e : En) (τ : List V) (u : List S), Md T G H σ e τ u ∧
  match m e with
  | .ok ds e' => ∀ (G' H' : Hp) (J : It), Evo T.tbs G H (As σ e τ u) G' H' (As σ e' τ u) → Md T G' H' σ e' τ u → WalkOk T G' J ds → R J H'
  | .ex x e' => ∀ (G' H' : Hp) (c : Value) (dx : Option Addr), Evo T.tbs G H (As σ e τ u) G' H' (As σ e' τ u) → Md T G' H' σ e' τ u → RepX T G' c dx x → W c dx σ H'
  | .no => False
theorem WalkOk.list {a : Addr} {xs : List V} {ds : List D} (hq : SqL T.K G a xs) (r : RepFs T G xs ds) : WalkOk T G (Itl T.K a) ds := by
  refine ⟨fun i d G' H' s1 s2 hd => ?_, fun i G' H' s1 s2 hl => ⟨xs, (s1.trans s2).sqL hq, by rw [r.length]; exact hl⟩⟩
  obtain ⟨x, hx, rx⟩ := r.get hd
  refine ⟨⟨xs, x, (s1.trans s2).sqL hq, hx⟩, fun y H2 ⟨e1, e2⟩ => ?_⟩
  subst e1
  have := e2 xs ((s1.trans s2).sqL hq)
  rw [hx] at this; cases this
  exact ⟨G', .refl s2, rx.mono s1⟩
theorem WalkOk.tup {a : Addr} {xs : List V} {ds : List D} (hq : SqT T.K G a xs) (r : RepFs T G xs ds) : WalkOk T G (Itt T.K a) ds := by
  refine ⟨fun i d G' H' s1 s2 hd => ?_, fun i G' H' s1 s2 hl => ⟨xs, (s1.trans s2).sqT hq, by rw [r.length]; exact hl⟩⟩
  obtain ⟨x, hx, rx⟩ := r.get hd
  refine ⟨⟨xs, x, (s1.trans s2).sqT hq, hx⟩, fun y H2 ⟨e1, e2⟩ => ?_⟩
  subst e1
  have := e2 xs ((s1.trans s2).sqT hq)
  rw [hx] at this; cases this
  exact ⟨G', .refl s2, rx.mono s1⟩
def rngD (lo : Int) (n : Nat) : List D := (List.range n).map fun k => D.int (lo + (k : Nat))
theorem WalkOk.rng {lo : Int} {n : Nat} : WalkOk T G (Itr lo n) (rngD lo n) := by
  refine ⟨fun i d G' H' s1 s2 hd => ?_, fun i G' H' s1 s2 hl => by show n ≤ i; simpa [rngD] using hl⟩
  have hi : i < n := by
    have := (List.getElem?_eq_some_iff.mp hd).1
    simpa [rngD] using this
  refine ⟨hi, fun y H2 ⟨e1, e2⟩ => ?_⟩
  subst e1 e2
  have : d = .int (lo + (i : Nat)) := by
    have := hd
    simp [rngD, hi] at this
    exact this.symm
  subst this
  exact ⟨G', .refl s2, .int _⟩
def strD (x : Str) : List D := x.cps.toList.map fun c => D.str ⟨#[c]⟩
theorem WalkOk.str {x : Str} : WalkOk T G (Its x) (strD x) := by
  refine ⟨fun i d G' H' s1 s2 hd => ?_, fun i G' H' s1 s2 hl => by show x.cps.size ≤ i; simpa [strD] using hl⟩
  have hi : i < x.cps.size := by
    have := (List.getElem?_eq_some_iff.mp hd).1
    simpa [strD] using this
  refine ⟨hi, fun y H2 ⟨e1, c, e2, e3⟩ => ?_⟩
  subst e1 e3
  have : d = .str ⟨#[c]⟩ := by
    have := hd
    simp [strD] at this
    obtain ⟨c', h1, h2⟩ := this
    rw [e2] at h1; cases h1
    exact h2.symm
  subst this
  exact ⟨G', .refl s2, .str _⟩
def enumD (i : Nat) : List D → List D
  | [] => []
  | d :: ds => .tup [.int (i : Nat), d] :: enumD (i + 1) ds
theorem enumD_length : ∀ (ds : List D) (i : Nat), (enumD i ds).length = ds.length
  | [], _ => rfl
  | _ :: ds, i => by simp [enumD, enumD_length ds]
theorem enumD_get : ∀ (ds : List D) (i j : Nat) (d : D), (enumD i ds)[j]? = some d → ∃ d', ds[j]? = some d' ∧ d = .tup [.int ((i + j : Nat) : Int), d']
  | [], _, _, _, h => by simp [enumD] at h
  | a :: ds, i, 0, d, h => by simp [enumD] at h; exact ⟨a, rfl, h.symm⟩
  | a :: ds, i, j + 1, d, h => by
    obtain ⟨d', h1, h2⟩ := enumD_get ds (i + 1) j d (by simpa [enumD] using h)
    exact ⟨d', by simpa using h1, by rw [h2]; congr 4; omega⟩
theorem pair_new {G' H' : Hp} (s2 : Sub G' H') {t : Addr} {x y : V} {d d' : D} {its : Array Value} (ht : H' t = none) (rx : RepF T G' x d) (ry : RepF T G' y d') : ∃ G2, Grow G' H' G2 (upd H' t (tbO its [x, y])) ∧ RepF T G2 (.ref t) (.tup [d, d']) := by
  have hm : Sub G' (upd G' t (tbO its [x, y])) := .upd_none (s2.none ht)
  exact ⟨upd G' t (tbO its [x, y]), .frozen s2 ht (fun _ z => nomatch z), .tup (.of upd_same) (.cons (rx.mono hm) (.cons (ry.mono hm) .nil))⟩
def zipD : List D → List D → List D
  | a :: as, b :: bs => .tup [a, b] :: zipD as bs
  | _, _ => []
theorem zipD_get : ∀ (as bs : List D) (j : Nat) (d : D), (zipD as bs)[j]? = some d → ∃ a b, as[j]? = some a ∧ bs[j]? = some b ∧ d = .tup [a, b]
  | [], _, _, _, h => by simp [zipD] at h
  | _ :: _, [], _, _, h => by simp [zipD] at h
  | a :: as, b :: bs, 0, d, h => by simp [zipD] at h; exact ⟨a, b, rfl, rfl, h.symm⟩
  | a :: as, b :: bs, j + 1, d, h => by
    obtain ⟨x, y, h1, h2, h3⟩ := zipD_get as bs j d (by simpa [zipD] using h)
    exact ⟨x, y, by simpa using h1, by simpa using h2, h3⟩
theorem zipD_length : ∀ (as bs : List D), (zipD as bs).length = min as.length bs.length
  | [], _ => by simp [zipD]
  | _ :: _, [] => by simp [zipD]
  | _ :: as, _ :: bs => by simp [zipD, zipD_length as bs, Nat.add_min_add_right]
theorem WalkOk.zip {a b : Addr} {xs ys : List V} {ds es : List D} (hq : SqL T.K G a xs) (r : RepFs T G xs ds) (hq2 : SqL T.K G b ys) (r2 : RepFs T G ys es) : WalkOk T G (ItzB T.K a b) (zipD ds es) := by
  refine ⟨fun i d G' H' s1 s2 hd => ?_, fun i G' H' s1 s2 hl => ⟨xs, ys, (s1.trans s2).sqL hq, (s1.trans s2).sqL hq2, by rw [r.length, r2.length]; rw [zipD_length] at hl; omega⟩⟩
  obtain ⟨d1, d2, h1, h2, rfl⟩ := zipD_get ds es i d hd
  obtain ⟨x, hx, rx⟩ := r.get h1
  obtain ⟨y, hy, ry⟩ := r2.get h2
  refine ⟨⟨xs, ys, x, y, (s1.trans s2).sqL hq, (s1.trans s2).sqL hq2, hx, hy⟩, fun z H2 ⟨t, its, x', y', e1, e2, e3, e4, e5⟩ => ?_⟩
  have := e4 xs ((s1.trans s2).sqL hq)
  rw [hx] at this; cases this
  have := e5 ys ((s1.trans s2).sqL hq2)
  rw [hy] at this; cases this
  subst e1 e3
  exact pair_new s2 e2 (rx.mono s1) (ry.mono s1)
theorem WalkOk.zipT {a b : Addr} {xs ys : List V} {ds es : List D} (hq : SqT T.K G a xs) (r : RepFs T G xs ds) (hq2 : SqT T.K G b ys) (r2 : RepFs T G ys es) : WalkOk T G (ItzC T.K a b) (zipD ds es) := by
  refine ⟨fun i d G' H' s1 s2 hd => ?_, fun i G' H' s1 s2 hl => ⟨xs, ys, (s1.trans s2).sqT hq, (s1.trans s2).sqT hq2, by rw [r.length, r2.length]; rw [zipD_length] at hl; omega⟩⟩
  obtain ⟨d1, d2, h1, h2, rfl⟩ := zipD_get ds es i d hd
  obtain ⟨x, hx, rx⟩ := r.get h1
  obtain ⟨y, hy, ry⟩ := r2.get h2
  refine ⟨⟨xs, ys, x, y, (s1.trans s2).sqT hq, (s1.trans s2).sqT hq2, hx, hy⟩, fun z H2 ⟨t, its, x', y', e1, e2, e3, e4, e5⟩ => ?_⟩
  have := e4 xs ((s1.trans s2).sqT hq)
  rw [hx] at this; cases this
  have := e5 ys ((s1.trans s2).sqT hq2)
  rw [hy] at this; cases this
  subst e1 e3
  exact pair_new s2 e2 (rx.mono s1) (ry.mono s1)

/-! ### for -/
def forL (g : S → En → Fl) (b : En → Fl) : List D → En → Fl
  | [], e => .nx e
  | d :: ds, e => match g (.fr d) e with
    | .nx e1 => match b e1 with
      | .nx e2 => forL g b ds e2
      | .ct e2 => forL g b ds e2
      | .bk e2 => .nx e2
      | .rt s e2 => .rt s e2
      | .ex x e2 => .ex x e2
      | .no => .no
    | .ex x e1 => .ex x e1
    | _ => .no
def sFor (it : En → Ou (List D)) (g : S → En → Fl) (b : En → Fl) : En → Fl := fun e =>
  match it e with
  | .ok ds e1 => forL g b ds e1
  | .ex x e1 => .ex x e1
  | .no => .no
theorem tS_for {it : En → Ou (List D)} {g : S → En → Fl} (hg : GoG g) {b : En → Fl} : tS T W p (sFor it g b) Dn σ H → tFor (tI T W it) (tG T W p g) (tS T W p b) Dn σ H := by
  rintro ⟨G, e, sl, q⟩
  refine ⟨G, e, [], [], sl.md, ?_⟩
  unfold sFor at q
  cases hi : it e with
  | no => rw [hi] at q; exact q
  | ex x e1 =>
    rw [hi] at q
    exact fun G1 H1 c dx ev md rx => q σ c dx G1 H1 (by rw [As_nil, As_nil] at ev; exact ev) md.sl0 rfl .refl rx
  | ok ds e1 =>
    rw [hi] at q
    intro G1 H1 J ev md wk
    rw [As_nil, As_nil] at ev
    have q : PostS T W p Dn G1 H1 σ (fps σ e1) (forL g b ds e1) := PostS.after q ev rfl .refl
    refine ⟨fun i m σ H => ∃ G e, Sub G1 G ∧ Sl T G H σ e ∧ m = ds.length - i ∧ i ≤ ds.length ∧ PostS T W p Dn G H σ (fps σ e) (forL g b (ds.drop i) e),
      ⟨ds.length, G1, e1, .refl _, md.sl0, by simp, Nat.zero_le _, q⟩, ?_⟩
    rintro i m σ H ⟨G, e, sg, sl, rfl, hle, q⟩
    by_cases hlt : i < ds.length
    · have hd : ds[i]? = some ds[i] := List.getElem?_eq_getElem hlt
      obtain ⟨go, yl⟩ := wk.go i _ G H sg sl.sub hd
      refine .inr ⟨go, fun σ' H' => ∃ G e, Sub G1 G ∧ Sl T G H' σ' e ∧ PostS T W p Dn G H' σ' (fps σ' e) (forL g b (ds.drop (i + 1)) e), fun σ' H' ⟨G, e, a, b, c⟩ => ⟨ds.length - (i + 1), by omega, G, e, a, b, rfl, hlt, c⟩, fun x H2 hy => ?_⟩
      obtain ⟨G2, gr, rx⟩ := yl x H2 hy
      have md2 : Md T G2 H2 σ e [] [] := sl.md.grow gr
      have e0 : forL g b (ds.drop i) e = (match g (.fr ds[i]) e with
        | .nx e1 => match b e1 with
          | .nx e2 => forL g b (ds.drop (i + 1)) e2
          | .ct e2 => forL g b (ds.drop (i + 1)) e2
          | .bk e2 => .nx e2
          | .rt s e2 => .rt s e2
          | .ex x e2 => .ex x e2
          | .no => .no
        | .ex x e1 => .ex x e1
        | _ => .no) := by rw [List.drop_eq_getElem_cons hlt]; rfl
      rw [e0] at q
      have q := q.after (gr.evo _) rfl .refl
      refine ⟨G2, e, .fr ds[i], sl.len, ?_, ?_⟩
      · have := (md2.push (RepO.fr rx) (by rw [fp_fr]; simp)).sl
        simpa using this
      · have eA : fps (σ ++ [some x]) (e ++ [some (.fr ds[i])]) = fps σ e := by
          rw [fps_append _ _ sl.len]
          show _ ++ (fp x (.fr ds[i]) ++ []) = _
          rw [fp_fr, List.append_nil, List.append_nil]
        rw [eA]
        rcases hg (.fr ds[i]) e with ⟨e3, h1⟩ | ⟨x3, e3, h1⟩ | h1
        · rw [h1] at q ⊢
          intro σ3 G3 H3 ev3 sl3 l3 k3
          have q : PostS T W p Dn G3 H3 σ3 (fps σ3 e3) (match b e3 with
            | .nx e2 => forL g b (ds.drop (i + 1)) e2
            | .ct e2 => forL g b (ds.drop (i + 1)) e2
            | .bk e2 => .nx e2
            | .rt s e2 => .rt s e2
            | .ex x e2 => .ex x e2
            | .no => .no) := PostS.after q ev3 l3 k3
          refine ⟨G3, e3, sl3, ?_⟩
          have sg3 : Sub G1 G3 := (sg.trans gr.mono).trans ev3.mono
          cases hb : b e3 with
          | nx e4 => rw [hb] at q; exact fun σ' G' H' ev sl4 l k => ⟨G', e4, sg3.trans ev.mono, sl4, PostS.after q ev l k⟩
          | ct e4 => rw [hb] at q; exact fun σ' G' H' ev sl4 l k => ⟨G', e4, sg3.trans ev.mono, sl4, PostS.after q ev l k⟩
          | bk e4 => rw [hb] at q; exact q
          | rt s e4 => rw [hb] at q; exact q
          | ex x e4 => rw [hb] at q; exact q
          | no => rw [hb] at q; exact q
        · rw [h1] at q ⊢; exact q
        · rw [h1] at q; exact q.elim
    · have : i = ds.length := by omega
      subst this
      refine .inl ⟨wk.stop _ G H sg sl.sub (Nat.le_refl _), ?_⟩
      rw [List.drop_length] at q
      exact q σ G H .refl sl rfl .refl

/-! ### sources -/
/-- a list, a tuple, a text -/
def seqD : D → Option (List D)
  | .lst ds => some ds
  | .tup ds => some ds
  | .str x => some (strD x)
  | _ => none
def mSeq (m : En → Ou R) : En → Ou (List D) := fun e =>
  match m e with
  | .ok r e1 => match frz1 e1 r with
    | some (d, e2) => match seqD d with
      | some ds => .ok ds e2
      | none => .no
    | none => .no
  | .ex x e1 => .ex x e1
  | .no => .no
theorem frz1_ok {e e1 : En} {r : R} {v : V} {d : D} {τ τ1 : List V} {u u1 : List S} (md : Md T G H σ e (τ ++ τ1) (u ++ u1)) (hl : τ.length = u.length) (hr : HR σ [r] [v] τ1 u1) (h : frz1 e r = some (d, e1)) :
    ∃ G', Evo T.tbs G H (As σ e (τ ++ τ1) (u ++ u1)) G' H (As σ e1 τ u) ∧ Md T G' H σ e1 τ u ∧ RepF T G' v d := by
  have z : frzs e [r] = some ([d], e1) := by simp [frzs, h]
  obtain ⟨G', u1', ev, m1, rs⟩ := hr.freeze md hl z
  cases rs with
  | cons a _ => exact ⟨G', ev.less (As_drop m1.l1 hl), m1.dropT hl, a⟩
end
section
variable {X : Cx} {T : Tb} {W : WX} {tg l : Expr} {ml : En → Ou R}
def iSeq (K : PySem.W.Frag) (tl : TE) : TI := fun σ H R => tl σ H fun x H1 => (∃ a, x = .ref a ∧ (∃ xs, SqL K H1 a xs) ∧ R (Itl K a) H1) ∨ (∃ a, x = .ref a ∧ (∃ xs, SqT K H1 a xs) ∧ R (Itt K a) H1) ∨ ∃ z, x = .str z ∧ R (Its z) H1
theorem pi_seq {tl : TE} (hl : PE X l tl) : PI X tg l (iSeq X.K tl) := by
  refine ⟨fun pins s σ H R I h => ?_⟩
  refine thn (hl.run pins s σ H _ I h) fun v s1 ⟨x, H1, I1, r1, q1⟩ => ?_
  rcases q1 with ⟨a, e, ⟨xs, hq⟩, q⟩ | ⟨a, e, ⟨xs, hq⟩, q⟩ | ⟨z, e, q⟩
  · subst e
    cases r1
    obtain ⟨its, rv, p, hz⟩ := I1.list hq
    refine wpAny_pyIter_list p.isList ?_
    refine ⟨s1.heap.objs.size, [s1.heap.objs.size], _, _, H1, rfl, I1.kept (t' := s1.toks) fun b o e => Heap.get?_push_of_some _ e, turn_list a _, ⟨_, Heap.get?_push_size _ rfl, rfl, rfl⟩, fun b hb => ?_, q⟩
    have e : b = s1.heap.objs.size := by simpa using hb
    subst e
    exact I1.fpOk (Nat.le_refl _) (I1.hok.fresh (Nat.le_refl _))
  · subst e
    cases r1
    obtain ⟨its, rv, p, hz⟩ := I1.tuple hq
    refine wpAny_pyIter_tuple (show s1.heap.IsTuple a its.toArray from p) ?_
    refine ⟨s1.heap.objs.size, [s1.heap.objs.size], _, _, H1, rfl, I1.kept (t' := s1.toks) fun b o e => Heap.get?_push_of_some _ e, turn_tuple a _, ⟨_, Heap.get?_push_size _ rfl, rfl, rfl⟩, fun b hb => ?_, q⟩
    have e : b = s1.heap.objs.size := by simpa using hb
    subst e
    exact I1.fpOk (Nat.le_refl _) (I1.hok.fresh (Nat.le_refl _))
  · subst e
    obtain ⟨t, rfl⟩ := r1
    cases ha : z.cps.all (· < 128)
    · exact wpAny_pyIter_wide ha (pi_one (tk := s1.toks) I1 _ (turn_str _ z t "str_iterator" (.inr rfl)) ⟨_, Heap.get?_push_size _ rfl, rfl, rfl⟩ q)
    · exact wpAny_pyIter_ascii ha (pi_one (tk := s1.toks) I1 _ (turn_str _ z t "str_ascii_iterator" (.inl rfl)) ⟨_, Heap.get?_push_size _ rfl, rfl, rfl⟩ q)
theorem PI.imp {tg iter : Expr} {t t' : TI} (h : PI X tg iter t) (k : ∀ σ H R, t' σ H R → t σ H R) : PI X tg iter t' := ⟨fun pins s σ H R I q => h.run pins s σ H R I (k σ H R q)⟩
theorem pi_seqF (hK : T.K = X.K) (hl : PE X l (tE T W ml)) : PI X tg l (tI T W (mSeq ml)) := PI.imp (pi_seq hl) fun σ H R h => by
  obtain ⟨G, e, τ, u, md, q⟩ := h
  refine ⟨G, e, τ, u, md, ?_⟩
  unfold mSeq at q
  cases hm : ml e with
  | no => rw [hm] at q; exact q
  | ex x e1 => rw [hm] at q; exact q
  | ok r e1 =>
    rw [hm] at q
    intro G1 H1 v τ1 u1 ev1 md1 hr1
    simp only at q
    cases hf : frz1 e1 r with
    | none => rw [hf] at q; exact q.elim
    | some z =>
      obtain ⟨d, e2⟩ := z
      rw [hf] at q
      simp only at q
      obtain ⟨G2, ev2, md2, rd⟩ := frz1_ok md1 md.l2 hr1 hf
      cases hs : seqD d with
      | none => rw [hs] at q; exact q.elim
      | some ds =>
        rw [hs] at q
        have q' := fun J => q G2 H1 J (ev1.trans ev2) md2
        rw [← hK]
        cases rd with
        | tup h1 k1 => cases hs; exact .inr (.inl ⟨_, rfl, ⟨_, md2.sl.sub.sqT h1.sq⟩, q' _ (.tup h1.sq k1)⟩)
        | lst h1 k1 => cases hs; exact .inl ⟨_, rfl, ⟨_, md2.sl.sub.sqL h1⟩, q' _ (.list h1 k1)⟩
        | str x => cases hs; exact .inr (.inr ⟨x, rfl, q' _ .str⟩)
        | _ => cases hs
/-- range -/
noncomputable def rngOf : List D → Option (List D)
  | [.int j] => @ite _ (-(2 ^ 62) ≤ j ∧ j < 2 ^ 62) (Classical.propDecidable _) (some (rngD 0 j.toNat)) none
  | [.int i, .int j] => @ite _ (-(2 ^ 62) ≤ i ∧ i < 2 ^ 62 ∧ -(2 ^ 62) ≤ j ∧ j < 2 ^ 62) (Classical.propDecidable _) (some (rngD i (j - i).toNat)) none
  | _ => none
def mPs (f : List D → Option (List D)) (ms : En → Ou (List R)) : En → Ou (List D) := fun e =>
  match ms e with
  | .ok rs e1 => match frzs e1 rs with
    | some (ds, e2) => match f ds with
      | some l => .ok l e2
      | none => .no
    | none => .no
  | .ex x e1 => .ex x e1
  | .no => .no
/-- a source of handed things -/
theorem tI_args {ms : En → Ou (List R)} {f : List D → Option (List D)} {σ : SV} {H : Hp} {R' : It → Hp → Prop} : tI T W (mPs f ms) σ H R' → tEs T W ms σ H fun vs H1 => ∃ G1 ds l, Sub G1 H1 ∧ RepFs T G1 vs ds ∧ f ds = some l ∧ ∀ J, WalkOk T G1 J l → R' J H1 := by
  rintro ⟨G, e, τ, u, md, q⟩
  refine ⟨G, e, τ, u, md, ?_⟩
  unfold mPs at q
  cases hm : ms e with
  | no => rw [hm] at q; exact q
  | ex x e1 => rw [hm] at q; exact q
  | ok rs e1 =>
    rw [hm] at q
    intro G1 H1 vs τ1 u1 ev1 md1 hr1
    simp only at q
    cases hf : frzs e1 rs with
    | none => rw [hf] at q; exact q.elim
    | some z =>
      obtain ⟨ds, e2⟩ := z
      rw [hf] at q
      simp only at q
      cases hl : f ds with
      | none => rw [hl] at q; exact q.elim
      | some l =>
        rw [hl] at q
        obtain ⟨G2, u1', ev2, m2, rs2⟩ := hr1.freeze md1 md.l2 hf
        exact ⟨G2, ds, l, m2.sl.sub, rs2, hl, fun J wk => q G2 H1 J (ev1.trans (ev2.less (As_drop m2.l1 md.l2))) (m2.dropT md.l2) wk⟩
theorem repFs1 {G : Hp} {vs : List V} {d : D} (r : RepFs T G vs [d]) : ∃ v, vs = [v] ∧ RepF T G v d := by
  cases r with
  | cons a b => cases b; exact ⟨_, rfl, a⟩
theorem repFs2 {G : Hp} {vs : List V} {d d' : D} (r : RepFs T G vs [d, d']) : ∃ v w, vs = [v, w] ∧ RepF T G v d ∧ RepF T G w d' := by
  cases r with
  | cons a b => cases b with
    | cons b c => cases c; exact ⟨_, _, rfl, a, b⟩
section
variable {ms : En → Ou (List R)} {a b : Expr} {p pos : Pos}
theorem pi_rng1F (hg : Gl X "range") (hm : X.mg "range" = none) (ha : PA X [a] (tEs T W ms)) (hs : starEach [a] X.env = [(false, eval a X.env)]) : PI X tg (.Call (.Name "range" p) [a] [] pos) (tI T W (mPs (fun ds => if ds.length = 1 then rngOf ds else none) ms)) :=
  PI.imp (pi_range1 hg hm ha hs) fun σ H R h => tEs.mono (fun vs H1 ⟨G1, ds, l, hsub, r, hf, k⟩ => by
    split at hf
    · unfold rngOf at hf
      split at hf
      · split at hf
        · rename_i _ j _ hj
          cases hf
          obtain ⟨v, rfl, rv⟩ := repFs1 r
          cases rv
          exact ⟨j, rfl, hj.1, hj.2, k _ .rng⟩
        · cases hf
      · rename_i h1; simp at h1
      · cases hf
    · cases hf) (tI_args h)
theorem pi_rng2F (hg : Gl X "range") (hm : X.mg "range" = none) (ha : PA X [a, b] (tEs T W ms)) (hs : starEach [a, b] X.env = [(false, eval a X.env), (false, eval b X.env)]) (hs2 : starEach [b] X.env = [(false, eval b X.env)]) :
    PI X tg (.Call (.Name "range" p) [a, b] [] pos) (tI T W (mPs (fun ds => if ds.length = 2 then rngOf ds else none) ms)) :=
  PI.imp (pi_range2 hg hm ha hs hs2) fun σ H R h => tEs.mono (fun vs H1 ⟨G1, ds, l, hsub, r, hf, k⟩ => by
    split at hf
    · unfold rngOf at hf
      split at hf
      · rename_i h1; simp at h1
      · split at hf
        · rename_i _ i j _ hj
          cases hf
          obtain ⟨v, w, rfl, rv, rw'⟩ := repFs2 r
          cases rv
          cases rw'
          exact ⟨i, j, rfl, hj, k _ .rng⟩
        · cases hf
      · cases hf
    · cases hf) (tI_args h)
def zipOf : List D → Option (List D)
  | [.lst ds, .lst es] => some (zipD ds es)
  | [.tup ds, .tup es] => some (zipD ds es)
  | _ => none
theorem pi_zipF {elts : List Expr} {kk : Nat} {tpos : Pos} (hK : T.K = X.K) (hg : Gl X "zip") (hm : X.mg "zip" = none) (ha : PA X [a, b] (tEs T W ms)) (hs : starEach [a, b] X.env = (false, eval a X.env) :: starEach [b] X.env) (hpl : (backTo pos (starEach [b] X.env)).any (·.1) = false) :
    PI X (.Tuple elts kk tpos) (.Call (.Name "zip" p) [a, b] [] pos) (tI T W (mPs zipOf ms)) :=
  PI.imp (pi_zipB hg hm ha hs hpl) fun σ H R h => tEs.mono (fun vs H1 ⟨G1, ds, l, hsub, r, hf, k⟩ => by
    unfold zipOf at hf
    split at hf
    · cases hf
      obtain ⟨v, w, rfl, rv, rw'⟩ := repFs2 r
      cases rv with
      | lst h1 k1 => cases rw' with
        | lst h2 k2 => rw [← hK]; exact ⟨_, _, _, _, rfl, .inl ⟨hsub.sqL h1, hsub.sqL h2, k _ (.zip h1 k1 h2 k2)⟩⟩
    · cases hf
      obtain ⟨v, w, rfl, rv, rw'⟩ := repFs2 r
      cases rv with
      | tup h1 k1 => cases rw' with
        | tup h2 k2 => rw [← hK]; exact ⟨_, _, _, _, rfl, .inr ⟨hsub.sqT h1.sq, hsub.sqT h2.sq, k _ (.zipT h1.sq k1 h2.sq k2)⟩⟩
    · cases hf) (tI_args h)
end
end
end Fv

namespace Fv
open PySem PySem.Spec PyProof.Rows L2

/-! ### comprehensions -/
def wipeE (e : En) : List Nat → En
  | [] => e
  | v :: vs => (wipeE e vs).set v none
def backE (e0 e : En) : List Nat → En
  | [] => e
  | v :: vs => (backE e0 e vs).set v (e0[v]?).join
def okW (e : En) (vs : List Nat) : Bool := vs.all fun v => match e[v]? with
  | some none => true
  | some (some (.fr _)) => true
  | _ => false
def lcL (g : S → En → Fl) (t : En → Ou Bool) (m : En → Ou R) (vs : List Nat) : List D → En → List D → Option (List D × En)
  | [], e, acc => some (acc, e)
  | d :: ds, e, acc => match g (.fr d) e with
    | .nx e1 => match t e1 with
      | .ok true e2 => match m e2 with
        | .ok r e3 => match frz1 e3 r with
          | some (x, e4) => lcL g t m vs ds (wipeE e4 vs) (acc ++ [x])
          | none => none
        | _ => none
      | .ok false e2 => lcL g t m vs ds (wipeE e2 vs) acc
      | _ => none
    | _ => none
def bLc (it : En → Ou (List D)) (g : S → En → Fl) (t : En → Ou Bool) (m : En → Ou R) (vs : List Nat) : En → Ou R := fun e =>
  match it e with
  | .ok ds e1 => if okW e1 vs = true ∧ ds.length < 16777216 then
      match lcL g t m vs ds (wipeE e1 vs) [] with
      | some (acc, e2) => .ok (.vl (.ol acc)) (backE e1 e2 vs)
      | none => .no
    else .no
  | .ex x e1 => .ex x e1
  | .no => .no
abbrev WF : WX := fun _ _ _ _ => False
abbrev pC (vs : List Nat) : Nat → Bool := fun i => !vs.contains i
theorem wipe_get {σ : SV} : ∀ {vs : List Nat} {i : Nat}, (wipe σ vs)[i]? = if i ∈ vs ∧ i < σ.length then some none else σ[i]?
  | [], i => by simp [wipe]
  | v :: vs, i => by
    show ((wipe σ vs).set v none)[i]? = _
    by_cases h : v = i
    · subst h
      by_cases hl : v < σ.length
      · rw [List.getElem?_set_self (by rw [wipe_length]; exact hl), if_pos ⟨by simp, hl⟩]
      · rw [if_neg (fun z => hl z.2), List.getElem?_eq_none (by rw [List.length_set, wipe_length]; omega), List.getElem?_eq_none (by omega)]
    · rw [List.getElem?_set_ne h, wipe_get]
      by_cases h2 : i ∈ vs ∧ i < σ.length
      · rw [if_pos h2, if_pos ⟨by simp [h2.1], h2.2⟩]
      · rw [if_neg h2, if_neg (fun z => h2 ⟨by
          rcases List.mem_cons.mp z.1 with q | q
          · exact absurd q.symm h
          · exact q, z.2⟩)]
theorem wipe_ext {σ σ' : SV} {vs : List Nat} (hl : σ'.length = σ.length) (h : ∀ i, i ∉ vs → σ'[i]? = σ[i]?) : wipe σ' vs = wipe σ vs := by
  apply List.ext_getElem?
  intro i
  rw [wipe_get, wipe_get, hl]
  by_cases hi : i ∈ vs
  · by_cases h2 : i < σ.length
    · rw [if_pos ⟨hi, h2⟩, if_pos ⟨hi, h2⟩]
    · rw [if_neg (fun z => h2 z.2), if_neg (fun z => h2 z.2), List.getElem?_eq_none (by omega), List.getElem?_eq_none (by omega)]
  · rw [if_neg (fun z => hi z.1), if_neg (fun z => hi z.1), h i hi]
theorem wipe_idem {σ : SV} {vs : List Nat} : wipe (wipe σ vs) vs = wipe σ vs := wipe_ext (wipe_length σ vs) fun i hi => by rw [wipe_get, if_neg (fun z => hi z.1)]
theorem wipeE_length (e : En) : ∀ vs : List Nat, (wipeE e vs).length = e.length
  | [] => rfl
  | v :: vs => by show ((wipeE e vs).set v none).length = _; rw [List.length_set, wipeE_length]
theorem wipeE_get {e : En} : ∀ {vs : List Nat} {i : Nat}, (wipeE e vs)[i]? = if i ∈ vs ∧ i < e.length then some none else e[i]?
  | [], i => by simp [wipeE]
  | v :: vs, i => by
    show ((wipeE e vs).set v none)[i]? = _
    by_cases h : v = i
    · subst h
      by_cases hl : v < e.length
      · rw [List.getElem?_set_self (by rw [wipeE_length]; exact hl), if_pos ⟨by simp, hl⟩]
      · rw [if_neg (fun z => hl z.2), List.getElem?_eq_none (by rw [List.length_set, wipeE_length]; omega), List.getElem?_eq_none (by omega)]
    · rw [List.getElem?_set_ne h, wipeE_get]
      by_cases h2 : i ∈ vs ∧ i < e.length
      · rw [if_pos h2, if_pos ⟨by simp [h2.1], h2.2⟩]
      · rw [if_neg h2, if_neg (fun z => h2 ⟨by
          rcases List.mem_cons.mp z.1 with q | q
          · exact absurd q.symm h
          · exact q, z.2⟩)]
section
variable {T : Tb} {G H G' H' : Hp} {σ : SV} {e e' : En} {τ : List V} {u : List S}
theorem fps_set_left {i : Nat} {x : Option V} (h : e[i]? = some none ∨ e[i]? = none) : fps (σ.set i x) e = fps σ e := by
  have he : e.set i none = e := by
    rcases h with h | h
    · obtain ⟨hi, e1⟩ := List.getElem?_eq_some_iff.mp h
      rw [← e1]; exact List.set_getElem_self hi
    · exact List.set_eq_of_length_le (List.getElem?_eq_none_iff.mp h)
  have := fps_none (σ := σ) (e := e) (i := i) x
  rw [he] at this
  exact this
/-- a slot without a thing may hold anything -/
theorem Md.setV (m : Md T G H σ e τ u) {i : Nat} {x : Option V} (h : e[i]? = some none ∨ e[i]? = none) : Md T G H (σ.set i x) e τ u ∧ As (σ.set i x) e τ u = As σ e τ u := by
  have hl : σ.length = e.length := m.l1
  have e1 : ∀ y : SV, (σ.set i x).length = e.length := fun _ => by rw [List.length_set]; exact hl
  have eA : fps (σ.set i x ++ τ.map some) (e ++ u.map some) = fps (σ ++ τ.map some) (e ++ u.map some) := by
    rw [fps_append _ _ (e1 []), fps_append _ _ hl, fps_set_left h]
  refine ⟨⟨e1 [], m.l2, m.sl.sub, by simp only [List.length_append, List.length_set, List.length_map]; have := m.l2; omega, fun j s hj => ?_, by rw [eA]; exact m.sl.nd, m.sl.tab⟩, eA⟩
  obtain ⟨v, hv, r⟩ := m.sl.rep j s hj
  refine ⟨v, ?_, r⟩
  by_cases hji : j = i
  · subst hji
    by_cases hje : j < e.length
    · rw [List.getElem?_append_left hje] at hj
      rcases h with h | h
      · rw [h] at hj; cases hj
      · rw [h] at hj; cases hj
    · rw [List.set_eq_of_length_le (by omega)]; exact hv
  · by_cases hje : j < σ.length
    · rw [List.getElem?_append_left (by rw [List.length_set]; exact hje), List.getElem?_set_ne (fun z => hji z.symm)]
      rw [List.getElem?_append_left hje] at hv; exact hv
    · rw [List.getElem?_append_right (by rw [List.length_set]; omega), List.length_set]
      rw [List.getElem?_append_right (by omega)] at hv; exact hv
theorem Md.outA (m : Md T G H σ e τ u) (i : Nat) : Md T G H σ (e.set i none) τ u ∧ ∀ b, b ∈ As σ (e.set i none) τ u → b ∈ As σ e τ u := by
  by_cases hi : i < e.length
  · exact ⟨m.out hi, As_set_sub hi⟩
  · rw [List.set_eq_of_length_le (by omega)]; exact ⟨m, fun _ h => h⟩
theorem Md.wipe (m : Md T G H σ e τ u) : ∀ vs : List Nat, Md T G H (L2.wipe σ vs) (wipeE e vs) τ u ∧ ∀ b, b ∈ As (L2.wipe σ vs) (wipeE e vs) τ u → b ∈ As σ e τ u
  | [] => ⟨m, fun _ h => h⟩
  | v :: vs => by
    obtain ⟨a, b⟩ := m.wipe vs
    obtain ⟨c, d⟩ := a.outA v
    have hn : ((wipeE e vs).set v none)[v]? = some none ∨ ((wipeE e vs).set v none)[v]? = none := by
      by_cases hl : v < (wipeE e vs).length
      · exact .inl (List.getElem?_set_self hl)
      · exact .inr (List.getElem?_eq_none (by rw [List.length_set]; omega))
    obtain ⟨f, g⟩ := c.setV (x := none) hn
    refine ⟨f, fun x hx => b x (d x ?_)⟩
    rw [← g]; exact hx
/-- a slot of data put back -/
theorem Md.putF (m : Md T G H σ e τ u) {i : Nat} {v : V} {d : D} (h : e[i]? = some none) (hv : σ[i]? = some (some v)) (r : RepF T G v d) : Md T G H σ (e.set i (some (.fr d))) τ u ∧ ∀ b, b ∈ As σ (e.set i (some (.fr d))) τ u → b ∈ As σ e τ u := by
  obtain ⟨a, b⟩ := m.put h hv (RepO.fr r) (by rw [fp_fr]; simp)
  refine ⟨a, fun x hx => ?_⟩
  rcases b x hx with z | z
  · rw [fp_fr] at z; simp at z
  · exact z
theorem Md.updAt (m : Md T G H σ e τ u) {q : Addr} {o : HO} (ho : ∀ o', H q = some o' → Od o') (hn : q ∉ As σ e τ u) (hg : G q = none) : Md T G (upd H q o) σ e τ u := by
  refine ⟨m.l1, m.l2, m.sl.frame (A := [q]) (A' := []) ⟨.refl _, fun b ob h hb _ => by rw [upd_ne (by simpa using hb)]; exact h, fun _ h => absurd h (by simp), fun _ _ h => .inl h, fun h => ⟨tabs_upd ho _ h.1, h.2⟩⟩ (fun b ob h => by
    rw [upd_ne (fun z => by rw [z, hg] at h; cases h)]; exact m.sl.sub b ob h) fun b hb hc => hn (by
    have : b = q := by simpa using hc
    rw [← this]; exact hb)⟩
/-- the names' slots go on, what lies on the way stays -/
theorem Md.step (m : Md T G H σ e τ u) {σ' : SV} (ev : Evo T.tbs G H (fps σ e) G' H' (fps σ' e')) (sl : Sl T G' H' σ' e') : Md T G' H' σ' e' τ u ∧ Evo T.tbs G H (As σ e τ u) G' H' (As σ' e' τ u) := by
  have sr := m.sl.right m.l1
  have dis := m.sl.dis m.l1
  have sr' := sr.frame ev sl.sub fun b hb hc => dis b hc hb
  have dis' : ∀ b ∈ fps σ' e', b ∉ fps (τ.map some) (u.map some) := fun b hb hc => by
    rcases ev.own b hb with z | z
    · exact dis b z hc
    · exact sr.nt hc z
  have eA : As σ e τ u = fps σ e ++ fps (τ.map some) (u.map some) := fps_append _ _ m.l1
  have eA' : As σ' e' τ u = fps σ' e' ++ fps (τ.map some) (u.map some) := fps_append _ _ sl.len
  refine ⟨⟨sl.len, m.l2, sl.append sr' dis'⟩, ev.mono, fun b o h hn => ev.keep b o h fun hc => hn (by rw [eA]; exact List.mem_append_left _ hc), fun b hb => ?_, fun b o h => ?_, ev.tab⟩
  · rw [eA'] at hb
    rw [eA]
    rcases List.mem_append.mp hb with z | z
    · exact (ev.own b z).imp (List.mem_append_left _) id
    · exact .inl (List.mem_append_right _ z)
  · rw [eA]
    exact (ev.frz b o h).imp id (Or.imp (List.mem_append_left _) id)
theorem backE_length (e0 e : En) : ∀ vs : List Nat, (backE e0 e vs).length = e.length
  | [] => rfl
  | v :: vs => by show ((backE e0 e vs).set v _).length = _; rw [List.length_set, backE_length]
theorem backE_get_none {e0 e : En} {i : Nat} (h : e[i]? = some none) : ∀ {vs : List Nat}, i ∉ vs → (backE e0 e vs)[i]? = some none
  | [], _ => h
  | v :: vs, hi => by
    show ((backE e0 e vs).set v _)[i]? = _
    rw [List.getElem?_set_ne (fun z => hi (by simp [z]))]
    exact backE_get_none h (fun z => hi (by simp [z]))
/-- the block's own names as they were ahead of it -/
theorem Md.backs {e0 : En} {G0 H0 : Hp} {τ0 : List V} {u0 : List S} (m0 : Md T G0 H0 σ e0 τ0 u0) : ∀ {vs : List Nat}, okW e0 vs = true → (∀ v ∈ vs, e[v]? = some none) → Sub G0 G → Md T G H (L2.wipe σ vs) e τ u → vs.Nodup →
    Md T G H σ (backE e0 e vs) τ u ∧ ∀ b, b ∈ As σ (backE e0 e vs) τ u → b ∈ As (L2.wipe σ vs) e τ u
  | [], _, _, _, m, _ => ⟨m, fun _ h => h⟩
  | v :: vs, ok, hn, hs, m, nd => by
    have ok1 : okW e0 vs = true := by unfold okW at ok ⊢; rw [List.all_cons, Bool.and_eq_true] at ok; exact ok.2
    have ok0 := by unfold okW at ok; rw [List.all_cons, Bool.and_eq_true] at ok; exact ok.1
    have nd2 := List.nodup_cons.mp nd
    have hv : e[v]? = some none := hn v (by simp)
    have hvl : v < e.length := (List.getElem?_eq_some_iff.mp hv).1
    have hσl : σ.length = e.length := by have := m.l1; rw [wipe_length] at this; exact this
    -- the slot's value back
    have ew : (L2.wipe σ (v :: vs)).set v (σ[v]?).join = L2.wipe σ vs := by
      apply List.ext_getElem?
      intro i
      by_cases hi : v = i
      · subst hi
        rw [List.getElem?_set_self (by rw [wipe_length]; omega), wipe_get, if_neg (fun z => nd2.1 z.1)]
        have : v < σ.length := by omega
        rw [List.getElem?_eq_getElem this]; rfl
      · rw [List.getElem?_set_ne hi, wipe_get, wipe_get]
        by_cases h2 : i ∈ vs ∧ i < σ.length
        · rw [if_pos h2, if_pos ⟨by simp [h2.1], h2.2⟩]
        · rw [if_neg h2, if_neg (fun z => h2 ⟨by
            rcases List.mem_cons.mp z.1 with q | q
            · exact absurd q.symm hi
            · exact q, z.2⟩)]
    obtain ⟨m1, eA⟩ := m.setV (i := v) (x := (σ[v]?).join) (.inl hv)
    rw [ew] at m1 eA
    obtain ⟨a, b⟩ := m0.backs (vs := vs) ok1 (fun w hw => hn w (by simp [hw])) hs m1 nd2.2
    have hb : (backE e0 e vs)[v]? = some none := backE_get_none hv nd2.1
    show Md T G H σ ((backE e0 e vs).set v (e0[v]?).join) τ u ∧ _
    cases h0 : e0[v]? with
    | none => rw [h0] at ok0; cases ok0
    | some y => cases y with
      | none =>
        have : (backE e0 e vs).set v none = backE e0 e vs := by
          obtain ⟨hi, e1⟩ := List.getElem?_eq_some_iff.mp hb
          rw [← e1]; exact List.set_getElem_self hi
        show Md T G H σ ((backE e0 e vs).set v none) τ u ∧ ∀ b, b ∈ As σ ((backE e0 e vs).set v (e0[v]?).join) τ u → _
        rw [h0]
        show Md T G H σ ((backE e0 e vs).set v none) τ u ∧ ∀ b, b ∈ As σ ((backE e0 e vs).set v none) τ u → _
        rw [this]
        exact ⟨a, fun x hx => by rw [← eA]; exact b x hx⟩
      | some s => cases s with
        | fr d =>
          obtain ⟨w, hw, r⟩ := m0.var h0
          cases r with
          | fr r =>
            obtain ⟨c, dd⟩ := a.putF hb hw (r.mono hs)
            refine ⟨c, fun x hx => ?_⟩
            rw [← eA]
            refine b x (dd x ?_)
            have hx' : x ∈ As σ ((backE e0 e vs).set v (e0[v]?).join) τ u := hx
            rw [h0] at hx'
            exact hx'
        | _ => rw [h0] at ok0; cases ok0
theorem sizeL' {n : Nat} (h : n < 16777216) : n < sizeLine := by rw [sizeLine_eq]; exact h
theorem tE_lc {W : WX} {it : En → Ou (List D)} {g : S → En → Fl} {t : En → Ou Bool} {m : En → Ou R} {vs : List Nat} (hg : GoG g) (nd : vs.Nodup) {Q : VK} : tE T W (bLc it g t m vs) σ H Q →
    tLc (tI T W it) (tG T WF (pC vs) g) (tB T WF t) (tE T WF m) vs σ H Q := by
  rintro ⟨G, e, τ, u, md, q⟩
  refine ⟨G, e, τ, u, md, ?_⟩
  unfold bLc at q
  cases hi : it e with
  | no => rw [hi] at q; exact q
  | ex x e1 => rw [hi] at q; exact q
  | ok ds e1 =>
    rw [hi] at q
    intro G1 H1 J ev1 md1 wk
    have q : Post T W G1 H1 σ (As σ e1 τ u) τ u (if okW e1 vs = true ∧ ds.length < 16777216 then (match lcL g t m vs ds (wipeE e1 vs) [] with | some (acc, e2) => .ok (.vl (.ol acc)) (backE e1 e2 vs) | none => .no) else .no) Q := Post.after q ev1
    split at q
    · rename_i hok
      cases hL : lcL g t m vs ds (wipeE e1 vs) [] with
      | none => rw [hL] at q; exact q.elim
      | some z =>
        obtain ⟨accF, eF⟩ := z
        rw [hL] at q
        intro Dd hD
        have hDA : ∀ {σ' : SV} {e' : En} {τ' : List V} {u' : List S} {G' H' : Hp}, Md T G' H' σ' e' τ' u' → H' Dd = none → Dd ∉ As σ' e' τ' u' := fun m' hn hc => by
          obtain ⟨_, o, ho⟩ := m'.sl.own Dd hc
          rw [hn] at ho; cases ho
        have lowV : ∀ v ∈ vs, v < e1.length := fun v hv => by
          have := hok.1
          unfold okW at this
          rw [List.all_eq_true] at this
          have h1 := this v hv
          cases h2 : e1[v]? with
          | none => rw [h2] at h1; cases h1
          | some _ => exact (List.getElem?_eq_some_iff.mp h2).1
        obtain ⟨mw, sw⟩ := md1.wipe vs
        have g1 : Grow G1 H1 G1 (upd H1 Dd (.lst [])) := .own md1.sl.sub hD
        refine ⟨fun i k H => ∃ (G : Hp) (e : En) (acc : List D) (xs : List V), k = ds.length - i ∧ i ≤ ds.length ∧ Evo T.tbs G1 H1 (As σ e1 τ u) G H (As (L2.wipe σ vs) e τ u) ∧ Md T G H (L2.wipe σ vs) e τ u ∧ (∀ v ∈ vs, e[v]? = some none) ∧
            H Dd = some (.lst xs) ∧ G Dd = none ∧ Dd ∉ As (L2.wipe σ vs) e τ u ∧ RepFs T G xs acc ∧ acc.length ≤ i ∧ lcL g t m vs (ds.drop i) e acc = some (accF, eF),
          ⟨ds.length, G1, wipeE e1 vs, [], [], by simp, Nat.zero_le _, ?_, mw.grow g1, fun v hv => ?_, upd_same, md1.sl.sub.none hD, hDA mw hD, .nil, Nat.le_refl _, by rw [List.drop_zero]; exact hL⟩, ?_⟩
        · exact ⟨g1.mono, fun b o h _ _ => g1.keep b o h, fun b hb => .inl (sw b hb), fun b o h => (g1.frz b o h).imp id fun z => .inr (.of z), g1.tabs _⟩
        · rw [wipeE_get, if_pos ⟨hv, lowV v hv⟩]
        · rintro i k H ⟨G, e, acc, xs, rfl, hle, ev, m0, hn, hHD, hGD, hDn, rf, hacc, hl⟩
          by_cases hlt : i < ds.length
          · have hd : ds[i]? = some ds[i] := List.getElem?_eq_getElem hlt
            obtain ⟨go, yl⟩ := wk.go i _ G H ev.mono m0.sl.sub hd
            refine .inr ⟨go, fun H' => ∃ (G : Hp) (e : En) (acc : List D) (xs : List V), Evo T.tbs G1 H1 (As σ e1 τ u) G H' (As (L2.wipe σ vs) e τ u) ∧ Md T G H' (L2.wipe σ vs) e τ u ∧ (∀ v ∈ vs, e[v]? = some none) ∧
                H' Dd = some (.lst xs) ∧ G Dd = none ∧ Dd ∉ As (L2.wipe σ vs) e τ u ∧ RepFs T G xs acc ∧ acc.length ≤ i + 1 ∧ lcL g t m vs (ds.drop (i + 1)) e acc = some (accF, eF),
              fun H' ⟨G, e, acc, xs, a1, a2, a3, a4, a5, a6, a7, a8, a9⟩ => ⟨ds.length - (i + 1), by omega, G, e, acc, xs, rfl, hlt, a1, a2, a3, a4, a5, a6, a7, a8, a9⟩, fun x H2 hy => ?_⟩
            obtain ⟨G2, gr, rx⟩ := yl x H2 hy
            have m2 := m0.grow gr
            rw [List.drop_eq_getElem_cons hlt] at hl
            have hl : (match g (.fr ds[i]) e with
              | .nx e1 => match t e1 with
                | .ok true e2 => match m e2 with
                  | .ok r e3 => match frz1 e3 r with
                    | some (x, e4) => lcL g t m vs (ds.drop (i + 1)) (wipeE e4 vs) (acc ++ [x])
                    | none => none
                  | _ => none
                | .ok false e2 => lcL g t m vs (ds.drop (i + 1)) (wipeE e2 vs) acc
                | _ => none
              | _ => none) = some (accF, eF) := hl
            -- facts about the new list that every step hands on
            have keepD : ∀ {Ga Ha Gb Hb : Hp} {Aa Ab : List Addr}, Evo T.tbs Ga Ha Aa Gb Hb Ab → Ha Dd = some (.lst xs) → Ga Dd = none → Dd ∉ Aa → Hb Dd = some (.lst xs) ∧ Gb Dd = none ∧ Dd ∉ Ab := fun {Ga Ha Gb Hb Aa Ab} ev h1 h2 h3 => by
              refine ⟨ev.keep _ _ h1 h3 Od.lst.1, ?_, fun hc => ?_⟩
              · cases hq : Gb Dd with
                | none => rfl
                | some o =>
                  rcases ev.frz _ _ hq with z | z | z
                  · rw [h2] at z; cases z
                  · exact absurd z h3
                  · exact (z.no h1 .lst).elim
              · rcases ev.own _ hc with z | z
                · exact h3 z
                · exact z.no h1 .lst
            have e2g : Evo T.tbs G H (As (L2.wipe σ vs) e τ u) G2 H2 (As (L2.wipe σ vs) e τ u) := gr.evo _
            obtain ⟨hHD2, hGD2, hDn2⟩ := keepD e2g hHD hGD hDn
            refine ⟨G2, e, .fr ds[i], m2.l1, ?_, ?_⟩
            · have := (m2.base.md.push (RepO.fr rx) (by rw [fp_fr]; simp)).sl
              simpa using this
            · have eA : fps (L2.wipe σ vs ++ [some x]) (e ++ [some (.fr ds[i])]) = fps (L2.wipe σ vs) e := by
                rw [fps_append _ _ m2.l1]
                show _ ++ (fp x (.fr ds[i]) ++ []) = _
                rw [fp_fr, List.append_nil, List.append_nil]
              rw [eA]
              rcases hg (.fr ds[i]) e with ⟨e3, h1⟩ | ⟨x3, e3, h1⟩ | h1
              · rw [h1] at hl ⊢
                simp only at hl
                intro σ3 G3 H3 ev3 sl3 l3 k3
                obtain ⟨m3, ev3'⟩ := m2.step ev3 sl3
                obtain ⟨hHD3, hGD3, hDn3⟩ := keepD ev3' hHD2 hGD2 hDn2
                have hw : L2.wipe σ3 vs = L2.wipe σ vs := by
                  have := wipe_ext (vs := vs) l3 fun j hj => k3 j (by simp [pC, hj])
                  rw [this, wipe_idem]
                refine ⟨hw, G3, e3, τ, u, m3, ?_⟩
                have evA := (ev.trans e2g).trans ev3'
                cases ht : t e3 with
                | no => rw [ht] at hl; cases hl
                | ex x4 e4 => rw [ht] at hl; cases hl
                | ok k e4 =>
                  intro G4 H4 ev4 m4
                  obtain ⟨hHD4, hGD4, hDn4⟩ := keepD ev4 hHD3 hGD3 hDn3
                  have evB := evA.trans ev4
                  -- the turn's end
                  have fin : ∀ {Ga Ha : Hp} {ea : En} {σa : SV}, L2.wipe σa vs = L2.wipe σ vs → Md T Ga Ha σa ea τ u → Evo T.tbs G1 H1 (As σ e1 τ u) Ga Ha (As σa ea τ u) → Dd ∉ As σa ea τ u → σa.length = σ.length →
                      Md T Ga Ha (L2.wipe σ vs) (wipeE ea vs) τ u ∧ Evo T.tbs G1 H1 (As σ e1 τ u) Ga Ha (As (L2.wipe σ vs) (wipeE ea vs) τ u) ∧ (∀ v ∈ vs, (wipeE ea vs)[v]? = some none) ∧ Dd ∉ As (L2.wipe σ vs) (wipeE ea vs) τ u := fun {Ga Ha ea σa} hwa ma eva hda hla => by
                    obtain ⟨mw2, sw2⟩ := ma.wipe vs
                    rw [hwa] at mw2 sw2
                    refine ⟨mw2, eva.less sw2, fun v hv => ?_, fun hc => hda (sw2 _ hc)⟩
                    have h1 := lowV v hv
                    have h2 := md1.l1
                    have h3 := ma.l1
                    rw [wipeE_get, if_pos ⟨hv, by omega⟩]
                  have hl3 : σ3.length = σ.length := by rw [l3, wipe_length]
                  cases k with
                  | false =>
                    rw [ht] at hl
                    rw [if_neg Bool.false_ne_true]
                    obtain ⟨a1, a2, a3, a4⟩ := fin hw m4 evB hDn4 hl3
                    exact ⟨G4, wipeE e4 vs, acc, xs, a2, a1, a3, hHD4, hGD4, a4, rf.mono ((e2g.mono.trans ev3'.mono).trans ev4.mono), by omega, hl⟩
                  | true =>
                    rw [ht] at hl
                    simp only at hl
                    rw [if_pos rfl]
                    refine ⟨G4, e4, τ, u, m4, ?_⟩
                    cases hm : m e4 with
                    | no => rw [hm] at hl; cases hl
                    | ex x5 e5 => rw [hm] at hl; cases hl
                    | ok r e5 =>
                      rw [hm] at hl
                      simp only at hl
                      cases hf : frz1 e5 r with
                      | none => rw [hf] at hl; cases hl
                      | some z5 =>
                        obtain ⟨y, e6⟩ := z5
                        rw [hf] at hl
                        simp only at hl
                        intro G5 H5 v5 τ5 u5 ev5 m5 hr5
                        obtain ⟨G6, ev6, m6, ry⟩ := frz1_ok m5 md.l2 hr5 hf
                        have ev56 := ev5.trans ev6
                        obtain ⟨hHD6, hGD6, hDn6⟩ := keepD ev56 hHD4 hGD4 hDn4
                        refine ⟨xs, hHD6, sizeL' ?_, ?_⟩
                        · rw [rf.length]; have := hok.2; omega
                        · obtain ⟨a1, a2, a3, a4⟩ := fin hw m6 (evB.trans ev56) hDn6 hl3
                          refine ⟨G6, wipeE e6 vs, acc ++ [y], xs ++ [v5], ?_, a1.updAt (fun o z => by rw [hHD6] at z; cases z; exact .lst) a4 hGD6, a3, upd_same, hGD6, a4, (rf.mono (((e2g.mono.trans ev3'.mono).trans ev4.mono).trans ev56.mono)).append (.cons ry .nil), by simp; omega, hl⟩
                          refine ⟨a2.mono, fun b o hb hnb hnt => ?_, a2.own, a2.frz, fun h => ⟨tabs_upd (fun o z => by rw [hHD6] at z; cases z; exact .lst) _ (a2.tab h).1, (a2.tab h).2⟩⟩
                          rw [upd_ne (fun z => by rw [z, hD] at hb; cases hb)]
                          exact a2.keep b o hb hnb hnt
              · rw [h1] at hl; cases hl
              · rw [h1] at hl; cases hl
          · have hie : i = ds.length := by omega
            subst hie
            refine .inl ⟨wk.stop _ G H ev.mono m0.sl.sub (Nat.le_refl _), ?_⟩
            rw [List.drop_length] at hl
            have hl : some (acc, e) = some (accF, eF) := hl
            cases hl
            obtain ⟨mB, sB⟩ := md1.backs hok.1 hn ev.mono m0 nd
            have ro : RepO T G H (.ref Dd) (.ol accF) := .ol hHD hGD rf
            have own : ∀ b ∈ fp (.ref Dd) (.ol accF), b ∉ As σ (backE e1 eF vs) τ u := fun b hb hc => by
              have : b = Dd := by simpa [fp] using hb
              subst this
              exact hDn (sB _ hc)
            refine q G H (.ref Dd) [.ref Dd] [.ol accF] ⟨ev.mono, ev.keep, fun b hb => ?_, ev.frz, ev.tab⟩ (mB.push ro own) (.vl .nil)
            rcases (As_push mB.l1 mB.l2 b).mp hb with z | z
            · exact ev.own b (sB b z)
            · have : b = Dd := by simpa [fp] using z
              rw [this]; exact .inr (.of hD)
    · exact q.elim
end
end Fv

namespace Fv
open PySem PySem.Spec PyProof.Rows L2

/-! ### built-ins -/
section
variable {X : Cx}
theorem call_divmodG : CallR X (.builtin "divmod") (fun xs H Q => ∃ i j, xs = [.int i, .int j] ∧ CDivG i j ∧ NewT Q H [.int (i.fdiv j), .int (i.fmod j)]) := by
  intro pins s σ H xs us Q I r h
  obtain ⟨i, j, rfl, ⟨h1, h2⟩, q⟩ := h
  obtain ⟨u, w', rfl, ⟨t, rfl⟩, ⟨t', rfl⟩⟩ := vals2 r
  refine divmod_int h1 ?_ (.inl h2)
  have hn : H s.heap.objs.size = none := I.hok.fresh (Nat.le_refl _)
  refine ⟨.ref s.heap.objs.size, _, ?_, rfl, q _ #[.int (i.fdiv j) s.toks, .int (i.fmod j) (s.toks + 1)] hn⟩
  refine I.laid (fun b o e => Heap.get?_push_of_some _ e) (Nat.le_refl _) ⟨Heap.get?_push_size s.heap rfl, by simp only [List.length_cons, List.length_nil]; rw [sizeLine_eq]; decide, [.int (i.fdiv j) s.toks, .int (i.fmod j) (s.toks + 1)], .cons ⟨_, rfl⟩ (.cons ⟨_, rfl⟩ .nil), ?_⟩
  exact ⟨_, Heap.get?_push_size s.heap rfl, rfl, 0, rfl⟩
end
def intsD : List D → Option (List Int)
  | [] => some []
  | .int i :: ds => (intsD ds).map (i :: ·)
  | _ => none
def boolsD : List D → Option (List Bool)
  | [] => some []
  | .bl i :: ds => (boolsD ds).map (i :: ·)
  | _ => none
def maxL : List Int → Option Int
  | [] => none
  | i :: is => some (is.foldl max i)
def minL : List Int → Option Int
  | [] => none
  | i :: is => some (is.foldl min i)
def dLen : List D → Option S
  | [.lst xs] => some (.fr (.int xs.length))
  | [.tup xs] => some (.fr (.int xs.length))
  | [.str x] => if x.length ≤ 16777216 then some (.fr (.int x.length)) else none
  | _ => none
def dAbs : List D → Option S
  | [.int i] => some (.fr (.int (if i < 0 then -i else i)))
  | _ => none
def dMax : List D → Option S
  | [.int i, .int j] => some (.fr (.int (if j > i then j else i)))
  | [.lst xs] => (intsD xs).bind fun is => (maxL is).map fun i => .fr (.int i)
  | _ => none
def dMin : List D → Option S
  | [.int i, .int j] => some (.fr (.int (if j < i then j else i)))
  | [.lst xs] => (intsD xs).bind fun is => (minL is).map fun i => .fr (.int i)
  | _ => none
def dInt : List D → Option S
  | [.int i] => some (.fr (.int i))
  | [.bl b] => some (.fr (.int (if b then 1 else 0)))
  | _ => none
def dDivmod : List D → Option S
  | [.int i, .int j] => if j = 0 then none else if Builtin.divisionGoesByPylong i j then none else some (.fr (.tup [.int (if 0 < j then i / j else i.fdiv j), .int (if 0 < j then i % j else i.fmod j)]))
  | _ => none
def dList : List D → Option S
  | [.lst xs] => some (.ol xs)
  | [.tup xs] => some (.ol xs)
  | _ => none
def dTuple : List D → Option S
  | [.lst xs] => some (.fr (.tup xs))
  | [.tup xs] => some (.fr (.tup xs))
  | _ => none
def dSum : List D → Option S
  | [.lst xs] => (intsD xs).map fun is => .fr (.int is.sum)
  | _ => none
def dAll : List D → Option S
  | [.lst xs] => (boolsD xs).map fun is => .fr (.bl (is.all id))
  | _ => none
def dAny : List D → Option S
  | [.lst xs] => (boolsD xs).map fun is => .fr (.bl (is.any id))
  | _ => none
def D.tyN : D → Option String
  | .non => some "NoneType"
  | .bl _ => some "bool"
  | .int _ => some "int"
  | .str _ => some "str"
  | .tup _ => some "tuple"
  | .lst _ => some "list"
  | .dic _ _ => some "dict"
  | _ => none
def isiL (t : String) : List D → Option Bool
  | [] => some false
  | .ty n :: ds => match kitB t n, isiL t ds with
    | some b, some r => some (b || r)
    | _, _ => none
  | _ => none
def dIsi : List D → Option S
  | [d, .ty n] => d.tyN.bind fun t => (kitB t n).map fun b => .fr (.bl b)
  | [d, .tup ts] => d.tyN.bind fun t => (isiL t ts).map fun b => .fr (.bl b)
  | _ => none
section
variable {T : Tb} {G H : Hp}
theorem intsD_rep : ∀ {ds : List D} {vs : List V} {is : List Int}, RepFs T G vs ds → intsD ds = some is → vs = is.map V.int
  | _, _, is, .nil, h => by cases h; rfl
  | _, _, is, .cons (d := d) r rs, h => by
    cases d <;> try (simp [intsD] at h; done)
    rename_i i
    simp [intsD] at h
    obtain ⟨js, h1, rfl⟩ := h
    cases r
    rw [intsD_rep rs h1]; rfl
theorem boolsD_rep : ∀ {ds : List D} {vs : List V} {is : List Bool}, RepFs T G vs ds → boolsD ds = some is → vs = is.map V.bl
  | _, _, is, .nil, h => by cases h; rfl
  | _, _, is, .cons (d := d) r rs, h => by
    cases d <;> try (simp [boolsD] at h; done)
    rename_i i
    simp [boolsD] at h
    obtain ⟨js, h1, rfl⟩ := h
    cases r
    rw [boolsD_rep rs h1]; rfl
theorem fo_len (X : Cx) (hK : T.K = X.K) : FunOk T (fun xs H Q => ∃ x n, xs = [x] ∧ LenV X.K x H n ∧ Q (.int n) H) dLen := fun G H vs ss s Q hs r h k => by
  rw [← hK]
  unfold dLen at h
  split at h
  · rename_i xs heq
    cases h
    obtain ⟨v, s1, rfl, r1, e1⟩ := repOs1 r heq
    obtain ⟨a, as, rfl, q1, k1⟩ := r1.lst hs e1
    exact ⟨_, as.length, rfl, .inl ⟨as, q1, rfl⟩, by rw [k1.length]; exact done_fr (W := True) hs k (.int _)⟩
  · rename_i xs heq
    cases h
    obtain ⟨v, s1, rfl, r1, e1⟩ := repOs1 r heq
    obtain ⟨a, as, rfl, q1, _, k1⟩ := r1.tup hs e1
    exact ⟨_, as.length, rfl, .inr ⟨as, q1, rfl⟩, by rw [k1.length]; exact done_fr (W := True) hs k (.int _)⟩
  · rename_i x heq
    split at h
    · rename_i hz
      cases h
      obtain ⟨v, s1, rfl, r1, e1⟩ := repOs1 r heq
      obtain rfl := r1.str e1
      exact ⟨_, x.length, rfl, ⟨sizeL hz, rfl⟩, done_fr (W := True) hs k (.int _)⟩
    · cases h
  · cases h
theorem fo_abs : FunOk T (fun xs H Q => ∃ i, xs = [.int i] ∧ Q (.int (if i < 0 then -i else i)) H) dAbs := fun G H vs ss s Q hs r h k => by
  unfold dAbs at h
  split at h
  · rename_i i heq
    cases h
    obtain ⟨v, s1, rfl, r1, e1⟩ := repOs1 r heq
    obtain rfl := r1.int e1
    exact ⟨i, rfl, done_fr (W := True) hs k (.int _)⟩
  · cases h
theorem foldl_max_le : ∀ (is : List Int) (i : Int), i ≤ is.foldl max i ∧ (∀ y ∈ is, y ≤ is.foldl max i) ∧ (is.foldl max i = i ∨ is.foldl max i ∈ is)
  | [], i => ⟨Int.le_refl _, by simp, .inl rfl⟩
  | j :: is, i => by
    obtain ⟨a, b, c⟩ := foldl_max_le is (max i j)
    simp only [List.foldl_cons]
    refine ⟨by omega, fun y hy => ?_, ?_⟩
    · rcases List.mem_cons.mp hy with rfl | hy
      · omega
      · exact b y hy
    · rcases c with c | c
      · rw [c]
        rcases Int.le_total i j with h | h
        · right; rw [Int.max_eq_right h]; simp
        · left; exact Int.max_eq_left h
      · exact .inr (by simp [c])
theorem foldl_min_le : ∀ (is : List Int) (i : Int), is.foldl min i ≤ i ∧ (∀ y ∈ is, is.foldl min i ≤ y) ∧ (is.foldl min i = i ∨ is.foldl min i ∈ is)
  | [], i => ⟨Int.le_refl _, by simp, .inl rfl⟩
  | j :: is, i => by
    obtain ⟨a, b, c⟩ := foldl_min_le is (min i j)
    simp only [List.foldl_cons]
    refine ⟨by omega, fun y hy => ?_, ?_⟩
    · rcases List.mem_cons.mp hy with rfl | hy
      · omega
      · exact b y hy
    · rcases c with c | c
      · rw [c]
        rcases Int.le_total i j with h | h
        · left; exact Int.min_eq_left h
        · right; rw [Int.min_eq_right h]; simp
      · exact .inr (by simp [c])
def rMaxA (K : PySem.W.Frag) : List V → Hp → VK → Prop := fun xs H Q => (∃ i j, xs = [.int i, .int j] ∧ Q (.int (if j > i then j else i)) H) ∨ rMax K xs H Q
def rMinA (K : PySem.W.Frag) : List V → Hp → VK → Prop := fun xs H Q => (∃ i j, xs = [.int i, .int j] ∧ Q (.int (if j < i then j else i)) H) ∨ rMin K xs H Q
theorem call_maxA {X : Cx} (hc : X.calm = true) : CallR X (.builtin "max") (rMaxA X.K) := (call_max2 hc).or (cr_max hc)
theorem call_minA {X : Cx} (hc : X.calm = true) : CallR X (.builtin "min") (rMinA X.K) := (call_min2 hc).or (cr_min hc)
theorem fo_max : FunOk T (rMaxA T.K) dMax := fun G H vs ss s Q hs r h k => by
  unfold dMax at h
  split at h
  · rename_i i j heq
    cases h
    obtain ⟨v, w, s1, s2, rfl, r1, r2, e1, e2⟩ := repOs2 r heq
    obtain rfl := r1.int e1
    obtain rfl := r2.int e2
    exact .inl ⟨i, j, rfl, done_fr (W := True) hs k (.int _)⟩
  · rename_i xs heq
    obtain ⟨v, s1, rfl, r1, e1⟩ := repOs1 r heq
    obtain ⟨a, as, rfl, q1, k1⟩ := r1.lst hs e1
    cases hi : intsD xs with
    | none => rw [hi] at h; cases h
    | some is =>
      rw [hi] at h
      obtain rfl := intsD_rep k1 hi
      cases is with
      | nil => cases h
      | cons i is =>
        have h : some (S.fr (.int (is.foldl max i))) = some s := h
        cases h
        refine .inr ⟨a, i :: is, rfl, q1, by simp, fun m hm hle => ?_⟩
        obtain ⟨a1, a2, a3⟩ := foldl_max_le is i
        have e : m = is.foldl max i := by
          have h1 : is.foldl max i ≤ m := by
            rcases a3 with z | z
            · rw [z]; exact hle _ (by simp)
            · exact hle _ (by simp [z])
          have h2 : m ≤ is.foldl max i := by
            rcases List.mem_cons.mp hm with rfl | hm
            · exact a1
            · exact a2 m hm
          omega
        rw [e]
        exact done_fr (W := True) hs k (.int _)
  · cases h
theorem fo_min : FunOk T (rMinA T.K) dMin := fun G H vs ss s Q hs r h k => by
  unfold dMin at h
  split at h
  · rename_i i j heq
    cases h
    obtain ⟨v, w, s1, s2, rfl, r1, r2, e1, e2⟩ := repOs2 r heq
    obtain rfl := r1.int e1
    obtain rfl := r2.int e2
    exact .inl ⟨i, j, rfl, done_fr (W := True) hs k (.int _)⟩
  · rename_i xs heq
    obtain ⟨v, s1, rfl, r1, e1⟩ := repOs1 r heq
    obtain ⟨a, as, rfl, q1, k1⟩ := r1.lst hs e1
    cases hi : intsD xs with
    | none => rw [hi] at h; cases h
    | some is =>
      rw [hi] at h
      obtain rfl := intsD_rep k1 hi
      cases is with
      | nil => cases h
      | cons i is =>
        have h : some (S.fr (.int (is.foldl min i))) = some s := h
        cases h
        refine .inr ⟨a, i :: is, rfl, q1, by simp, fun m hm hle => ?_⟩
        obtain ⟨a1, a2, a3⟩ := foldl_min_le is i
        have e : m = is.foldl min i := by
          have h1 : m ≤ is.foldl min i := by
            rcases a3 with z | z
            · rw [z]; exact hle _ (by simp)
            · exact hle _ (by simp [z])
          have h2 : is.foldl min i ≤ m := by
            rcases List.mem_cons.mp hm with rfl | hm
            · exact a1
            · exact a2 m hm
          omega
        rw [e]
        exact done_fr (W := True) hs k (.int _)
  · cases h
theorem fo_int : FunOk T (fun xs H Q => (∃ i, xs = [.int i] ∧ Q (.int i) H) ∨ ∃ k, xs = [.bl k] ∧ Q (.int (if k then 1 else 0)) H) dInt := fun G H vs ss s Q hs r h k => by
  unfold dInt at h
  split at h
  · rename_i i heq
    cases h
    obtain ⟨v, s1, rfl, r1, e1⟩ := repOs1 r heq
    obtain rfl := r1.int e1
    exact .inl ⟨i, rfl, done_fr (W := True) hs k (.int _)⟩
  · rename_i i heq
    cases h
    obtain ⟨v, s1, rfl, r1, e1⟩ := repOs1 r heq
    obtain rfl := r1.bl e1
    exact .inr ⟨i, rfl, done_fr (W := True) hs k (.int _)⟩
  · cases h
theorem fo_divmod : FunOk T (fun xs H Q => ∃ i j, xs = [.int i, .int j] ∧ CDivG i j ∧ NewT Q H [.int (i.fdiv j), .int (i.fmod j)]) dDivmod := fun G H vs ss s Q hs r h k => by
  unfold dDivmod at h
  split at h
  · rename_i i j heq
    split at h
    · cases h
    · rename_i hj
      split at h
      · cases h
      · rename_i hp
        cases h
        obtain ⟨v, w, s1, s2, rfl, r1, r2, e1, e2⟩ := repOs2 r heq
        obtain rfl := r1.int e1
        obtain rfl := r2.int e2
        refine ⟨i, j, rfl, ⟨hj, by simpa using hp⟩, fun p its hp => ?_⟩
        have e1 : i.fdiv j = if 0 < j then i / j else i.fdiv j := by
          split
          · rw [Int.fdiv_eq_ediv_of_nonneg i (by omega)]
          · rfl
        have e2 : i.fmod j = if 0 < j then i % j else i.fmod j := by
          split
          · rw [Int.fmod_eq_emod_of_nonneg i (by omega)]
          · rfl
        exact done_tup hs k (.cons (by rw [← e1]; exact .int _) (.cons (by rw [← e2]; exact .int _) .nil)) p its hp
  · cases h
theorem fo_list (X : Cx) (hK : T.K = X.K) : FunOk T (fun xs H Q => ∃ p ys, xs = [.ref p] ∧ (SqL X.K H p ys ∨ SqT X.K H p ys) ∧ ∀ l, H l = none → Q (.ref l) (upd H l (.lst ys))) dList := fun G H vs ss s Q hs r h k => by
  rw [← hK]
  unfold dList at h
  split at h
  · rename_i xs heq
    cases h
    obtain ⟨v, s1, rfl, r1, e1⟩ := repOs1 r heq
    obtain ⟨a, as, rfl, q1, k1⟩ := r1.lst hs e1
    exact ⟨a, as, rfl, .inl q1, fun p hp => done_ol hs k k1 hp⟩
  · rename_i xs heq
    cases h
    obtain ⟨v, s1, rfl, r1, e1⟩ := repOs1 r heq
    obtain ⟨a, as, rfl, q1, _, k1⟩ := r1.tup hs e1
    exact ⟨a, as, rfl, .inr q1, fun p hp => done_ol hs k k1 hp⟩
  · cases h
/-- tuple(x), x a list or a tuple -/
def rTupB (K : PySem.W.Frag) : List V → Hp → VK → Prop := fun xs H Q => ∃ p ys, xs = [.ref p] ∧ ((SqL K H p ys ∧ NewT Q H ys) ∨ (SqT K H p ys ∧ Q (.ref p) H))
theorem call_tupB {X : Cx} : CallR X (.type "tuple") (rTupB X.K) := by
  rintro pins s σ H xs us Q I r ⟨p, ys, rfl, h⟩
  rcases h with ⟨hq, q⟩ | ⟨hq, q⟩
  · obtain ⟨u, rfl, rx⟩ := vals1 r
    cases rx
    obtain ⟨its, ri, pl, hz⟩ := I.list hq
    have le := ri.length
    exact call_tuple_list pl.isList (fun h' kp => ⟨.ref h'.objs.size, _, tupN (I.kept (t' := s.toks) kp) ri hz, rfl, q _ _ ((I.kept (t' := s.toks) kp).hok.fresh (Nat.le_refl _))⟩) (by rw [List.size_toArray]; omega)
  · exact call_tuple_of pins s σ H _ us Q I r ⟨p, ys, rfl, .inr ⟨hq, q⟩⟩
theorem fo_tuple (X : Cx) (hK : T.K = X.K) : FunOk T (rTupB X.K) dTuple := fun G H vs ss s Q hs r h k => by
  rw [← hK]
  unfold dTuple at h
  split at h
  · rename_i xs heq
    cases h
    obtain ⟨v, s1, rfl, r1, e1⟩ := repOs1 r heq
    obtain ⟨a, as, rfl, q1, k1⟩ := r1.lst hs e1
    exact ⟨a, as, rfl, .inl ⟨q1, done_tup hs k k1⟩⟩
  · rename_i xs heq
    cases h
    obtain ⟨v, s1, rfl, r1, e1⟩ := repOs1 r heq
    obtain ⟨a, as, rfl, q1, t1, k1⟩ := r1.tup hs e1
    exact ⟨a, as, rfl, .inr ⟨q1, done_fr (W := True) hs k (.tup t1 k1)⟩⟩
  · cases h
theorem fo_sum : FunOk T (rSum T.K) dSum := fun G H vs ss s Q hs r h k => by
  unfold dSum at h
  split at h
  · rename_i xs heq
    obtain ⟨v, s1, rfl, r1, e1⟩ := repOs1 r heq
    obtain ⟨a, as, rfl, q1, k1⟩ := r1.lst hs e1
    cases hi : intsD xs with
    | none => rw [hi] at h; cases h
    | some is =>
      rw [hi] at h; cases h
      obtain rfl := intsD_rep k1 hi
      exact ⟨a, is, rfl, q1, done_fr (W := True) hs k (.int _)⟩
  · cases h
theorem fo_all : FunOk T (rAll T.K) dAll := fun G H vs ss s Q hs r h k => by
  unfold dAll at h
  split at h
  · rename_i xs heq
    obtain ⟨v, s1, rfl, r1, e1⟩ := repOs1 r heq
    obtain ⟨a, as, rfl, q1, k1⟩ := r1.lst hs e1
    cases hi : boolsD xs with
    | none => rw [hi] at h; cases h
    | some is =>
      rw [hi] at h; cases h
      obtain rfl := boolsD_rep k1 hi
      exact ⟨a, is, rfl, q1, done_fr (W := True) hs k (.bl _)⟩
  · cases h
theorem fo_any : FunOk T (rAny T.K) dAny := fun G H vs ss s Q hs r h k => by
  unfold dAny at h
  split at h
  · rename_i xs heq
    obtain ⟨v, s1, rfl, r1, e1⟩ := repOs1 r heq
    obtain ⟨a, as, rfl, q1, k1⟩ := r1.lst hs e1
    cases hi : boolsD xs with
    | none => rw [hi] at h; cases h
    | some is =>
      rw [hi] at h; cases h
      obtain rfl := boolsD_rep k1 hi
      exact ⟨a, is, rfl, q1, done_fr (W := True) hs k (.bl _)⟩
  · cases h
theorem RepO.tyX {v : V} {s : S} {t : String} (r : RepO T G H v s) (hs : Sub G H) (h : s.d.tyN = some t) : TyX T.K H v (.type t) := by
  have rdL : ∀ {a : Addr} {xs : List V}, SqL T.K H a xs → TyX T.K H (.ref a) (.type "list") := fun {a xs} q => by
    rcases q with (q | ⟨o, q⟩) | ⟨o, its, n, q, c, _⟩
    · exact .base (.lst q)
    · exact .base (.frz q)
    · exact .kList q c
  have rdT : ∀ {a : Addr} {xs : List V}, TupAt T.K H a xs → TyX T.K H (.ref a) (.type "tuple") := fun {a xs} q => by
    rcases q with ⟨its, q⟩ | ⟨o, its, n, q, c, _⟩
    · exact .fTuple q
    · exact .kTuple q c
  cases r with
  | fr q =>
    cases q <;> simp [S.d, D.tyN] at h <;> subst h
    · exact .base .non
    · exact .base (.bl _)
    · exact .base (.int _)
    · exact .base (.str _)
    · rename_i q1 _; exact rdT (hs.tupAt q1)
    · rename_i q1 _; exact rdL (hs.sqL q1)
    · rename_i q1 _ _; exact .base (.dK (hs _ _ q1))
  | ol h1 _ _ => simp [S.d, D.tyN] at h; subst h; exact .base (.lst h1)
  | od h1 _ _ _ => simp [S.d, D.tyN] at h; subst h; exact .base (.dK h1)
  | oi _ _ _ _ => simp [S.d, D.tyN] at h
/-- isinstance(x, (c1, c2, ..)), the tuple made here -/
def rIsiF (K : PySem.W.Frag) : List V → Hp → VK → Prop := fun xs H Q => ∃ (x : V) (tp : Addr) (i0 : Array Value) (cs : List V) (t : Value) (us : List Value) (b : Bool), xs = [x, .ref tp] ∧ H tp = some (tbO i0 cs) ∧ Paired ClsV cs us ∧ TyX K H x t ∧ PySem.W.kitAny K t us = some b ∧ Q (.bl b) H
theorem call_isiF {X : Cx} : CallR X (.builtin "isinstance") (rIsiF X.K) := by
  rintro pins s σ H xs us Q I r ⟨x, tp, i0, cs, t, ws, b, rfl, hT, k, ty, e, q⟩
  obtain ⟨u1, u2, rfl, r1, r2⟩ := vals2 r
  cases (show u2 = Value.ref tp from r2)
  obtain ⟨P, Z, p, hx⟩ := kit_of I r1 ty
  obtain ⟨_, _, its, rv, ⟨oc, od, dt, sl⟩, h1, h2, n, h3⟩ := (show ObjOk X.prog X.w H s.heap tp (tbO i0 cs) from I.hok tp _ hT)
  cases ClsV.all k rv
  simp only at h2 h3
  subst h2 h3
  exact PySem.W.kia_tup Z I.kIn p h1 e hx fun tk => ⟨.bl b, H, I.tok tk, rfl, q⟩
def rIsiA (K : PySem.W.Frag) : List V → Hp → VK → Prop := fun xs H Q => (rIsi K xs H Q ∨ rIsiF K xs H Q) ∨ rIsiK K xs H Q
theorem call_isiA {X : Cx} : CallR X (.builtin "isinstance") (rIsiA X.K) := (call_isi.or call_isiF).or call_isiK
theorem isiL_ok {t : String} : ∀ {ts : List D} {vs : List V} {b : Bool}, RepFs T G vs ts → isiL t ts = some b → ∃ us, Paired ClsV vs us ∧ PySem.W.kitAny T.K (.type t) us = some b
  | _, _, b, .nil, h => by cases h; exact ⟨[], .nil, rfl⟩
  | _, _, b, .cons (d := d) r rs, h => by
    cases d <;> try (simp [isiL] at h; done)
    rename_i n
    cases r
    unfold isiL at h
    cases hk : kitB t n with
    | none => rw [hk] at h; cases h
    | some c =>
      rw [hk] at h
      cases hl : isiL t _ with
      | none => rw [hl] at h; cases h
      | some r =>
        rw [hl] at h
        cases h
        obtain ⟨us, p, q⟩ := isiL_ok rs hl
        exact ⟨_, .cons (.ty n) p, kitAny_cons (kit_ty hk) (fun z => by subst z; simpa using q) (fun z => by subst z; rfl)⟩
theorem RepO.ty {v : V} {s : S} {n : String} (r : RepO T G H v s) (h : s.d = .ty n) : v = .ty n := by
  cases r <;> simp [S.d] at h
  subst h; rename_i q; cases q; rfl
theorem fo_isi : FunOk T (rIsiA T.K) dIsi := fun G H vs ss s Q hs r h k => by
  unfold dIsi at h
  split at h
  · rename_i d n heq
    cases ht : d.tyN with
    | none => rw [ht] at h; cases h
    | some t =>
      rw [ht] at h
      cases hk : kitB t n with
      | none => simp [hk] at h
      | some b =>
        simp [hk] at h
        subst h
        obtain ⟨v, w, s1, s2, rfl, r1, r2, e1, e2⟩ := repOs2 r heq
        obtain rfl := r2.ty e2
        exact .inl (.inl ⟨_, _, _, _, b, rfl, .ty n, r1.tyX hs (by rw [e1]; exact ht), kit_ty hk, done_fr (W := True) hs k (.bl _)⟩)
  · rename_i d ts heq
    cases ht : d.tyN with
    | none => rw [ht] at h; cases h
    | some t =>
      rw [ht] at h
      cases hk : isiL t ts with
      | none => simp [hk] at h
      | some b =>
        simp [hk] at h
        subst h
        obtain ⟨v, w, s1, s2, rfl, r1, r2, e1, e2⟩ := repOs2 r heq
        obtain ⟨a, as, rfl, _, t1, k1⟩ := r2.tup hs e2
        obtain ⟨us, p, q⟩ := isiL_ok k1 hk
        rcases t1 with ⟨it0, t1⟩ | ⟨⟨oc, od, dt, sl⟩, its, n, q1, c1, _, d1, _, vv⟩
        · exact .inl (.inr ⟨_, _, _, _, _, us, b, rfl, hs _ _ t1, p, r1.tyX hs (by rw [e1]; exact ht), q, done_fr (W := True) hs k (.bl _)⟩)
        · simp only at c1 d1
          subst c1 d1
          have e3 := ClsV.all p vv
          subst e3
          exact .inr ⟨_, _, _, its.toList, n, _, _, b, rfl, by simpa using q1, r1.tyX hs (by rw [e1]; exact ht), q, done_fr (W := True) hs k (.bl _)⟩
  · cases h
end
end Fv

namespace Fv
open PySem PySem.Spec PyProof.Rows L2
/-! ### a list of one's own, written -/
section
variable {T : Tb} {G H : Hp} {σ : SV} {e : En} {τ : List V} {u : List S} {a : Addr} {s : S}
theorem Sl.wrG (x : Sl T G H σ e) {i : Nat} {a : Addr} {s s' : S} {o' : HO} (he : e[i]? = some (some s)) (hv : σ[i]? = some (some (.ref a))) (hf0 : a ∈ fp (.ref a) s) (r : RepO T G (upd H a o') (.ref a) s') (hf : ∀ b ∈ fp (.ref a) s', b = a) :
    Sl T G (upd H a o') σ (e.set i (some s')) ∧ Evo T.tbs G H (fps σ e) G (upd H a o') (fps σ (e.set i (some s'))) := by
  have hi : i < e.length := (List.getElem?_eq_some_iff.mp he).1
  have hset : σ.set i (some (.ref a)) = σ := by
    obtain ⟨hl, e1⟩ := List.getElem?_eq_some_iff.mp hv
    rw [← e1]; exact List.set_getElem_self hl
  have ha : a ∈ fps σ e := mem_fps hv he hf0
  have hG : G a = none := (x.own a ha).1
  have hout : a ∉ fps σ (e.set i none) := fun hc => by
    have := (fps_out hv he).nodup_iff.mp x.nd
    exact (List.nodup_append.mp this).2.2 a hf0 a hc rfl
  have sub : Sub G (upd H a o') := fun b o q => by
    rw [upd_ne (ne_of_none q hG)]
    exact x.sub b o q
  have keep : ∀ b o, H b = some o → b ∉ [a] → (upd H a o') b = some o := fun b o q n => by
    rw [upd_ne (by simpa using n)]; exact q
  have ta : TabG T.tbs G H → TabG T.tbs G (upd H a o') := fun h => ⟨tabs_upd (fun o q => x.od a ha o q) _ h.1, h.2⟩
  have f : Sl T G (upd H a o') σ (e.set i none) := (x.out i).frame (A := [a]) (A' := []) ⟨.refl _, fun b o q n _ => keep b o q n, fun _ h => absurd h (by simp), fun _ _ h => .inl h, ta⟩ sub fun b hb hc => by
    simp at hc; subst hc; exact hout hb
  have g := f.put hi r fun b hb => by
    have := hf b hb; subst this; exact hout
  rw [hset] at g
  refine ⟨g, .refl _, fun b o q n _ => keep b o q fun hc => ?_, fun b hb => ?_, fun _ _ h => .inl h, ta⟩
  · simp at hc; subst hc; exact n ha
  · have hb' : b ∈ fps (σ.set i (some (.ref a))) (e.set i (some s')) := by rw [hset]; exact hb
    rcases (fps_set_mem hi x.len b).mp hb' with z | z
    · have := hf b z; subst this; exact .inl ha
    · exact .inl (fps_sub b z)
theorem Md.wrG (m : Md T G H σ e τ u) {i : Nat} {a : Addr} {s s' : S} {o' : HO} (he : e[i]? = some (some s)) (hv : σ[i]? = some (some (.ref a))) (hf0 : a ∈ fp (.ref a) s) (r : RepO T G (upd H a o') (.ref a) s') (hf : ∀ b ∈ fp (.ref a) s', b = a) :
    Md T G (upd H a o') σ (e.set i (some s')) τ u ∧ Evo T.tbs G H (As σ e τ u) G (upd H a o') (As σ (e.set i (some s')) τ u) := by
  have hi : i < e.length := (List.getElem?_eq_some_iff.mp he).1
  have he' : (e ++ u.map some)[i]? = some (some s) := by rw [List.getElem?_append_left hi]; exact he
  have hv' : (σ ++ τ.map some)[i]? = some (some (.ref a)) := by rw [List.getElem?_append_left (by rw [m.l1]; exact hi)]; exact hv
  obtain ⟨p, q⟩ := m.sl.wrG he' hv' hf0 r hf
  rw [List.set_append_left _ _ hi] at p q
  exact ⟨⟨by rw [List.length_set]; exact m.l1, m.l2, p⟩, q⟩
/-- the last of what was reckoned -/
theorem Md.wrT (m : Md T G H σ e (τ ++ [.ref a]) (u ++ [s])) (hl : τ.length = u.length) {s' : S} {o' : HO} (hf0 : a ∈ fp (.ref a) s) (r : RepO T G (upd H a o') (.ref a) s') (hf : ∀ b ∈ fp (.ref a) s', b = a) :
    Md T G (upd H a o') σ e (τ ++ [.ref a]) (u ++ [s']) ∧ Evo T.tbs G H (As σ e (τ ++ [.ref a]) (u ++ [s])) G (upd H a o') (As σ e (τ ++ [.ref a]) (u ++ [s'])) := by
  have he' : (e ++ (u ++ [s]).map some)[e.length + u.length]? = some (some s) := by
    rw [List.getElem?_append_right (by omega)]; simp
  have hv' : (σ ++ (τ ++ [V.ref a]).map some)[e.length + u.length]? = some (some (.ref a)) := by
    rw [List.getElem?_append_right (by rw [m.l1]; omega), m.l1, ← hl]; simp
  obtain ⟨p, q⟩ := m.sl.wrG he' hv' hf0 r hf
  have e2 : (e ++ (u ++ [s]).map some).set (e.length + u.length) (some s') = e ++ (u ++ [s']).map some := by
    rw [List.set_append_right _ _ (by omega)]
    congr 1
    have : e.length + u.length - e.length = u.length := by omega
    rw [this, List.map_append, List.map_append, List.set_append_right _ _ (by simp)]
    simp
  rw [e2] at p q
  exact ⟨⟨m.l1, by simp [hl], p⟩, q⟩
theorem Md.wr (m : Md T G H σ e τ u) {i : Nat} {a : Addr} {xs xs' : List V} {ds ds' : List D} (he : e[i]? = some (some (.ol ds))) (hv : σ[i]? = some (some (.ref a))) (hA : H a = some (.lst xs)) (r : RepFs T G xs' ds') :
    Md T G (upd H a (.lst xs')) σ (e.set i (some (.ol ds'))) τ u ∧ Evo T.tbs G H (As σ e τ u) G (upd H a (.lst xs')) (As σ (e.set i (some (.ol ds'))) τ u) := by
  have hi : i < e.length := (List.getElem?_eq_some_iff.mp he).1
  obtain ⟨v, hv2, ro⟩ := m.var he
  rw [hv] at hv2; cases hv2
  have hG : G a = none := (ro.own a (by simp [fp])).1
  exact m.wrG he hv (by simp [fp]) (.ol upd_same hG r) fun b hb => by simpa [fp] using hb
/-- what stands there -/
theorem Md.olAt (m : Md T G H σ e τ u) {i : Nat} {ds : List D} (he : e[i]? = some (some (.ol ds))) : ∃ a xs, σ[i]? = some (some (.ref a)) ∧ H a = some (.lst xs) ∧ RepFs T G xs ds := by
  obtain ⟨v, hv, r⟩ := m.var he
  cases r with
  | ol h1 _ h3 => exact ⟨_, _, hv, h1, h3⟩
end
/-! ### x[i] = .., x a list of one's own -/
def gIx (i : Nat) (mi : En → Ou R) : S → En → Fl := fun s e =>
  match e[i]? with
  | some (some (.ol _)) => match mi e with
    | .ok r e1 => match pk e1 r, e1[i]? with
      | some (.fr (.int k)), some (some (.ol ds)) => match ixN ds.length k with
        | some j => .nx (e1.set i (some (.ol (ds.set j s.d))))
        | none => .no
      | _, _ => .no
    | .ex x e1 => .ex x e1
    | .no => .no
  | _ => .no
theorem GoG.ix {i : Nat} {mi : En → Ou R} : GoG (gIx i mi) := fun s e => by
  unfold gIx
  repeat' split
  all_goals first | exact .inl ⟨_, rfl⟩ | exact .inr (.inl ⟨_, _, rfl⟩) | exact .inr (.inr rfl)
section
variable {T : Tb} {W : WX} {p : Nat → Bool} {G H : Hp} {σ : SV}
theorem tG_ix {i : Nat} {mi : En → Ou R} {v : V} {Q : SV → Hp → Prop} : tG T W p (gIx i mi) v σ H Q → gSub (tE T W (bVar i)) (tE T W mi) rSetL v σ H Q := by
  rintro ⟨G, e, s, hl, sl, q⟩
  have md : Md T G H σ e [v] [s] := ⟨hl, rfl, by simpa using sl⟩
  have eA : As σ e [v] [s] = fps (σ ++ [some v]) (e ++ [some s]) := by simp [As]
  rw [← eA] at q
  unfold gIx at q
  cases h0 : e[i]? with
  | none => rw [h0] at q; exact q.elim
  | some y => cases y with
    | none => rw [h0] at q; exact q.elim
    | some t0 => cases t0 with
     | fr _ => rw [h0] at q; exact q.elim
     | od _ _ => rw [h0] at q; exact q.elim
     | oi _ _ _ => rw [h0] at q; exact q.elim
     | ol d0 =>
      rw [h0] at q
      refine ⟨G, e, [v], [s], md, ?_⟩
      unfold bVar
      rw [h0]
      intro G1 H1 o τ' u' ev1 md1 hr1
      cases hr1 with
      | pl hv1 hn1 =>
        cases hn1
        rw [List.append_nil, List.append_nil] at ev1 md1
        refine ⟨G1, e, [v], [s], md1, ?_⟩
        cases hm : mi e with
        | no => rw [hm] at q; exact q.elim
        | ex x e1 =>
          rw [hm] at q
          intro G2 H2 c dx ev2 md2 rx
          exact q σ c dx G2 H2 ((ev1.trans ev2).less (As_base md2.l1)) md2.base rfl .refl rx
        | ok r e1 =>
          rw [hm] at q
          intro G2 H2 iv τ2 u2 ev2 md2 hr2
          simp only at q
          split at q
          · rename_i k ds hp h2
            cases hj : ixN ds.length k with
            | none => rw [hj] at q; exact q.elim
            | some j =>
              rw [hj] at q
              have hq := hr2.peek (ss := [.fr (.int k)]) md2 (by simp) (by unfold pks; rw [hp]; rfl)
              obtain ⟨w, sw, hw, rw', ew⟩ := repOs1 hq rfl
              cases hw
              obtain rfl := rw'.int ew
              obtain ⟨G3, ev3, md3, rv⟩ := Md.freezeTmp (τ := []) (u := []) (v := v) (s := s) (τ1 := τ2) (u1 := u2) md2 rfl
              obtain ⟨a, xs, hva, hA, rxs⟩ := md3.olAt h2
              rw [hv1] at hva; cases hva
              obtain ⟨md4, ev4⟩ := md3.wr h2 hv1 hA (rxs.set rv j)
              refine ⟨a, xs, k, j, rfl, rfl, hA, by rw [rxs.length]; exact hj, ?_⟩
              exact q σ G3 _ ((((ev1.trans ev2).trans ev3).trans ev4).less (As_base md4.l1)) md4.base rfl .refl
          · exact q.elim
end
section
variable {X : Cx} {T : Tb} {W : WX} {p : Nat → Bool} {i : Expr} {mi : En → Ou R} {x : Str} {n : Nat} {pn pos : Pos}
theorem PG.imp {t : Expr} {g g' : TG} (h : PG X t g) (k : ∀ v σ H Q, g' v σ H Q → g v σ H Q) : PG X t g' := ⟨fun pins s σ H v u Q I r q => h.run pins s σ H v u Q I r (k v σ H Q q)⟩
theorem pg_ixF (ho : PE X (.Name x pn) (tE T W (bVar n))) (hi : PE X i (tE T W mi)) (ha : ∀ v, assign (.Subscript (.Name x pn) i pos) X.env v = (do
      let ov ← holding [v] (eval (.Name x pn) X.env)
      let iv ← holding [v, ov] (eval i X.env)
      standAt pos
      holding [v, ov, iv] (setItem ov iv v)
      release [v, ov, iv] [])) : PG X (.Subscript (.Name x pn) i pos) (tG T W p (gIx n mi)) := PG.imp (pg_sub ho hi set_list ha) fun v σ H Q h => tG_ix h
end
end Fv

namespace Fv
open PySem PySem.Spec PyProof.Rows L2
theorem takes0N {X : Cx} : L2N.Takes X (fun _ _ _ _ => False) := fun _ _ ⟨_, _, _, _, _, _, _, _, _, _, _, _, _, _, _, _, z⟩ => z.elim
/-! ### calls by names: the values put in the parameters' order -/
def arrG {α : Type} (ks : List Str) : List Str → List α → Option (List α)
  | [], _ => some []
  | p :: ps, us => match (ks.zip us).lookup p, arrG ks ps us with
    | some u, some r => some (u :: r)
    | _, _ => none
def arrF {α : Type} (ks ps : List Str) (us : List α) : List α := (arrG ks ps us).getD []
theorem zip_lk {α β : Type} {R : α → β → Prop} : ∀ {ks : List Str} {xs : List α} {ys : List β} {p : Str}, Paired R xs ys → (∀ x, (ks.zip xs).lookup p = some x → ∃ y, (ks.zip ys).lookup p = some y ∧ R x y) ∧ ((ks.zip xs).lookup p = none → (ks.zip ys).lookup p = none)
  | [], _, _, _, _ => ⟨fun x h => by simp at h, fun _ => by simp⟩
  | k :: ks, _, _, p, .nil => ⟨fun x h => by simp at h, fun _ => by simp⟩
  | k :: ks, _, _, p, .cons (a := a) (b := b) r rs => by
    obtain ⟨h1, h2⟩ := zip_lk (ks := ks) (p := p) rs
    simp only [List.zip_cons_cons, List.lookup_cons]
    cases p == k with
    | true => exact ⟨fun x h => by cases h; exact ⟨_, rfl, r⟩, fun h => by cases h⟩
    | false => exact ⟨h1, h2⟩
theorem arrG_rel {α β : Type} {R : α → β → Prop} {ks : List Str} {xs : List α} {ys : List β} (r : Paired R xs ys) : ∀ {ps : List Str} {zs : List α}, arrG ks ps xs = some zs → ∃ ws, arrG ks ps ys = some ws ∧ Paired R zs ws
  | [], _, h => by cases h; exact ⟨[], rfl, .nil⟩
  | p :: ps, zs, h => by
    unfold arrG at h
    cases h1 : (ks.zip xs).lookup p with
    | none => rw [h1] at h; cases h
    | some x =>
      rw [h1] at h
      cases h2 : arrG ks ps xs with
      | none => rw [h2] at h; cases h
      | some q =>
        rw [h2] at h; cases h
        obtain ⟨y, h3, ry⟩ := (zip_lk (ks := ks) (p := p) r).1 x h1
        obtain ⟨ws, h4, rw'⟩ := arrG_rel r h2
        exact ⟨y :: ws, by unfold arrG; rw [h3, h4], .cons ry rw'⟩
/-- the binding of keywords alone -/
def KwB (K : PySem.W.Frag) (fd : FuncData) (ps ks : List Str) : Prop :=
  ∀ (s : Shared) (us zs : List Value), K.In s.heap → us.length = ks.length → arrG ks ps us = some zs → BindsTo s fd ⟨[], ks.zip us⟩ (ps.zip zs)
/-- a def of the text, as the others call it -/
structure Fd (T : Tb) (P : Program) (w : World) (K : PySem.W.Frag) (mg : Str → Option Value) (base : Heap) (x : Str) (ps : List Str) (kws : List (List Str)) (k : Nat) (fn : List S → FO) : Prop where
  ex : ∃ (f : Addr) (fd : FuncData), FnOk P w K mg base (L2N.CX P w) k f fd ps (spD T ps.length fn) ∧ mg x = some (.ref f) ∧ PySem.W.keepIn K (.ref f) = true ∧ Binds K fd ps [] ∧ ∀ ks ∈ kws, KwB K fd ps ks
section
variable {X : Cx} {T : Tb} {W : WX} {k j : Nat} {ps : List Str} {kws : List (List Str)} {fn : List S → FO} {x : Str} {p pos : Pos} {e : Expr} {es : List Expr} {ms : En → Ou (List R)}
theorem pe_callF (F : Fd T X.prog X.w X.K X.mg X.base x ps kws j fn) {np : Nat} (hr : Room k X.A) (hj : j ≤ k) (hg : Gl X x) (tk : L2N.Takes X W) (hnp : ps.length = np) (ha : PA X (e :: es) (tEs T W ms)) (hdb : (x == ("__debug__" : Str)) = false)
    (he : starEach (e :: es) X.env = (false, eval e X.env) :: starEach es X.env) (hpl : (backTo pos (starEach es X.env)).any (·.1) = false) :
    PE X (.Call (.Name x p) (e :: es) [] pos) (tE T W (bP (pCall np fn) ms)) := by
  subst hnp
  obtain ⟨f, fd, F, hm, hk, hb, _⟩ := F.ex
  refine PE.imp (pe_callSD (E := WE W) (dvs := []) (ds := []) F (hr.mono hj) hg hm hk hb .nil (L2N.passAt tk) ha hdb he hpl) fun σ H Q h => ?_
  have := tE_prim (prim_call (T := T) (W := W) (np := ps.length) (fn := fn)) h
  unfold tCallSD
  simpa using this
theorem fps_frs : ∀ (vs : List V) (ds : List D), fps (sv vs) (se (ds.map .fr)) = []
  | [], _ => by simp [fps]
  | _ :: _, [] => by simp [fps]
  | v :: vs, d :: ds => by
    show fps (some v :: sv vs) (some (.fr d) :: se (ds.map .fr)) = []
    rw [fps_cons, fps_frs vs ds]
    simp [fp_fr]
theorem Sl.frs {G H : Hp} (h : Sub G H) (tb : TabG T.tbs G H) : ∀ {vs : List V} {ds : List D}, RepFs T G vs ds → Sl T G H (sv vs) (se (ds.map .fr))
  | _, _, .nil => Sl.nil h tb
  | _, _, .cons (v := v) (d := d) r rs => (Sl.one h (RepO.fr r) tb).append (Sl.frs h tb rs) fun b hb => by
      have : b ∈ fp v (.fr d) ++ [] := hb
      rw [fp_fr] at this; simp at this
theorem repFs_paired {G : Hp} : ∀ {vs : List V} {ds : List D}, RepFs T G vs ds → Paired (RepF T G) vs ds
  | _, _, .nil => .nil
  | _, _, .cons r rs => .cons r (repFs_paired rs)
theorem paired_repFs {G : Hp} : ∀ {vs : List V} {ds : List D}, Paired (RepF T G) vs ds → RepFs T G vs ds
  | _, _, .nil => .nil
  | _, _, .cons r rs => .cons r (paired_repFs rs)
theorem paired_flip {α β : Type} {R : α → β → Prop} : ∀ {xs : List α} {ys : List β}, Paired R xs ys → Paired (fun b a => R a b) ys xs
  | _, _, .nil => .nil
  | _, _, .cons r rs => .cons r (paired_flip rs)
def pCallZ (ks ps : List Str) (fn : List S → FO) : List R → En → Ou R := fun rs e =>
  match frzs e rs with
  | some (ds, e1) => match (if ds.length = ks.length then arrG ks ps ds else none) with
    | some ds' => match fn (ds'.map .fr) with
      | .ok s _ => .ok (.vl s) e1
      | .ex x _ => .ex x e1
      | .no => .no
    | none => .no
  | none => .no
theorem arrG_len {α : Type} {ks : List Str} {us : List α} : ∀ {ps : List Str} {zs : List α}, arrG ks ps us = some zs → zs.length = ps.length
  | [], _, h => by cases h; rfl
  | p :: ps, zs, h => by
    unfold arrG at h
    cases h1 : (ks.zip us).lookup p with
    | none => rw [h1] at h; cases h
    | some x =>
      rw [h1] at h
      cases h2 : arrG ks ps us with
      | none => rw [h2] at h; cases h
      | some q => rw [h2] at h; cases h; simp [arrG_len h2]
/-- things that stand frozen are handed in -/
theorem spD_frs {G H : Hp} {σ : SV} {e : En} {τ : List V} {u : List S} {Q : VK} {vs : List V} {ds : List D} {np : Nat} (hn : ds.length = np) (md : Md T G H σ e τ u) (r : RepFs T G vs ds)
    (q : Post T W G H σ (As σ e τ u) τ u (match fn (ds.map .fr) with | .ok s _ => .ok (.vl s) e | .ex x _ => .ex x e | .no => .no) Q) : spD T np fn vs H Q fun c dx H' => W c dx σ H' := by
  refine ⟨G, ds.map .fr, by simpa using hn, Sl.frs md.sl.sub md.sl.tab r, ?_⟩
  rw [fps_frs]
  cases hf : fn (ds.map .fr) with
  | no => rw [hf] at q; exact q
  | ex x ss' =>
    rw [hf] at q
    intro c dx G' H' ev sl rx
    refine q G' H' c dx ⟨ev.mono, fun b o h _ => ev.keep b o h (by simp), fun b hb => .inl hb, fun b o h => (ev.frz b o h).imp id fun z => .inr (z.resolve_left (by simp)), ev.tab⟩ ⟨md.l1, md.l2, md.sl.frame ev sl.sub fun _ _ => by simp⟩ rx
  | ok s ss' =>
    rw [hf] at q
    intro v G' H' ev sl
    have md1 : Md T G' H' σ e τ u := ⟨md.l1, md.l2, md.sl.frame ev sl.sub fun _ _ => by simp⟩
    have hl2 : (sv vs).length = (se ss').length := by have := sl.len; simp only [List.length_append, List.length_map, List.length_cons, List.length_nil] at this; simp only [List.length_map]; omega
    have sl1 : Sl T G' H' (sv vs ++ sv [v]) (se ss' ++ se [s]) := by
      have := sl
      rw [sv_app, se_app] at this
      exact this
    obtain ⟨w, hw, ro⟩ := (sl1.right hl2).rep 0 s rfl
    cases hw
    have new : ∀ b ∈ fp v s, NT H b := fun b hb => by
      have : b ∈ fps (sv (vs ++ [v])) (se (ss' ++ [s])) := by
        rw [sv_app, se_app, fps_append _ _ hl2]
        exact List.mem_append_right _ (by show b ∈ fp v s ++ []; rw [List.append_nil]; exact hb)
      exact (ev.own b this).resolve_left (by simp)
    have own1 : ∀ b ∈ fp v s, b ∉ As σ e τ u := fun b hb hc => by
      exact md.sl.nt hc (new b hb)
    refine q G' H' v [v] [s] ⟨ev.mono, fun b o h _ => ev.keep b o h (by simp), fun b hb => ?_, fun b o h => (ev.frz b o h).imp id fun z => .inr (z.resolve_left (by simp)), ev.tab⟩ (md1.push ro own1) (.vl .nil)
    exact ((As_push md.l1 md.l2 b).mp hb).imp id (new b)
theorem prim_callZ {ks : List Str} : PrimOk T W (fun σ vs H Q => ∃ vs', vs.length = ks.length ∧ arrG ks ps vs = some vs' ∧ spD T ps.length fn vs' H Q fun c dx H' => W c dx σ H') (pCallZ ks ps fn) := by
  intro G H σ e τ τ1 u u1 rs vs Q md hl hr q
  unfold pCallZ at q
  cases h1 : frzs e rs with
  | none => rw [h1] at q; exact q.elim
  | some p =>
    obtain ⟨ds, e1⟩ := p
    rw [h1] at q
    simp only at q
    cases h3 : (if ds.length = ks.length then arrG ks ps ds else none) with
    | none => rw [h3] at q; exact q.elim
    | some ds' =>
      rw [h3] at q
      have hd : ds.length = ks.length ∧ arrG ks ps ds = some ds' := by
        split at h3
        · rename_i z; exact ⟨z, h3⟩
        · cases h3
      have h2 := hd.2
      obtain ⟨G1, u1', ev, m1, r⟩ := hr.freeze md hl h1
      obtain ⟨vs', h3, r3⟩ := arrG_rel (paired_flip (repFs_paired r)) h2
      exact ⟨vs', by rw [r.length]; exact hd.1, h3, spD_frs (arrG_len h2) (m1.dropT hl) (paired_repFs (paired_flip r3)) (Post.after q (ev.less (As_drop m1.l1 hl)))⟩
theorem pe_callKF {ks : List Str} {kws' : List Keyword} (F : Fd T X.prog X.w X.K X.mg X.base x ps kws j fn) (hr : Room k X.A) (hj : j ≤ k) (hg : Gl X x) (tk : L2N.Takes X W) (hks : ks ∈ kws) (ha : PK X kws' (tEs T W ms)) (hdb : (x == ("__debug__" : Str)) = false)
    (hall : (backToKw pos (keywordEach kws' X.env)).all (·.1.isSome) = true) (hk2 : (backToKw pos (keywordEach kws' X.env)).filterMap (·.1) = ks)
    (hpl : ((backTo pos (starEach [] X.env)).any (·.1) || (backToKw pos (keywordEach kws' X.env)).any (·.1.isNone)) = false) :
    PE X (.Call (.Name x p) [] kws' pos) (tE T W (bP (pCallZ ks ps fn) ms)) := by
  obtain ⟨f, fd, F, hm, hk, hb, hkw⟩ := F.ex
  refine ⟨fun pins s σ H Q I h => ?_⟩
  have h := tE_prim (prim_callZ (T := T) (W := W) (ps := ps) (ks := ks) (fn := fn)) h
  refine wpAny_Call_Name_kw (ld_glob I hg hm ?_ hdb)
  refine PySem.W.callWith_KW0 (h₀ := X.base) I.ok.mod.kin hk hall (thn (ha.run pos pins s σ H _ I h) fun ws s2 ⟨zs, H2, I2, rz, vs', hz, hv, q2⟩ => ⟨I2.kIn, ?_⟩) hpl
  rw [hk2]
  obtain ⟨us', hu, ru⟩ := arrG_rel rz hv
  refine wpAny_call (codeAny_mono (F.run X.A X.stack s2 H2 ⟨[], ks.zip ws⟩ us' vs' Q (WE W σ) (hr.mono hj) I2.env0 (hkw ks hks s2 ws us' I2.kIn (by rw [← rz.length]; exact hz) hu) ru q2) fun r s' hq => ?_)
  cases r with
  | error e => exact L2N.passAt tk σ pins H2 s2 e s' I2 hq
  | ok fl =>
    cases fl with
    | ret u => exact I2.after hq
    | next => exact False.elim hq
    | brk => exact False.elim hq
    | cont => exact False.elim hq
theorem pk_nilF : PK X [] (tEs T W aNil) := ⟨fun pos pins s σ H Q I h => pk_nil.run pos pins s σ H Q I (tEs_nil h)⟩
theorem pk_consF {nm : Option Str} {kpos : Pos} {kws' : List Keyword} {m : En → Ou R} (ha : PE X e (tE T W m)) (hr : PK X kws' (tEs T W ms)) : PK X (⟨nm, e, kpos⟩ :: kws') (tEs T W (aCons m ms)) :=
  ⟨fun pos pins s σ H Q I h => (pk_cons ha hr).run pos pins s σ H Q I (tEs_cons h)⟩
end
end Fv

namespace Fv
open PySem PySem.Spec PyProof.Rows L2
/-! ### a def, of its body -/
def finS (p : Nat → Bool) : Nat → List S → En → Option (List S)
  | _, [], _ => some []
  | i, s :: ss, y :: e => if p i = true then (match y, finS p (i + 1) ss e with | some t, some r => some (t :: r) | _, _ => none)
      else (match s, finS p (i + 1) ss e with | .fr d, some r => some (.fr d :: r) | _, _ => none)
  | _, _ :: _, [] => none
def fnOf (nl : Nat) (p : Nat → Bool) (body : En → Fl) : List S → FO := fun ss =>
  match body (se ss ++ List.replicate (nl - ss.length) none) with
  | .rt s e => match finS p 0 ss e with | some ss' => .ok s ss' | none => .no
  | .nx e => match finS p 0 ss e with | some ss' => .ok (.fr .non) ss' | none => .no
  | .ex x e => match finS p 0 ss e with | some ss' => .ex x ss' | none => .no
  | _ => .no
inductive Sub2 (T : Tb) (G : Hp) : SV → En → SV → En → Prop
  | nil (σ e) : Sub2 T G [] [] σ e
  | keep (x y) {σ2 e2 σ e} : Sub2 T G σ2 e2 σ e → Sub2 T G (x :: σ2) (y :: e2) (x :: σ) (y :: e)
  | fr {v d} (x y) {σ2 e2 σ e} : RepF T G v d → Sub2 T G σ2 e2 σ e → Sub2 T G (some v :: σ2) (some (.fr d) :: e2) (x :: σ) (y :: e)
section
variable {T : Tb} {G H : Hp} {σ σ2 : SV} {e e2 : En}
theorem Sub2.fps (h : Sub2 T G σ2 e2 σ e) : (fps σ2 e2).Sublist (fps σ e) := by
  induction h with
  | nil σ e => show List.Sublist [] _; exact List.nil_sublist _
  | keep x y h ih => rw [fps_cons, fps_cons]; exact List.Sublist.append_left ih _
  | fr x y r h ih =>
    rw [fps_cons, fps_cons]
    simp only [fp_fr, List.nil_append]
    exact ih.trans (List.sublist_append_right _ _)
theorem Sub2.rep (h : Sub2 T G σ2 e2 σ e) : ∀ (r : ∀ (i : Nat) (s : S), e[i]? = some (some s) → ∃ v, σ[i]? = some (some v) ∧ RepO T G H v s) (i : Nat) (s : S), e2[i]? = some (some s) → ∃ v, σ2[i]? = some (some v) ∧ RepO T G H v s := by
  induction h with
  | nil σ e => intro r i s h; simp at h
  | keep x y h ih =>
    intro r i s h
    cases i with
    | zero => simpa using r 0 s (by simpa using h)
    | succ i => simpa using ih (fun j t q => by simpa using r (j + 1) t (by simpa using q)) i s (by simpa using h)
  | fr x y rf h ih =>
    intro r i s h
    cases i with
    | zero => simp at h; subst h; exact ⟨_, rfl, .fr rf⟩
    | succ i => simpa using ih (fun j t q => by simpa using r (j + 1) t (by simpa using q)) i s (by simpa using h)
theorem Sub2.len (h : Sub2 T G σ2 e2 σ e) : σ2.length = e2.length := by
  induction h with
  | nil => rfl
  | keep x y h ih => simp [ih]
  | fr x y r h ih => simp [ih]
theorem Sub2.sl (h : Sub2 T G σ2 e2 σ e) (x : Sl T G H σ e) : Sl T G H σ2 e2 := ⟨x.sub, h.len, h.rep x.rep, h.fps.nodup x.nd, x.tab⟩
/-- the parameters at the end -/
theorem finS_sub {p : Nat → Bool} {G0 H0 : Hp} : ∀ {i : Nat} {ss ss' : List S} {e : En} {vs : List V} {σ0 : SV} {e0 : En} {σ : SV}, finS p i ss e = some ss' → vs.length = ss.length → σ.length = e.length →
    (∀ (j : Nat) (s : S), ss[j]? = some s → ∃ v, vs[j]? = some v ∧ RepO T G0 H0 v s) → Sub G0 G → (∀ (j : Nat) (v : V), vs[j]? = some v → p (i + j) = true → σ[j]? = some (some v)) → Sub2 T G (sv vs) (se ss') σ e ∧ ss'.length = ss.length
  | i, [], ss', e, [], σ0, e0, σ, h, _, _, _, _, _ => by cases h; exact ⟨.nil _ _, rfl⟩
  | i, [], _, _, _ :: _, _, _, _, _, h, _, _, _, _ => by simp at h
  | i, _ :: _, _, _, [], _, _, _, _, h, _, _, _, _ => by simp at h
  | i, s :: ss, ss', [], v :: vs, σ0, e0, σ, h, _, _, _, _, _ => by cases h
  | i, s :: ss, ss', y :: e, v :: vs, σ0, e0, [], h, _, hl, _, _, _ => by simp at hl
  | i, s :: ss, ss', y :: e, v :: vs, σ0, e0, x :: σ, h, hv, hl, hr, sub, hk => by
    have rc := fun {r} (q : finS p (i + 1) ss e = some r) => finS_sub (G0 := G0) (H0 := H0) (σ0 := σ0) (e0 := e0) (σ := σ) q (by simpa using hv) (by simpa using hl) (fun j t q => by simpa using hr (j + 1) t (by simpa using q)) sub
      (fun j w q hp => by simpa using hk (j + 1) w (by simpa using q) (by rw [show i + (j + 1) = i + 1 + j by omega]; exact hp))
    unfold finS at h
    split at h
    · rename_i hp
      split at h
      · rename_i t r h1
        cases h
        have hx := hk 0 v rfl (by simpa using hp)
        simp at hx
        subst hx
        obtain ⟨a, b⟩ := rc h1
        exact ⟨.keep _ _ a, by simp [b]⟩
      · cases h
    · split at h
      · rename_i d r h1
        cases h
        obtain ⟨w, hw, ro⟩ := hr 0 (.fr d) rfl
        cases hw
        obtain ⟨a, b⟩ := rc h1
        cases ro with
        | fr rf => exact ⟨.fr _ _ (rf.mono sub) a, by simp [b]⟩
      · cases h
theorem Sl.reps {vs : List V} {ss : List S} (x : Sl T G H (sv vs) (se ss)) : ∀ (j : Nat) (s : S), ss[j]? = some s → ∃ v, vs[j]? = some v ∧ RepO T G H v s := fun j s h => by
  obtain ⟨v, h1, r⟩ := x.rep j s (by simp [h])
  refine ⟨v, ?_, r⟩
  simp at h1
  exact h1
theorem Sl.rest (h : Sub G H) (tb : TabG T.tbs G H) (n : Nat) : Sl T G H (List.replicate n none) (List.replicate n none) ∧ fps (List.replicate n none) (List.replicate n none) = [] := by
  have : ∀ n, fps (List.replicate n none) (List.replicate n none) = [] := fun n => by
    induction n with
    | zero => rfl
    | succ n ih =>
      show fps (none :: List.replicate n none) (none :: List.replicate n none) = []
      rw [fps_cons, ih]; rfl
  refine ⟨⟨h, by simp, fun i s q => ?_, by rw [this]; simp, tb⟩, this n⟩
  rw [List.getElem?_replicate] at q
  split at q <;> simp at q
end
/-- what a def's body shows is what the def shows -/
theorem fn_body {T : Tb} {nl : Nat} {p : Nat → Bool} {body : En → Fl} {np : Nat} {vs : List V} {H : Hp} {Q : VK} {E : XK} {N : List Str} (hN : N.length = nl) (h : spD T np (fnOf nl p body) vs H Q E) :
    tS T (fun c d _ H => E c d H) p body { nx := fun _ H' => Q .non H', rt := Q } (L2.start N vs) H := by
  obtain ⟨G, ss, hl, sl, q⟩ := h
  have hvs : vs.length = ss.length := by have := sl.len; simpa using this
  have eN : N.length - vs.length = nl - ss.length := by rw [hN, hvs]
  obtain ⟨sr, fr⟩ := Sl.rest (T := T) sl.sub sl.tab (nl - ss.length)
  have f0 : fps (L2.start N vs) (se ss ++ List.replicate (nl - ss.length) none) = fps (sv vs) (se ss) := by
    unfold L2.start
    rw [eN, fps_append _ _ (by simp [hvs]), fr, List.append_nil]
  have sl0 : Sl T G H (L2.start N vs) (se ss ++ List.replicate (nl - ss.length) none) := by
    unfold L2.start
    rw [eN]
    exact sl.append sr fun b _ hc => by rw [fr] at hc; simp at hc
  refine ⟨G, _, sl0, ?_⟩
  rw [f0]
  unfold fnOf at q
  have kp : ∀ {σ' : SV}, Keeps p (L2.start N vs) σ' → ∀ (j : Nat) (v : V), vs[j]? = some v → p (0 + j) = true → σ'[j]? = some (some v) := fun {σ'} k j v hj hp => by
    rw [k j (by simpa using hp)]
    unfold L2.start
    rw [List.getElem?_append_left (by simpa using (List.getElem?_eq_some_iff.mp hj).1)]
    simp [hj]
  -- an end with an answer
  have fin : ∀ {s : S} {e' : En} {ss' : List S}, finS p 0 ss e' = some ss' → (∀ (v : V) (G' H' : Hp), Evo T.tbs G H (fps (sv vs) (se ss)) G' H' (fps (sv (vs ++ [v])) (se (ss' ++ [s]))) → Sl T G' H' (sv (vs ++ [v])) (se (ss' ++ [s])) → Q v H') →
      ∀ (σ' : SV) (v : V) (G' H' : Hp), Evo T.tbs G H (fps (sv vs) (se ss)) G' H' (fps (σ' ++ [some v]) (e' ++ [some s])) → Sl T G' H' (σ' ++ [some v]) (e' ++ [some s]) → σ'.length = (L2.start N vs).length → Keeps p (L2.start N vs) σ' → σ'.length = e'.length → Q v H' :=
    fun {s e' ss'} hf q σ' v G' H' ev sl1 l k l2 => by
      obtain ⟨s2, hl2⟩ := finS_sub (T := T) (G := G') (σ0 := []) (e0 := []) hf hvs l2 sl.reps ev.mono (kp k)
      have slA := s2.sl (sl1.left l2)
      have slB := sl1.right l2
      have hl3 : (sv vs).length = (se ss').length := by simp [hl2, hvs]
      have dis : ∀ b ∈ fps (sv vs) (se ss'), b ∉ fps [some v] [some s] := fun b hb => sl1.dis l2 b (s2.fps.subset hb)
      refine q v G' H' (ev.less fun b hb => ?_) (by rw [sv_app, se_app]; exact slA.append slB dis)
      rw [sv_app, se_app, fps_append _ _ hl3] at hb
      rw [fps_append _ _ l2]
      rcases List.mem_append.mp hb with z | z
      · exact List.mem_append_left _ (s2.fps.subset z)
      · exact List.mem_append_right _ z
  cases hb : body (se ss ++ List.replicate (nl - ss.length) none) with
  | no => rw [hb] at q; exact q
  | bk e' => rw [hb] at q; exact q.elim
  | ct e' => rw [hb] at q; exact q.elim
  | rt s e' =>
    rw [hb] at q
    simp only at q
    cases hf : finS p 0 ss e' with
    | none => rw [hf] at q; exact q.elim
    | some ss' =>
      rw [hf] at q
      intro σ' v G' H' ev sl1 l k
      refine fin hf q σ' v G' H' ev sl1 l k ?_
      have := sl1.len
      simpa using this
  | nx e' =>
    rw [hb] at q
    simp only at q
    cases hf : finS p 0 ss e' with
    | none => rw [hf] at q; exact q.elim
    | some ss' =>
      rw [hf] at q
      intro σ' G' H' ev sl1 l k
      have m := sl1.md.push (v := .non) (s := .fr .non) (.fr .non) (by simp [fp])
      have e1 : fps (σ' ++ [some .non]) (e' ++ [some (.fr .non)]) = fps σ' e' := by
        rw [fps_append _ _ sl1.len]; simp [fps, fp]
      exact fin hf q σ' .non G' H' (by rw [e1]; exact ev) (by simpa using m.sl) l k sl1.len
  | ex x e' =>
    rw [hb] at q
    simp only at q
    cases hf : finS p 0 ss e' with
    | none => rw [hf] at q; exact q.elim
    | some ss' =>
      rw [hf] at q
      intro σ' c dx G' H' ev sl1 l k rx
      obtain ⟨s2, hl2⟩ := finS_sub (T := T) (G := G') (σ0 := []) (e0 := []) hf hvs sl1.len sl.reps ev.mono (kp k)
      exact q c dx G' H' (ev.less fun b hb => s2.fps.subset hb) (s2.sl sl1) rx
/-- a def of the text -/
theorem fn_okF {T : Tb} {P : Program} {w : World} {K : PySem.W.Frag} {mg : Str → Option Value} {base : Heap} {x qual : Str} {st : Stmt} {f : Addr} {fd : FuncData} {N ps : List Str} {k : Nat} {nl : Nat} {p : Nat → Bool} {body : En → Fl}
    (F : Fun K x qual st f fd) (S : FnScope N ps (defScope st)) (hN : N.length = nl)
    (hbody : ∀ (cdv : Value) (A : Around) (outer : List Env) (s : Shared) (H : Hp) (E : XK), Room k (A.deeper (envOfC qual (defScope st) s.heap.objs.size f cdv)) →
      PSs (cxOf (L2N.CX P w) P w K mg base N qual (defScope st) f cdv A outer s H E) (defBody st) (tS T (fun c d _ H => E c d H) p body)) : FnOk P w K mg base (L2N.CX P w) (k + 1) f fd ps (spD T ps.length (fnOf nl p body)) :=
  by
  obtain ⟨oc, od, kV, doc, pm, an, cdv, ct, osl, rfl, lk, hcd⟩ := F.ex
  exact fn_of lk hcd S (fun vs H Q E h => h.len) fun A outer s H vs Q E hr h => ⟨_, hbody cdv A outer s H E hr, fn_body hN h⟩
end Fv

namespace Fv
open PySem PySem.Spec PyProof.Rows L2
/-! ### statements -/
def sNo : En → Fl := fun _ => .no
def sPar (i j : Nat) (ms : En → Ou (List R)) : En → Fl := fun e =>
  match ms e with
  | .ok rs e1 => match frzs e1 rs with
    | some ([a, b], e2) => if i < e2.length ∧ j < e2.length then .nx ((e2.set i (some (.fr a))).set j (some (.fr b))) else .no
    | _ => .no
  | .ex x e1 => .ex x e1
  | .no => .no
section
variable {T : Tb} {W : WX} {p : Nat → Bool} {G H : Hp} {σ : SV} {Dn : Ends} {e : En}
theorem Sl.setFr (x : Sl T G H σ e) {i : Nat} {v : V} {d : D} (hi : i < e.length) (r : RepF T G v d) : Sl T G H (σ.set i (some v)) (e.set i (some (.fr d))) ∧ ∀ b ∈ fps (σ.set i (some v)) (e.set i (some (.fr d))), b ∈ fps σ e := by
  refine ⟨(x.out i).put hi (.fr r) fun b hb => by rw [fp_fr] at hb; simp at hb, fun b hb => ?_⟩
  rcases (fps_set_mem hi x.len b).mp hb with z | z
  · rw [fp_fr] at z; simp at z
  · exact fps_sub b z
theorem tS_par {i j : Nat} (hi : p i = false) (hj : p j = false) {ms : En → Ou (List R)} : tS T W p (sPar i j ms) Dn σ H → tPar i j (tEs T W ms) Dn σ H := by
  rintro ⟨G, e, sl, q⟩
  refine ⟨G, e, [], [], sl.md, ?_⟩
  rw [As_nil]
  unfold sPar at q
  cases hm : ms e with
  | no => rw [hm] at q; exact q
  | ex x e1 =>
    rw [hm] at q
    exact fun G1 H1 c dx ev md rx => q σ c dx G1 H1 (by rw [As_nil] at ev; exact ev) md.base rfl .refl rx
  | ok rs e1 =>
    rw [hm] at q
    intro G1 H1 vs τ' u' ev md hr
    simp only at q
    split at q
    · rename_i a b e2 hf
      split at q
      · rename_i hij
        obtain ⟨G2, u2, ev2, md2, r⟩ := hr.freeze (τ := []) (u := []) md rfl hf
        cases r with
        | @cons v vs d ds r1 r2 => cases r2 with
          | @cons w vs2 d2 ds2 r2 r3 =>
            cases r3
            refine ⟨v, w, rfl, ?_⟩
            obtain ⟨s1, f1⟩ := md2.base.setFr hij.1 r1
            obtain ⟨s2, f2⟩ := s1.setFr (i := j) (by rw [List.length_set]; exact hij.2) r2
            exact q _ G2 H1 ((ev.trans ev2).less fun b hb => As_base md2.l1 b (f1 b (f2 b hb))) s2 (by simp) ((Keeps.set hi).trans (Keeps.set hj))
      · exact q.elim
    · exact q.elim
end
section
variable {X : Cx} {T : Tb} {W : WX} {p : Nat → Bool} {np : Nat} {e c tg : Expr} {es : List Expr} {a b rest : List Stmt} {st : Stmt} {m : En → Ou R} {ms : En → Ou (List R)} {t : En → Ou Bool} {ma mb : En → Fl} {g : S → En → Fl} {pos : Pos}
theorem pss_nilF : PSs X [] (tS T W p sNil) := PSs.imp pss_nil fun _ _ _ h => tS_nil h
theorem pss_consF (h1 : PS X st (tS T W p ma)) (h2 : PSs X rest (tS T W p mb)) : PSs X (st :: rest) (tS T W p (sCons ma mb)) := PSs.imp (pss_cons h1 h2) fun _ _ _ h => tS_cons h
theorem pss_noF : PSs X a (tS T W p sNo) := PSs.imp pss_never fun _ _ _ h => by obtain ⟨_, _, _, h⟩ := h; exact h.elim
theorem ps_exprF (he : PE X e (tE T W m)) (hs : swapsWith e none pos.line X.env = pure false) : PS X (.Expr e pos) (tS T W p (sExpr m)) := PS.imp (ps_expr he hs) fun _ _ _ h => tS_expr h
theorem ps_retF (he : PE X e (tE T W m)) : PS X (.Return (some e) pos) (tS T W p (sRet np m)) := PS.imp (ps_ret he) fun _ _ _ h => tS_ret h
theorem ps_retNF : PS X (.Return none pos) (tS T W p sRetN) := PS.imp ps_retN fun _ _ _ h => tS_retN h
theorem ps_ifF (hc : PT X c (tB T W t)) (ha : PSs X a (tS T W p ma)) (hb : PSs X b (tS T W p mb)) : PS X (.If c a b pos) (tS T W p (sIf t ma mb)) := PS.imp (ps_if hc ha hb) fun _ _ _ h => tS_if h
theorem ps_whileF (hp : PassesOwn (model X.prog X.w) X.A X.env X.xe) (hc : PT X c (tB T W t)) (hb : PSs X a (tS T W p ma)) : PS X (.While c a [] pos) (tS T W p (sWh t ma)) := PS.imp (ps_while hp hc hb) fun _ _ _ h => tS_while h
theorem ps_forF {iter : Expr} {it : En → Ou (List D)} (hp : PassesOwn (model X.prog X.w) X.A X.env X.xe) (hc : X.calm = true) (hi : PI X tg iter (tI T W it)) (hg : PG X tg (tG T W p g)) (gg : GoG g) (hb : PSs X a (tS T W p ma))
    (hs : ∀ x, foldedSetIterable iter X.env x = pure x) : PS X (.For tg iter a [] pos) (tS T W p (sFor it g ma)) := PS.imp (ps_for hp hc hi hg hb hs) fun _ _ _ h => tS_for gg h
theorem ps_asgF (he : PE X e (tE T W m)) (hg : PG X tg (tG T W p g)) (gg : GoG g) (hs : swapsWithSole [tg] e pos.line X.env = pure false) (hw : swappedStores [tg] e X.env = pure none)
    (h1 : (assignEach [tg] X.env).map (·.2) = [assign tg X.env]) : PS X (.Assign [tg] e pos) (tS T W p (sAsg g m)) := PS.imp (ps_asg he hg hs hw h1) fun _ _ _ h => tS_asg gg h
theorem ps_setF {i : Nat} {x : Str} {pos' : Pos} (hN : X.N.Nodup) (hi : X.N[i]? = some x) (hx : Loc X.env.scope x) (hp : p i = false) (he : PE X e (tE T W m)) (hs : swapsWith e (some (.Name x pos')) pos.line X.env = pure false) (hf : X.fn x = true ∨ X.env.scope.names.lookup x = some .local) :
    PS X (.Assign [.Name x pos'] e pos) (tS T W p (sAsg (gNm i) m)) := PS.imp (ps_set hN hi hx he hs hf) fun D σ H h => tE.mono (fun v H1 k => tG_name hp k) (tS_asg GoG.nm h)
theorem ps_parF {i j : Nat} {x y : Str} {ea eb : Expr} {px py pt : Pos} {kt k2 pt2} (hc : X.calm = true) (hN : X.N.Nodup) (hi : X.N[i]? = some x) (hj : X.N[j]? = some y) (hij : i ≠ j)
    (hx : X.env.scope.names.lookup x = some .local) (hy : X.env.scope.names.lookup y = some .local) (pi : p i = false) (pj : p j = false) (ha : PA X [ea, eb] (tEs T W ms))
    (hw : swappedStores [.Tuple [.Name x px, .Name y py] kt pt] (.Tuple [ea, eb] k2 pt2) X.env = pure (some [x, y]))
    (hs : swapsWithSole [.Tuple [.Name x px, .Name y py] kt pt] (.Tuple [ea, eb] k2 pt2) pos.line X.env = pure false) :
    PS X (.Assign [.Tuple [.Name x px, .Name y py] kt pt] (.Tuple [ea, eb] k2 pt2) pos) (tS T W p (sPar i j ms)) := PS.imp (ps_par hc hN hi hj hij hx hy ha hw hs) fun _ _ _ h => tS_par pi pj h
theorem ps_passF : PS X (.Pass pos) (tS T W p sNil) := PS.imp ps_pass fun _ _ _ h => tS_nil h
theorem pg_nameF {i : Nat} {x : Str} (hN : X.N.Nodup) (hi : X.N[i]? = some x) (hx : Loc X.env.scope x) (hp : p i = false) (hf : X.fn x = true ∨ X.env.scope.names.lookup x = some .local) : PG X (.Name x pos) (tG T W p (gNm i)) := PG.imp (pg_name hN hi hx hf) fun _ _ _ _ h => tG_name hp h
def gSeqF (K : PySem.W.Frag) (n : Nat) (t : TGs) : TG := fun v σ H Q => gTup K n t v σ H Q ∨ gUnl K n t v σ H Q
theorem PostG.wide {G H : Hp} {σ : SV} {A A' : List Addr} {o : Fl} {Q : SV → Hp → Prop} (q : PostG T W p G H σ A' o Q) (h : ∀ b ∈ A, b ∈ A') : PostG T W p G H σ A o Q := by
  cases o with
  | nx e => exact fun σ' G' H' ev sl l kp => q σ' G' H' (ev.wide h) sl l kp
  | ex x e => exact fun σ' c dx G' H' ev sl l kp => q σ' c dx G' H' (ev.wide h) sl l kp
  | _ => exact q
theorem tG_tup {gs : List (S → En → Fl)} {n : Nat} (hn : gs.length = n) {v : V} {σ : SV} {H : Hp} {Q : SV → Hp → Prop} : tG T W p (gTupF gs) v σ H Q → gSeqF T.K n (tGs T W p gs) v σ H Q := by
  rintro ⟨G, e, s, hl, sl, q⟩
  obtain ⟨w, hw, ro⟩ := (sl.right hl).rep 0 _ rfl
  cases hw
  replace q := q.wide (A := fps σ e) fun b hb => by rw [fps_append _ _ hl]; exact List.mem_append_left _ hb
  unfold gTupF at q
  split at q
  · rename_i ds
    split at q
    · rename_i hd
      obtain ⟨a, xs, rfl, q1, _, k1⟩ := ro.tup sl.sub rfl
      exact .inl ⟨a, xs, rfl, q1, by rw [k1.length, hd, hn], G, e, ds, sl.left hl, k1, q⟩
    · exact q.elim
  · rename_i ds
    split at q
    · rename_i hd
      obtain ⟨a, xs, rfl, q1, k1⟩ := ro.lst sl.sub rfl
      exact .inr ⟨a, xs, rfl, q1, by rw [k1.length, hd, hn], G, e, ds, sl.left hl, k1, q⟩
    · exact q.elim
  · rename_i ds
    split at q
    · rename_i hd
      obtain ⟨a, xs, rfl, q1, k1⟩ := ro.lst sl.sub rfl
      exact .inr ⟨a, xs, rfl, q1, by rw [k1.length, hd, hn], G, e, ds, sl.left hl, k1, q⟩
    · exact q.elim
  · exact q.elim
theorem pg_tupF {k n : Nat} {gs : List (S → En → Fl)} (hK : T.K = X.K) (hc : X.calm = true) (h : PGs X es (tGs T W p gs)) (hn : gs.length = n) (hl : (assignEach es X.env).length = n) (hst : (assignEach es X.env).findIdx? (·.1) = none) : PG X (.Tuple es k pos) (tG T W p (gTupF gs)) :=
  ⟨fun pins s σ H v u Q I r q => by
    replace q := tG_tup hn q
    rw [hK] at q
    rcases q with q | q
    · exact (pg_tup hc h hl hst).run pins s σ H v u Q I r q
    · exact (pg_unl hc h hl hst).run pins s σ H v u Q I r q⟩
theorem PGs.imp {t t' : TGs} (h : PGs X es t) (k : ∀ vs σ H Q, t' vs σ H Q → t vs σ H Q) : PGs X es t' := ⟨fun pins s σ H vs us Q I r q => h.run pins s σ H vs us Q I r (k vs σ H Q q)⟩
theorem pgs_nilF : PGs X [] (tGs T W p []) := PGs.imp pgs_nil fun _ _ _ _ h => tGs_nil h
theorem pgs_consF {gs : List (S → En → Fl)} (gg : GoG g) (h1 : PG X e (tG T W p g)) (h2 : PGs X es (tGs T W p gs)) (hs : (assignEach (e :: es) X.env).map (·.2) = assign e X.env :: (assignEach es X.env).map (·.2)) : PGs X (e :: es) (tGs T W p (g :: gs)) :=
  PGs.imp (pgs_cons h1 h2 hs) fun _ _ _ _ h => tGs_cons gg h
/-! ### calls of built-in functions -/
theorem pe_bi {id : String} {r : List V → Hp → VK → Prop} {f : List D → Option S} {x : Str} {px : Pos} (hc : CallR X (.builtin id) r) (hf : FunOk T r f) (hg : Gl X x) (hm : X.mg x = none) (hv : bootBuiltins x = some (.builtin id)) (ha : PA X (e :: es) (tEs T W ms)) (hn : x ≠ "__name__") (hdb : (x == ("__debug__" : Str)) = false)
    (he : starEach (e :: es) X.env = (false, eval e X.env) :: starEach es X.env) (hpl : (backTo pos (starEach es X.env)).any (·.1) = false) : PE X (.Call (.Name x px) (e :: es) [] pos) (tE T W (bP (pS f) ms)) :=
  PE.imp (pe_callB hc hg hm hv ha hn hdb he hpl) fun σ H Q h => tE_prim (prim_S hf) h
theorem pe_ty {id : String} {r : List V → Hp → VK → Prop} {f : List D → Option S} {x : Str} {px : Pos} (hc : CallR X (.type id) r) (hf : FunOk T r f) (hg : Gl X x) (hm : X.mg x = none) (hv : bootBuiltins x = some (.type id)) (ha : PA X (e :: es) (tEs T W ms)) (hn : x ≠ "__name__") (hdb : (x == ("__debug__" : Str)) = false)
    (he : starEach (e :: es) X.env = (false, eval e X.env) :: starEach es X.env) (hpl : (backTo pos (starEach es X.env)).any (·.1) = false) : PE X (.Call (.Name x px) (e :: es) [] pos) (tE T W (bP (pS f) ms)) :=
  PE.imp (pe_callTy hc hg hm hv ha hn hdb he hpl) fun σ H Q h => tE_prim (prim_S hf) h
end
end Fv

namespace Fv
open PySem PySem.Spec PyProof.Rows L2
/-! ### dict displays with constant keys -/
def bDic (ks : List Key) (ms : En → Ou (List R)) : En → Ou R := fun e =>
  match ms e with
  | .ok rs e1 => match frzs e1 rs with
    | some (ds, e2) => if ks.length = ds.length ∧ ks.Nodup ∧ ks.length ≤ 15 then .ok (.vl (.od ks ds)) e2 else .no
    | none => .no
  | .ex x e1 => .ex x e1
  | .no => .no
theorem putK_new {ks : List Key} {vs : List V} {k : Key} {v : V} (h : k ∉ ks) (hl : ks.length = vs.length) : putK (ks.zip vs) k v = (ks ++ [k]).zip (vs ++ [v]) := by
  unfold putK
  have : ((ks.zip vs).any fun kv => decide (kv.1 = k)) = false := by
    rw [List.any_eq_false]
    rintro ⟨a, b⟩ hab
    have := (List.of_mem_zip hab).1
    simp only [decide_eq_true_eq]
    rintro rfl; exact h this
  rw [this, List.zip_append hl]
  simp
theorem mergeK_new : ∀ {ks ks0 : List Key} {vs vs0 : List V}, (ks0 ++ ks).Nodup → ks.length = vs.length → ks0.length = vs0.length → mergeK (ks0.zip vs0) (ks.zip vs) = (ks0 ++ ks).zip (vs0 ++ vs)
  | [], ks0, [], vs0, _, _, _ => by simp [mergeK]
  | [], _, _ :: _, _, _, h, _ => by simp at h
  | _ :: _, _, [], _, _, h, _ => by simp at h
  | k :: ks, ks0, v :: vs, vs0, hn, hl, hl0 => by
    have hk : k ∉ ks0 := fun hc => by
      rw [List.nodup_append] at hn
      exact hn.2.2 k hc k (by simp) rfl
    have ih := mergeK_new (ks := ks) (ks0 := ks0 ++ [k]) (vs := vs) (vs0 := vs0 ++ [v]) (by simpa using hn) (by simpa using hl) (by simp [hl0])
    unfold mergeK at ih ⊢
    rw [List.zip_cons_cons, List.foldl_cons]
    show List.foldl _ (putK (ks0.zip vs0) k v) _ = _
    rw [putK_new hk hl0, ih]
    simp
section
variable {T : Tb} {W : WX} {H : Hp} {σ : SV}
/-- the row of readings -/
inductive Trs (T : Tb) (W : WX) : List Key → (En → Ou (List R)) → List (TE × TE) → Prop
  | nil : Trs T W [] aNil []
  | cons {k ks m ms trs} : Trs T W ks ms trs → Trs T W (k :: ks) (aCons m ms) ((tC (kV k), tE T W m) :: trs)
theorem Trs.go {ks : List Key} {ms : En → Ou (List R)} {trs : List (TE × TE)} (h : Trs T W ks ms trs) : ∀ {σ : SV} {H : Hp} {Q : List (V × V) → Hp → Prop}, tEs T W ms σ H (fun vs H2 => vs.length = ks.length → Q ((ks.map kV).zip vs) H2) → tPairs trs σ H Q := by
  induction h with
  | nil => intro σ H Q q; exact tEs_nil q rfl
  | @cons k ks m ms trs h ih =>
    intro σ H Q q
    show tE T W m σ H fun y H2 => tPairs trs σ H2 fun ps H3 => Q ((kV k, y) :: ps) H3
    exact tE.mono (fun y H1 q => ih (tEs.mono (fun vs H2 q hl => q (by simp [hl])) q)) (tEs_cons q)
theorem tE_dic {ks : List Key} {ms : En → Ou (List R)} {trs : List (TE × TE)} (h : Trs T W ks ms trs) {Q : VK} : tE T W (bDic ks ms) σ H Q → tDisp trs σ H Q := by
  rintro ⟨G, e, τ, u, md, q⟩ p hp
  have hG : G p = none := md.sl.sub.none hp
  have g := Grow.own md.sl.sub (p := p) (o := HO.dK []) hp
  have md1 := (md.grow g).push (v := .ref p) (s := .od [] []) (.od (ks := []) (vs := []) upd_same hG rfl .nil) fun b hb hc => by
    simp [fp] at hb; subst hb
    obtain ⟨_, o, ho⟩ := md.sl.own b hc
    rw [hp] at ho; cases ho
  have ev1 : Evo T.tbs G H (As σ e τ u) G (upd H p (.dK [])) (As σ e (τ ++ [.ref p]) (u ++ [.od [] []])) := ⟨.refl _, fun b o z _ _ => g.keep b o z, fun b hb => by
    rcases (As_push md.l1 md.l2 b).mp hb with z | z
    · exact .inl z
    · simp [fp] at z; subst z; exact .inr (.of hp), fun _ _ z => .inl z, g.tabs _⟩
  refine h.go ⟨G, e, τ ++ [.ref p], u ++ [.od [] []], md1, ?_⟩
  unfold bDic at q
  cases hm : ms e with
  | no => rw [hm] at q; exact q
  | ex x e1 =>
    rw [hm] at q
    exact fun G2 H2 c dx ev2 md2 rx => q G2 H2 c dx ((ev1.trans ev2).less (As_drop md2.l1 md.l2)) (md2.dropT md.l2) rx
  | ok rs e1 =>
    rw [hm] at q
    simp only at q
    intro G2 H2 vs τ2 u2 ev2 md2 hr2 hlen
    cases hf : frzs e1 rs with
    | none => rw [hf] at q; exact q.elim
    | some z =>
      obtain ⟨ds, e2⟩ := z
      rw [hf] at q
      simp only at q
      split at q
      · rename_i hks
        have hl1 : (τ ++ [V.ref p]).length = (u ++ [S.od [] []]).length := by simp [md.l2]
        obtain ⟨G3, u3, ev3, md3, r3⟩ := hr2.freeze md2 hl1 hf
        have md4 := md3.dropT hl1
        have ro := md4.last md.l2
        have hp2 : H2 p = some (.dK []) := by
          cases ro with
          | od h1 _ _ r => cases r; exact h1
        have hG3 : G3 p = none := (ro.own p (by simp [fp])).1
        refine ⟨hp2, ks.zip vs, ?_, by simp [hlen]; omega, ?_⟩
        · clear q ev1 md1 h g hks r3 hr2 md4 md3 hm
          induction ks generalizing vs with
          | nil => rfl
          | cons k ks ih => cases vs with
            | nil => simp at hlen
            | cons v vs => simp only [List.map_cons, List.zip_cons_cons]; rw [ih]; simpa using hlen
        · have em : mergeK [] (ks.zip vs) = ks.zip vs := mergeK_new (ks0 := []) (vs0 := []) (by simpa using hks.2.1) hlen.symm rfl
          rw [em]
          obtain ⟨md5, ev5⟩ := md4.wrT (s' := .od ks ds) (o' := .dK (ks.zip vs)) md.l2 (by simp [fp]) (.od upd_same hG3 hlen.symm r3) fun b hb => by simpa [fp] using hb
          exact q G3 _ (.ref p) [.ref p] [.od ks ds] ((((ev1.trans ev2).trans ev3).less (As_drop md3.l1 hl1)).trans ev5) md5 (.vl .nil)
      · exact q.elim
theorem tE_dic0 {Q : VK} : tE T W (bDic [] aNil) σ H Q → tDNewK σ H Q := by
  rintro ⟨G, e, τ, u, md, q⟩ p hp
  exact post_new (G' := G) (s := .od [] []) q .refl md (.own md.sl.sub hp) (.od (ks := []) (vs := []) upd_same (md.sl.sub.none hp) rfl .nil) fun b hb => by simp [fp] at hb; subst hb; exact hp
end
section
variable {X : Cx} {T : Tb} {W : WX} {pos : Pos}
theorem pe_dic0F : PE X (.Dict [] [] pos) (tE T W (bDic [] aNil)) := PE.imp pe_dnewK fun _ _ _ h => tE_dic0 h
/-- the row of pairs -/
structure PDs (X : Cx) (T : Tb) (W : WX) (pos : Pos) (keys : List (Option Expr)) (values : List Expr) (ks : List Key) (ms : En → Ou (List R)) : Prop where
  ex : ∃ trs, PPs X pos keys values trs ∧ Trs T W ks ms trs
theorem pd_nil : PDs X T W pos [] [] [] aNil := ⟨[], pps_nil, .nil⟩
theorem pd_cons {k v : Expr} {key : Key} {keys : List (Option Expr)} {values : List Expr} {ks : List Key} {m : En → Ou R} {ms : En → Ou (List R)} (hk : PE X k (tC (kV key))) (hv : PE X v (tE T W m)) (hr : PDs X T W pos keys values ks ms) :
    PDs X T W pos (some k :: keys) (v :: values) (key :: ks) (aCons m ms) := by
  obtain ⟨trs, a, b⟩ := hr.ex
  exact ⟨_, pps_cons hk hv a, .cons b⟩
theorem pe_dicF {keys : List (Option Expr)} {values : List Expr} {ks : List Key} {ms : En → Ou (List R)} (h : PDs X T W pos keys values ks ms) (hall : keys.all (·.isSome) = true) (hl : keys.length = values.length) (h0 : keys ≠ []) (h15 : keys.length ≤ 15) : PE X (.Dict keys values pos) (tE T W (bDic ks ms)) := by
  obtain ⟨trs, a, b⟩ := h.ex
  exact PE.imp (pe_disp a hall hl h0 h15) fun _ _ _ h => tE_dic b h
end
end Fv

namespace Fv
open PySem PySem.Spec PyProof.Rows L2
abbrev tb (K : PySem.W.Frag) (ca fa : Nat → Addr) : Tb := { K := K, ca := ca, fa := fa }
def AllG (gs : List (S → En → Fl)) : Prop := ∀ g ∈ gs, GoG g
theorem allg_nil : AllG [] := fun g h => by cases h
theorem allg_cons {g : S → En → Fl} {gs : List (S → En → Fl)} (h : GoG g) (k : AllG gs) : AllG (g :: gs) := fun x hx => by
  cases hx with
  | head => exact h
  | tail _ z => exact k x z
theorem hu65 {k : Nat} {A : Around} (hr : Room k A) : A.units + 65 < cLine := by have := hr.un; omega
theorem ps_noF {X : Cx} {T : Tb} {W : WX} {p : Nat → Bool} {st : Stmt} : PS X st (tS T W p sNo) := ⟨fun _ _ _ _ _ _ h => by obtain ⟨_, _, _, h⟩ := h; exact h.elim⟩
theorem kwb_of {K : PySem.W.Frag} {x qual : Str} {st : Stmt} {f : Addr} {fd : FuncData} {ps ks : List Str} (F : Fun K x qual st f fd)
    (h : ∀ (kV doc pm : Value) (an : Option Addr) (cdv ct : Value) (us zs : List Value), us.length = ks.length → arrG ks ps us = some zs → bindArgs (PySem.W.fnOf x qual (defArgs st) (defBody st) (defScope st) .none kV doc pm an cdv ct) ⟨[], ks.zip us⟩ = pure (ps.zip zs)) : KwB K fd ps ks := by
  obtain ⟨oc, od, kV, doc, pm, an, cdv, ct, osl, rfl, lk, hcd⟩ := F.ex
  exact fun s us zs _ hl hz => .of_eq (h kV doc pm an cdv ct us zs hl hz)
theorem kw_nil {K : PySem.W.Frag} {fd : FuncData} {ps : List Str} : ∀ ks ∈ ([] : List (List Str)), KwB K fd ps ks := fun _ h => by cases h
theorem kw_cons {K : PySem.W.Frag} {fd : FuncData} {ps k : List Str} {l : List (List Str)} (h : KwB K fd ps k) (t : ∀ ks ∈ l, KwB K fd ps ks) : ∀ ks ∈ k :: l, KwB K fd ps ks := fun ks hk => by
  cases hk with
  | head => exact h
  | tail _ z => exact t ks z
theorem ints_repF {T : Tb} {G : Hp} : ∀ ns : List Int, RepFs T G (ns.map V.int) (ns.map D.int)
  | [] => .nil
  | n :: ns => .cons (.int n) (ints_repF ns)
open Classical in
/-- all but the tables -/
noncomputable def noT (H : Hp) : Hp := fun b => if ∃ ps, H b = some (HO.tbl ps) then none else H b
theorem noT_sub (H : Hp) : Sub (noT H) H := fun b o h => by
  unfold noT at h
  split at h
  · cases h
  · exact h
theorem noT_ng (H : Hp) : ∀ b ps, noT H b ≠ some (HO.tbl ps) := fun b ps h => by
  unfold noT at h
  split at h
  · cases h
  · rename_i n; exact n ⟨ps, h⟩
theorem noT_of {H : Hp} {b : Addr} {o : HO} (h : H b = some o) (n : ∀ ps, o ≠ .tbl ps) : noT H b = some o := by
  unfold noT
  rw [if_neg fun ⟨ps, z⟩ => n ps (Option.some.inj (h.symm.trans z))]
  exact h
theorem noT_sqL {K : PySem.W.Frag} {H : Hp} {a : Addr} {xs : List V} (h : SqL K H a xs) : SqL K (noT H) a xs := by
  refine h.imp (fun z => ?_) id
  rcases z with z | ⟨o, z⟩
  · exact .inl (noT_of z fun _ q => nomatch q)
  · exact .inr ⟨o, noT_of z fun _ q => nomatch q⟩
/-- the law's own head: the script is a list of numbers, what it answers is True -/
theorem law_sp {T : Tb} {H : Hp} {a : Addr} {ns : List Int} {fn : List S → FO} {ss' : List S} (tb : LamX.Tabs T.tbs H) (q : SqL T.K H a (ns.map V.int)) (h : fn [.fr (.lst (ns.map D.int))] = .ok (.fr (.bl true)) ss') :
    spD T 1 fn [.ref a] H (fun v _ => v = .bl true) fun _ _ _ => False := by
  refine ⟨noT H, [.fr (.lst (ns.map D.int))], rfl, Sl.one (noT_sub H) (.fr (.lst (noT_sqL q) (ints_repF ns))) ⟨tb, noT_ng H⟩, ?_⟩
  rw [h]
  intro v G' H' ev sl
  have hl : (sv [V.ref a]).length = (se ss').length := by have := sl.len; simp at this; simp; omega
  rw [sv_app, se_app] at sl
  obtain ⟨w, hw, r⟩ := (sl.right hl).rep 0 _ rfl
  cases hw
  exact r.bl rfl
end Fv

namespace Fv
open PySem PySem.Spec PyProof.Rows L2
def dStr : List D → Option S
  | [.int i] => if i.natAbs.log2 < 1920 then some (.fr (.str (toString i))) else none
  | _ => none
theorem fo_str {T : Tb} : FunOk T (fun xs H Q => ∃ i, xs = [.int i] ∧ i.natAbs.log2 < 1920 ∧ Q (.str (toString i)) H) dStr := fun G H vs ss s Q hs r h k => by
  unfold dStr at h
  split at h
  · rename_i i heq
    split at h
    · rename_i hz
      cases h
      obtain ⟨v, s1, rfl, r1, e1⟩ := repOs1 r heq
      obtain rfl := r1.int e1
      exact ⟨i, rfl, hz, done_fr (W := True) hs k (.str _)⟩
    · cases h
  · cases h
/-! ### calls that leave out what stands as a default -/
def pCallD (dfl : List D) (np : Nat) (fn : List S → FO) : List R → En → Ou R := fun rs e =>
  match frzs e rs with
  | some (ds, e1) => if (ds ++ dfl).length = np then match fn ((ds ++ dfl).map .fr) with
      | .ok s _ => .ok (.vl s) e1
      | .ex x _ => .ex x e1
      | .no => .no
    else .no
  | none => .no
structure Fdd (T : Tb) (P : Program) (w : World) (K : PySem.W.Frag) (mg : Str → Option Value) (base : Heap) (x : Str) (ps : List Str) (dfl : List D) (k : Nat) (fn : List S → FO) : Prop where
  ex : ∃ (f : Addr) (fd : FuncData) (dvs : List V) (ds : List Value), FnOk P w K mg base (L2N.CX P w) k f fd ps (spD T ps.length fn) ∧ mg x = some (.ref f) ∧ PySem.W.keepIn K (.ref f) = true ∧ Vals dvs ds ∧ Binds K fd ps ds ∧ ∀ G, RepFs T G dvs dfl
section
variable {X : Cx} {T : Tb} {W : WX} {k j : Nat} {ps : List Str} {fn : List S → FO} {x : Str} {p pos : Pos} {e : Expr} {es : List Expr} {ms : En → Ou (List R)} {dfl : List D}
theorem prim_callD {dvs : List V} (hd : ∀ G, RepFs T G dvs dfl) {np : Nat} : PrimOk T W (fun σ vs H Q => spD T np fn (vs ++ dvs) H Q fun c dx H' => W c dx σ H') (pCallD dfl np fn) := by
  intro G H σ e τ τ1 u u1 rs vs Q md hl hr q
  unfold pCallD at q
  cases h1 : frzs e rs with
  | none => rw [h1] at q; exact q.elim
  | some p =>
    obtain ⟨ds, e1⟩ := p
    rw [h1] at q
    simp only at q
    split at q
    · rename_i hn
      obtain ⟨G1, u1', ev, m1, r⟩ := hr.freeze md hl h1
      exact spD_frs hn (m1.dropT hl) (r.append (hd G1)) (Post.after q (ev.less (As_drop m1.l1 hl)))
    · exact q.elim
theorem pe_callDF (F : Fdd T X.prog X.w X.K X.mg X.base x ps dfl j fn) {np : Nat} (hr : Room k X.A) (hj : j ≤ k) (hg : Gl X x) (tk : L2N.Takes X W) (hnp : ps.length = np) (ha : PA X (e :: es) (tEs T W ms)) (hdb : (x == ("__debug__" : Str)) = false)
    (he : starEach (e :: es) X.env = (false, eval e X.env) :: starEach es X.env) (hpl : (backTo pos (starEach es X.env)).any (·.1) = false) :
    PE X (.Call (.Name x p) (e :: es) [] pos) (tE T W (bP (pCallD dfl np fn) ms)) := by
  subst hnp
  obtain ⟨f, fd, dvs, ds, F, hm, hk, hv, hb, hd⟩ := F.ex
  exact PE.imp (pe_callSD (E := WE W) (dvs := dvs) (ds := ds) F (hr.mono hj) hg hm hk hb hv (L2N.passAt tk) ha hdb he hpl) fun σ H Q h => tE_prim (prim_callD (T := T) (W := W) hd) h
end
section
variable {K : PySem.W.Frag} {x qual : Str} {st : Stmt} {dvs : List V} {f : Addr} {fd : FuncData} {ps : List Str}
abbrev FnD (K : PySem.W.Frag) (x : Str) (st : Stmt) (dvs : List V) (f : Addr) (fd : FuncData) : Prop := FunD K x x (defArgs st) (defBody st) (defScope st) dvs [] f fd
theorem fnd_mk {T : Addr} {oc ocT : Value} {od odT an : Option Addr} {osl slT : Array (Option Value)} {kV doc pm cdv ct : Value} {its : Array Value} {n : Nat}
    (l : K.lookup f = some ⟨oc, od, .func (PySem.W.fnOf x x (defArgs st) (defBody st) (defScope st) (.ref T) kV doc pm an cdv ct), osl⟩)
    (c : PySem.W.codeIn K cdv x = true) (k : PySem.W.keepIn K (.ref f) = true) (lT : K.lookup T = some ⟨ocT, odT, .seq its n, slT⟩) (hd : dvs ≠ []) (hv : Vals dvs its.toList) :
    FnD K x st dvs f (PySem.W.fnOf x x (defArgs st) (defBody st) (defScope st) (.ref T) kV doc pm an cdv ct) :=
  ⟨⟨oc, od, .ref T, kV, doc, pm, an, cdv, ct, osl, rfl, l, c, .inr ⟨hd, T, _, its.toList, n, rfl, lT, by simp, hv⟩, .inl rfl⟩, k⟩
/-- keywords alone, all of them given -/
theorem kwb_ofD (F : FnD K x st dvs f fd) (hd : dvs ≠ []) {ks : List Str}
    (h : ∀ (T : Addr) (kV doc pm : Value) (an : Option Addr) (cdv ct : Value) (us zs its : List Value), us.length = ks.length → its.length = dvs.length → arrG ks ps us = some zs →
      ∃ k, bindArgs (PySem.W.fnOf x x (defArgs st) (defBody st) (defScope st) (.ref T) kV doc pm an cdv ct) ⟨[], ks.zip us⟩ = seqItems? (.ref T) >>= k ∧ k (some its.toArray) = pure (ps.zip zs)) : KwB K fd ps ks := by
  obtain ⟨oc, od, dV, kV, doc, pm, an, cdv, ct, osl, rfl, lk, hcd, hD, hK⟩ := F.ex
  rcases hD with ⟨e, _⟩ | ⟨_, T, o, its, m, rfl, lT, oT, rT⟩
  · exact absurd e hd
  · intro s us zs X hl hz
    obtain ⟨k, e1, e2⟩ := h T kV doc pm an cdv ct us zs its hl rT.length.symm hz
    refine BindsTo.of_looks fun M => ?_
    rw [e1]
    exact looks_items X lT oT (.of_pure e2)
theorem fn_okD {T : Tb} {P : Program} {w : World} {mg : Str → Option Value} {base : Heap} {N : List Str} {k : Nat} {nl : Nat} {p : Nat → Bool} {body : En → Fl}
    (F : FnD K x st dvs f fd) (S : FnScope N ps (defScope st)) (hN : N.length = nl)
    (hbody : ∀ (cdv : Value) (A : Around) (outer : List Env) (s : Shared) (H : Hp) (E : XK), Room k (A.deeper (envOfC x (defScope st) s.heap.objs.size f cdv)) →
      PSs (cxOf (L2N.CX P w) P w K mg base N x (defScope st) f cdv A outer s H E) (defBody st) (tS T (fun c d _ H => E c d H) p body)) : FnOk P w K mg base (L2N.CX P w) (k + 1) f fd ps (spD T ps.length (fnOf nl p body)) :=
  F.ok S (fun vs H Q E h => h.len) fun cdv A outer s H vs Q E hr h => ⟨_, hbody cdv A outer s H E hr, fn_body hN h⟩
end
end Fv

namespace Fv
open PySem PySem.Spec PyProof.Rows L2
def blkB (N : List Str) (sn : List (Str × NameKind)) (scope : Scope) (own : List (Str × Nat)) : Bool :=
  (match scope.kind with | .function => true | _ => false) && (own.all fun p => decide (N[p.2]? = some p.1)) &&
  (scope.names.all fun y => decide (scope.names.lookup y.1 = some y.2) && (match y.2 with
    | .free => decide (sn.lookup y.1 = some .cell) || decide (sn.lookup y.1 = some .free)
    | .local => decide (y.1 ∈ own.map (·.1)) || decide (y.1 ∉ N)
    | .cell => decide (y.1 ∈ own.map (·.1)) || decide (y.1 ∉ N)
    | _ => true))
theorem blk_of {N : List Str} {sc scope : Scope} {own : List (Str × Nat)} (h : blkB N sc.names scope own = true) : BlkOk N sc scope own := by
  unfold blkB at h
  simp only [Bool.and_eq_true, List.all_eq_true, decide_eq_true_eq] at h
  obtain ⟨⟨h1, h2⟩, h3⟩ := h
  refine ⟨?_, fun y hy => (h3 y hy).1, h2, fun y hy e => ?_, fun y hy e => ?_⟩
  · cases hk : scope.kind <;> rw [hk] at h1 <;> first | rfl | cases h1
  · have := (h3 y hy).2
    rw [e] at this
    simpa using this
  · have := (h3 y hy).2
    rcases e with e | e <;> rw [e] at this <;> simpa using this
def bYes : En → Ou Bool := fun e => .ok true e
section
variable {X : Cx} {T : Tb} {W : WX} {p : Nat → Bool} {c : Expr}
theorem pts_nilF : PTs X [] (tB T W bYes) := ⟨fun pins s σ H Q I h => pts_nil.run pins s σ H Q I (by
  obtain ⟨G, e, τ, u, md, q⟩ := h
  exact q G H .refl md)⟩
theorem pts_oneF {t : En → Ou Bool} (h : PT X c (tB T W t)) : PTs X [c] (tB T W t) := pts_one h
variable {elt tg iter : Expr} {ifs : List Expr} {scope : Scope} {own : List (Str × Nat)} {pos : Pos} {it : En → Ou (List D)} {g : S → En → Fl} {t : En → Ou Bool} {m : En → Ou R} {vs : List Nat}
theorem pe_lcF (hc : X.calm = true) (hN : X.N.Nodup) (ok : BlkOk X.N X.env.scope scope own) (hv : own.map (·.2) = vs) (nd : vs.Nodup) (gg : GoG g) (hi : PI X tg iter (tI T W it))
    (hg : ∀ (s : Shared) (H : Hp) (C : Addr) (cl : List (Str × Addr)) (fp : List Addr), PG (X.blk s H scope (compEnvC scope cl C X.env) fp) tg (tG T WF (pC vs) g))
    (ht : ∀ (s : Shared) (H : Hp) (C : Addr) (cl : List (Str × Addr)) (fp : List Addr), PTs (X.blk s H scope (compEnvC scope cl C X.env) fp) ifs (tB T WF t))
    (he : ∀ (s : Shared) (H : Hp) (C : Addr) (cl : List (Str × Addr)) (fp : List Addr), PE (X.blk s H scope (compEnvC scope cl C X.env) fp) elt (tE T WF m)) (hs : ∀ x, foldedSetIterable iter X.env x = pure x) :
    PE X (.ListComp elt [⟨tg, iter, ifs, 0⟩] scope pos) (tE T W (bLc it g t m vs)) := by
  subst hv
  exact PE.imp (pe_lc hc hN hi ok hg ht he hs) fun σ H Q h => tE_lc gg nd h
theorem ps_setLcF {i : Nat} {y : Str} {py spos : Pos} (hc : X.calm = true) (hN : X.N.Nodup) (hy : X.N[i]? = some y) (hyl : X.env.scope.names.lookup y = some .local) (hp : p i = false)
    (hsw : swapsWith (.ListComp elt [⟨tg, iter, ifs, 0⟩] scope pos) (some (.Name y py)) spos.line X.env = pure true) (ok : BlkOk X.N X.env.scope scope own) (hv : own.map (·.2) = vs) (nd : vs.Nodup) (gg : GoG g) (hi : PI X tg iter (tI T W it))
    (hg : ∀ (s : Shared) (H : Hp) (C : Addr) (cl : List (Str × Addr)) (fp : List Addr), PG (X.blk s H scope (compEnvC scope cl C X.env) fp) tg (tG T WF (pC vs) g))
    (ht : ∀ (s : Shared) (H : Hp) (C : Addr) (cl : List (Str × Addr)) (fp : List Addr), PTs (X.blk s H scope (compEnvC scope cl C X.env) fp) ifs (tB T WF t))
    (he : ∀ (s : Shared) (H : Hp) (C : Addr) (cl : List (Str × Addr)) (fp : List Addr), PE (X.blk s H scope (compEnvC scope cl C X.env) fp) elt (tE T WF m)) (hs : ∀ x, foldedSetIterable iter X.env x = pure x) :
    PS X (.Assign [.Name y py] (.ListComp elt [⟨tg, iter, ifs, 0⟩] scope pos) spos) (tS T W p (sAsg (gNm i) (bLc it g t m vs))) := by
  subst hv
  exact PS.imp (ps_setLc hc hN hy hyl hsw hi ok hg ht he hs) fun D σ H h => tE_lc gg nd (tE.mono (fun v H1 k => tG_name hp k) (tS_asg GoG.nm h))
end
end Fv

namespace Fv
open PySem PySem.Spec PyProof.Rows L2
/-! ### enumerate(tuple) -/
set_option maxHeartbeats 1000000 in
theorem meets_enumT (v : Value) (o : Obj) (H : Heap → Prop) (B : Begins v o H) :
    Meets (Builtin.«enumerate.__new__» ⟨[.type "enumerate", v], []⟩) (fun _ R s => H s.heap ∧
      R (.ok (.ret (.ref (s.heap.push o).objs.size))) { s with heap := (s.heap.push o).push { cls := .type "enumerate", data := .fields #[.none, .bool false, .ref s.heap.objs.size, rawInt 0, .none, .none] } }) :=
  .of_wp fun prog w A R s h => by
    obtain ⟨hp, g, d, tk, os⟩ := s; obtain ⟨h1, h⟩ := h
    have hsub := sub_enumerate
    have q1 : ∀ {A' : Around} {E : Value → Shared → Prop} {Q : Value → Shared → Prop}, Q (.ref hp.objs.size) ⟨hp.push o, g, d, tk, os⟩ → wpAny (model prog w) A' (pyIter v) Q E ⟨hp, g, d, tk, os⟩ :=
      fun q => B.iter prog w _ _ ⟨hp, g, d, tk, os⟩ _ h1 q
    wp_walk using q1
    refine wpAny_stack_any fun st => wpAny_pure ?_
    split
    · rename_i c _ _ _ _ _
      cases (c == Value.type "enumerate")
      · wp_walk using q1
        exact ⟨_, rfl, h⟩
      · wp_walk using q1
        exact ⟨_, rfl, h⟩
    · wp_walk using q1
      exact ⟨_, rfl, h⟩
theorem call_enumT {prog : Program} {w : World} {A : Around} {E : Value → Shared → Prop} {s : Shared} {v : Value} {o : Obj} {H : Heap → Prop} {Q : Value → Shared → Prop} (B : Begins v o H) (h1 : H s.heap)
    (h : ∀ h', IsEnum h' (s.heap.objs.size + 1) s.heap.objs.size 0 .none → h'.get? s.heap.objs.size = some o → h'.objs.size = s.heap.objs.size + 2 →
      (∀ b o, s.heap.get? b = some o → h'.get? b = some o) → Q (.ref (s.heap.objs.size + 1)) { s with heap := h' }) :
    wpAny (model prog w) A (call (.type "enumerate") [v]) Q E s := by
  refine callType_new F.called_enumerate (by decide) (F.typeCall_enumerate_1 _) (F.newCall_enumerate_1 _) (fun obj => F.args_object_init_2 obj _) F.entry_enumerate_new
    (meets_enumT v o H B) ⟨h1, ?_⟩
  have hz : (s.heap.push o).objs.size = s.heap.objs.size + 1 := Heap.size_push ..
  show _ ∧ _
  rw [hz]
  have he : IsEnum ((s.heap.push o).push { cls := .type "enumerate", data := .fields #[.none, .bool false, .ref s.heap.objs.size, rawInt 0, .none, .none] }) (s.heap.objs.size + 1) s.heap.objs.size 0 .none := by
    have := Heap.get?_push_size (s.heap.push o) (o := { cls := .type "enumerate", data := .fields #[.none, .bool false, .ref s.heap.objs.size, rawInt 0, .none, .none] }) rfl
    rw [hz] at this; exact this
  refine ⟨⟨_, he, rfl⟩, h _ he (Heap.get?_push_of_some _ (Heap.get?_push_size _ B.free)) (by rw [Heap.size_push, hz]) fun b o x => Heap.get?_push_of_some _ (Heap.get?_push_of_some _ x)⟩
/-- the tuple at a, each item in a new pair -/
def IteT (K : PySem.W.Frag) (a : Addr) : It :=
  ⟨fun i H => ∃ (xs : List V) (x : V), SqT K H a xs ∧ xs[i]? = some x, fun i H v H' => ∃ T its x, v = .ref T ∧ H T = none ∧ H' = upd H T (tbO its [.int (i : Nat), x]) ∧ ∀ xs, SqT K H a xs → xs[i]? = some x, fun i H => ∃ xs : List V, SqT K H a xs ∧ xs.length ≤ i⟩
theorem turn_enumT {P : Program} {w : World} {K : PySem.W.Frag} {elts : List Expr} {kk : Nat} {tpos : Pos} (a e it : Addr) :
    Turn P w K (.Tuple elts kk tpos) (IteT K a) [e, it] e (fun i h => (∃ old, IsEnum h e it ((i : Nat) : Int) old) ∧ h.IsTupleIter it a i ∧ e ≠ it) where
  mem := by simp
  obj := fun i h st b hb => by
    obtain ⟨⟨old, he⟩, ⟨o, ho, hc, hd⟩, _⟩ := st
    have e' : b = e ∨ b = it := by simpa using hb
    rcases e' with z | z
    · rw [z]; exact ⟨_, he, fun v q => nomatch q⟩
    · rw [z]; exact ⟨o, ho, fun v q => by rw [hd] at q; cases q⟩
  keep := fun i h h' st k => let ⟨⟨old, he⟩, hi, hne⟩ := st; ⟨⟨old, k e (by simp) _ he⟩, hi.at fun o q => k it (by simp) o q, hne⟩
  item := by
    intro X hP hw hK hc i pins s σ H E I hf st hg
    subst hP hw hK
    obtain ⟨⟨old, he⟩, hit, hne⟩ := st
    obtain ⟨xs, x, hq, hx⟩ := hg
    obtain ⟨its, rv, p, hz⟩ := I.tuple hq
    obtain ⟨u, hu, ru⟩ := rv.get hx
    have hT : s.heap.IsTuple a its.toArray := p
    have hel : e < s.heap.objs.size := Heap.lt_size he
    have hil : it < s.heap.objs.size := by obtain ⟨_, q, _⟩ := hit; exact Heap.lt_size q
    have hai : a ≠ it := by
      rintro rfl
      obtain ⟨o1, q1, c1, _⟩ := hit
      obtain ⟨o2, q2, c2, _⟩ := hT
      rw [q1] at q2; cases q2
      rw [c1] at c2
      exact absurd c2 (by decide)
    have hae : e ∉ [it, a] := by
      intro hm
      have : e = it ∨ e = a := by simpa using hm
      rcases this with z | z
      · exact hne z
      · subst z
        obtain ⟨o2, q2, c2, _⟩ := hT
        rw [show s.heap.get? e = some _ from he] at q2; cases q2
        exact absurd (show Value.type "enumerate" = Value.type "tuple" from c2) (by decide)
    have D := Draws.tuple (prog := X.prog) (w := X.w) (A := X.A.in1) (I.ok.hd hc) it a hai its.toArray
    have hlt : i < its.toArray.size := by
      have := (List.getElem?_eq_some_iff.mp hu).1
      simpa using this
    refine wpAny_pyNext_enum_itemD D he ⟨hit, hT⟩ hlt hne hae fun y h' tk hy ho hst' hTn hsz hk => ?_
    have ey : y = u := by
      have hy : its.toArray[i]? = some y := hy
      have hu' : its.toArray[i]? = some u := by simpa using hu
      rw [hy] at hu'; cases hu'; rfl
    subst ey
    refine ⟨_, rfl, wpAny_letOwnedTupleGo_enum (s := { s with heap := h', toks := tk + 1 }) ho fun h'' he' sb => ?_⟩
    have hT2 : h''.get? s.heap.objs.size = some { cls := .type "tuple", data := .seq #[.int i tk, y] } := (sb.2 _ (Nat.ne_of_gt hel)).trans hTn
    have new : ObjOk X.prog X.w (upd H s.heap.objs.size (tbO #[.int i tk, y] [.int (i : Nat), x])) h'' s.heap.objs.size (tbO #[.int i tk, y] [.int (i : Nat), x]) :=
      ⟨hT2, by show 2 ≤ sizeLine; decide, [.int i tk, y], .cons ⟨_, rfl⟩ (.cons ru .nil), ⟨_, hT2, rfl, _, rfl⟩⟩
    have I1 : Inv X pins σ (upd H s.heap.objs.size (tbO #[.int i tk, y] [.int (i : Nat), x])) { s with heap := h'', toks := tk + 1 } :=
      I.turnedNew (ch := [e, it]) (fun b ob hb q => (sb.2 b (fun z => hb (by simp [z]))).trans (hk b ob (fun z => hb (by simp [z])) (fun z => hb (by simp [z])) q)) hf (Nat.le_refl _) new
    refine ⟨.ref s.heap.objs.size, _, I1, rfl, ⟨_, _, x, rfl, I.hok.fresh (Nat.le_refl _), rfl, fun ys hy => by rw [I.tuple_inj hy hq]; exact hx⟩, ⟨⟨y, ?_⟩, hst'.1.at fun o q => (sb.2 it (Ne.symm hne)).trans q, hne⟩, fun b hb => ?_⟩
    · have e1 : ((i + 1 : Nat) : Int) = (i : Int) + 1 := by omega
      rw [e1]; exact he'
    · have hb' : b < s.heap.objs.size := by
        have e' : b = e ∨ b = it := by simpa using hb
        rcases e' with z | z
        · rw [z]; exact hel
        · rw [z]; exact hil
      rw [upd_ne (Nat.ne_of_lt hb')]
      exact (hf b hb).1
  done := by
    intro X hP hw hK hc i pins s σ H E I hf st hg
    subst hP hw hK
    obtain ⟨⟨old, he⟩, hit, hne⟩ := st
    obtain ⟨xs, hq, hx⟩ := hg
    obtain ⟨its, rv, p, hz⟩ := I.tuple hq
    obtain ⟨f0, f1, f2, f3, f4, f5⟩ := hf it (by simp)
    have hl := rv.length
    have hT : s.heap.IsTuple a its.toArray := p
    have hn : its.toArray[i]? = none := by simp; omega
    have D : Draws X.prog X.w X.A.in1 it [it, a] 0 (fun _ _ => True) (fun _ h => h.IsTupleIter it a i ∧ h.IsTuple a its.toArray) :=
      { live := fun _ _ st => let ⟨o, ho, _⟩ := st.1; ⟨o, ho⟩
        frame := fun _ _ _ st hk => ⟨st.1.at fun o e => hk it (by simp) o e, st.2.at fun o e => hk a (by simp) o e⟩
        item := fun j _ _ _ hj _ _ => absurd hj (Nat.not_lt_zero _)
        done := fun s Q E st hE => wpAny_nextOf_tuple_end (I.ok.hd hc) st.1 st.2 hn hE }
    refine wpAny_pyNext_enum_endD D he ⟨hit, hT⟩ fun h' eb => ⟨rfl, ?_⟩
    exact I.turned (t' := s.toks) (fun b o hb q => eb b o hb q) f0 f1 f3 f4 f5
  self := fun A i s Q E st h => let ⟨⟨_, he⟩, _⟩ := st; wpAny_pyIter_enum he h
/-- the list at a, each item in a new pair -/
def IteB (K : PySem.W.Frag) (a : Addr) : It :=
  { Ite K a with yld := fun i H v H' => ∃ T its x, v = .ref T ∧ H T = none ∧ H' = upd H T (tbO its [.int (i : Nat), x]) ∧ ∀ xs, SqL K H a xs → xs[i]? = some x }
theorem turn_enumB {P : Program} {w : World} {K : PySem.W.Frag} {elts : List Expr} {kk : Nat} {tpos : Pos} (a e it : Addr) :
    Turn P w K (.Tuple elts kk tpos) (IteB K a) [e, it] e (fun i h => (∃ old, IsEnum h e it ((i : Nat) : Int) old) ∧ h.IsListIter it a i ∧ e ≠ it) :=
  { mem := (turn_enum (P := P) (w := w) (K := K) (elts := elts) (kk := kk) (tpos := tpos) a e it).mem
    obj := (turn_enum (P := P) (w := w) (K := K) (elts := elts) (kk := kk) (tpos := tpos) a e it).obj
    keep := (turn_enum (P := P) (w := w) (K := K) (elts := elts) (kk := kk) (tpos := tpos) a e it).keep
    done := (turn_enum (P := P) (w := w) (K := K) (elts := elts) (kk := kk) (tpos := tpos) a e it).done
    self := (turn_enum (P := P) (w := w) (K := K) (elts := elts) (kk := kk) (tpos := tpos) a e it).self
    item := by
      rintro X rfl rfl rfl hc i pins s σ H E I hf ⟨⟨old, he⟩, hit, hne⟩ ⟨xs, x, hq, hx⟩
      obtain ⟨us, rus, pu, _⟩ := I.list hq
      obtain ⟨u, eu, ru⟩ := rus.get hx
      have two : ∀ b, b ∈ [e, it] → b = e ∨ b = it := fun b hb => by simpa using hb
      have le := Heap.lt_size he
      have li : it < s.heap.objs.size := hit.elim fun _ q => Heap.lt_size q.1
      refine wpAny_pyNext_enum_item he hit pu.isList (x := u) (by simpa using eu) hne fun h' ho hit' ht hsz hk => ?_
      refine ⟨_, rfl, wpAny_letOwnedTupleGo_enum (s := { s with heap := h', toks := s.toks + 1 }) ho fun g he' sb => ?_⟩
      have ht2 := (sb.2 _ (Nat.ne_of_gt le)).trans ht
      have kp : ∀ c o, c ∉ [e, it] → s.heap.get? c = some o → g.get? c = some o := fun c o hb q => by
        simp only [List.mem_cons, List.not_mem_nil, or_false, not_or] at hb
        exact (sb.2 c hb.1).trans (hk c o hb.1 hb.2 q)
      have I1 := I.turnedNew (t' := s.toks + 1) (ob := tbO #[.int i s.toks, u] [.int (i : Nat), x]) kp hf (Nat.le_refl _) ⟨ht2, by show 2 ≤ sizeLine; decide, [.int i s.toks, u], .cons ⟨_, rfl⟩ (.cons ru .nil), ⟨_, ht2, rfl, _, rfl⟩⟩
      refine ⟨.ref s.heap.objs.size, _, I1, rfl, ⟨_, _, x, rfl, I.hok.fresh (Nat.le_refl _), rfl, fun l hl => by rw [I.list_inj hl hq]; exact hx⟩,
        ⟨⟨u, (show ((i + 1 : Nat) : Int) = (i : Int) + 1 by omega) ▸ he'⟩, hit'.at fun o q => (sb.2 it (Ne.symm hne)).trans q, hne⟩, fun b hb => ?_⟩
      have lt : b < s.heap.objs.size := by rcases two b hb with rfl | rfl <;> assumption
      rw [upd_ne (Nat.ne_of_lt lt)]
      exact (hf b hb).1 }
theorem WalkOk.enum {T : Tb} {G : Hp} {a : Addr} {xs : List V} {ds : List D} (hq : SqL T.K G a xs) (r : RepFs T G xs ds) : WalkOk T G (IteB T.K a) (enumD 0 ds) := by
  refine ⟨fun i d G' H' s1 s2 hd => ?_, fun i G' H' s1 s2 hl => ⟨xs, (s1.trans s2).sqL hq, by rw [r.length]; rw [enumD_length] at hl; exact hl⟩⟩
  obtain ⟨d', h1, rfl⟩ := enumD_get ds 0 i d hd
  obtain ⟨x, hx, rx⟩ := r.get h1
  refine ⟨⟨xs, x, (s1.trans s2).sqL hq, hx⟩, fun y H2 ⟨t, its, x', e1, e2, e3, e4⟩ => ?_⟩
  have := e4 xs ((s1.trans s2).sqL hq)
  rw [hx] at this; cases this
  subst e1 e3
  rw [Nat.zero_add]
  exact pair_new s2 e2 (.int _) (rx.mono s1)
theorem WalkOk.enumT {T : Tb} {G : Hp} {a : Addr} {xs : List V} {ds : List D} (hq : SqT T.K G a xs) (r : RepFs T G xs ds) : WalkOk T G (IteT T.K a) (enumD 0 ds) := by
  refine ⟨fun i d G' H' s1 s2 hd => ?_, fun i G' H' s1 s2 hl => ⟨xs, (s1.trans s2).sqT hq, by rw [r.length]; rw [enumD_length] at hl; exact hl⟩⟩
  obtain ⟨d', h1, rfl⟩ := enumD_get ds 0 i d hd
  obtain ⟨x, hx, rx⟩ := r.get h1
  refine ⟨⟨xs, x, (s1.trans s2).sqT hq, hx⟩, fun y H2 ⟨t, its, x', e1, e2, e3, e4⟩ => ?_⟩
  have := e4 xs ((s1.trans s2).sqT hq)
  rw [hx] at this; cases this
  subst e1 e3
  rw [Nat.zero_add]
  exact pair_new s2 e2 (.int _) (rx.mono s1)
def enumOf2 : List D → Option (List D)
  | [.lst ds] => some (enumD 0 ds)
  | [.tup ds] => some (enumD 0 ds)
  | _ => none
section
variable {X : Cx} {T : Tb} {W : WX} {a : Expr} {ms : En → Ou (List R)} {p pos tpos : Pos}
theorem pi_enumLT {elts : List Expr} {kk : Nat} {ta : TA} (hg : Gl X "enumerate") (hm : X.mg "enumerate" = none) (ha : PA X [a] ta) (hs : starEach [a] X.env = [(false, eval a X.env)]) :
    PI X (.Tuple elts kk tpos) (.Call (.Name "enumerate" p) [a] [] pos) (fun σ H R => ta σ H fun vs H1 => (∃ a xs, vs = [.ref a] ∧ SqL X.K H1 a xs ∧ R (IteB X.K a) H1) ∨ ∃ a xs, vs = [.ref a] ∧ SqT X.K H1 a xs ∧ R (IteT X.K a) H1) := by
  refine ⟨fun pins s σ H R I h => ?_⟩
  refine Call_ (ld_blt I hg hm boot_enumerate (PyProof.Rows.callWith_type1 (thn (ha.run pos pins s σ H _ I h) fun us s1 ⟨vs, H1, I1, r1, q1⟩ => ?_) hs rfl))
  have fp : ∀ b ∈ [s1.heap.objs.size + 1, s1.heap.objs.size], FpOk X pins H1 b := fun b hb => by
    have hle : s1.heap.objs.size ≤ b := by
      have e' : b = s1.heap.objs.size + 1 ∨ b = s1.heap.objs.size := by simpa using hb
      omega
    exact I1.fpOk hle (I1.hok.fresh hle)
  rcases q1 with ⟨l, xs, ex, hq, q⟩ | ⟨l, xs, ex, hq, q⟩
  · subst ex
    cases r1 with
    | cons r rr =>
      cases rr
      cases r
      obtain ⟨its, rv, p', hz⟩ := I1.list hq
      refine call_enumT (begins_list l its.toArray) p'.isList fun h' he hit hsz hk => wpAny_pyIter_enum he ?_
      exact ⟨_, [_, _], _, _, H1, rfl, I1.kept (t' := s1.toks) hk, turn_enumB l (s1.heap.objs.size + 1) s1.heap.objs.size, ⟨⟨.none, he⟩, ⟨_, hit, rfl, rfl⟩, Nat.succ_ne_self _⟩, fp, q⟩
  · subst ex
    cases r1 with
    | cons r rr =>
      cases rr
      cases r
      obtain ⟨its, rv, p', hz⟩ := I1.tuple hq
      refine call_enumT (begins_tuple l its.toArray) p' fun h' he hit hsz hk => wpAny_pyIter_enum he ?_
      exact ⟨_, [_, _], _, _, H1, rfl, I1.kept (t' := s1.toks) hk, turn_enumT l (s1.heap.objs.size + 1) s1.heap.objs.size, ⟨⟨.none, he⟩, ⟨_, hit, rfl, rfl⟩, Nat.succ_ne_self _⟩, fp, q⟩
theorem pi_enumF2 {elts : List Expr} {kk : Nat} (hK : T.K = X.K) (hg : Gl X "enumerate") (hm : X.mg "enumerate" = none) (ha : PA X [a] (tEs T W ms)) (hs : starEach [a] X.env = [(false, eval a X.env)]) : PI X (.Tuple elts kk tpos) (.Call (.Name "enumerate" p) [a] [] pos) (tI T W (mPs enumOf2 ms)) :=
  PI.imp (pi_enumLT hg hm ha hs) fun σ H R h => tEs.mono (fun vs H1 ⟨G1, ds, l, hsub, r, hf, k⟩ => by
    unfold enumOf2 at hf
    split at hf
    · cases hf
      obtain ⟨v, rfl, rv⟩ := repFs1 r
      cases rv with
      | lst h1 k1 => rw [← hK]; exact .inl ⟨_, _, rfl, hsub.sqL h1, k _ (.enum h1 k1)⟩
    · cases hf
      obtain ⟨v, rfl, rv⟩ := repFs1 r
      cases rv with
      | tup h1 k1 => rw [← hK]; exact .inr ⟨_, _, rfl, hsub.sqT h1.sq, k _ (.enumT h1.sq k1)⟩
    · cases hf) (tI_args h)
end
end Fv

namespace Fv
open PySem PySem.Spec PyProof.Rows L2
/-! ### x op= e, x[i] op= e, of whole numbers -/
def dAug : Operator → Int → Int → Option Int
  | .Add, a, b => some (a + b)
  | .Sub, a, b => some (a - b)
  | .Mult, a, b => if mulB a b then none else some (a * b)
  | _, _, _ => none
def ipA (op : Operator) : TIp := fun x y H Q => ∃ i j k, x = .int i ∧ y = .int j ∧ dAug op i j = some k ∧ Q (.int k) H
def sAug (i : Nat) (op : Operator) (m : En → Ou R) : En → Fl := fun e =>
  match e[i]? with
  | some (some (.fr (.int a))) => match m e with
    | .ok r e1 => match pk e1 r with
      | some (.fr (.int b)) => match dAug op a b with
        | some c => if i < e1.length then .nx (e1.set i (some (.fr (.int c)))) else .no
        | none => .no
      | _ => .no
    | .ex x e1 => .ex x e1
    | .no => .no
  | _ => .no
def sAugS (i : Nat) (op : Operator) (mi m : En → Ou R) : En → Fl := fun e =>
  match e[i]? with
  | some (some (.ol _)) => match mi e with
    | .ok r1 e1 => match pk e1 r1, e1[i]? with
      | some (.fr (.int k)), some (some (.ol ds)) => match atI ds k with
        | some (.int a) => match m e1 with
          | .ok r2 e2 => match pk e2 r2, e2[i]? with
            | some (.fr (.int b)), some (some (.ol ds2)) => match dAug op a b, ixN ds2.length k with
              | some c, some j => .nx (e2.set i (some (.ol (ds2.set j (.int c)))))
              | _, _ => .no
            | _, _ => .no
          | .ex x e2 => .ex x e2
          | .no => .no
        | _ => .no
      | _, _ => .no
    | .ex x e1 => .ex x e1
    | .no => .no
  | _ => .no
section
variable {X : Cx} {T : Tb} {W : WX} {p : Nat → Bool} {G H : Hp} {σ : SV} {Dn : Ends}
theorem ip_A (op : Operator) : PIp X op (ipA op) := by
  intro pins s σ H x y v u Q I r1 r2 h
  obtain ⟨i, j, k, rfl, rfl, hk, q⟩ := h
  cases op <;> simp [dAug] at hk
  · subst hk
    exact ip_add pins s σ H _ _ v u Q I r1 r2 ⟨i, j, rfl, rfl, q⟩
  · subst hk
    exact ip_sub pins s σ H _ _ v u Q I r1 r2 ⟨i, j, rfl, rfl, q⟩
  · obtain ⟨hm, rfl⟩ := hk
    obtain ⟨t, rfl⟩ := r1
    obtain ⟨t', rfl⟩ := r2
    refine PyProof.Rows.imul_int ⟨.int _, H, I.tok _, ⟨_, rfl⟩, q⟩ ?_
    unfold IntMulOk
    unfold mulB at hm
    simpa using hm
theorem get_L : PGet X (rIxL X.K) := by
  intro pins s σ H x y v u Q I rx ry h
  obtain ⟨p, xs, i, z, rfl, rfl, hq, he, q⟩ := h
  cases rx
  obtain ⟨t, rfl⟩ := ry
  obtain ⟨its, r, pl, hz⟩ := I.list hq
  obtain ⟨j, h1, h2, h3, h4, h5⟩ := atI_get he
  obtain ⟨w, ew, rw'⟩ := r.get h2
  have hl := r.length
  have hn := line63
  by_cases h0 : 0 ≤ i
  · have hj : i.toNat = j := by
      rw [seqIndex_of h0 h5] at h1
      exact Option.some.inj h1
    exact wpAny_getItem_list pl.isList h0 (by omega) (x := w) (by rw [hj]; simpa using ew) ⟨z, H, I, rw', q⟩
  · have hj : (i + (its.toArray.size : Int)).toNat = j := by
      rw [seqIndex_neg (by omega) h4] at h1
      rw [List.size_toArray, ← hl]
      exact Option.some.inj h1
    exact wpAny_getItem_list_neg pl.isList (by omega) (by rw [List.size_toArray]; omega) (by omega) (x := w) (by rw [hj]; simpa using ew) ⟨z, H, I, rw', q⟩
/-- what was looked up is a whole number -/
theorem peek_int {e : En} {r : R} {v : V} {k : Int} {τ τ1 : List V} {u u1 : List S} (hr : HR σ [r] [v] τ1 u1) (md : Md T G H σ e (τ ++ τ1) (u ++ u1)) (hl : τ.length = u.length) (hp : pk e r = some (.fr (.int k))) : v = .int k := by
  have hq := hr.peek (ss := [.fr (.int k)]) md hl (by unfold pks; rw [hp]; rfl)
  obtain ⟨w, sw, hw, rw', ew⟩ := repOs1 hq rfl
  cases hw
  exact rw'.int ew
theorem tS_aug {i : Nat} (hp : p i = false) {op : Operator} {m : En → Ou R} : tS T W p (sAug i op m) Dn σ H → tAug i (tE T W m) (ipA op) Dn σ H := by
  rintro ⟨G, e, sl, q⟩
  unfold sAug at q
  split at q
  · rename_i a he
    obtain ⟨v, hv, ro⟩ := sl.rep i _ he
    obtain rfl := ro.int rfl
    refine ⟨_, hv, G, e, [], [], sl.md, ?_⟩
    rw [As_nil]
    cases hm : m e with
    | no => rw [hm] at q; exact q
    | ex x e1 =>
      rw [hm] at q
      exact fun G1 H1 c dx ev md rx => q σ c dx G1 H1 (by rw [As_nil] at ev; exact ev) md.base rfl .refl rx
    | ok r e1 =>
      rw [hm] at q
      intro G1 H1 y τ' u' ev md hr
      simp only at q
      split at q
      · rename_i b hb
        split at q
        · rename_i c hc
          split at q
          · rename_i hi
            obtain rfl := peek_int (τ := []) (u := []) hr md rfl hb
            obtain ⟨s1, f1⟩ := md.base.setFr (d := .int c) hi (.int c)
            exact ⟨a, b, c, rfl, rfl, hc, q _ G1 H1 (ev.less fun b hb => As_base md.l1 b (f1 b hb)) s1 (by simp) (.set hp)⟩
          · exact q.elim
        · exact q.elim
      · exact q.elim
  · exact q.elim
theorem tS_augS {i : Nat} {op : Operator} {mi m : En → Ou R} : tS T W p (sAugS i op mi m) Dn σ H → tAugS (tE T W (bVar i)) (tE T W mi) (tE T W m) (rIxL T.K) (ipA op) rSetL Dn σ H := by
  rintro ⟨G, e, sl, q⟩
  unfold sAugS at q
  split at q
  · rename_i d0 h0
    refine ⟨G, e, [], [], sl.md, ?_⟩
    unfold bVar
    rw [h0, As_nil]
    intro G1 H1 o τ' u' ev1 md1 hr1
    cases hr1 with
    | pl hv1 hn1 =>
      cases hn1
      rw [List.append_nil, List.append_nil] at ev1 md1
      refine ⟨G1, e, [], [], md1, ?_⟩
      cases hm : mi e with
      | no => rw [hm] at q; exact q.elim
      | ex x e1 =>
        rw [hm] at q
        exact fun G2 H2 c dx ev2 md2 rx => q σ c dx G2 H2 ((ev1.trans ev2).less (As_base md2.l1)) md2.base rfl .refl rx
      | ok r1 e1 =>
        rw [hm] at q
        intro G2 H2 iv τ2 u2 ev2 md2 hr2
        simp only at q
        split at q
        · rename_i k ds hp1 h2
          split at q
          · rename_i a ha
            obtain rfl := peek_int (τ := []) (u := []) hr2 md2 rfl hp1
            obtain ⟨ad, xs, hva, hA, rxs⟩ := md2.olAt h2
            rw [hv1] at hva; cases hva
            have hx : atI xs k = some (.int a) := by
              unfold atI at ha ⊢
              rw [rxs.length]
              cases hj : ixN ds.length k with
              | none => rw [hj] at ha; cases ha
              | some j =>
                rw [hj] at ha
                obtain ⟨v, e1, e2⟩ := rxs.get (i := j) (d := .int a) ha
                cases e2
                exact e1
            refine ⟨ad, xs, k, .int a, rfl, rfl, .inl (.inl hA), hx, G2, e1, _, _, md2, ?_⟩
            cases hm2 : m e1 with
            | no => rw [hm2] at q; exact q.elim
            | ex x e2 =>
              rw [hm2] at q
              exact fun G3 H3 c dx ev3 md3 rx => q σ c dx G3 H3 (((ev1.trans ev2).trans ev3).less (As_base md3.l1)) md3.base rfl .refl rx
            | ok r2 e2 =>
              rw [hm2] at q
              intro G3 H3 bv τ3 u3 ev3 md3 hr3
              simp only at q
              split at q
              · rename_i b ds2 hp2 h3
                split at q
                · rename_i c j hc hj
                  obtain rfl := peek_int hr3 md3 (by simpa using md2.l2) hp2
                  obtain ⟨ad2, xs2, hva2, hA2, rxs2⟩ := md3.olAt h3
                  rw [hv1] at hva2; cases hva2
                  obtain ⟨md4, ev4⟩ := md3.wr h3 hv1 hA2 (rxs2.set (.int c) j)
                  refine ⟨a, b, c, rfl, rfl, hc, ad, xs2, k, j, rfl, rfl, hA2, by rw [rxs2.length]; exact hj, ?_⟩
                  exact q σ G3 _ ((((ev1.trans ev2).trans ev3).trans ev4).less (As_base md4.l1)) md4.base rfl .refl
                · exact q.elim
              · exact q.elim
          · exact q.elim
        · exact q.elim
  · exact q.elim
end
section
variable {X : Cx} {T : Tb} {W : WX} {p : Nat → Bool} {e i : Expr} {m mi : En → Ou R} {x : Str} {n : Nat} {op : Operator} {pn pos : Pos}
theorem ps_augF (hN : X.N.Nodup) (hi : X.N[n]? = some x) (hx : Loc X.env.scope x) (hp : p n = false) (he : PE X e (tE T W m)) (hf : X.fn x = true ∨ X.env.scope.names.lookup x = some .local) : PS X (.AugAssign (.Name x pn) op e pos) (tS T W p (sAug n op m)) :=
  PS.imp (ps_aug hN hi hx he (ip_A op) hf) fun _ _ _ h => tS_aug hp h
theorem ps_augSF (hK : T.K = X.K) (ho : PE X (.Name x pn) (tE T W (bVar n))) (hi : PE X i (tE T W mi)) (he : PE X e (tE T W m)) {tpos : Pos}
    (ha : ∀ ov iv new, augStore i ov iv new = (do holding [new, ov, iv] (setItem ov iv new); release [new, ov, iv] []; pure .next)) : PS X (.AugAssign (.Subscript (.Name x pn) i tpos) op e pos) (tS T W p (sAugS n op mi m)) :=
  PS.imp (ps_augS ho hi get_L he (ip_A op) set_list ha) fun D σ H h => by
    have h := tS_augS h
    rw [hK] at h
    exact h
end
end Fv

namespace Fv
open PySem PySem.Spec PyProof.Rows L2
/-! ### methods that change a list of one's own -/
def bMt (f : List D → List D → Option (List D × D)) (i : Nat) (ms : En → Ou (List R)) : En → Ou R := fun e =>
  match e[i]? with
  | some (some (.ol _)) => match ms e with
    | .ok rs e1 => match frzs e1 rs with
      | some (as, e2) => match e2[i]? with
        | some (some (.ol ds)) => match f ds as with
          | some (ds', d) => .ok (.vl (.fr d)) (e2.set i (some (.ol ds')))
          | none => .no
        | _ => .no
      | none => .no
    | .ex x e1 => .ex x e1
    | .no => .no
  | _ => .no
def MtOk (r : V → List V → Hp → VK → Prop) (f : List D → List D → Option (List D × D)) : Prop :=
  ∀ (T : Tb) (G H : Hp) (a : Addr) (xs vs : List V) (ds as ds' : List D) (d : D) (Q : VK), H a = some (.lst xs) → RepFs T G xs ds → RepFs T G vs as → f ds as = some (ds', d) →
    (∀ (xs' : List V) (v : V), RepFs T G xs' ds' → RepF T G v d → Q v (upd H a (.lst xs'))) → r (.ref a) vs H Q
def fApp (ds as : List D) : Option (List D × D) := match as with
  | [d] => if ds.length < 16777216 then some (ds ++ [d], .non) else none
  | _ => none
def fPop (ds as : List D) : Option (List D × D) := match as with
  | [] => (ds[ds.length - 1]?).map fun d => (ds.dropLast, d)
  | _ => none
def fPopAt (ds as : List D) : Option (List D × D) := match as with
  | [.int i] => if -(2 ^ 63) ≤ i ∧ i < 2 ^ 63 then (seqIndex? i ds.length).bind fun k => (ds[k]?).map fun d => (ds.eraseIdx k, d) else none
  | _ => none
def fIns (ds as : List D) : Option (List D × D) := match as with
  | [.int i, d] => if ds.length < 16777216 ∧ 0 ≤ i ∧ i < 2 ^ 62 then some (ds.take i.toNat ++ [d] ++ ds.drop i.toNat, .non) else none
  | _ => none
def fRev (ds as : List D) : Option (List D × D) := match as with
  | [] => some (ds.reverse, .non)
  | _ => none
def fClr (ds as : List D) : Option (List D × D) := match as with
  | [] => some ([], .non)
  | _ => none
theorem RepFs.dropLast {T : Tb} {G : Hp} {vs : List V} {ds : List D} (r : RepFs T G vs ds) : RepFs T G vs.dropLast ds.dropLast := by
  rw [List.dropLast_eq_take, List.dropLast_eq_take, r.length]
  exact r.take _
theorem RepFs.erase {T : Tb} {G : Hp} {vs : List V} {ds : List D} (r : RepFs T G vs ds) (k : Nat) : RepFs T G (vs.eraseIdx k) (ds.eraseIdx k) := by
  rw [List.eraseIdx_eq_take_drop_succ, List.eraseIdx_eq_take_drop_succ]
  exact (r.take _).append (r.drop _)
theorem RepFs.rev {T : Tb} {G : Hp} : ∀ {vs : List V} {ds : List D}, RepFs T G vs ds → RepFs T G vs.reverse ds.reverse
  | _, _, .nil => .nil
  | _, _, .cons r rs => by
    rw [List.reverse_cons, List.reverse_cons]
    exact (RepFs.rev rs).append (.cons r .nil)
theorem line24 {n : Nat} (h : n < 16777216) : n < sizeLine := Nat.lt_of_lt_of_le h (by decide)
theorem mo_app : MtOk rAppend fApp := fun T G H a xs vs ds as ds' d Q hA rx rv hf k => by
  unfold fApp at hf
  split at hf
  · split at hf
    · rename_i hz
      cases hf
      cases rv with
      | cons r1 r2 =>
        cases r2
        exact ⟨a, xs, _, rfl, rfl, hA, by rw [rx.length]; exact line24 hz, k _ _ (rx.append (.cons r1 .nil)) .non⟩
    · cases hf
  · cases hf
theorem mo_pop : MtOk rPop fPop := fun T G H a xs vs ds as ds' d Q hA rx rv hf k => by
  unfold fPop at hf
  split at hf
  · cases rv
    cases hd : ds[ds.length - 1]? with
    | none => rw [hd] at hf; cases hf
    | some d0 =>
      rw [hd] at hf; cases hf
      obtain ⟨v, e1, e2⟩ := rx.get hd
      exact ⟨a, xs, v, rfl, rfl, hA, by rw [rx.length]; exact e1, k _ _ rx.dropLast e2⟩
  · cases hf
theorem mo_popAt : MtOk rPopAt fPopAt := fun T G H a xs vs ds as ds' d Q hA rx rv hf k => by
  unfold fPopAt at hf
  split at hf
  · rename_i i
    split at hf
    · rename_i hz
      cases rv with
      | cons r1 r2 =>
        cases r2
        cases r1
        cases hj : seqIndex? i ds.length with
        | none => rw [hj] at hf; cases hf
        | some j =>
          rw [hj] at hf
          cases hd : ds[j]? with
          | none => simp [hd] at hf
          | some d0 =>
            simp [hd] at hf
            obtain ⟨rfl, rfl⟩ := hf
            obtain ⟨v, e1, e2⟩ := rx.get hd
            exact ⟨a, xs, i, j, v, rfl, rfl, hA, by omega, by omega, by rw [rx.length]; exact hj, e1, k _ _ (rx.erase j) e2⟩
    · cases hf
  · cases hf
theorem mo_rev : MtOk rReverse fRev := fun T G H a xs vs ds as ds' d Q hA rx rv hf k => by
  unfold fRev at hf
  split at hf
  · cases hf; cases rv; exact ⟨a, xs, rfl, rfl, hA, k _ _ rx.rev .non⟩
  · cases hf
theorem mo_clr : MtOk rClear fClr := fun T G H a xs vs ds as ds' d Q hA rx rv hf k => by
  unfold fClr at hf
  split at hf
  · cases hf; cases rv; exact ⟨a, xs, rfl, rfl, hA, k _ _ .nil .non⟩
  · cases hf
section
variable {T : Tb} {W : WX} {H : Hp} {σ : SV} {r : V → List V → Hp → VK → Prop} {f : List D → List D → Option (List D × D)}
theorem tE_mt (ho : MtOk r f) {i : Nat} {ms : En → Ou (List R)} {Q : VK} : tE T W (bMt f i ms) σ H Q → tE T W (bVar i) σ H fun x H1 => tyV T.K "list" x H1 ∧ tEs T W ms σ H1 fun xs H2 => r x xs H2 Q := by
  rintro ⟨G, e, τ, u, md, q⟩
  refine ⟨G, e, τ, u, md, ?_⟩
  unfold bMt at q
  split at q
  · rename_i d0 h0
    unfold bVar
    rw [h0]
    intro G1 H1 x τ' u' ev1 md1 hr1
    cases hr1 with
    | pl hv1 hn1 =>
      cases hn1
      rw [List.append_nil, List.append_nil] at ev1 md1
      obtain ⟨a, xs0, hva, hA0, _⟩ := md1.olAt h0
      rw [hv1] at hva; cases hva
      refine ⟨.inl ⟨rfl, _, .inl (.inl hA0)⟩, G1, e, τ, u, md1, ?_⟩
      cases hm : ms e with
      | no => rw [hm] at q; exact q.elim
      | ex x e1 =>
        rw [hm] at q
        exact fun G2 H2 c dx ev2 md2 rx => q G2 H2 c dx (ev1.trans ev2) md2 rx
      | ok rs e1 =>
        rw [hm] at q
        intro G2 H2 vs τ2 u2 ev2 md2 hr2
        simp only at q
        split at q
        · rename_i as e2 hf
          split at q
          · rename_i ds h2
            split at q
            · rename_i ds' d hfd
              obtain ⟨G3, u3, ev3, md3, r3⟩ := hr2.freeze md2 md1.l2 hf
              have md4 := md3.dropT md1.l2
              obtain ⟨a2, xs, hva2, hA, rxs⟩ := md4.olAt h2
              rw [hv1] at hva2; cases hva2
              refine ho T G3 H2 a xs vs ds as ds' d Q hA rxs r3 hfd fun xs' v rx' rv => ?_
              obtain ⟨md5, ev5⟩ := md4.wr h2 hv1 hA rx'
              have ev := (((ev1.trans ev2).trans ev3).less (As_drop md3.l1 md1.l2)).trans ev5
              refine q G3 _ v [v] [.fr d] (ev.less fun b hb => ?_) (md5.push (.fr rv) (by rw [fp_fr]; simp)) (.vl .nil)
              rcases (As_push md5.l1 md5.l2 b).mp hb with z | z
              · exact z
              · rw [fp_fr] at z; simp at z
            · exact q.elim
          · exact q.elim
        · exact q.elim
  · exact q.elim
end
section
variable {X : Cx} {T : Tb} {W : WX} {r : V → List V → Hp → VK → Prop} {f : List D → List D → Option (List D × D)} {i : Nat} {ms : En → Ou (List R)} {e : Expr} {es : List Expr} {x name : Str} {id : String} {pn apos cpos : Pos}
theorem pe_mtF (hK : T.K = X.K) (slot : Slot "list" name id) (hty : typeOf (.builtin id) = pure (.type "method_descriptor")) (hm : MtR X id r) (ho : MtOk r f) (hv : PE X (.Name x pn) (tE T W (bVar i))) (ha : PA X (e :: es) (tEs T W ms))
    (hbase : attributeBase (.Name x pn) name X.env (eval (.Name x pn) X.env) = eval (.Name x pn) X.env)
    (hfew : ((backTo cpos (starEach (e :: es) X.env)).all (fun x => !x.1) && (backToKw cpos (keywordEach [] X.env)).all (fun x => x.1.isSome)
      && decide ((e :: es).length + ([] : List Keyword).length + (if ([] : List Keyword).isEmpty then 0 else 1) < 30)) = true)
    (hline : (apos.endLine == cpos.line) = true) (hs : starEach (e :: es) X.env = (false, eval e X.env) :: starEach es X.env) (hplain : (backTo cpos (starEach es X.env)).any (·.1) = false) :
    PE X (.Call (.Attribute (.Name x pn) name apos) (e :: es) [] cpos) (tE T W (bMt f i ms)) :=
  PE.imp (pe_bm PySem.F.plainAttrs_list slot hty hm hv ha hbase hfew hline hs hplain) fun σ H Q h => by
    have h := tE_mt ho h
    rw [hK] at h
    exact h
theorem pe_mt0F (hK : T.K = X.K) (slot : Slot "list" name id) (hty : typeOf (.builtin id) = pure (.type "method_descriptor")) (hm : MtR X id r) (ho : MtOk r f) (hv : PE X (.Name x pn) (tE T W (bVar i)))
    (hbase : attributeBase (.Name x pn) name X.env (eval (.Name x pn) X.env) = eval (.Name x pn) X.env) (hline : (apos.endLine == cpos.line) = true) :
    PE X (.Call (.Attribute (.Name x pn) name apos) [] [] cpos) (tE T W (bMt f i aNil)) :=
  PE.imp (pe_bm0 PySem.F.plainAttrs_list slot hty hm hv hbase hline) fun σ H Q h => by
    have h := tE_mt ho h
    rw [hK] at h
    exact tE.mono (fun _ _ k => ⟨k.1, tEs_nil k.2⟩) h
end
end Fv

namespace Fv
open PySem PySem.Spec PyProof.Rows L2
/-! ### instances of the text's classes -/
def dFld (cs : List Nat) (f : Str) : List D → Option S
  | [.ins c ns vs] => if cs.contains c then ((ns.zip vs).lookup f).map .fr else none
  | _ => none
def rFld (K : PySem.W.Frag) (f : Str) : List V → Hp → VK → Prop := fun xs H Q => ∃ x, xs = [x] ∧ ∃ a C dx fs v, x = .ref a ∧ H a = some (.ins C dx fs) ∧ Cls K C ∧ NoAttr K C f ∧ fs.lookup f = some v ∧ Q v H
theorem RepFs.lk {T : Tb} {G : Hp} {vs : List V} {ds : List D} (r : RepFs T G vs ds) {ns : List Str} {f : Str} {d : D} (h : (ns.zip ds).lookup f = some d) : ∃ v, (ns.zip vs).lookup f = some v ∧ RepF T G v d := by
  obtain ⟨v, h1, h2⟩ := (zip_lk (ks := ns) (p := f) (paired_flip (repFs_paired r))).1 d h
  exact ⟨v, h1, h2⟩
theorem lk_none {α β : Type} {ns : List Str} {vs : List α} {f : Str} (h : ns.contains f = false) : (ns.zip vs).lookup f = none := by
  induction ns generalizing vs with
  | nil => simp
  | cons n ns ih =>
    cases vs with
    | nil => simp
    | cons v vs =>
      simp only [List.contains_cons, Bool.or_eq_false_iff] at h
      simp only [List.zip_cons_cons, List.lookup_cons, h.1]
      exact ih h.2
section
variable {X : Cx} {T : Tb} {W : WX} {e o : Expr} {es : List Expr} {m mo : En → Ou R} {ms : En → Ou (List R)} {f mn x : Str} {cs : List Nat} {c : Nat} {pos apos p : Pos} {k j np : Nat} {ps : List Str} {fn : List S → FO}
theorem fo_fld (h : ∀ c ∈ cs, Cls T.K (T.ca c) ∧ NoAttr T.K (T.ca c) f) : FunOk T (rFld T.K f) (dFld cs f) := fun G H vs ss s Q hs r hf k => by
  unfold dFld at hf
  split at hf
  · rename_i c ns vs' heq
    obtain ⟨v, s1, rfl, r1, e1⟩ := repOs1 r heq
    split at hf
    · rename_i hc
      obtain ⟨a, dx, xs, rfl, hA, hl, r2⟩ := r1.ins hs e1
      cases hd : (ns.zip vs').lookup f with
      | none => rw [hd] at hf; cases hf
      | some d =>
        rw [hd] at hf; cases hf
        obtain ⟨w, h1, h2⟩ := r2.lk hd
        obtain ⟨h3, h4⟩ := h c (by simpa using hc)
        exact ⟨_, rfl, a, _, dx, _, w, rfl, hA, h3, h4, h1, done_fr (W := True) hs k h2⟩
    · cases hf
  · cases hf
theorem pe_fldF (hK : T.K = X.K) (h : ∀ c ∈ cs, Cls T.K (T.ca c) ∧ NoAttr T.K (T.ca c) f) (he : PE X e (tE T W m)) (hb : attributeBase e f X.env (eval e X.env) = eval e X.env) : PE X (.Attribute e f pos) (tE T W (b1 (pS (dFld cs f)) m)) :=
  PE.imp (pe_fld he hb) fun σ H Q q => tE.mono (fun v H1 ⟨x, hx, a, C, dx, fs, w, h1⟩ => by
    cases hx
    rw [hK] at h1
    exact ⟨a, C, dx, fs, w, h1⟩) (tE_prim1 (prim_S (fo_fld h)) q)
/-! o.m(..) -/
def bMeth (c : Nat) (mn : Str) (np : Nat) (fn : List S → FO) (mo : En → Ou R) (ms : En → Ou (List R)) : En → Ou R := fun e =>
  match mo e with
  | .ok r e1 => match pk e1 r with
    | some s => match s.d with
      | .ins c' ns _ => if c' = c ∧ ns.contains mn = false then (match ms e1 with
          | .ok rs e2 => pCall np fn (r :: rs) e2
          | .ex x e2 => .ex x e2
          | .no => .no) else .no
      | _ => .no
    | none => .no
  | .ex x e1 => .ex x e1
  | .no => .no
def tMethS (C : Addr) (m : Str) (sp : Sp) (E : L2.St → XK) (ta : TE) (t : TA) : TE := fun σ H Q => ta σ H fun x H1 => ∃ a dx fs, x = .ref a ∧ H1 a = some (.ins C dx fs) ∧ fs.lookup m = none ∧ t σ H1 fun vs H2 => sp (x :: vs) H2 Q (E σ)
theorem pe_methS {CX : CXT} {C fa : Addr} {fd : FuncData} {sp : Sp} {E : L2.St → XK} {ta : TE} {t : TA} {pl : Sem Bool} (he : PE X o ta) (c : Cls X.K C) (hm : Meth X.K C mn fa) (F : FnOk X.prog X.w X.K X.mg X.base CX k fa fd ps sp) (hr : Room k X.A) (hb : L2.Binds X.K fd ps []) (hx : ∀ σ, PassesAt CX X σ (E σ)) (ha : PA X (e :: es) t)
    (hst : starEach (e :: es) X.env = (false, eval e X.env) :: starEach es X.env) (hpl : (backTo pos (starEach es X.env)).any (·.1) = false)
    (ht : eval (.Call (.Attribute o mn apos) (e :: es) [] pos) X.env = (do
      let ov ← eval o X.env
      standAt apos.atName
      let (f, first) ← holding [ov] (getMethod ov mn pl)
      callWith pos f first (backTo pos (starEach (e :: es) X.env)) (backToKw pos (keywordEach [] X.env)))) :
    PE X (.Call (.Attribute o mn apos) (e :: es) [] pos) (tMethS C mn sp E ta t) := by
  refine ⟨fun pins s σ H Q I h => ?_⟩
  refine PySem.W.methodCall_KW (pl := pl) (thn (he.run pins s σ H _ I h) fun u s1 ⟨x, H1, I1, rx, a, dx, fs, ex, ea, l, q⟩ => ?_) ht
  subst ex
  obtain rfl : u = Value.ref a := rx
  refine getmeth_ok I1 ea c hm l ?_
  refine PySem.W.callWith_K (first := [.ref a]) (h₀ := X.base) I.ok.mod.kin hm.kp (thn (ha.run pos pins s1 σ H1 _ I1 q) fun us s2 ⟨vs, H2, I2, r, q2⟩ => ⟨I2.kIn, ?_⟩) hst hpl
  exact run_fnS (us := .ref a :: us) (vs := .ref a :: vs) F hr hb (hx σ) I2 (.cons rfl r) q2
theorem pe_meth0S {CX : CXT} {C fa : Addr} {fd : FuncData} {sp : Sp} {E : L2.St → XK} {ta : TE} {pl : Sem Bool} (he : PE X o ta) (c : Cls X.K C) (hm : Meth X.K C mn fa) (F : FnOk X.prog X.w X.K X.mg X.base CX k fa fd ps sp) (hr : Room k X.A) (hb : L2.Binds X.K fd ps []) (hx : ∀ σ, PassesAt CX X σ (E σ))
    (ht : eval (.Call (.Attribute o mn apos) [] [] pos) X.env = (do
      let ov ← eval o X.env
      standAt apos.atName
      let (f, first) ← holding [ov] (getMethod ov mn pl)
      callWith pos f first (backTo pos (starEach [] X.env)) (backToKw pos (keywordEach [] X.env)))) :
    PE X (.Call (.Attribute o mn apos) [] [] pos) (tMethS C mn sp E ta tNil) := by
  refine ⟨fun pins s σ H Q I h => ?_⟩
  refine PySem.W.methodCall_KW (pl := pl) (thn (he.run pins s σ H _ I h) fun u s1 ⟨x, H1, I1, rx, a, dx, fs, ex, ea, l, q⟩ => ?_) ht
  subst ex
  obtain rfl : u = Value.ref a := rx
  refine getmeth_ok I1 ea c hm l ?_
  exact PySem.W.callWith_K0 (first := [.ref a]) I1.kIn hm.kp (run_fnS (us := [.ref a]) (vs := [.ref a]) F hr hb (hx σ) I1 (.cons rfl .nil) q)
theorem tE_meth {σ : SV} {H : Hp} {Q : VK} : tE T W (bMeth c mn np fn mo ms) σ H Q → tMethS (T.ca c) mn (spD T np fn) (WE W) (tE T W mo) (tEs T W ms) σ H Q := by
  rintro ⟨G, e, τ, u, md, p⟩
  refine ⟨G, e, τ, u, md, ?_⟩
  unfold bMeth at p
  cases hm : mo e with
  | no => rw [hm] at p; exact p
  | ex x e1 => rw [hm] at p; exact p
  | ok r e1 =>
    rw [hm] at p
    intro G1 H1 v τ1 u1 ev1 md1 hr1
    simp only at p
    cases hp : pk e1 r with
    | none => rw [hp] at p; exact p.elim
    | some s =>
      rw [hp] at p
      simp only at p
      have rs := hr1.peek md1 md.l2 (ss := [s]) (by simp only [pks, hp])
      cases rs with
      | cons ro _ =>
        cases hd : s.d with
        | ins c' ns ds =>
          rw [hd] at p
          simp only at p
          split at p
          · rename_i hc
            obtain ⟨a, dx, xs, rfl, hA, hl, _⟩ := ro.ins md1.sl.sub hd
            refine ⟨a, dx, ns.zip xs, rfl, by rw [← hc.1]; exact hA, lk_none (β := Nat) hc.2, G1, e1, τ ++ τ1, u ++ u1, md1, ?_⟩
            cases hs : ms e1 with
            | no => rw [hs] at p; exact p
            | ex x e2 =>
              rw [hs] at p
              exact fun G2 H2 c dx ev2 md2 rx => p G2 H2 c dx ((ev1.trans ev2).less (As_drop md2.l1 md.l2)) (md2.dropT md.l2) rx
            | ok rs e2 =>
              rw [hs] at p
              intro G2 H2 vs τ2 u2 ev2 md2 hr2
              have md3 : Md T G2 H2 σ e2 (τ ++ (τ1 ++ τ2)) (u ++ (u1 ++ u2)) := by rw [← List.append_assoc, ← List.append_assoc]; exact md2
              have ev3 : Evo T.tbs G H (As σ e τ u) G2 H2 (As σ e2 (τ ++ (τ1 ++ τ2)) (u ++ (u1 ++ u2))) := by rw [← List.append_assoc, ← List.append_assoc]; exact ev1.trans ev2
              exact prim_call G2 H2 σ e2 τ (τ1 ++ τ2) u (u1 ++ u2) (r :: rs) (.ref a :: vs) Q md3 md.l2 (hr1.app hr2) (Post.after p ev3)
          · exact p.elim
        | _ => rw [hd] at p; exact p.elim
/-- a method of a class of the text, as the others call it -/
structure Fm (T : Tb) (P : Program) (w : World) (K : PySem.W.Frag) (mg : Str → Option Value) (base : Heap) (c : Nat) (mn : Str) (ps : List Str) (k : Nat) (fn : List S → FO) : Prop where
  ex : ∃ (f : Addr) (fd : FuncData), FnOk P w K mg base (L2N.CX P w) k f fd ps (spD T ps.length fn) ∧ Meth K (T.ca c) mn f ∧ Cls K (T.ca c) ∧ L2.Binds K fd ps []
theorem pe_methF {pl : Sem Bool} (F : Fm T X.prog X.w X.K X.mg X.base c mn ps j fn) (hr : Room k X.A) (hj : j ≤ k) (tk : L2N.Takes X W) (hnp : ps.length = np) (he : PE X o (tE T W mo)) (ha : PA X (e :: es) (tEs T W ms))
    (hst : starEach (e :: es) X.env = (false, eval e X.env) :: starEach es X.env) (hpl : (backTo pos (starEach es X.env)).any (·.1) = false)
    (ht : eval (.Call (.Attribute o mn apos) (e :: es) [] pos) X.env = (do
      let ov ← eval o X.env
      standAt apos.atName
      let (f, first) ← holding [ov] (getMethod ov mn pl)
      callWith pos f first (backTo pos (starEach (e :: es) X.env)) (backToKw pos (keywordEach [] X.env)))) :
    PE X (.Call (.Attribute o mn apos) (e :: es) [] pos) (tE T W (bMeth c mn np fn mo ms)) := by
  subst hnp
  obtain ⟨f, fd, F, hm, hc, hb⟩ := F.ex
  exact PE.imp (pe_methS (E := WE W) he hc hm F (hr.mono hj) hb (L2N.passAt tk) ha hst hpl ht) fun σ H Q h => tE_meth h
theorem pe_meth0F {pl : Sem Bool} (F : Fm T X.prog X.w X.K X.mg X.base c mn ps j fn) (hr : Room k X.A) (hj : j ≤ k) (tk : L2N.Takes X W) (hnp : ps.length = np) (he : PE X o (tE T W mo))
    (ht : eval (.Call (.Attribute o mn apos) [] [] pos) X.env = (do
      let ov ← eval o X.env
      standAt apos.atName
      let (f, first) ← holding [ov] (getMethod ov mn pl)
      callWith pos f first (backTo pos (starEach [] X.env)) (backToKw pos (keywordEach [] X.env)))) :
    PE X (.Call (.Attribute o mn apos) [] [] pos) (tE T W (bMeth c mn np fn mo aNil)) := by
  subst hnp
  obtain ⟨f, fd, F, hm, hc, hb⟩ := F.ex
  refine PE.imp (pe_meth0S (E := WE W) he hc hm F (hr.mono hj) hb (L2N.passAt tk) ht) fun σ H Q h => ?_
  have h := tE_meth h
  exact tE.mono (fun x H1 ⟨a, dx, fs, h1, h2, h3, h4⟩ => ⟨a, dx, fs, h1, h2, h3, tEs_nil h4⟩) h
end
/-! ### self.f = .. -/
def putI {α : Type} (f : Str) (v : α) : List Str → List α → List Str × List α
  | n :: ns, x :: xs => if n = f then (n :: ns, v :: xs) else ((n :: (putI f v ns xs).1), x :: (putI f v ns xs).2)
  | _, _ => ([f], [v])
theorem putI_put {α : Type} {f : Str} {v : α} : ∀ {ns : List Str} {xs : List α}, ns.length = xs.length → (putI f v ns xs).1.length = (putI f v ns xs).2.length
  | [], [], _ => rfl
  | [], _ :: _, h => by simp at h
  | _ :: _, [], h => by simp at h
  | n :: ns, x :: xs, h => by
    unfold putI
    split
    · simpa using h
    · simp only [List.length_cons]; rw [putI_put (by simpa using h)]
theorem putI_ns {α β : Type} {f : Str} {v : α} {w : β} : ∀ {ns : List Str} {xs : List α} {ys : List β}, xs.length = ys.length → (putI f v ns xs).1 = (putI f w ns ys).1
  | [], [], [], _ => rfl
  | [], _ :: _, _ :: _, _ => rfl
  | _ :: _, [], [], _ => rfl
  | n :: ns, x :: xs, y :: ys, h => by
    unfold putI
    split
    · rfl
    · simp only; rw [putI_ns (by simpa using h)]
  | _, [], _ :: _, h => by simp at h
  | _, _ :: _, [], h => by simp at h
theorem putF_zip {f : Str} {v : V} : ∀ {ns : List Str} {xs : List V}, ns.length = xs.length → putF f v (ns.zip xs) = (putI f v ns xs).1.zip (putI f v ns xs).2
  | [], [], _ => rfl
  | [], _ :: _, h => by simp at h
  | _ :: _, [], h => by simp at h
  | n :: ns, x :: xs, h => by
    unfold putI
    simp only [List.zip_cons_cons, putF]
    split
    · simp
    · simp only [List.zip_cons_cons]; rw [putF_zip (by simpa using h)]
theorem putI_rep {T : Tb} {G : Hp} {f : Str} {v : V} {d : D} (r : RepF T G v d) : ∀ {ns : List Str} {xs : List V} {ds : List D}, RepFs T G xs ds → RepFs T G (putI f v ns xs).2 (putI f d ns ds).2
  | [], _, _, .nil => .cons r .nil
  | [], _, _, .cons _ _ => .cons r .nil
  | _ :: _, _, _, .nil => .cons r .nil
  | n :: ns, _, _, .cons h t => by
    unfold putI
    split
    · exact .cons r t
    · exact .cons h (putI_rep r t)
def sFld (i c : Nat) (f : Str) (m : En → Ou R) : En → Fl := fun e =>
  match m e with
  | .ok r e1 => match frz1 e1 r with
    | some (d, e2) => match e2[i]? with
      | some (some (.oi c' ns vs)) => if c' = c ∧ ns.length < 1000 then .nx (e2.set i (some (.oi c (putI f d ns vs).1 (putI f d ns vs).2))) else .no
      | _ => .no
    | none => .no
  | .ex x e1 => .ex x e1
  | .no => .no
section
variable {X : Cx} {T : Tb} {W : WX} {p : Nat → Bool} {m : En → Ou R} {f x : Str} {c i : Nat} {pos pos' pn : Pos} {value : Expr}
theorem tS_fld {Dn : Ends} {σ : SV} {H : Hp} (hc : Cls T.K (T.ca c)) (hn : NoAttr T.K (T.ca c) f) : tS T W p (sFld i c f m) Dn σ H → L2.sFld T.K (tVar i) (tE T W m) f Dn σ H := by
  rintro ⟨G, e, sl, q⟩
  refine ⟨G, e, [], [], sl.md, ?_⟩
  rw [As_nil]
  unfold sFld at q
  cases hm : m e with
  | no => rw [hm] at q; exact q
  | ex x e1 =>
    rw [hm] at q
    exact fun G1 H1 c dx ev md rx => q σ c dx G1 H1 (by rw [As_nil] at ev; exact ev) md.base rfl .refl rx
  | ok r e1 =>
    rw [hm] at q
    intro G1 H1 y τ1 u1 ev md hr
    simp only at q
    cases hf : frz1 e1 r with
    | none => rw [hf] at q; exact q.elim
    | some z =>
      obtain ⟨d, e2⟩ := z
      rw [hf] at q
      simp only at q
      obtain ⟨G2, ev2, md2, rd⟩ := frz1_ok (τ := []) (u := []) md rfl hr hf
      have sl2 := md2.sl0
      cases h0 : e2[i]? with
      | none => rw [h0] at q; exact q.elim
      | some w => cases w with
        | none => rw [h0] at q; exact q.elim
        | some s => cases s with
          | oi c' ns vs =>
            rw [h0] at q
            simp only at q
            split at q
            · rename_i hcc
              obtain ⟨rfl, hl⟩ := hcc
              obtain ⟨v, hv, ro⟩ := sl2.rep i _ h0
              cases ro with
              | @oi a dx _ _ xs _ hA hG hll rs =>
                refine ⟨.ref a, hv, a, T.ca c', dx, ns.zip xs, rfl, hA, hc, hn, by rw [List.length_zip]; omega, ?_⟩
                have el : (putI f d ns vs).1 = (putI f y ns xs).1 := putI_ns rs.length.symm
                have new : RepO T G2 (upd H1 a (.ins (T.ca c') dx (putF f y (ns.zip xs)))) (.ref a) (.oi c' (putI f d ns vs).1 (putI f d ns vs).2) := by
                  rw [putF_zip hll, el]
                  exact .oi upd_same hG (putI_put hll) (putI_rep rd rs)
                obtain ⟨s3, ev3⟩ := sl2.wrG h0 hv (by simp [fp]) new fun b hb => by simpa [fp] using hb
                have ev23 : Evo T.tbs G H (fps σ e) G2 H1 (fps σ e2) := by
                  have := ev.trans ev2
                  rw [As_nil] at this
                  exact this
                exact q σ G2 _ (ev23.trans ev3) s3 rfl .refl
            · exact q.elim
          | _ => rw [h0] at q; exact q.elim
theorem ps_fldF (hK : T.K = X.K) (hc : Cls T.K (T.ca c)) (hf : NoAttr T.K (T.ca c) f) (ho : PE X (.Name x pn) (tVar i)) (hv : PE X value (tE T W m)) (hs : swapsWith value (some (.Attribute (.Name x pn) f pos')) pos.line X.env = pure false) :
    PS X (.Assign [.Attribute (.Name x pn) f pos'] value pos) (tS T W p (sFld i c f m)) := PS.imp (ps_fld ho hv hs) fun D σ H h => by
  have := tS_fld hc hf h
  rw [hK] at this
  exact this
end
/-! ### C(..) -/
def pMake (c np : Nat) (fn : List S → FO) : List R → En → Ou R := fun rs e =>
  match movs e rs with
  | some (ss, e1) => if ss.length + 1 = np then match fn (.oi c [] [] :: ss) with
    | .ok (.fr .non) (s0 :: ss') => .ok (.vl s0) (puts e1 rs ss')
    | .ex x (_ :: ss') => .ex x (puts e1 rs ss')
    | _ => .no
    else .no
  | none => .no
section
variable {T : Tb} {G H G' H' : Hp} {σ : SV} {W : WX}
theorem prim_make {c np : Nat} {fn : List S → FO} : PrimOk T W (fun σ vs H Q => ∀ x dx, H x = none → H dx = none → dx ≠ x → spD T np fn (.ref x :: vs) (upd (upd H dx (.own x)) x (.ins (T.ca c) dx [])) (fun v H2 => v = .non ∧ Q (.ref x) H2) fun cc dd H' => W cc dd σ H') (pMake c np fn) := by
  intro G H σ e τ τ1 u u1 rs vs Q md hl hr q x dx hx hdx hne
  unfold pMake at q
  cases h1 : Fv.movs e rs with
  | none => rw [h1] at q; exact q.elim
  | some p =>
    obtain ⟨ss, e1⟩ := p
    rw [h1] at q
    simp only at q
    split at q
    · rename_i hlen
      obtain ⟨a, b, cc, d⟩ := hr.movs md hl h1
      have hx2 : (upd H dx (.own x)) x = none := by rw [upd_ne (Ne.symm hne)]; exact hx
      have g1 : Grow G H G (upd (upd H dx (.own x)) x (.ins (T.ca c) dx [])) :=
        ⟨.refl _, (md.sl.sub.trans (.upd_none hdx)).trans (.upd_none hx2), (Sub.upd_none hdx).trans (.upd_none hx2), fun _ _ z => .inl z, fun _ _ z => z⟩
      have ne : ∀ {z : Addr} {o : HO}, H z = some o → z ≠ x ∧ z ≠ dx := fun hz => ⟨ne_of_none hz hx, ne_of_none hz hdx⟩
      have inv : ∀ {z : Addr}, (upd (upd H dx (.own x)) x (.ins (T.ca c) dx [])) z = none → H z = none := fun {z} hz => by
        by_cases z1 : z = x
        · rw [z1]; exact hx
        · rw [upd_ne z1] at hz
          by_cases z2 : z = dx
          · rw [z2]; exact hdx
          · rw [upd_ne z2] at hz; exact hz
      have inv : ∀ {z : Addr}, NT (upd (upd H dx (.own x)) x (.ins (T.ca c) dx [])) z → NT H z := fun {z} n o hz => n o (by rw [upd_ne (ne hz).1, upd_ne (ne hz).2]; exact hz)
      have nx : x ∉ fps (sv vs) (se ss) := fun hc => by
        obtain ⟨_, o, ho⟩ := a.own x hc
        rw [hx] at ho; cases ho
      have nxA : x ∉ As σ e1 τ u := fun hc => by
        obtain ⟨_, o, ho⟩ := b.sl.own x hc
        rw [hx] at ho; cases ho
      have a2 : Sl T G (upd (upd H dx (.own x)) x (.ins (T.ca c) dx [])) (sv vs) (se ss) := a.frame (A := []) (A' := []) ⟨.refl _, fun b o z _ _ => g1.keep b o z, fun _ h => absurd h (by simp), fun _ _ z => .inl z, g1.tabs _⟩ g1.sub fun _ _ => by simp
      have b2 : Md T G (upd (upd H dx (.own x)) x (.ins (T.ca c) dx [])) σ e1 τ u := b.grow g1
      have r0 : RepO T G (upd (upd H dx (.own x)) x (.ins (T.ca c) dx [])) (.ref x) (.oi c [] []) := .oi (vs := []) upd_same (md.sl.sub.none hx) rfl .nil
      have sl0 : Sl T G (upd (upd H dx (.own x)) x (.ins (T.ca c) dx [])) (sv (.ref x :: vs)) (se (.oi c [] [] :: ss)) := (Sl.one g1.sub r0 a2.tab).append a2 fun z hz hc => by
        have hz : z ∈ fp (.ref x) (.oi c [] []) ++ [] := hz
        simp [fp] at hz
        subst hz; exact nx hc
      have fp0 : ∀ z, z ∈ fps (sv (.ref x :: vs)) (se (.oi c [] [] :: ss)) → z = x ∨ z ∈ fps (sv vs) (se ss) := fun z hz => by
        have hz : z ∈ fp (.ref x) (.oi c [] []) ++ fps (sv vs) (se ss) := hz
        simpa [fp] using hz
      refine ⟨G, .oi c [] [] :: ss, by simpa using hlen, sl0, ?_⟩
      cases hf : fn (.oi c [] [] :: ss) with
      | no => rw [hf] at q; exact q
      | ex y ss1 =>
        rw [hf] at q
        cases ss1 with
        | nil => exact q.elim
        | cons s0 ss' =>
          simp only at q
          intro c1 dx1 G' H' ev sl rx
          have slA : Sl T G' H' (sv vs) (se ss') := Sl.right (σ := [some (.ref x)]) (e := [some s0]) sl rfl
          have b' : Md T G' H' σ e1 τ u := ⟨b2.l1, b2.l2, b2.sl.frame ev sl.sub fun z hz hc => by
            rcases fp0 z hc with r | r
            · subst r; exact nxA hz
            · exact (cc z r).1 hz⟩
          have up : ∀ z, z ∈ fps (sv (.ref x :: vs)) (se (s0 :: ss')) → z ∈ As σ e (τ ++ τ1) (u ++ u1) ∨ NT H z := fun z hz => by
            rcases ev.own z hz with r | r
            · rcases fp0 z r with r | r
              · subst r; exact .inr (.of hx)
              · exact .inl (cc z r).2
            · exact .inr (inv r)
          have sub' : ∀ z, z ∈ fps (sv vs) (se ss') → z ∈ fps (sv (.ref x :: vs)) (se (s0 :: ss')) := fun z hz => List.mem_append_right (fp (.ref x) s0) hz
          have dis' : ∀ z ∈ fps (sv vs) (se ss'), z ∉ As σ e1 τ u := fun z hz hc => by
            rcases ev.own z (sub' z hz) with r | r
            · rcases fp0 z r with r | r
              · subst r; exact nxA hc
              · exact (cc z r).1 hc
            · exact b2.sl.nt hc r
          obtain ⟨m2, s2⟩ := hr.puts h1 b' slA dis'
          refine q G' H' c1 dx1 ⟨ev.mono, fun z o hz hn nt => ?_, fun z hz => ?_, fun z o hz => ?_, fun h => ev.tab (g1.tabs _ h)⟩ m2 rx
          · refine ev.keep z o (g1.keep z o hz) (fun hc => ?_) nt
            rcases fp0 z hc with r | r
            · exact (ne hz).1 r
            · exact hn (cc z r).2
          · rcases s2 z hz with r | r
            · exact up z (sub' z r)
            · exact .inl (d z r)
          · rcases ev.frz z o hz with r | r | r
            · exact .inl r
            · rcases fp0 z r with r | r
              · subst r; exact .inr (.inr (.of hx))
              · exact .inr (.inl (cc z r).2)
            · exact .inr (.inr (inv r))
      | ok s ss1 =>
        rw [hf] at q
        cases ss1 with
        | nil => cases s with
          | fr d => cases d <;> exact q.elim
          | _ => exact q.elim
        | cons s0 ss' =>
          cases s with
          | fr d0 =>
            cases d0 with
            | non =>
              simp only at q
              intro v G' H' ev sl
              have sl1 : Sl T G' H' (sv (.ref x :: vs) ++ sv [v]) (se (s0 :: ss') ++ se [.fr .non]) := by
                have := sl
                rw [sv_app, se_app] at this
                exact this
              have hl2 : (sv (V.ref x :: vs)).length = (se (s0 :: ss')).length := by have := sl1.len; simp only [List.length_append, List.length_map, List.length_cons, List.length_nil] at this; simp only [List.length_map, List.length_cons]; omega
              have fpe : fps (sv ((.ref x :: vs) ++ [v])) (se ((s0 :: ss') ++ [.fr .non])) = fps (sv (.ref x :: vs)) (se (s0 :: ss')) := by
                rw [sv_app, se_app, fps_append _ _ hl2]
                show _ ++ (fp v (.fr .non) ++ []) = _
                rw [fp_fr]; simp
              have ev : Evo T.tbs G (upd (upd H dx (.own x)) x (.ins (T.ca c) dx [])) (fps (sv (.ref x :: vs)) (se (.oi c [] [] :: ss))) G' H' (fps (sv (.ref x :: vs)) (se (s0 :: ss'))) := by rw [← fpe]; exact ev
              have slL := sl1.left hl2
              obtain ⟨w, hw, rv⟩ := (sl1.right hl2).rep 0 (.fr .non) rfl
              cases hw
              have ev0 : v = .non := rv.non rfl
              have slA : Sl T G' H' (sv vs) (se ss') := Sl.right (σ := [some (.ref x)]) (e := [some s0]) slL rfl
              obtain ⟨w2, hw2, rx⟩ := slL.rep 0 s0 rfl
              cases hw2
              have b' : Md T G' H' σ e1 τ u := ⟨b2.l1, b2.l2, b2.sl.frame ev slL.sub fun z hz hc => by
                rcases fp0 z hc with r | r
                · subst r; exact nxA hz
                · exact (cc z r).1 hz⟩
              have up : ∀ z, z ∈ fps (sv (.ref x :: vs)) (se (s0 :: ss')) → z ∈ As σ e (τ ++ τ1) (u ++ u1) ∨ NT H z := fun z hz => by
                rcases ev.own z hz with r | r
                · rcases fp0 z r with r | r
                  · subst r; exact .inr (.of hx)
                  · exact .inl (cc z r).2
                · exact .inr (inv r)
              have own' : ∀ z, z ∈ fps (sv (.ref x :: vs)) (se (s0 :: ss')) → z ∉ As σ e1 τ u := fun z hz hc => by
                rcases ev.own z hz with r | r
                · rcases fp0 z r with r | r
                  · subst r; exact nxA hc
                  · exact (cc z r).1 hc
                · exact b2.sl.nt hc r
              have sub' : ∀ z, z ∈ fps (sv vs) (se ss') → z ∈ fps (sv (.ref x :: vs)) (se (s0 :: ss')) := fun z hz => List.mem_append_right (fp (.ref x) s0) hz
              have sub0 : ∀ z, z ∈ fp (.ref x) s0 → z ∈ fps (sv (.ref x :: vs)) (se (s0 :: ss')) := fun z hz => List.mem_append_left _ hz
              obtain ⟨m2, s2⟩ := hr.puts h1 b' slA fun z hz => own' z (sub' z hz)
              have m3 := m2.push rx fun z hz hc => by
                rcases s2 z hc with r | r
                · exact Sl.dis (σ := [some (.ref x)]) (e := [some s0]) slL rfl z (by show z ∈ fp (.ref x) s0 ++ []; rw [List.append_nil]; exact hz) r
                · exact own' z (sub0 z hz) r
              refine ⟨ev0, q G' H' (.ref x) [.ref x] [s0] ⟨ev.mono, fun z o hz hn nt => ?_, fun z hz => ?_, fun z o hz => ?_, fun h => ev.tab (g1.tabs _ h)⟩ m3 (.vl .nil)⟩
              · refine ev.keep z o (g1.keep z o hz) (fun hc => ?_) nt
                rcases fp0 z hc with r | r
                · exact (ne hz).1 r
                · exact hn (cc z r).2
              · rcases (As_push m2.l1 hl z).mp hz with r | r
                · rcases s2 z r with r | r
                  · exact up z (sub' z r)
                  · exact .inl (d z r)
                · exact up z (sub0 z r)
              · rcases ev.frz z o hz with r | r | r
                · exact .inl r
                · rcases fp0 z r with r | r
                  · subst r; exact .inr (.inr (.of hx))
                  · exact .inr (.inl (cc z r).2)
                · exact .inr (.inr (inv r))
            | _ => exact q.elim
          | _ => exact q.elim
    · exact q.elim
end
/-! a new thing that is frozen at once -/
def bFz (m : En → Ou R) : En → Ou R := fun e =>
  match m e with
  | .ok (.vl s) e1 => .ok (.vl (.fr s.d)) e1
  | .ok _ _ => .no
  | .ex x e1 => .ex x e1
  | .no => .no
section
variable {T : Tb} {G H : Hp} {σ : SV} {W : WX}
theorem Md.freezeT {e : En} {τ : List V} {u : List S} {v : V} {s : S} (m : Md T G H σ e (τ ++ [v]) (u ++ [s])) (hl : τ.length = u.length) : ∃ G', Evo T.tbs G H (As σ e (τ ++ [v]) (u ++ [s])) G' H (As σ e (τ ++ [v]) (u ++ [.fr s.d])) ∧ Md T G' H σ e (τ ++ [v]) (u ++ [.fr s.d]) := by
  have he' : (e ++ (u ++ [s]).map some)[e.length + u.length]? = some (some s) := by
    rw [List.getElem?_append_right (by omega)]; simp
  obtain ⟨G', w, ev, sl, _, _⟩ := m.sl.freeze he'
  have e2 : (e ++ (u ++ [s]).map some).set (e.length + u.length) (some (S.fr s.d)) = e ++ (u ++ [S.fr s.d]).map some := by
    rw [List.set_append_right _ _ (by omega)]
    congr 1
    have : e.length + u.length - e.length = u.length := by omega
    rw [this, List.map_append, List.map_append, List.set_append_right _ _ (by simp)]
    simp
  rw [e2] at ev sl
  exact ⟨G', ev, ⟨m.l1, by simp [hl], sl⟩⟩
theorem tE_fz {m : En → Ou R} {σ : SV} {H : Hp} {Q : VK} : tE T W (bFz m) σ H Q → tE T W m σ H Q := by
  rintro ⟨G, e, τ, u, md, p⟩
  refine ⟨G, e, τ, u, md, ?_⟩
  unfold bFz at p
  cases hm : m e with
  | no => rw [hm] at p; exact p
  | ex x e1 => rw [hm] at p; exact p
  | ok r e1 =>
    rw [hm] at p
    cases r with
    | pl i => exact p.elim
    | vl s =>
      intro G1 H1 v τ1 u1 ev1 md1 hr1
      cases hr1 with
      | vl hn =>
        cases hn
        obtain ⟨G2, ev2, md2⟩ := md1.freezeT md.l2
        exact p G2 H1 v [v] [.fr s.d] (ev1.trans ev2) md2 (.vl .nil)
end
def tMakeS (C : Addr) (sp : Sp) (E : L2.St → XK) (t : TA) : TE := fun σ H Q => t σ H fun vs H1 => ∀ x dx, H1 x = none → H1 dx = none → dx ≠ x → sp (.ref x :: vs) (upd (upd H1 dx (.own x)) x (.ins C dx [])) (fun v H2 => v = .non ∧ Q (.ref x) H2) (E σ)
section
variable {X : Cx} {T : Tb} {W : WX} {e : Expr} {es : List Expr} {ms : En → Ou (List R)} {x : Str} {c : Nat} {pos p : Pos} {k j np : Nat} {ps : List Str} {fn : List S → FO}
theorem run_makeS {CX : CXT} {C f : Addr} {fd : FuncData} {sp : Sp} {E : L2.St → XK} {pins : List (Addr × Obj)} {σ : L2.St} {H : Hp} {s : Shared} {Q : VK} {us : List Value} {vs : List V} (M : Mk X.K C f) (F : FnOk X.prog X.w X.K X.mg X.base CX k f fd ps sp) (hr : Room (k + 1) X.A) (hb : L2.Binds X.K fd ps [])
    (hx : ∀ (pins : List (Addr × Obj)) (H' H0 : Hp) (s' s0 : Shared) (e : Value), Inv X pins σ H0 s0 → CX X.stack H0 s0 (E σ) e s' → X.xe e s') (I : Inv X pins σ H s) (r : Vals vs us)
    (h : ∀ x dx, H x = none → H dx = none → dx ≠ x → sp (.ref x :: vs) (upd (upd H dx (.own x)) x (.ins C dx [])) (fun v H2 => v = .non ∧ Q (.ref x) H2) (E σ)) :
    wpAny (model X.prog X.w) X.A (call (.ref C) us) (EP X pins σ Q) X.xe s := by
  have hq := h (s.heap.objs.size + 1) s.heap.objs.size (I.hok.fresh (Nat.le_succ _)) (I.hok.fresh (Nat.le_refl _)) (Nat.ne_of_lt (Nat.lt_succ_self _))
  have I2 := Inv.made (C := C) I
  have r2 : Vals (V.ref (s.heap.objs.size + 1) :: vs) (Value.ref (s.heap.objs.size + 1) :: us) := .cons rfl r
  have hl : (Value.ref (s.heap.objs.size + 1) :: us).length = ps.length := by
    have e := r2.length
    rw [F.len _ _ _ _ hq] at e
    exact e.symm
  have b := hb _ (Value.ref (s.heap.objs.size + 1) :: us) I2.kIn (by rw [List.append_nil]; exact hl)
  rw [List.append_nil] at b
  refine wpAny_call (make_map (f := f) I.kIn M.makes M.init (beq_iff_eq.mp M.fn) (codeAny_mono (F.run _ X.stack _ _ ⟨Value.ref (s.heap.objs.size + 1) :: us, []⟩ (Value.ref (s.heap.objs.size + 1) :: us) _ _ (E σ) (hr.make C us [])
    (I2.env0.make C us []) b r2 hq) fun r s' hq' => ?_))
  cases r with
  | error e => exact hx pins H _ s' _ e I2 hq'
  | ok fl =>
    cases fl with
    | ret u =>
      obtain ⟨v, H', I3, rv, ev, q3⟩ := I2.after hq'
      subst ev
      exact ⟨rv, ⟨V.ref (s.heap.objs.size + 1), H', I3, rfl, q3⟩⟩
    | next => exact False.elim hq'
    | brk => exact False.elim hq'
    | cont => exact False.elim hq'
theorem pe_makeS {CX : CXT} {C f : Addr} {fd : FuncData} {sp : Sp} {E : L2.St → XK} {t : TA} (M : Mk X.K C f) (F : FnOk X.prog X.w X.K X.mg X.base CX k f fd ps sp) (hr : Room (k + 1) X.A) (hg : Gl X x) (hm : X.mg x = some (.ref C)) (hb : L2.Binds X.K fd ps []) (hx : ∀ σ, PassesAt CX X σ (E σ))
    (ha : PA X (e :: es) t) (hdb : (x == ("__debug__" : Str)) = false) (he : starEach (e :: es) X.env = (false, eval e X.env) :: starEach es X.env) (hpl : (backTo pos (starEach es X.env)).any (·.1) = false) :
    PE X (.Call (.Name x p) (e :: es) [] pos) (tMakeS C sp E t) := by
  refine ⟨fun pins s σ H Q I h => ?_⟩
  refine wpAny_Call_Name_kw (ld_glob I hg hm ?_ hdb)
  refine PySem.W.callWith_K (h₀ := X.base) I.ok.mod.kin M.kp (thn (ha.run pos pins s σ H _ I h) fun us s1 ⟨vs, H1, I1, r, q⟩ => ⟨I1.kIn, ?_⟩) he hpl
  exact run_makeS M F hr hb (fun pins _ H0 s' s0 e I0 c => hx σ pins H0 s0 e s' I0 c) I1 r q
/-- a class of the text, as it is called -/
structure Fi (T : Tb) (P : Program) (w : World) (K : PySem.W.Frag) (mg : Str → Option Value) (base : Heap) (c : Nat) (x : Str) (ps : List Str) (k : Nat) (fn : List S → FO) : Prop where
  ex : ∃ (f : Addr) (fd : FuncData), FnOk P w K mg base (L2N.CX P w) k f fd ps (spD T ps.length fn) ∧ Mk K (T.ca c) f ∧ mg x = some (.ref (T.ca c)) ∧ L2.Binds K fd ps []
theorem pe_makeF (F : Fi T X.prog X.w X.K X.mg X.base c x ps j fn) (hr : Room k X.A) (hj : j + 1 ≤ k) (hg : Gl X x) (tk : L2N.Takes X W) (hnp : ps.length = np) (ha : PA X (e :: es) (tEs T W ms)) (hdb : (x == ("__debug__" : Str)) = false)
    (he : starEach (e :: es) X.env = (false, eval e X.env) :: starEach es X.env) (hpl : (backTo pos (starEach es X.env)).any (·.1) = false) :
    PE X (.Call (.Name x p) (e :: es) [] pos) (tE T W (bP (pMake c np fn) ms)) := by
  subst hnp
  obtain ⟨f, fd, F, hM, hm, hb⟩ := F.ex
  exact PE.imp (pe_makeS (E := WE W) hM F (hr.mono hj) hg hm hb (L2N.passAt tk) ha hdb he hpl) fun σ H Q h => tE_prim (prim_make (T := T) (W := W) (c := c) (np := ps.length) (fn := fn)) h
theorem pe_makeZF (F : Fi T X.prog X.w X.K X.mg X.base c x ps j fn) (hr : Room k X.A) (hj : j + 1 ≤ k) (hg : Gl X x) (tk : L2N.Takes X W) (hnp : ps.length = np) (ha : PA X (e :: es) (tEs T W ms)) (hdb : (x == ("__debug__" : Str)) = false)
    (he : starEach (e :: es) X.env = (false, eval e X.env) :: starEach es X.env) (hpl : (backTo pos (starEach es X.env)).any (·.1) = false) :
    PE X (.Call (.Name x p) (e :: es) [] pos) (tE T W (bFz (bP (pMake c np fn) ms))) := PE.imp (pe_makeF F hr hj hg tk hnp ha hdb he hpl) fun σ H Q h => tE_fz h
end
/-! len(x), x perhaps an instance with a __len__ of its own -/
def lenD (c : Nat) (fn : List S → FO) : S → Option S
  | .fr (.ins c' ns vs) => if c' = c then (match fn [.fr (.ins c' ns vs)] with
      | .ok (.fr (.int n)) _ => if 0 ≤ n ∧ n < 2 ^ 63 then some (.fr (.int n)) else none
      | _ => none) else none
  | s => dLen [s.d]
def pLen (c : Nat) (fn : List S → FO) : List R → En → Ou R := pSS fun ss => match ss with
  | [s] => lenD c fn s
  | _ => none
section
variable {X : Cx} {T : Tb} {W : WX} {e : Expr} {es : List Expr} {ms : En → Ou (List R)} {x : Str} {c : Nat} {pos p : Pos} {k j np : Nat} {ps : List Str} {fn : List S → FO}
def rLenX (K : PySem.W.Frag) (C : Addr) (sp : Sp) (E : L2.St → XK) : L2.St → List V → Hp → VK → Prop := fun σ xs H Q => (∃ x n, xs = [x] ∧ LenV K x H n ∧ Q (.int n) H) ∨
  ∃ a dx fs, xs = [.ref a] ∧ H a = some (.ins C dx fs) ∧ sp [.ref a] H (fun v H' => ∃ n, v = .int n ∧ 0 ≤ n ∧ n < 2 ^ 63 ∧ Q (.int n) H') (E σ)
theorem pe_lenS {CX : CXT} {C f : Addr} {fd : FuncData} {sp : Sp} {E : L2.St → XK} {t : TA} (hf : Meth X.K C "__len__" f) (F : FnOk X.prog X.w X.K X.mg X.base CX k f fd ps sp) (hr : Room (k + 1) X.A) (hb : L2.Binds X.K fd ps []) (hx : ∀ σ, PassesAt CX X σ (E σ))
    (hg : Gl X x) (hm : X.mg x = none) (hv : bootBuiltins x = some (.builtin "len")) (ha : PA X (e :: es) t) (hn : x ≠ "__name__") (hdb : (x == ("__debug__" : Str)) = false)
    (he : starEach (e :: es) X.env = (false, eval e X.env) :: starEach es X.env) (hpl : (backTo pos (starEach es X.env)).any (·.1) = false) :
    PE X (.Call (.Name x p) (e :: es) [] pos) (fun σ H Q => t σ H fun vs H1 => rLenX X.K C sp E σ vs H1 Q) := by
  refine ⟨fun pins s σ H Q I h => ?_⟩
  refine wpAny_Call_Name_kw (ld_blt I hg hm hv ?_ hn hdb)
  refine PyProof.Rows.callWith_builtin1 (thn (ha.run pos pins s σ H _ I h) fun us s1 ⟨vs, H1, I1, r1, q1⟩ => ?_) he hpl
  rcases q1 with q1 | ⟨a, dx, fs, rfl, hA, q⟩
  · exact call_len pins s1 σ H1 vs us Q I1 r1 q1
  · cases r1 with
    | cons r0 r1 =>
      cases r1
      cases r0
      obtain ⟨mA, J, _⟩ := ins_get I1.hok hA
      obtain ⟨od, J, _⟩ := J.look
      obtain ⟨m, hF⟩ := I1.fr
      refine PySem.W.len_K hF I1.ok.mod.kin J hf.at_ hf.fn ?_
      have hl : ([Value.ref a] : List Value).length = ps.length := by
        have := F.len _ _ _ _ q
        simpa using this
      have e0 : Env0 X.prog X.w X.K X.mg X.base X.A.in1 X.stack s1 H1 := by
        have e := I1.env0
        exact ⟨e.frames, e.mod, e.bs, e.bsz, e.funs, e.frf, e.hok, e.bare⟩
      have b := hb s1 [.ref a] I1.kIn (by rw [List.append_nil]; exact hl)
      rw [List.append_nil] at b
      refine wpAny_call (codeAny_mono (F.run X.A.in1 X.stack s1 H1 ⟨[.ref a], []⟩ [.ref a] [.ref a] _ (E σ) hr.in1 e0 b (.cons rfl .nil) q) fun r s' hq => ?_)
      cases r with
      | error e => exact hx σ pins H1 s1 e s' I1 hq
      | ok fl =>
        cases fl with
        | ret u =>
          obtain ⟨v, H', I', rv, n, rfl, h0, h1, q⟩ := I1.after hq
          obtain ⟨tk, rfl⟩ := rv
          exact ⟨⟨h0, h1⟩, .int n, H', I'.tok _, ⟨_, rfl⟩, q⟩
        | next => exact False.elim hq
        | brk => exact False.elim hq
        | cont => exact False.elim hq
theorem prim_len (hK : T.K = X.K) : PrimOk T W (fun σ vs H Q => rLenX X.K (T.ca c) (spD T 1 fn) (WE W) σ vs H Q) (pLen c fn) := by
  intro G H σ e τ τ1 u u1 rs vs Q md hl hr q
  unfold pLen pSS at q
  cases h1 : pks e rs with
  | none => rw [h1] at q; exact q.elim
  | some ss =>
    rw [h1] at q
    simp only at q
    have pk := hr.peek md hl h1
    have other : ∀ (s s' : S), pks e rs = some [s] → dLen [s.d] = some s' → Post T W G H σ (As σ e (τ ++ τ1) (u ++ u1)) τ u (.ok (.vl s') e) Q → rLenX X.K (T.ca c) (spD T 1 fn) (WE W) σ vs H Q := fun s s' h1 hs q => by
      refine .inl ?_
      have := prim_S (T := T) (W := W) (fo_len X hK) G H σ e τ τ1 u u1 rs vs Q md hl hr (by unfold pS; rw [h1]; simp only [List.map_cons, List.map_nil, hs]; exact q)
      exact this
    cases pk with
    | nil => exact q.elim
    | @cons v vs s ss ro pk => cases pk with
     | cons _ _ => exact q.elim
     | nil =>
      simp only at q
      cases ro with
      | @fr v d rf =>
        cases d with
        | ins c' ns ds =>
          simp only [lenD] at q
          split at q
          · rename_i s0 hs0
            split at hs0
            · rename_i hc
              subst hc
              split at hs0
              · rename_i n ss' hfn
                split at hs0
                · rename_i hn
                  cases hs0
                  cases rf with
                  | ins hA hl2 rfs =>
                    rename_i a dx xs
                    refine .inr ⟨a, dx, ns.zip xs, rfl, md.sl.sub _ _ hA, ?_⟩
                    have md0 := md.dropT hl
                    refine spD_frs (T := T) (W := W) (fn := fn) (np := 1) (ds := [.ins c' ns ds]) (vs := [.ref a]) rfl md0 (.cons (.ins hA hl2 rfs) .nil) ?_
                    simp only [List.map_cons, List.map_nil, hfn]
                    intro G' H' v τ' u' ev md' hr'
                    cases hr' with
                    | vl hn' =>
                      cases hn'
                      have rv := md'.last hl
                      obtain rfl := rv.int rfl
                      refine ⟨n, rfl, hn.1, hn.2, ?_⟩
                      exact q G' H' (.int n) [.int n] [.fr (.int n)] (ev.wide fun b hb => As_drop md.l1 hl b hb) md' (.vl .nil)
                · cases hs0
              · cases hs0
            · cases hs0
          · exact q.elim
        | _ => 
          simp only [lenD] at q
          split at q
          · rename_i s0 hs0; exact other _ s0 h1 hs0 q
          · exact q.elim
      | _ =>
        simp only [lenD] at q
        split at q
        · rename_i s0 hs0; exact other _ s0 h1 hs0 q
        · exact q.elim
theorem pe_lenF (hK : T.K = X.K) (F : Fm T X.prog X.w X.K X.mg X.base c "__len__" ps j fn) (hr : Room k X.A) (hj : j + 1 ≤ k) (hnp : ps.length = 1) (tk : L2N.Takes X W) (hg : Gl X x) (hm : X.mg x = none) (hv : bootBuiltins x = some (.builtin "len")) (ha : PA X (e :: es) (tEs T W ms)) (hn : x ≠ "__name__") (hdb : (x == ("__debug__" : Str)) = false)
    (he : starEach (e :: es) X.env = (false, eval e X.env) :: starEach es X.env) (hpl : (backTo pos (starEach es X.env)).any (·.1) = false) :
    PE X (.Call (.Name x p) (e :: es) [] pos) (tE T W (bP (pLen c fn) ms)) := by
  obtain ⟨f, fd, F, hm2, hc, hb⟩ := F.ex
  rw [hnp] at F
  exact PE.imp (pe_lenS (E := WE W) hm2 F (hr.mono hj) hb (L2N.passAt tk) hg hm hv ha hn hdb he hpl) fun σ H Q h => tE_prim (prim_len hK) h
end
end Fv

namespace Fv
open PySem PySem.Spec PyProof.Rows L2
/-! ### a row read backwards: x[::-1] of a list or a tuple -/
section
variable {prog : Program} {w : World} {A : Around} {E : Value → Shared → Prop} {s : Shared}
theorem back_adjust (n : Nat) : Builtin.Slice.sliceAdjust none none (-1) (n : Int) = ((n : Int) - 1, -1) := by
  unfold Builtin.Slice.sliceAdjust
  simp
theorem back_places (n : Nat) : Builtin.Slice.slicePlaces ((n : Int) - 1) (-1) (-1) = n := by
  unfold Builtin.Slice.slicePlaces
  simp
  try omega
theorem back_pick (xs : Array Value) : ((List.range xs.size).filterMap fun (m : Nat) => xs[((xs.size : Int) - 1 + (m : Int) * (-1)).toNat]?).toArray = xs.toList.reverse.toArray := by
  have e : (List.range xs.size).filterMap (fun (m : Nat) => xs[((xs.size : Int) - 1 + (m : Int) * (-1)).toNat]?) = ((List.range xs.size).map fun k => xs.size - 1 - k).filterMap (xs[·]?) := by
    rw [List.filterMap_map]
    have e : ∀ l : List Nat, (∀ k ∈ l, k < xs.size) → l.filterMap (fun (m : Nat) => xs[((xs.size : Int) - 1 + (m : Int) * (-1)).toNat]?) = l.filterMap ((xs[·]?) ∘ fun k => xs.size - 1 - k) := by
      intro l
      induction l with
      | nil => intro _; rfl
      | cons k l ih =>
        intro h
        have h1 := h k (.head _)
        have e : ((xs.size : Int) - 1 + (k : Int) * (-1)).toNat = xs.size - 1 - k := by omega
        rw [List.filterMap_cons, List.filterMap_cons, e, ih fun j hj => h j (.tail _ hj)]
        rfl
    exact e _ fun k hk => List.mem_range.mp hk
  rw [e, PySem.W.krv_range, List.filterMap_reverse, PySem.W.krv_all]
theorem back_applied {sl : Addr} {vs : Value} {n : Nat} {Q : Int × Int × Nat → Shared → Prop} (hs : s.heap.IsSliceOf sl .none .none vs) (ps : IsPart vs (some (-1)))
    (h : Q ((n : Int) - 1, -1, n) s) : wpAny (model prog w) A (Builtin.Slice.sliceApplied (.ref sl) (pure (n : Int))) Q E s := by
  have ⟨os, o1, _, o2⟩ := hs
  have fl : ∀ {x : Value} {k : Nat} {R : Value → Shared → Prop}, (#[.none, .none, vs] : Array Value)[k]? = some x → R x s → wpAny (model prog w) A (PySem.field (.ref sl) k) R E s := fun hx q => wpAny_field o1 o2 hx q
  unfold Builtin.Slice.sliceApplied Builtin.Slice.sliceFields
  refine wpAny_bind (wpAny_bind (fl (x := .none) rfl (wpAny_bind (fl (x := .none) rfl (wpAny_bind (fl (x := vs) rfl (wpAny_pure ?_)))))))
  refine wpAny_bind (HT.slicePart_ ps ?_)
  show wpAny _ _ (if ((-1 : Int) == 0) = true then _ else _) _ _ s
  rw [if_neg (by decide)]
  refine wpAny_bind (slicePart_none (wpAny_bind (slicePart_none (wpAny_bind (wpAny_pure ?_)))))
  show wpAny _ _ (match Builtin.Slice.sliceAdjust none none (-1) (n : Int) with | (lo, hi) => pure (lo, (-1 : Int), Builtin.Slice.slicePlaces lo hi (-1))) _ _ s
  rw [back_adjust]
  show wpAny _ _ (pure ((n : Int) - 1, (-1 : Int), Builtin.Slice.slicePlaces ((n : Int) - 1) (-1) (-1))) _ _ s
  rw [back_places]
  exact wpAny_pure h
theorem back_tuple {t sl : Addr} {items : Array Value} {vs : Value} {Q : Value → Shared → Prop} (ht : IsTup s.heap t items) (hs : s.heap.IsSliceOf sl .none .none vs) (ps : IsPart vs (some (-1))) (hsz : items.size ≤ sizeLine)
    (h : Q (.ref s.heap.objs.size) { s with heap := s.heap.push { cls := .type "tuple", data := .seq items.toList.reverse.toArray } }) : wpAny (model prog w) A (getItem (.ref t) (.ref sl)) Q E s := by
  have z : sizeOk (.seq items.toList.reverse.toArray) := by
    show items.toList.reverse.toArray.size ≤ sizeLine
    rw [List.size_toArray, List.length_reverse, Array.length_toList]
    exact hsz
  have ty : s.TypeIs (.ref sl) "slice" := let ⟨o, a, b, _⟩ := hs; ⟨o, a, b⟩
  have no : ¬ ((((items.size : Int) - 1 == 0) && (-1 : Int) == 1 && items.size == items.size) = true) := by
    rw [show ((-1 : Int) == 1) = false from rfl, Bool.and_false, Bool.false_and]
    exact Bool.false_ne_true
  have mk : ∀ (M : Model) (A : Around) (E R : Value → Shared → Prop), R (.ref s.heap.objs.size) { s with heap := s.heap.push { cls := .type "tuple", data := .seq items.toList.reverse.toArray } } → wpAny M A (Builtin.Tuple.tupleExact items.toList.reverse.toArray) R E s := fun M A E R q => by
    unfold Builtin.Tuple.tupleExact
    first
      | exact wpAny_newObj_type (wpAny_pure q) z
      | exact wpAny_newObj_type q z
  unfold getItem
  try with_reducible refine wpAny_holding ?_
  first | refine wpAny_bind (wpAny_pure ?_) | skip
  refine wpAny_bind (wpAny_sequenceKey ht.typeIs (by decide) (wpAny_bind (wpAny_callSpecial?_slot (name := Str.ofString "__getitem__") ht.typeIs PyProof.Rows.slot_tuple_getitem (wpAny_call_entry PyProof.Rows.slot_tuple_getitem ht.typeIs entry_tuple_getitem ?_ (args_tuple_getitem _ _)))))
  show wpAny _ _ (Builtin.Tuple.tupleItemsOf (.ref t) >>= _) _ _ s
  refine wpAny_bind (tupleItemsOf_ ht (wpAny_bind (wpAny_typeOf ty ?_)))
  rw [if_pos (by decide)]
  refine wpAny_bind (back_applied hs ps ?_)
  show wpAny _ _ (if ((((items.size : Int) - 1 == 0) && (-1 : Int) == 1 && items.size == items.size) = true) then _ else _) _ _ s
  rw [if_neg no, back_pick]
  exact wpAny_bind (mk _ _ _ _ (wpAny_pure ⟨_, rfl, wpAny_pure h⟩))
end
/-! what x[::-1] is, by values -/
def dBack : List D → Option S
  | [.lst xs] => some (.ol xs.reverse)
  | [.tup xs] => some (.fr (.tup xs.reverse))
  | _ => none
def rBack (K : PySem.W.Frag) : V → Hp → VK → Prop := fun x H Q => ∃ a xs, x = .ref a ∧ ((SqL K H a xs ∧ ∀ p, H p = none → Q (.ref p) (upd H p (.lst xs.reverse))) ∨ (SqT K H a xs ∧ NewT Q H xs.reverse))
section
variable {X : Cx} {T : Tb} {W : WX} {e : Expr} {m : En → Ou R} {te : TE}
theorem pe_back {k : Nat} {p1 p2 p3 pos : Pos} (he : PE X e te) : PE X (.Subscript e (.Slice none none (some (.UnaryOp .USub (.Constant (.int 1) k p1) p2)) p3) pos) (fun σ H Q => te σ H fun x H1 => rBack X.K x H1 Q) := by
  have one : PO X (some (.UnaryOp .USub (.Constant (.int 1) k p1) p2)) (tPart (tUn (rU fun i => .int (-i)) (tC (.int 1)))) := po_some (pe_un un_neg pe_int)
  constructor
  intro pins s σ H Q I h
  refine Subscript_ (thn (he.run pins s σ H _ I h) fun v s1 ⟨x, H1, I1, r1, a, xs, hx, q⟩ => ?_)
  cases hx
  cases r1
  -- the slice's three parts
  refine wpAny_Slice ?_
  simp only [evalPart_none]
  refine wpAny_pure (wpAny_pure (thn (one.run pins s1 σ H1 (fun o H4 => o = some (-1) ∧ H4 = H1) I1 ⟨1, rfl, -1, rfl, rfl, rfl⟩) fun vs s4 ⟨o, H4, I4, ps, eo, e4⟩ => ?_))
  cases eo
  cases e4
  generalize hsh : ({ s4 with heap := s4.heap.push { cls := .type "slice", data := .fields #[.none, .none, vs] } } : Shared) = s5
  have I5 : Inv X pins σ H1 s5 := hsh ▸ I4.kept (t' := s4.toks) fun b ob q => Heap.get?_push_of_some _ q
  have S : s5.heap.IsSliceOf s4.heap.objs.size .none .none vs := hsh ▸ Heap.IsSliceOf.new _ .none .none vs
  show wpAny (model X.prog X.w) X.A (subscriptTail e (.Slice none none (some (.UnaryOp .USub (.Constant (.int 1) k p1) p2)) p3) (.ref a) (.ref s4.heap.objs.size)) (EP X pins σ Q) X.xe s5

  rcases q with ⟨hq, q⟩ | ⟨hq, q⟩
  · obtain ⟨its, r, ht, hz⟩ := I5.list hq
    have hlen := r.length
    refine tail_any (ops := [.ref a, .ref s4.heap.objs.size]) ht.isList.typeIs (PySem.slot_list_getitem.lookup) ?_ (by with_unfolding_all rfl)
    refine wpAny_getItem_list_slice ht.isList S .none .none ps (by decide) ?_ (by rw [List.size_toArray]; omega)
    rw [PySem.W.krv_pick]
    exact ⟨.ref _, _, I5.laid (t' := s5.toks) (o := .lst xs.reverse) (fun b ob q => Heap.get?_push_of_some _ q) (Nat.le_refl _) ⟨by rw [List.length_reverse]; exact hz, _, 0, r.reverse, Heap.get?_push_size _ rfl⟩, rfl, q _ (I5.hok.fresh (Nat.le_refl _))⟩
  · obtain ⟨its, r, ht, hz⟩ := I5.tuple hq
    have hlen := r.length
    refine tail_any (ops := [.ref a, .ref s4.heap.objs.size]) ht.typeIs PyProof.Rows.slot_tuple_getitem.lookup ?_ (by with_unfolding_all rfl)
    refine back_tuple ht S ps (by rw [List.size_toArray]; omega) ?_
    exact ⟨.ref _, _, tupN I5 r.reverse (by rw [List.length_reverse]; exact hz), rfl, q _ _ (I5.hok.fresh (Nat.le_refl _))⟩
theorem fo_back : FunOk T (r1 fun x H Q => rBack T.K x H Q) dBack := fun G H vs ss s Q hs r h k => by
  unfold dBack at h
  split at h
  · rename_i xs heq
    cases h
    obtain ⟨v, s1, rfl, r1, e1⟩ := repOs1 r heq
    obtain ⟨a, as, rfl, q1, k1⟩ := r1.lst hs e1
    exact ⟨_, rfl, a, as, rfl, .inl ⟨q1, fun p hp => done_ol hs k k1.rev hp⟩⟩
  · rename_i xs heq
    cases h
    obtain ⟨v, s1, rfl, r1, e1⟩ := repOs1 r heq
    obtain ⟨a, as, rfl, q1, t1, k1⟩ := r1.tup hs e1
    exact ⟨_, rfl, a, as, rfl, .inr ⟨q1, done_tup hs k k1.rev⟩⟩
  · cases h
theorem pe_backF {k : Nat} {p1 p2 p3 pos : Pos} (hK : T.K = X.K) (ha : PE X e (tE T W m)) : PE X (.Subscript e (.Slice none none (some (.UnaryOp .USub (.Constant (.int 1) k p1) p2)) p3) pos) (tE T W (b1 (pS dBack) m)) :=
  PE.imp (pe_back ha) fun σ H Q h => tE.mono (fun _ _ k => by
    obtain ⟨x, e, q⟩ := k
    cases e
    rw [hK] at q
    exact q) (tE_prim1 (prim_S fo_back) h)
end
end Fv

namespace Fv
open PySem PySem.Spec PyProof.Rows L2
/-! ### what a meaning comes to, said forwards -/
def Wo {α : Type} (X : Xn → En → Prop) (o : Ou α) (Q : α → En → Prop) : Prop := match o with
  | .ok a e => Q a e
  | .ex x e => X x e
  | .no => False
def Wf (X : Xn → En → Prop) (o : Fl) (N : En → Prop) (Rt : S → En → Prop) : Prop := match o with
  | .nx e => N e
  | .rt s e => Rt s e
  | .ex x e => X x e
  | _ => False
def Wc (o : FO) (Q : S → List S → Prop) (X : Xn → List S → Prop) : Prop := match o with
  | .ok s ss => Q s ss
  | .ex x ss => X x ss
  | .no => False
def noX : Xn → En → Prop := fun _ _ => False
def noC : Xn → List S → Prop := fun _ _ => False
/-! slots, told by steps -/
inductive SetE : En → Nat → Option S → En → Prop
  | zero {x y : Option S} {e : En} : SetE (x :: e) 0 y (y :: e)
  | succ {x y : Option S} {e e' : En} {i : Nat} : SetE e i y e' → SetE (x :: e) (i + 1) y (x :: e')
theorem SetE.eq {e e' : En} {i : Nat} {y : Option S} (h : SetE e i y e') : e.set i y = e' ∧ i < e.length := by
  induction h with
  | zero => simp
  | succ _ ih => simp [ih.1]; exact ih.2
inductive MovE : En → List R → List S → En → Prop
  | nil {e : En} : MovE e [] [] e
  | vl {e e' : En} {rs : List R} {ss : List S} {s : S} : MovE e rs ss e' → MovE e (.vl s :: rs) (s :: ss) e'
  | pl {e e1 e2 : En} {rs : List R} {ss : List S} {s : S} {i : Nat} : e[i]? = some (some s) → SetE e i none e1 → MovE e1 rs ss e2 → MovE e (.pl i :: rs) (s :: ss) e2
theorem MovE.eq {e e' : En} {rs : List R} {ss : List S} (h : MovE e rs ss e') : movs e rs = some (ss, e') := by
  induction h with
  | nil => rfl
  | vl _ ih => simp only [movs, mov1, ih]
  | pl a b _ ih => simp only [movs, mov1, a, b.eq.1, ih]
inductive PutE : En → List R → List S → En → Prop
  | nil {e : En} {ss : List S} : PutE e [] ss e
  | vl {e e' : En} {rs : List R} {ss : List S} {s t : S} : PutE e rs ss e' → PutE e (.vl s :: rs) (t :: ss) e'
  | pl {e e1 e2 : En} {rs : List R} {ss : List S} {s : S} {i : Nat} : PutE e rs ss e1 → SetE e1 i (some s) e2 → PutE e (.pl i :: rs) (s :: ss) e2
theorem PutE.eq {e e' : En} {rs : List R} {ss : List S} (h : PutE e rs ss e') : puts e rs ss = e' := by
  induction h with
  | nil => simp only [puts]
  | vl _ ih => simp only [puts, put1, ih]
  | pl _ b ih => simp only [puts, put1, ih, b.eq.1]
/-- frozen -/
inductive FrzE : En → List R → List D → En → Prop
  | nil {e : En} : FrzE e [] [] e
  | vl {e e' : En} {rs : List R} {ds : List D} {d : D} : FrzE e rs ds e' → FrzE e (.vl (.fr d) :: rs) (d :: ds) e'
  | vo {e e' : En} {rs : List R} {ds xs : List D} : FrzE e rs ds e' → FrzE e (.vl (.ol xs) :: rs) (.lst xs :: ds) e'
  | vd {e e' : En} {rs : List R} {ds vs : List D} {ks : List Key} : FrzE e rs ds e' → FrzE e (.vl (.od ks vs) :: rs) (.dic ks vs :: ds) e'
  | po {e e1 e2 : En} {rs : List R} {ds xs : List D} {i : Nat} : e[i]? = some (some (.ol xs)) → SetE e i (some (.fr (.lst xs))) e1 → FrzE e1 rs ds e2 → FrzE e (.pl i :: rs) (.lst xs :: ds) e2
  | pd {e e1 e2 : En} {rs : List R} {ds vs : List D} {ks : List Key} {i : Nat} : e[i]? = some (some (.od ks vs)) → SetE e i (some (.fr (.dic ks vs))) e1 → FrzE e1 rs ds e2 → FrzE e (.pl i :: rs) (.dic ks vs :: ds) e2
theorem FrzE.eq {e e' : En} {rs : List R} {ds : List D} (h : FrzE e rs ds e') : frzs e rs = some (ds, e') := by
  induction h with
  | nil => rfl
  | vl _ ih => simp only [frzs, frz1, S.d, ih]
  | vo _ ih => simp only [frzs, frz1, S.d, ih]
  | vd _ ih => simp only [frzs, frz1, S.d, ih]
  | po a b _ ih => simp only [frzs, frz1, S.d, a, b.eq.1, ih]
  | pd a b _ ih => simp only [frzs, frz1, S.d, a, b.eq.1, ih]
/-- looked at -/
inductive PkE (e : En) : List R → List S → Prop
  | nil : PkE e [] []
  | vl {rs : List R} {ss : List S} {s : S} : PkE e rs ss → PkE e (.vl s :: rs) (s :: ss)
  | pl {rs : List R} {ss : List S} {s : S} {i : Nat} : e[i]? = some (some s) → PkE e rs ss → PkE e (.pl i :: rs) (s :: ss)
theorem PkE.eq {e : En} {rs : List R} {ss : List S} (h : PkE e rs ss) : pks e rs = some ss := by
  induction h with
  | nil => rfl
  | vl _ ih => simp only [pks, pk, ih]
  | pl a _ ih => simp only [pks, pk, a, ih]; rfl
/-- looked at, as data -/
inductive SD : S → D → Prop
  | fr {d : D} : SD (.fr d) d
  | ol {xs : List D} : SD (.ol xs) (.lst xs)
  | od {ks : List Key} {vs : List D} : SD (.od ks vs) (.dic ks vs)
  | oi {c : Nat} {ns : List Str} {vs : List D} : SD (.oi c ns vs) (.ins c ns vs)
theorem SD.eq {s : S} {d : D} (h : SD s d) : s.d = d := by cases h <;> rfl
inductive PkD (e : En) : List R → List D → Prop
  | nil : PkD e [] []
  | vl {rs : List R} {ds : List D} {s : S} {d : D} : SD s d → PkD e rs ds → PkD e (.vl s :: rs) (d :: ds)
  | pl {rs : List R} {ds : List D} {s : S} {d : D} {i : Nat} : e[i]? = some (some s) → SD s d → PkD e rs ds → PkD e (.pl i :: rs) (d :: ds)
theorem PkD.eq {e : En} {rs : List R} {ds : List D} (h : PkD e rs ds) : ∃ ss, pks e rs = some ss ∧ ss.map S.d = ds := by
  induction h with
  | nil => exact ⟨[], rfl, rfl⟩
  | @vl rs ds s d hs _ ih => obtain ⟨ss, h1, h2⟩ := ih; exact ⟨s :: ss, by simp only [pks, pk, h1], by simp [hs.eq, h2]⟩
  | @pl rs ds s d i a hs _ ih => obtain ⟨ss, h1, h2⟩ := ih; exact ⟨s :: ss, by simp only [pks, pk, a, h1]; rfl, by simp [hs.eq, h2]⟩
inductive MapE : List D → List S → Prop
  | nil : MapE [] []
  | cons {d : D} {ds : List D} {ss : List S} : MapE ds ss → MapE (d :: ds) (.fr d :: ss)
theorem MapE.eq {ds : List D} {ss : List S} (h : MapE ds ss) : ds.map .fr = ss := by
  induction h with
  | nil => rfl
  | cons _ ih => simp [ih]
inductive FinE (p : Nat → Bool) : Nat → List S → En → List S → Prop
  | nil {i : Nat} {e : En} : FinE p i [] e []
  | keep {i : Nat} {s t : S} {ss ss' : List S} {y : Option S} {e : En} : p i = true → FinE p (i + 1) ss e ss' → FinE p i (s :: ss) (some t :: e) (t :: ss')
  | fr {i : Nat} {d : D} {ss ss' : List S} {y : Option S} {e : En} : p i = false → FinE p (i + 1) ss e ss' → FinE p i (.fr d :: ss) (y :: e) (.fr d :: ss')
/-! what comes behind, by names -/
def KC2 (r : R) (Q : List R → En → Prop) : List R → En → Prop := fun rs e => Q (r :: rs) e
def KC1 (X : Xn → En → Prop) (ms : En → Ou (List R)) (Q : List R → En → Prop) : R → En → Prop := fun r e => Wo X (ms e) (KC2 r Q)
def KP (X : Xn → En → Prop) (p : List R → En → Ou R) (Q : R → En → Prop) : List R → En → Prop := fun rs e => Wo X (p rs e) Q
def KCall (rs : List R) (e1 : En) (Q : R → En → Prop) : S → List S → Prop := fun s ss' => Q (.vl s) (puts e1 rs ss')
def KCallX (X : Xn → En → Prop) (rs : List R) (e1 : En) : Xn → List S → Prop := fun x ss' => X x (puts e1 rs ss')
def KCallF (e1 : En) (Q : R → En → Prop) : S → List S → Prop := fun s _ => Q (.vl s) e1
def KCallFX (X : Xn → En → Prop) (e1 : En) : Xn → List S → Prop := fun x _ => X x e1
def KTb (Q : Bool → En → Prop) : R → En → Prop := fun r e => ∃ b, r = .vl (.fr (.bl b)) ∧ Q b e
def KTr (Q : Bool → En → Prop) : R → En → Prop := fun r e => ∃ s b, pk e r = some s ∧ truthD s.d = some b ∧ Q b e
def KIf (X : Xn → En → Prop) (a b : En → Fl) (N : En → Prop) (Rt : S → En → Prop) : Bool → En → Prop := fun k e => Wf X (if k = true then a e else b e) N Rt
def KBo {α : Type} (X : Xn → En → Prop) (a b : En → Ou α) (Q : α → En → Prop) : Bool → En → Prop := fun k e => Wo X (if k = true then a e else b e) Q
def KAsg (X : Xn → En → Prop) (g : S → En → Fl) (N : En → Prop) (Rt : S → En → Prop) : R → En → Prop := fun r e => ∃ s e2, own1 e r = some (s, e2) ∧ Wf X (g s e2) N Rt
def KExpr (N : En → Prop) : R → En → Prop := fun _ e => N e
def KRet (np : Nat) (Rt : S → En → Prop) : R → En → Prop := fun r e => Wf noX (fRet np r e) (fun _ => False) Rt
def KS (X : Xn → En → Prop) (b : En → Fl) (N : En → Prop) (Rt : S → En → Prop) : En → Prop := fun e => Wf X (b e) N Rt
def KFin (p : Nat → Bool) (ss : List S) (Q : S → List S → Prop) : S → En → Prop := fun s e => ∃ ss', finS p 0 ss e = some ss' ∧ Q s ss'
def KFinN (p : Nat → Bool) (ss : List S) (Q : S → List S → Prop) : En → Prop := fun e => KFin p ss Q (.fr .non) e
def KFinX (p : Nat → Bool) (ss : List S) (X : Xn → List S → Prop) : Xn → En → Prop := fun x e => ∃ ss', finS p 0 ss e = some ss' ∧ X x ss'
section
variable {X : Xn → En → Prop} {e e' e1 e2 : En} {Q : R → En → Prop} {Qs : List R → En → Prop} {QB : Bool → En → Prop} {N : En → Prop} {Rt : S → En → Prop} {m ma mb : En → Ou R} {ms : En → Ou (List R)} {t tb : En → Ou Bool} {r : R} {rs : List R} {a b : En → Fl} {g : S → En → Fl} {i j np : Nat} {s : S} {ss ss' : List S} {d : D} {ds xs : List D}
/-! expressions -/
theorem Wo.eq {α : Type} {o : Ou α} {k : α} {Q : α → En → Prop} (h : o = .ok k e) (q : Q k e) : Wo X o Q := by subst h; exact q
theorem Wo.mono {α : Type} {o : Ou α} {Q Q' : α → En → Prop} (w : Wo X o Q) (h : ∀ k e, Q k e → Q' k e) : Wo X o Q' := by
  unfold Wo at *
  cases o with
  | ok k e => exact h _ _ w
  | ex x e => exact w
  | no => exact w
theorem W_var (h : e[i]? = some (some (.fr d))) (q : Q (.vl (.fr d)) e) : Wo X (bVar i e) Q := by
  unfold Wo bVar; rw [h]; exact q
theorem W_varO (h : e[i]? = some (some (.ol xs))) (q : Q (.pl i) e) : Wo X (bVar i e) Q := by
  unfold Wo bVar; rw [h]; exact q
theorem W_varD {ks : List Key} (h : e[i]? = some (some (.od ks xs))) (q : Q (.pl i) e) : Wo X (bVar i e) Q := by
  unfold Wo bVar; rw [h]; exact q
theorem W_varI {c : Nat} {ns : List Str} (h : e[i]? = some (some (.oi c ns xs))) (q : Q (.pl i) e) : Wo X (bVar i e) Q := by
  unfold Wo bVar; rw [h]; exact q
theorem W_con (q : Q (.vl (.fr d)) e) : Wo X (bCon d e) Q := q
theorem W_nil (q : Qs [] e) : Wo X (aNil e) Qs := q
theorem W_cons (q : Wo X (m e) (KC1 X ms Qs)) : Wo X (aCons m ms e) Qs := by
  unfold aCons
  cases h : m e with
  | no => rw [h] at q; exact q
  | ex x e1 => rw [h] at q; exact q
  | ok r e1 =>
    rw [h] at q
    simp only [KC1, Wo] at q ⊢
    cases h2 : ms e1 with
    | no => rw [h2] at q; exact q
    | ex x e2 => rw [h2] at q; exact q
    | ok rs e2 => rw [h2] at q; exact q
theorem K_c1 (q : Wo X (ms e) (KC2 r Qs)) : KC1 X ms Qs r e := q
theorem K_c2 (q : Qs (r :: rs) e) : KC2 r Qs rs e := q
theorem W_P {p : List R → En → Ou R} (q : Wo X (ms e) (KP X p Q)) : Wo X (bP p ms e) Q := by
  unfold bP
  cases h : ms e with
  | no => rw [h] at q; exact q
  | ex x e1 => rw [h] at q; exact q
  | ok r e1 => rw [h] at q; exact q
theorem K_p {p : List R → En → Ou R} (q : Wo X (p rs e) Q) : KP X p Q rs e := q
theorem W_b2 {p : List R → En → Ou R} (q : Wo X (ma e) (KC1 X (aCons mb aNil) (KP X p Q))) : Wo X (b2 p ma mb e) Q := W_P (W_cons q)
theorem W_b1 {p : List R → En → Ou R} (q : Wo X (ma e) (KC1 X aNil (KP X p Q))) : Wo X (b1 p ma e) Q := W_P (W_cons q)
theorem W_add (q : Wo X (b2 (pS dAdd) ma mb e) Q) : Wo X (bBin .Add ma mb e) Q := q
theorem W_sub (q : Wo X (b2 (pS dSub) ma mb e) Q) : Wo X (bBin .Sub ma mb e) Q := q
theorem W_mul (q : Wo X (b2 (pSS dMulS) ma mb e) Q) : Wo X (bBin .Mult ma mb e) Q := q
theorem W_fdiv (q : Wo X (b2 (pS dDiv) ma mb e) Q) : Wo X (bBin .FloorDiv ma mb e) Q := q
theorem W_mod (q : Wo X (b2 (pS dMod) ma mb e) Q) : Wo X (bBin .Mod ma mb e) Q := q
theorem W_pow (q : Wo X (b2 (pS dPow) ma mb e) Q) : Wo X (bBin .Pow ma mb e) Q := q
theorem W_eq (q : Wo X (b2 (pS dEq) ma mb e) Q) : Wo X (bCmp .Eq ma mb e) Q := q
theorem W_ne (q : Wo X (b2 (pS dNe) ma mb e) Q) : Wo X (bCmp .NotEq ma mb e) Q := q
theorem W_lt (q : Wo X (b2 (pS dLt) ma mb e) Q) : Wo X (bCmp .Lt ma mb e) Q := q
theorem W_le (q : Wo X (b2 (pS dLe) ma mb e) Q) : Wo X (bCmp .LtE ma mb e) Q := q
theorem W_gt (q : Wo X (b2 (pS dGt) ma mb e) Q) : Wo X (bCmp .Gt ma mb e) Q := q
theorem W_ge (q : Wo X (b2 (pS dGe) ma mb e) Q) : Wo X (bCmp .GtE ma mb e) Q := q
theorem W_is (q : Wo X (b2 (pS (dIs false)) ma mb e) Q) : Wo X (bCmp .Is ma mb e) Q := q
theorem W_isn (q : Wo X (b2 (pS (dIs true)) ma mb e) Q) : Wo X (bCmp .IsNot ma mb e) Q := q
theorem W_in (q : Wo X (b2 (pS (dIn false)) ma mb e) Q) : Wo X (bCmp .In ma mb e) Q := q
theorem W_nin (q : Wo X (b2 (pS (dIn true)) ma mb e) Q) : Wo X (bCmp .NotIn ma mb e) Q := q
theorem W_ix (q : Wo X (b2 (pS dIx) ma mb e) Q) : Wo X (bIx ma mb e) Q := q
theorem W_tup (q : Wo X (bP (pZ dTupN) ms e) Q) : Wo X (bTup ms e) Q := q
theorem W_lst (q : Wo X (bP (pZ dLstN) ms e) Q) : Wo X (bLst ms e) Q := q
theorem W_pS {f : List D → Option S} (h : PkD e rs ds) (hf : f ds = some s) (q : Q (.vl s) e) : Wo X (pS f rs e) Q := by
  obtain ⟨ss, h1, h2⟩ := h.eq
  unfold Wo pS; rw [h1]; simp only [h2, hf]; exact q
theorem W_pSS {f : List S → Option S} (h : PkE e rs ss) (hf : f ss = some s) (q : Q (.vl s) e) : Wo X (pSS f rs e) Q := by
  unfold Wo pSS; rw [h.eq]; simp only [hf]; exact q
theorem W_pZ {f : List D → Option S} (h : FrzE e rs ds e1) (hf : f ds = some s) (q : Q (.vl s) e1) : Wo X (pZ f rs e) Q := by
  unfold Wo pZ; rw [h.eq]; simp only [hf]; exact q
theorem W_call {fn : List S → FO} (h : MovE e rs ss e1) (hn : ss.length = np) (w : Wc (fn ss) (KCall rs e1 Q) (KCallX X rs e1)) : Wo X (pCall np fn rs e) Q := by
  unfold Wo pCall
  rw [h.eq]
  simp only [hn, if_true]
  unfold Wc at w
  cases hf : fn ss with
  | ok s ss' => rw [hf] at w; exact w
  | ex x ss' => rw [hf] at w; exact w
  | no => rw [hf] at w; exact w
theorem K_call (h : PutE e1 rs ss' e2) (q : Q (.vl s) e2) : KCall rs e1 Q s ss' := by
  unfold KCall; rw [h.eq]; exact q
theorem K_callX {x : Xn} (h : PutE e1 rs ss' e2) (q : X x e2) : KCallX X rs e1 x ss' := by
  unfold KCallX; rw [h.eq]; exact q
theorem W_callZ {ks ps : List Str} {fn : List S → FO} {ds' : List D} (h : FrzE e rs ds e1) (hn : (if ds.length = ks.length then arrG ks ps ds else none) = some ds') (hm : MapE ds' ss) (w : Wc (fn ss) (KCallF e1 Q) (KCallFX X e1)) : Wo X (pCallZ ks ps fn rs e) Q := by
  unfold Wo pCallZ
  rw [h.eq]
  simp only [hn]
  unfold Wc at w
  rw [← hm.eq] at w
  cases hf : fn (ds'.map .fr) with
  | ok s ss' => rw [hf] at w; exact w
  | ex x ss' => rw [hf] at w; exact w
  | no => rw [hf] at w; exact w
theorem W_callD {dfl : List D} {fn : List S → FO} (h : FrzE e rs ds e1) (hn : (ds ++ dfl).length = np) (hm : (ds ++ dfl).map .fr = ss) (w : Wc (fn ss) (KCallF e1 Q) (KCallFX X e1)) : Wo X (pCallD dfl np fn rs e) Q := by
  unfold Wo pCallD
  rw [h.eq]
  simp only [hn, if_true]
  unfold Wc at w
  rw [← hm] at w
  cases hf : fn ((ds ++ dfl).map .fr) with
  | ok s ss' => rw [hf] at w; exact w
  | ex x ss' => rw [hf] at w; exact w
  | no => rw [hf] at w; exact w
theorem K_callF (q : Q (.vl s) e1) : KCallF e1 Q s ss' := q
theorem Wc.eq {o : FO} {Q : S → List S → Prop} {X : Xn → List S → Prop} (h : o = .ok s ss) (q : Q s ss) : Wc o Q X := by subst h; exact q
theorem Wc.ex {o : FO} {x : Xn} {Q : S → List S → Prop} {X : Xn → List S → Prop} (h : o = .ex x ss) (q : X x ss) : Wc o Q X := by subst h; exact q
theorem Wc.mono {o : FO} {Q Q' : S → List S → Prop} {X : Xn → List S → Prop} (w : Wc o Q X) (h : ∀ s ss, Q s ss → Q' s ss) : Wc o Q' X := by
  unfold Wc at *
  cases o with
  | ok s ss => exact h _ _ w
  | ex x ss => exact w
  | no => exact w
/-! tests -/
theorem W_Tb (q : Wo X (m e) (KTb QB)) : Wo X (bTb m e) QB := by
  unfold bTb
  cases h : m e with
  | no => rw [h] at q; exact q
  | ex x e1 => rw [h] at q; exact q
  | ok r e1 =>
    rw [h] at q
    obtain ⟨b, rfl, q⟩ := q
    exact q
theorem K_tb {b : Bool} (q : QB b e) : KTb QB (.vl (.fr (.bl b))) e := ⟨b, rfl, q⟩
theorem W_Tr (q : Wo X (m e) (KTr QB)) : Wo X (bTr m e) QB := by
  unfold bTr
  cases h : m e with
  | no => rw [h] at q; exact q
  | ex x e1 => rw [h] at q; exact q
  | ok r e1 =>
    rw [h] at q
    obtain ⟨s, b, h1, h2, q⟩ := q
    simp only [h1, h2]
    exact q
theorem K_tr {b : Bool} (h : PkD e [r] [d]) (h2 : truthD d = some b) (q : QB b e) : KTr QB r e := by
  obtain ⟨ss, this, hd⟩ := h.eq
  unfold pks at this
  cases z : pk e r with
  | none => rw [z] at this; cases this
  | some s' => rw [z] at this; cases this; simp [pks] at hd; exact ⟨s', b, z, by rw [hd]; exact h2, q⟩
theorem W_Not (q : Wo X (t e) (fun k e => QB (!k) e)) : Wo X (bNot t e) QB := by
  unfold bNot
  cases h : t e with
  | no => rw [h] at q; exact q
  | ex x e1 => rw [h] at q; exact q
  | ok r e1 => rw [h] at q; exact q
theorem W_And (q : Wo X (t e) (KBo X tb (fun e => .ok false e) QB)) : Wo X (bAnd t tb e) QB := by
  unfold bAnd
  cases h : t e with
  | no => rw [h] at q; exact q
  | ex x e1 => rw [h] at q; exact q
  | ok k e1 => rw [h] at q; cases k <;> exact q
theorem W_Or (q : Wo X (t e) (KBo X (fun e => .ok true e) tb QB)) : Wo X (bOr t tb e) QB := by
  unfold bOr
  cases h : t e with
  | no => rw [h] at q; exact q
  | ex x e1 => rw [h] at q; exact q
  | ok k e1 => rw [h] at q; cases k <;> exact q
theorem W_AndV (q : Wo X (m e) (KTb (KBo X mb (fun e => .ok (.vl (.fr (.bl false))) e) Q))) : Wo X (bAndV m mb e) Q := by
  have q := W_Tb q
  unfold bAndV
  cases h : bTb m e with
  | no => rw [h] at q; exact q
  | ex x e1 => rw [h] at q; exact q
  | ok k e1 => rw [h] at q; cases k <;> exact q
theorem W_OrV (q : Wo X (m e) (KTb (KBo X (fun e => .ok (.vl (.fr (.bl true))) e) mb Q))) : Wo X (bOrV m mb e) Q := by
  have q := W_Tb q
  unfold bOrV
  cases h : bTb m e with
  | no => rw [h] at q; exact q
  | ex x e1 => rw [h] at q; exact q
  | ok k e1 => rw [h] at q; cases k <;> exact q
theorem W_NotV (q : Wo X (m e) (KTb (fun k e => Q (.vl (.fr (.bl (!k)))) e))) : Wo X (bNotV m e) Q := by
  have q := W_Tb q
  unfold bNotV
  cases h : bTb m e with
  | no => rw [h] at q; exact q
  | ex x e1 => rw [h] at q; exact q
  | ok k e1 => rw [h] at q; exact q
theorem W_IfE (q : Wo X (t e) (KBo X ma mb Q)) : Wo X (bIfE t ma mb e) Q := by
  unfold bIfE
  cases h : t e with
  | no => rw [h] at q; exact q
  | ex x e1 => rw [h] at q; exact q
  | ok k e1 => rw [h] at q; cases k <;> exact q
section
variable {α : Type} {fa fb : En → Ou α} {QA : α → En → Prop} {k : Bool} {P : Prop}
theorem K_bot (q : Wo X (fa e) QA) : KBo X fa fb QA true e := q
theorem K_bof (q : Wo X (fb e) QA) : KBo X fa fb QA false e := q
theorem K_bo [Decidable P] (h1 : P → Wo X (fa e) QA) (h2 : ¬ P → Wo X (fb e) QA) : KBo X fa fb QA (decide P) e := by
  unfold KBo
  by_cases h : P
  · simp only [h, decide_true, if_true]; exact h1 h
  · simp only [h, decide_false]; exact h2 h
theorem K_bob (h1 : k = true → Wo X (fa e) QA) (h2 : k = false → Wo X (fb e) QA) : KBo X fa fb QA k e := by
  cases k
  · exact h2 rfl
  · exact h1 rfl
end
theorem W_ok {α : Type} {k : α} {Q : α → En → Prop} (q : Q k e) : Wo X (Ou.ok k e) Q := q
/-! chains: a < b < c -/
theorem W_chain {op op' : CmpOp} {mc : En → Ou R} {f f' : List D → Option S} (hf : dCmp op = some f) (hf' : dCmp op' = some f')
    (q : Wo X (ma e) (fun ra e1 => Wo X (mb e1) (fun rb e2 => ∃ sa sb k, pks e2 [ra, rb] = some [sa, sb] ∧ f [sa.d, sb.d] = some (.fr (.bl k)) ∧ if k = true then Wo X (mc e2) (fun rc e3 => Wo X (pS f' [rb, rc] e3) Q) else Q (.vl (.fr (.bl false))) e2))) :
    Wo X (bChain op op' ma mb mc e) Q := by
  unfold bChain
  cases h : ma e with
  | no => rw [h] at q; exact q
  | ex x e1 => rw [h] at q; exact q
  | ok ra e1 =>
    rw [h] at q
    simp only [Wo] at q ⊢
    cases h2 : mb e1 with
    | no => rw [h2] at q; exact q
    | ex x e2 => rw [h2] at q; exact q
    | ok rb e2 =>
      rw [h2] at q
      obtain ⟨sa, sb, k, h3, h4, q⟩ := q
      simp only [hf, hf', h3, h4]
      cases k with
      | false => exact q
      | true =>
        simp only [if_true] at q
        simp only
        cases h5 : mc e2 with
        | no => rw [h5] at q; exact q
        | ex x e3 => rw [h5] at q; exact q
        | ok rc e3 => rw [h5] at q; exact q
/-! slices -/
theorem W_bnd {α β : Type} {o : Ou β} {f : β → En → Ou α} {Q : α → En → Prop} (q : Wo X o (fun k e => Wo X (f k e) Q)) : Wo X (o.bnd f) Q := by
  cases o <;> exact q
def KInt (Q : Option Int → En → Prop) : R → En → Prop := fun r e => ∃ i, r = .vl (.fr (.int i)) ∧ Q (some i) e
theorem K_int {Q : Option Int → En → Prop} {i : Int} (q : Q (some i) e) : KInt Q (.vl (.fr (.int i))) e := ⟨i, rfl, q⟩
def KSl1 (X : Xn → En → Prop) (lo hi : Option (En → Ou R)) (Q : R → En → Prop) : R → En → Prop := fun r e => Wo X (bPart lo e) (fun l e2 => Wo X (bPart hi e2) (fun h e3 => Wo X (pS (dSl l h) [r] e3) Q))
theorem W_sl {lo hi : Option (En → Ou R)} (q : Wo X (m e) (KSl1 X lo hi Q)) : Wo X (bSl m lo hi e) Q := by
  unfold bSl
  refine W_bnd (Wo.mono q fun r e h => W_bnd (Wo.mono h fun l e h => W_bnd (Wo.mono h fun h e w => w)))
def KSl2 (X : Xn → En → Prop) (r : R) (hi : Option (En → Ou R)) (Q : R → En → Prop) : Option Int → En → Prop := fun l e => Wo X (bPart hi e) (fun h e3 => Wo X (pS (dSl l h) [r] e3) Q)
def KSl3 (X : Xn → En → Prop) (r : R) (l : Option Int) (Q : R → En → Prop) : Option Int → En → Prop := fun h e => Wo X (pS (dSl l h) [r] e) Q
theorem K_sl1 {lo hi : Option (En → Ou R)} (q : Wo X (bPart lo e) (KSl2 X r hi Q)) : KSl1 X lo hi Q r e := q
theorem K_sl2 {l : Option Int} {hi : Option (En → Ou R)} (q : Wo X (bPart hi e) (KSl3 X r l Q)) : KSl2 X r hi Q l e := q
theorem K_sl3 {l h : Option Int} (q : Wo X (pS (dSl l h) [r] e) Q) : KSl3 X r l Q h e := q
theorem W_part0 {Q : Option Int → En → Prop} (q : Q none e) : Wo X (bPart none e) Q := q
theorem W_part1 {Q : Option Int → En → Prop} (q : Wo X (m e) (KInt Q)) : Wo X (bPart (some m) e) Q := by
  unfold bPart
  refine W_bnd ?_
  unfold bInt
  cases h : m e with
  | no => rw [h] at q; exact q
  | ex x e1 => rw [h] at q; exact q
  | ok r e1 =>
    rw [h] at q
    obtain ⟨i, rfl, q⟩ := q
    exact q
/-! statements -/
theorem Wf.mono {o : Fl} {N N' : En → Prop} {Rt Rt' : S → En → Prop} (w : Wf X o N Rt) (h : ∀ e, N e → N' e) (h2 : ∀ s e, Rt s e → Rt' s e) : Wf X o N' Rt' := by
  unfold Wf at *
  cases o with
  | nx e => exact h _ w
  | rt s e => exact h2 _ _ w
  | _ => exact w
theorem Wf.eq {o : Fl} (h : o = .nx e) (q : N e) : Wf X o N Rt := by subst h; exact q
theorem Wf.eqR {o : Fl} (h : o = .rt s e) (q : Rt s e) : Wf X o N Rt := by subst h; exact q
theorem W_S (q : Wf X (a e) (KS X b N Rt) Rt) : Wf X (sCons a b e) N Rt := by
  unfold sCons
  cases h : a e with
  | nx e1 => rw [h] at q; exact q
  | rt s e1 => rw [h] at q; exact q
  | ex x e1 => rw [h] at q; exact q
  | bk e1 => rw [h] at q; exact q
  | ct e1 => rw [h] at q; exact q
  | no => rw [h] at q; exact q
theorem K_s (q : Wf X (b e) N Rt) : KS X b N Rt e := q
theorem W_sNil (q : N e) : Wf X (sNil e) N Rt := q
theorem W_asg (q : Wo X (m e) (KAsg X g N Rt)) : Wf X (sAsg g m e) N Rt := by
  unfold sAsg
  cases h : m e with
  | no => rw [h] at q; exact q
  | ex x e1 => rw [h] at q; exact q
  | ok r e1 =>
    rw [h] at q
    obtain ⟨s, e2, h1, q⟩ := q
    simp only [h1]
    exact q
theorem K_nm (h : SetE e i (some s) e1) (q : N e1) : KAsg X (gNm i) N Rt (.vl s) e := ⟨s, e, rfl, by unfold gNm; rw [if_pos h.eq.2, h.eq.1]; exact q⟩
theorem K_nmO (h0 : e[j]? = some (some (.ol xs))) (h1 : SetE e j (some (.fr (.lst xs))) e1) (h : SetE e1 i (some (.fr (.lst xs))) e2) (q : N e2) : KAsg X (gNm i) N Rt (.pl j) e :=
  ⟨.fr (.lst xs), e1, by simp only [own1, h0, S.d, h1.eq.1], by unfold gNm; rw [if_pos h.eq.2, h.eq.1]; exact q⟩
theorem W_expr (q : Wo X (m e) (KExpr N)) : Wf X (sExpr m e) N Rt := by
  unfold sExpr
  cases h : m e with
  | no => rw [h] at q; exact q
  | ex x e1 => rw [h] at q; exact q
  | ok r e1 => rw [h] at q; exact q
theorem K_expr (q : N e) : KExpr N r e := q
theorem W_ret (q : Wo X (m e) (KRet np Rt)) : Wf X (sRet np m e) N Rt := by
  unfold sRet
  cases h : m e with
  | no => rw [h] at q; exact q
  | ex x e1 => rw [h] at q; exact q
  | ok r e1 =>
    rw [h] at q
    unfold KRet Wo at q
    cases r with
    | vl s => exact q
    | pl i =>
      simp only [fRet] at q ⊢
      cases h2 : e1[i]? with
      | none => rw [h2] at q; exact q
      | some y => cases y with
        | none => rw [h2] at q; exact q
        | some s =>
          rw [h2] at q
          simp only at q ⊢
          split <;> rename_i z <;> simp only [z, if_true, if_false] at q <;> exact q
theorem K_ret (q : Rt s e) : KRet np Rt (.vl s) e := q
theorem K_retP (h : e[i]? = some (some s)) (hd : SD s d) (hn : i < np) (h1 : SetE e i (some (.fr d)) e1) (q : Rt (.fr d) e1) : KRet np Rt (.pl i) e := by
  cases hd.eq
  simp only [KRet, fRet, h, hn, if_true, h1.eq.1]; exact q
theorem K_retL (h : e[i]? = some (some s)) (hn : ¬ i < np) (h1 : SetE e i none e1) (q : Rt s e1) : KRet np Rt (.pl i) e := by
  simp only [KRet, fRet, h, hn, if_false, h1.eq.1]; exact q
theorem W_retN (q : Rt (.fr .non) e) : Wf X (sRetN e) N Rt := q
theorem W_if (q : Wo X (t e) (KIf X a b N Rt)) : Wf X (sIf t a b e) N Rt := by
  unfold sIf
  cases h : t e with
  | no => rw [h] at q; exact q
  | ex x e1 => rw [h] at q; exact q
  | ok k e1 => rw [h] at q; cases k <;> exact q
theorem K_ift (q : Wf X (a e) N Rt) : KIf X a b N Rt true e := q
theorem K_iff (q : Wf X (b e) N Rt) : KIf X a b N Rt false e := q
theorem K_ifd {P : Prop} [Decidable P] (h1 : P → Wf X (a e) N Rt) (h2 : ¬ P → Wf X (b e) N Rt) : KIf X a b N Rt (decide P) e := by
  unfold KIf
  by_cases h : P
  · simp only [h, decide_true, if_true]; exact h1 h
  · simp only [h, decide_false]; exact h2 h
theorem K_ifb {k : Bool} (h1 : k = true → Wf X (a e) N Rt) (h2 : k = false → Wf X (b e) N Rt) : KIf X a b N Rt k e := by
  cases k
  · exact h2 rfl
  · exact h1 rfl
def KPar (N : En → Prop) (i j : Nat) : List R → En → Prop := fun rs e1 => ∃ a b e3 e4 e2, FrzE e1 rs [a, b] e3 ∧ SetE e3 i (some (.fr a)) e4 ∧ SetE e4 j (some (.fr b)) e2 ∧ N e2
theorem W_parK (q : Wo X (ms e) (KPar N i j)) : Wf X (sPar i j ms e) N Rt := by
  unfold sPar
  cases h : ms e with
  | no => rw [h] at q; exact q
  | ex x e1 => rw [h] at q; exact q
  | ok rs e1 =>
    rw [h] at q
    obtain ⟨a, b, e3, e4, e2, h2, h3, h4, q⟩ := q
    simp only [h2.eq]
    rw [if_pos ⟨h3.eq.2, by have := h4.eq.2; rw [← h3.eq.1] at this; simpa using this⟩, h3.eq.1, h4.eq.1]
    exact q
theorem K_par {a b : D} {e3 e4 : En} (h2 : FrzE e rs [a, b] e3) (h3 : SetE e3 i (some (.fr a)) e4) (h4 : SetE e4 j (some (.fr b)) e2) (q : N e2) : KPar N i j rs e := ⟨a, b, e3, e4, e2, h2, h3, h4, q⟩
/-! x += .. -/
def KAug (i : Nat) (op : Operator) (a : Int) (N : En → Prop) : R → En → Prop := fun r e => ∃ b c e1, PkE e [r] [.fr (.int b)] ∧ dAug op a b = some c ∧ SetE e i (some (.fr (.int c))) e1 ∧ N e1
theorem W_aug {op : Operator} {a : Int} (h : e[i]? = some (some (.fr (.int a)))) (q : Wo X (m e) (KAug i op a N)) : Wf X (sAug i op m e) N Rt := by
  unfold sAug
  rw [h]
  simp only
  cases h1 : m e with
  | no => rw [h1] at q; exact q
  | ex x e1 => rw [h1] at q; exact q
  | ok r e1 =>
    rw [h1] at q
    obtain ⟨b, c, e2, h2, h3, h4, q⟩ := q
    have z := h2.eq
    unfold pks at z
    cases y : pk e1 r with
    | none => rw [y] at z; cases z
    | some s' => rw [y] at z; cases z; simp only [y, h3, h4.eq.2, if_true, h4.eq.1]; exact q
theorem K_aug {op : Operator} {a b c : Int} (h2 : PkE e [r] [.fr (.int b)]) (h3 : dAug op a b = some c) (h4 : SetE e i (some (.fr (.int c))) e1) (q : N e1) : KAug i op a N r e := ⟨b, c, e1, h2, h3, h4, q⟩
/-! targets -/
theorem W_gNm (h : SetE e i (some s) e1) (q : N e1) : Wf X (gNm i s e) N Rt := by unfold gNm; rw [if_pos h.eq.2, h.eq.1]; exact q
theorem W_gAllN (q : N e) : Wf X (gAll [] [] e) N Rt := q
def KG (X : Xn → En → Prop) (gs : List (S → En → Fl)) (ds : List D) (N : En → Prop) (Rt : S → En → Prop) : En → Prop := fun e => Wf X (gAll gs ds e) N Rt
theorem W_gAllC {gs : List (S → En → Fl)} (q : Wf X (g (.fr d) e) (KG X gs ds N Rt) Rt) : Wf X (gAll (g :: gs) (d :: ds) e) N Rt := by
  unfold gAll
  cases h : g (.fr d) e with
  | nx e1 => rw [h] at q; exact q
  | rt s e1 => rw [h] at q; exact q
  | ex x e1 => rw [h] at q; exact q
  | bk e1 => rw [h] at q; exact q
  | ct e1 => rw [h] at q; exact q
  | no => rw [h] at q; exact q
theorem K_g {gs : List (S → En → Fl)} (q : Wf X (gAll gs ds e) N Rt) : KG X gs ds N Rt e := q
theorem W_gTup {gs : List (S → En → Fl)} (hl : ds.length = gs.length) (q : Wf X (gAll gs ds e) N Rt) : Wf X (gTupF gs (.fr (.tup ds)) e) N Rt := by
  simp only [gTupF, hl, if_true]; exact q
theorem W_gLst {gs : List (S → En → Fl)} (hl : ds.length = gs.length) (q : Wf X (gAll gs ds e) N Rt) : Wf X (gTupF gs (.fr (.lst ds)) e) N Rt := by
  simp only [gTupF, hl, if_true]; exact q
def KIx (i : Nat) (s : S) (N : En → Prop) : R → En → Prop := fun r e => ∃ k ds j e1, PkE e [r] [.fr (.int k)] ∧ e[i]? = some (some (.ol ds)) ∧ ixN ds.length k = some j ∧ SetE e i (some (.ol (ds.set j s.d))) e1 ∧ N e1
theorem W_gIx (h : e[i]? = some (some (.ol xs))) (q : Wo X (m e) (KIx i s N)) : Wf X (gIx i m s e) N Rt := by
  unfold gIx
  rw [h]
  simp only
  cases h1 : m e with
  | no => rw [h1] at q; exact q
  | ex x e1 => rw [h1] at q; exact q
  | ok r e1 =>
    rw [h1] at q
    obtain ⟨k, ds, j, e2, h2, h3, h4, h5, q⟩ := q
    have z := h2.eq
    unfold pks at z
    cases y : pk e1 r with
    | none => rw [y] at z; cases z
    | some s' => rw [y] at z; cases z; simp only [y, h3, h4, h5.eq.1]; exact q
theorem K_ix {k : Int} (h2 : PkE e [r] [.fr (.int k)]) (h3 : e[i]? = some (some (.ol ds))) (hd : SD s d) (h4 : ixN ds.length k = some j) (h5 : SetE e i (some (.ol (ds.set j d))) e1) (q : N e1) : KIx i s N r e := ⟨k, ds, j, e1, h2, h3, h4, by rw [hd.eq]; exact h5, q⟩
/-! x[i] += .. -/
def KAugS2 (i : Nat) (op : Operator) (k a : Int) (N : En → Prop) : R → En → Prop := fun r e => ∃ b c ds j e1, PkE e [r] [.fr (.int b)] ∧ e[i]? = some (some (.ol ds)) ∧ dAug op a b = some c ∧ ixN ds.length k = some j ∧ SetE e i (some (.ol (ds.set j (.int c)))) e1 ∧ N e1
def KAugS (X : Xn → En → Prop) (i : Nat) (op : Operator) (m : En → Ou R) (N : En → Prop) : R → En → Prop := fun r e => ∃ k ds a, PkE e [r] [.fr (.int k)] ∧ e[i]? = some (some (.ol ds)) ∧ atI ds k = some (.int a) ∧ Wo X (m e) (KAugS2 i op k a N)
theorem W_augS {op : Operator} (h : e[i]? = some (some (.ol xs))) (q : Wo X (ma e) (KAugS X i op m N)) : Wf X (sAugS i op ma m e) N Rt := by
  unfold sAugS
  rw [h]
  simp only
  cases h1 : ma e with
  | no => rw [h1] at q; exact q
  | ex x e1 => rw [h1] at q; exact q
  | ok r e1 =>
    rw [h1] at q
    obtain ⟨k, ds, a, h2, h3, h4, q⟩ := q
    have z := h2.eq
    unfold pks at z
    cases y : pk e1 r with
    | none => rw [y] at z; cases z
    | some s' =>
      rw [y] at z; cases z
      simp only [y, h3, h4]
      cases h5 : m e1 with
      | no => rw [h5] at q; exact q
      | ex x e2 => rw [h5] at q; exact q
      | ok r2 e2 =>
        rw [h5] at q
        obtain ⟨b, c, ds2, j, e3, g1, g2, g3, g4, g5, q⟩ := q
        have z2 := g1.eq
        unfold pks at z2
        cases y2 : pk e2 r2 with
        | none => rw [y2] at z2; cases z2
        | some s' => rw [y2] at z2; cases z2; simp only [y2, g2, g3, g4, g5.eq.1]; exact q
theorem K_augS {op : Operator} {k a : Int} (h2 : PkE e [r] [.fr (.int k)]) (h3 : e[i]? = some (some (.ol ds))) (h4 : atI ds k = some (.int a)) (q : Wo X (m e) (KAugS2 i op k a N)) : KAugS X i op m N r e := ⟨k, ds, a, h2, h3, h4, q⟩
theorem K_augS2 {op : Operator} {k a b c : Int} (h1 : PkE e [r] [.fr (.int b)]) (h2 : e[i]? = some (some (.ol ds))) (h3 : dAug op a b = some c) (h4 : ixN ds.length k = some j) (h5 : SetE e i (some (.ol (ds.set j (.int c)))) e1) (q : N e1) : KAugS2 i op k a N r e := ⟨b, c, ds, j, e1, h1, h2, h3, h4, h5, q⟩
/-! methods of a list of one's own -/
def KMt (f : List D → List D → Option (List D × D)) (i : Nat) (Q : R → En → Prop) : List R → En → Prop := fun rs e => ∃ as e2 ds ds' d e3, FrzE e rs as e2 ∧ e2[i]? = some (some (.ol ds)) ∧ f ds as = some (ds', d) ∧ SetE e2 i (some (.ol ds')) e3 ∧ Q (.vl (.fr d)) e3
theorem W_mt {f : List D → List D → Option (List D × D)} (h : e[i]? = some (some (.ol xs))) (q : Wo X (ms e) (KMt f i Q)) : Wo X (bMt f i ms e) Q := by
  unfold bMt
  rw [h]
  simp only
  cases h1 : ms e with
  | no => rw [h1] at q; exact q
  | ex x e1 => rw [h1] at q; exact q
  | ok rs e1 =>
    rw [h1] at q
    obtain ⟨as, e2, ds, ds', d, e3, h2, h3, h4, h5, q⟩ := q
    simp only [h2.eq, h3, h4, h5.eq.1]
    exact q
theorem K_mt {f : List D → List D → Option (List D × D)} {as ds' : List D} {e3 : En} (h2 : FrzE e rs as e2) (h3 : e2[i]? = some (some (.ol ds))) (h4 : f ds as = some (ds', d)) (h5 : SetE e2 i (some (.ol ds')) e3) (q : Q (.vl (.fr d)) e3) : KMt f i Q rs e := ⟨as, e2, ds, ds', d, e3, h2, h3, h4, h5, q⟩
/-! loops -/
theorem W_forL (I : List D → En → Prop) {N : En → Prop} (h0 : I ds e) (hs : ∀ d ds' e, I (d :: ds') e → Wf X (g (.fr d) e) (fun e1 => Wf X (b e1) (fun e2 => I ds' e2) Rt) (fun _ _ => False)) (hN : ∀ e, I [] e → N e) : Wf X (forL g b ds e) N Rt := by
  induction ds generalizing e with
  | nil => exact hN e h0
  | cons d ds ih =>
    have w := hs d ds e h0
    unfold forL
    cases h : g (.fr d) e with
    | nx e1 =>
      rw [h] at w
      simp only [Wf] at w ⊢
      cases h2 : b e1 with
      | nx e2 => rw [h2] at w; exact ih w
      | rt s e2 => rw [h2] at w; exact w
      | ex x e2 => rw [h2] at w; exact w
      | bk e2 => rw [h2] at w; exact w.elim
      | ct e2 => rw [h2] at w; exact w.elim
      | no => rw [h2] at w; exact w
    | rt s e1 => rw [h] at w; exact w.elim
    | ex x e1 => rw [h] at w; exact w
    | bk e1 => rw [h] at w; exact w.elim
    | ct e1 => rw [h] at w; exact w.elim
    | no => rw [h] at w; exact w.elim
def KFor (X : Xn → En → Prop) (g : S → En → Fl) (b : En → Fl) (N : En → Prop) (Rt : S → En → Prop) : List D → En → Prop := fun ds e => Wf X (forL g b ds e) N Rt
theorem W_for {it : En → Ou (List D)} (q : Wo X (it e) (KFor X g b N Rt)) : Wf X (sFor it g b e) N Rt := by
  unfold sFor
  cases h : it e with
  | no => rw [h] at q; exact q
  | ex x e1 => rw [h] at q; exact q
  | ok ds e1 => rw [h] at q; exact q
theorem K_for (q : Wf X (forL g b ds e) N Rt) : KFor X g b N Rt ds e := q
theorem W_while (I : Nat → En → Prop) {n : Nat} (h0 : I n e) (hs : ∀ n e, I n e → Wo X (t e) (fun k e1 => if k = true then Wf X (b e1) (fun e2 => ∃ m, m < n ∧ I m e2) Rt else N e1)) : Wf X (sWh t b e) N Rt := by
  induction n using Nat.strongRecOn generalizing e with
  | ind n ih =>
    have w := hs n e h0
    rw [sWh_eq]
    cases h : t e with
    | no => rw [h] at w; exact w
    | ex x e1 => rw [h] at w; exact w
    | ok k e1 =>
      rw [h] at w
      cases k with
      | false => exact w
      | true =>
        have w : Wf X (b e1) (fun e2 => ∃ m, m < n ∧ I m e2) Rt := w
        simp only
        cases h2 : b e1 with
        | nx e2 => rw [h2] at w; obtain ⟨m, hm, hi⟩ := w; exact ih m hm hi
        | rt s e2 => rw [h2] at w; exact w
        | ex x e2 => rw [h2] at w; exact w
        | bk e2 => rw [h2] at w; exact w.elim
        | ct e2 => rw [h2] at w; exact w.elim
        | no => rw [h2] at w; exact w
/-! what is walked -/
def KSeq (Q : List D → En → Prop) : R → En → Prop := fun r e => ∃ d e2 ds, FrzE e [r] [d] e2 ∧ seqD d = some ds ∧ Q ds e2
theorem W_seq {Q : List D → En → Prop} (q : Wo X (m e) (KSeq Q)) : Wo X (mSeq m e) Q := by
  unfold mSeq
  cases h : m e with
  | no => rw [h] at q; exact q
  | ex x e1 => rw [h] at q; exact q
  | ok r e1 =>
    rw [h] at q
    obtain ⟨d, e2, ds, h1, h2, q⟩ := q
    have z := h1.eq
    unfold frzs at z
    cases y : frz1 e1 r with
    | none => rw [y] at z; cases z
    | some p =>
      obtain ⟨d', e3⟩ := p
      rw [y] at z
      simp only [frzs] at z
      cases z
      simp only [y, h2]
      exact q
theorem K_seqL {Q : List D → En → Prop} (h : FrzE e [r] [.lst ds] e2) (q : Q ds e2) : KSeq Q r e := ⟨.lst ds, e2, ds, h, rfl, q⟩
theorem K_seqT {Q : List D → En → Prop} (h : FrzE e [r] [.tup ds] e2) (q : Q ds e2) : KSeq Q r e := ⟨.tup ds, e2, ds, h, rfl, q⟩
def KPs (f : List D → Option (List D)) (Q : List D → En → Prop) : List R → En → Prop := fun rs e => ∃ ds e2 l, FrzE e rs ds e2 ∧ f ds = some l ∧ Q l e2
theorem W_ps {f : List D → Option (List D)} {Q : List D → En → Prop} (q : Wo X (ms e) (KPs f Q)) : Wo X (mPs f ms e) Q := by
  unfold mPs
  cases h : ms e with
  | no => rw [h] at q; exact q
  | ex x e1 => rw [h] at q; exact q
  | ok rs e1 =>
    rw [h] at q
    obtain ⟨ds, e2, l, h1, h2, q⟩ := q
    simp only [h1.eq, h2]
    exact q
theorem K_ps {f : List D → Option (List D)} {Q : List D → En → Prop} {l : List D} (h : FrzE e rs ds e2) (hf : f ds = some l) (q : Q l e2) : KPs f Q rs e := ⟨ds, e2, l, h, hf, q⟩
/-! comprehensions -/
def WL (g : S → En → Fl) (t : En → Ou Bool) (m : En → Ou R) (vs : List Nat) (ds : List D) (e : En) (acc : List D) (Q : List D → En → Prop) : Prop := match lcL g t m vs ds e acc with
  | some (a, e') => Q a e'
  | none => False
theorem WL_inv {vs : List Nat} {acc : List D} {Q : List D → En → Prop} (I : List D → List D → En → Prop) (h0 : I ds acc e)
    (hs : ∀ d ds' acc e, I (d :: ds') acc e → Wf noX (g (.fr d) e) (fun e1 => Wo noX (t e1) (fun k e2 => if k = true then Wo noX (m e2) (fun r e3 => ∃ x e4, frz1 e3 r = some (x, e4) ∧ I ds' (acc ++ [x]) (wipeE e4 vs)) else I ds' acc (wipeE e2 vs))) (fun _ _ => False))
    (hN : ∀ acc e, I [] acc e → Q acc e) : WL g t m vs ds e acc Q := by
  induction ds generalizing e acc with
  | nil => exact hN acc e h0
  | cons d ds ih =>
    have w := hs d ds acc e h0
    unfold WL lcL
    cases h : g (.fr d) e with
    | nx e1 =>
      rw [h] at w
      simp only [Wf] at w ⊢
      cases h2 : t e1 with
      | no => rw [h2] at w; exact w.elim
      | ex x e2 => rw [h2] at w; exact w.elim
      | ok k e2 =>
        rw [h2] at w
        cases k with
        | false => exact ih w
        | true =>
          have w : Wo noX (m e2) (fun r e3 => ∃ x e4, frz1 e3 r = some (x, e4) ∧ I ds (acc ++ [x]) (wipeE e4 vs)) := w
          simp only
          cases h3 : m e2 with
          | no => rw [h3] at w; exact w.elim
          | ex x e3 => rw [h3] at w; exact w.elim
          | ok r e3 =>
            rw [h3] at w
            obtain ⟨x, e4, h4, w⟩ := w
            simp only [h4]
            exact ih w
    | rt s e1 => rw [h] at w; exact w.elim
    | ex x e1 => rw [h] at w; exact w.elim
    | bk e1 => rw [h] at w; exact w.elim
    | ct e1 => rw [h] at w; exact w.elim
    | no => rw [h] at w; exact w.elim
def KLc (g : S → En → Fl) (t : En → Ou Bool) (m : En → Ou R) (vs : List Nat) (Q : R → En → Prop) : List D → En → Prop := fun ds e1 => okW e1 vs = true ∧ ds.length < 16777216 ∧ WL g t m vs ds (wipeE e1 vs) [] (fun acc e2 => Q (.vl (.ol acc)) (backE e1 e2 vs))
theorem W_lc {it : En → Ou (List D)} {vs : List Nat} (q : Wo X (it e) (KLc g t m vs Q)) : Wo X (bLc it g t m vs e) Q := by
  unfold bLc
  cases h : it e with
  | no => rw [h] at q; exact q
  | ex x e1 => rw [h] at q; exact q
  | ok ds e1 =>
    rw [h] at q
    obtain ⟨h1, h2, q⟩ := q
    simp only [h1, h2, and_self, if_true]
    unfold WL at q
    cases h3 : lcL g t m vs ds (wipeE e1 vs) [] with
    | none => rw [h3] at q; exact q.elim
    | some p => obtain ⟨a, e2⟩ := p; rw [h3] at q; exact q
/-! a def -/
theorem W_fn {nl : Nat} {p : Nat → Bool} {body : En → Fl} {Q : S → List S → Prop} {XC : Xn → List S → Prop} (h : Wf (KFinX p ss XC) (body (se ss ++ List.replicate (nl - ss.length) none)) (KFinN p ss Q) (KFin p ss Q)) : Wc (fnOf nl p body ss) Q XC := by
  unfold fnOf
  cases hb : body (se ss ++ List.replicate (nl - ss.length) none) with
  | nx e => rw [hb] at h; obtain ⟨ss', h1, h⟩ := h; simp only [h1]; exact h
  | rt s e => rw [hb] at h; obtain ⟨ss', h1, h⟩ := h; simp only [h1]; exact h
  | ex x e => rw [hb] at h; obtain ⟨ss', h1, h⟩ := h; simp only [h1]; exact h
  | bk e => rw [hb] at h; exact h.elim
  | ct e => rw [hb] at h; exact h.elim
  | no => rw [hb] at h; exact h.elim
theorem FinE.eq {p : Nat → Bool} {i : Nat} (h : FinE p i ss e ss') : finS p i ss e = some ss' := by
  induction h with
  | nil => unfold finS; rfl
  | @keep i s t ss ss' y e hp _ ih =>
    show (if p i = true then _ else _) = _
    rw [if_pos hp, ih]
  | @fr i d ss ss' y e hp _ ih =>
    show (if p i = true then _ else _) = _
    rw [if_neg (by rw [hp]; decide), ih]
theorem K_fin {p : Nat → Bool} {Q : S → List S → Prop} (h : FinE p 0 ss e ss') (q : Q s ss') : KFin p ss Q s e := ⟨ss', h.eq, q⟩
theorem K_finN {p : Nat → Bool} {Q : S → List S → Prop} (q : KFin p ss Q (.fr .non) e) : KFinN p ss Q e := q
end
end Fv

namespace Fv
open PySem PySem.Spec PyProof.Rows L2
/-! ### steps by data, each for itself -/
section
variable {i j k : Int} {x y : Str} {xs ys ds : List D} {d : D} {b : Bool} {s : S}
theorem kit_ii : kitB "int" "int" = some true := by decide +kernel
theorem kit_ib : kitB "int" "bool" = some false := by decide +kernel
theorem kit_bi : kitB "bool" "int" = some true := by decide +kernel
theorem kit_bb : kitB "bool" "bool" = some true := by decide +kernel
theorem shaped_int (i : Int) : SeqAt.shaped (D.int i).pd = true := by
  simp [D.pd, SeqAt.shaped, PyData.canLay0, PyData.depth]
theorem eqv_int (i j : Int) : dEqv (.int i) (.int j) = some (decide (i = j)) := by
  unfold dEqv
  rw [shaped_int, shaped_int]
  simp only [Bool.and_self, if_true]
  congr 1
theorem mulB_l {i j : Int} (h : i.natAbs < 18446744073709551616) : mulB i j = false := by
  have : IntMulOk i j := IntMulOk.of_left (intBits_le_iff.mpr h)
  unfold IntMulOk at this
  unfold mulB
  simpa using this
theorem mulB_r {i j : Int} (h : j.natAbs < 18446744073709551616) : mulB i j = false := by
  have := mulB_l (i := j) (j := i) h
  unfold mulB at *
  rw [Bool.and_comm (decide (Builtin.Int.intBits i > shortFactorBits))]
  rw [show ((Builtin.Int.intBits i : Int) + Builtin.Int.intBits j) = (Builtin.Int.intBits j : Int) + Builtin.Int.intBits i from Int.add_comm _ _]
  exact this
theorem divB_s {i j : Int} (h : j.natAbs < 18446744073709551616) : Builtin.divisionGoesByPylong i j = false := by
  unfold Builtin.divisionGoesByPylong
  simp only [Bool.and_eq_false_imp, decide_eq_true_eq, decide_eq_false_iff_not]
  intro h1
  exfalso
  split at h1
  · omega
  · have : j.natAbs.log2 < 64 := (Nat.log2_lt (by rename_i z; simpa using z)).mpr h
    omega
theorem f_add : dAdd [.int i, .int j] = some (.fr (.int (i + j))) := (rfl)
theorem f_addS (h : x.length + y.length ≤ 16777216) : dAdd [.str x, .str y] = some (.fr (.str (x ++ y))) := if_pos h
theorem f_addL (h : xs.length + ys.length ≤ 16777216) : dAdd [.lst xs, .lst ys] = some (.ol (xs ++ ys)) := if_pos h
theorem f_addT (h : xs.length + ys.length ≤ 16777216) : dAdd [.tup xs, .tup ys] = some (.fr (.tup (xs ++ ys))) := if_pos h
theorem f_sub : dSub [.int i, .int j] = some (.fr (.int (i - j))) := (rfl)
theorem f_neg : dNeg [.int i] = some (.fr (.int (-i))) := (rfl)
theorem f_mul (h : mulB i j = false) : dMulS [.fr (.int i), .fr (.int j)] = some (.fr (.int (i * j))) := by show (if mulB i j then none else _) = _; rw [h]; rfl
theorem f_mulL (h : -(2 ^ 62) ≤ k ∧ k < 2 ^ 62 ∧ xs.length * k.toNat ≤ 16777216) : dMulS [.ol xs, .fr (.int k)] = some (.ol (List.replicate k.toNat xs).flatten) := if_pos h
theorem f_mul0 (h : -(2 ^ 62) ≤ k ∧ k ≤ 16777216) : dMulS [.ol [d], .fr (.int k)] = some (.ol (List.replicate k.toNat d)) := by
  rw [f_mulL ⟨h.1, by omega, by simp; omega⟩]
  congr 2
  generalize k.toNat = n
  induction n with
  | zero => rfl
  | succ n ih => simp [List.replicate_succ, ih]
theorem f_div (h : 0 < j) (h2 : Builtin.divisionGoesByPylong i j = false) : dDiv [.int i, .int j] = some (.fr (.int (i / j))) := by
  show (if j = 0 then none else if Builtin.divisionGoesByPylong i j then none else some (S.fr (.int (if 0 < j then i / j else i.fdiv j)))) = _
  rw [if_neg (by omega), h2, if_pos h]; rfl
theorem f_mod (h : 0 < j) : dMod [.int i, .int j] = some (.fr (.int (i % j))) := by
  show (if j = 0 then none else some (S.fr (.int (if 0 < j then i % j else i.fmod j)))) = _
  rw [if_neg (by omega), if_pos h]
theorem f_pow (h : 0 ≤ j ∧ j ≤ 1000000 ∧ i.natAbs < 2 ^ 64) : dPow [.int i, .int j] = some (.fr (.int (i ^ j.toNat))) := if_pos h
theorem f_eq {a c : D} (h : dEqv a c = some b) : dEq [a, c] = some (.fr (.bl b)) := by show (dEqv _ _).map _ = _; rw [h]; rfl
theorem f_ne {a c : D} (h : dEqv a c = some b) : dNe [a, c] = some (.fr (.bl (!b))) := by show (dEqv _ _).map _ = _; rw [h]; rfl
theorem f_eqI : dEq [.int i, .int j] = some (.fr (.bl (decide (i = j)))) := f_eq (eqv_int _ _)
theorem f_neI : dNe [.int i, .int j] = some (.fr (.bl (!decide (i = j)))) := f_ne (eqv_int _ _)
theorem f_lt : dLt [.int i, .int j] = some (.fr (.bl (decide (i < j)))) := (rfl)
theorem f_le : dLe [.int i, .int j] = some (.fr (.bl (decide (i ≤ j)))) := (rfl)
theorem f_gt : dGt [.int i, .int j] = some (.fr (.bl (decide (j < i)))) := (rfl)
theorem f_ge : dGe [.int i, .int j] = some (.fr (.bl (decide (j ≤ i)))) := (rfl)
theorem f_isN : dIs false [d, .non] = some (.fr (.bl d.isNon)) := (rfl)
theorem f_isnN : dIs true [d, .non] = some (.fr (.bl (!d.isNon))) := (rfl)
theorem f_isB {c : Bool} : dIs false [.bl b, .bl c] = some (.fr (.bl (decide (b = c)))) := (rfl)
theorem f_isnB {c : Bool} : dIs true [.bl b, .bl c] = some (.fr (.bl (!decide (b = c)))) := (rfl)
theorem f_ixL (h : atI xs i = some d) : dIx [.lst xs, .int i] = some (.fr d) := by show (atI _ _).map _ = _; rw [h]; rfl
theorem f_ixT (h : atI xs i = some d) : dIx [.tup xs, .int i] = some (.fr d) := by show (atI _ _).map _ = _; rw [h]; rfl
theorem f_tup (h : ds.length ≤ 1000) : dTupN ds = some (.fr (.tup ds)) := if_pos h
theorem f_lst (h : ds.length ≤ 1000) : dLstN ds = some (.ol ds) := if_pos h
theorem f_slL {lo hi : Option Int} : dSl lo hi [.lst xs] = some (.ol (cutD xs lo hi)) := (rfl)
theorem f_slT {lo hi : Option Int} : dSl lo hi [.tup xs] = some (.fr (.tup (cutD xs lo hi))) := (rfl)
theorem f_lenL : dLen [.lst xs] = some (.fr (.int xs.length)) := (rfl)
theorem f_lenT : dLen [.tup xs] = some (.fr (.int xs.length)) := (rfl)
theorem f_lenS (h : x.length ≤ 16777216) : dLen [.str x] = some (.fr (.int x.length)) := if_pos h
theorem f_abs : dAbs [.int i] = some (.fr (.int (if i < 0 then -i else i))) := (rfl)
theorem f_max : dMax [.int i, .int j] = some (.fr (.int (if j > i then j else i))) := (rfl)
theorem f_min : dMin [.int i, .int j] = some (.fr (.int (if j < i then j else i))) := (rfl)
theorem f_maxL {is : List Int} {m : Int} (h : intsD xs = some is) (h2 : maxL is = some m) : dMax [.lst xs] = some (.fr (.int m)) := by show (intsD xs).bind _ = _; rw [h]; show (maxL is).map _ = _; rw [h2]; rfl
theorem f_minL {is : List Int} {m : Int} (h : intsD xs = some is) (h2 : minL is = some m) : dMin [.lst xs] = some (.fr (.int m)) := by show (intsD xs).bind _ = _; rw [h]; show (minL is).map _ = _; rw [h2]; rfl
theorem f_intI : dInt [.int i] = some (.fr (.int i)) := (rfl)
theorem f_intB : dInt [.bl b] = some (.fr (.int (if b = true then 1 else 0))) := (rfl)
theorem f_divmod (h : 0 < j) (h2 : Builtin.divisionGoesByPylong i j = false) : dDivmod [.int i, .int j] = some (.fr (.tup [.int (i / j), .int (i % j)])) := by
  show (if j = 0 then none else if Builtin.divisionGoesByPylong i j then none else some (S.fr (.tup [.int (if 0 < j then i / j else i.fdiv j), .int (if 0 < j then i % j else i.fmod j)]))) = _
  rw [if_neg (by omega), h2, if_pos h, if_pos h]; rfl
theorem f_listL : dList [.lst xs] = some (.ol xs) := (rfl)
theorem f_listT : dList [.tup xs] = some (.ol xs) := (rfl)
theorem f_tupL : dTuple [.lst xs] = some (.fr (.tup xs)) := (rfl)
theorem f_tupT : dTuple [.tup xs] = some (.fr (.tup xs)) := (rfl)
theorem f_sum {is : List Int} (h : intsD xs = some is) : dSum [.lst xs] = some (.fr (.int is.sum)) := by show (intsD xs).map _ = _; rw [h]; rfl
theorem f_all {bs : List Bool} (h : boolsD xs = some bs) : dAll [.lst xs] = some (.fr (.bl (bs.all id))) := by show (boolsD xs).map _ = _; rw [h]; rfl
theorem f_any {bs : List Bool} (h : boolsD xs = some bs) : dAny [.lst xs] = some (.fr (.bl (bs.any id))) := by show (boolsD xs).map _ = _; rw [h]; rfl
theorem f_isi {t n : String} (h : d.tyN = some t) (h2 : kitB t n = some b) : dIsi [d, .ty n] = some (.fr (.bl b)) := by show (D.tyN d).bind _ = _; rw [h]; simp [h2]
theorem f_isiT {t : String} {ts : List D} (h : d.tyN = some t) (h2 : isiL t ts = some b) : dIsi [d, .tup ts] = some (.fr (.bl b)) := by show (D.tyN d).bind _ = _; rw [h]; simp [h2]
theorem isiL_nil {t : String} : isiL t [] = some false := (rfl)
theorem isiL_cons {t n : String} {b c : Bool} {ts : List D} (h : kitB t n = some b) (h2 : isiL t ts = some c) : isiL t (.ty n :: ts) = some (b || c) := by simp only [isiL, h, h2]
theorem g_app (h : ds.length < 16777216) : fApp ds [d] = some (ds ++ [d], .non) := by unfold fApp; simp only [h, if_true]
theorem rng1 {n : Int} (h : -(2 ^ 62) ≤ n ∧ n < 2 ^ 62) : (fun ds : List D => if ds.length = 1 then rngOf ds else none) [.int n] = some (rngD 0 n.toNat) := by
  simp only [List.length_cons, List.length_nil, if_true, rngOf]; rw [if_pos h]
theorem rng2 {m n : Int} (h : -(2 ^ 62) ≤ m ∧ m < 2 ^ 62 ∧ -(2 ^ 62) ≤ n ∧ n < 2 ^ 62) : (fun ds : List D => if ds.length = 2 then rngOf ds else none) [.int m, .int n] = some (rngD m (n - m).toNat) := by
  simp only [List.length_cons, List.length_nil, if_true, rngOf]; rw [if_pos h]
theorem rngA {n : Int} (h : -(2 ^ 62) ≤ n ∧ n < 2 ^ 62) : rngOf [.int n] = some (rngD 0 n.toNat) := if_pos h
theorem rngB {m n : Int} (h : -(2 ^ 62) ≤ m ∧ m < 2 ^ 62 ∧ -(2 ^ 62) ≤ n ∧ n < 2 ^ 62) : rngOf [.int m, .int n] = some (rngD m (n - m).toNat) := if_pos h
theorem rngD_len {m : Int} {n : Nat} : (rngD m n).length = n := by simp [rngD]
theorem enumL : enumOf2 [.lst xs] = some (enumD 0 xs) := (rfl)
theorem enumT : enumOf2 [.tup xs] = some (enumD 0 xs) := (rfl)
theorem zipL : zipOf [.lst xs, .lst ys] = some (zipD xs ys) := (rfl)
theorem zipT : zipOf [.tup xs, .tup ys] = some (zipD xs ys) := (rfl)
theorem aug_add : dAug .Add i j = some (i + j) := (rfl)
theorem aug_sub : dAug .Sub i j = some (i - j) := (rfl)
theorem aug_mul (h : mulB i j = false) : dAug .Mult i j = some (i * j) := by show (if mulB i j then none else _) = _; rw [h]; rfl
theorem tr_bl : truthD (.bl b) = some b := (rfl)
theorem tr_int : truthD (.int i) = some (i != 0) := (rfl)
theorem tr_lst : truthD (.lst xs) = some !xs.isEmpty := (rfl)
theorem tr_tup : truthD (.tup xs) = some !xs.isEmpty := (rfl)
theorem f_mulI (h : i.natAbs < 18446744073709551616) : dMulS [.fr (.int i), .fr (.int j)] = some (.fr (.int (i * j))) := f_mul (mulB_l h)
theorem f_mulJ (h : j.natAbs < 18446744073709551616) : dMulS [.fr (.int i), .fr (.int j)] = some (.fr (.int (i * j))) := f_mul (mulB_r h)
theorem aug_mulI (h : i.natAbs < 18446744073709551616) : dAug .Mult i j = some (i * j) := aug_mul (mulB_l h)
theorem aug_mulJ (h : j.natAbs < 18446744073709551616) : dAug .Mult i j = some (i * j) := aug_mul (mulB_r h)
theorem f_divS (h : 0 < j ∧ j < 18446744073709551616) : dDiv [.int i, .int j] = some (.fr (.int (i / j))) := f_div h.1 (divB_s (by omega))
theorem f_divmodS (h : 0 < j ∧ j < 18446744073709551616) : dDivmod [.int i, .int j] = some (.fr (.tup [.int (i / j), .int (i % j)])) := f_divmod h.1 (divB_s (by omega))
end
/-! branches whose answer is turned about -/
section
variable {α : Type} {X : Xn → En → Prop} {e : En} {fa fb : En → Ou α} {QA : α → En → Prop} {a b : En → Fl} {N : En → Prop} {Rt : S → En → Prop} {P : Prop}
theorem K_bon [Decidable P] (h1 : P → Wo X (fb e) QA) (h2 : ¬ P → Wo X (fa e) QA) : KBo X fa fb QA (!decide P) e := by
  unfold KBo
  by_cases h : P
  · simp only [h, decide_true, Bool.not_true]; exact h1 h
  · simp only [h, decide_false, Bool.not_false, if_true]; exact h2 h
theorem K_ifn [Decidable P] (h1 : P → Wf X (b e) N Rt) (h2 : ¬ P → Wf X (a e) N Rt) : KIf X a b N Rt (!decide P) e := by
  unfold KIf
  by_cases h : P
  · simp only [h, decide_true, Bool.not_true]; exact h1 h
  · simp only [h, decide_false, Bool.not_false, if_true]; exact h2 h
theorem K_ift' (q : Wf X (b e) N Rt) : KIf X a b N Rt (!true) e := q
theorem K_iff' (q : Wf X (a e) N Rt) : KIf X a b N Rt (!false) e := q
theorem K_bot' (q : Wo X (fb e) QA) : KBo X fa fb QA (!true) e := q
theorem K_bof' (q : Wo X (fa e) QA) : KBo X fa fb QA (!false) e := q
end
theorem atI_in {xs : List D} {i : Int} (h : 0 ≤ i ∧ i < xs.length) : ∃ d, atI xs i = some d ∧ d ∈ xs ∧ xs[i.toNat]? = some d := by
  have hi : i.toNat < xs.length := by omega
  refine ⟨xs[i.toNat], ?_, List.getElem_mem hi, List.getElem?_eq_getElem hi⟩
  unfold atI ixN
  rw [if_pos h.1, if_pos (by omega)]
  exact List.getElem?_eq_getElem hi
/-- one of a row, which isn't known -/
theorem W_pickL {X : Xn → En → Prop} {e : En} {xs : List D} {i : Int} {Q : R → En → Prop} (h : 0 ≤ i ∧ i < xs.length) (q : ∀ d, d ∈ xs → xs[i.toNat]? = some d → Q (.vl (.fr d)) e) : Wo X (pS dIx [.vl (.ol xs), .vl (.fr (.int i))] e) Q := by
  obtain ⟨d, h1, h2, h3⟩ := atI_in h
  exact W_pS (.vl .ol (.vl .fr .nil)) (f_ixL h1) (q d h2 h3)
theorem W_pickF {X : Xn → En → Prop} {e : En} {xs : List D} {i : Int} {Q : R → En → Prop} (h : 0 ≤ i ∧ i < xs.length) (q : ∀ d, d ∈ xs → xs[i.toNat]? = some d → Q (.vl (.fr d)) e) : Wo X (pS dIx [.vl (.fr (.lst xs)), .vl (.fr (.int i))] e) Q := by
  obtain ⟨d, h1, h2, h3⟩ := atI_in h
  exact W_pS (.vl .fr (.vl .fr .nil)) (f_ixL h1) (q d h2 h3)
theorem W_pickT {X : Xn → En → Prop} {e : En} {xs : List D} {i : Int} {Q : R → En → Prop} (h : 0 ≤ i ∧ i < xs.length) (q : ∀ d, d ∈ xs → xs[i.toNat]? = some d → Q (.vl (.fr d)) e) : Wo X (pS dIx [.vl (.fr (.tup xs)), .vl (.fr (.int i))] e) Q := by
  obtain ⟨d, h1, h2, h3⟩ := atI_in h
  exact W_pS (.vl .fr (.vl .fr .nil)) (f_ixT h1) (q d h2 h3)
/-- the items of a comprehension, without a test -/
theorem K_lc1 {g : S → En → Fl} {m : En → Ou R} {i : Nat} {Q : R → En → Prop} {ds : List D} {e1 : En} (I : List D → List D → En → Prop) (hl : ds.length < 16777216) (hi : e1[i]? = some none) (h0 : I ds [] e1)
    (hs : ∀ d ds' acc e, I (d :: ds') acc e → Wf noX (g (.fr d) e) (fun e1 => Wo noX (m e1) (fun r e3 => ∃ x e4, frz1 e3 r = some (x, e4) ∧ I ds' (acc ++ [x]) (wipeE e4 [i]))) (fun _ _ => False))
    (hN : ∀ acc e, I [] acc e → Q (.vl (.ol acc)) (e.set i none)) : KLc g bYes m [i] Q ds e1 := by
  have hil : i < e1.length := (List.getElem?_eq_some_iff.mp hi).1
  have w : e1.set i none = e1 := by
    obtain ⟨hl, e2⟩ := List.getElem?_eq_some_iff.mp hi
    rw [← e2]; exact List.set_getElem_self hl
  refine ⟨by simp [okW, hi], hl, ?_⟩
  show WL g bYes m [i] ds (e1.set i none) [] _
  rw [w]
  refine WL_inv I h0 (fun d ds' acc e h => Wf.mono (hs d ds' acc e h) (fun e1 q => ?_) (fun _ _ q => q)) (fun acc e h => ?_)
  · exact q
  · show Q (.vl (.ol acc)) (e.set i (e1[i]?).join)
    rw [hi]
    exact hN acc e h
end Fv

namespace Fv
open PySem PySem.Spec PyProof.Rows L2
/-! ### the forward run as rewriting -/
section
variable {X : Xn → En → Prop} {e e' e1 e2 : En} {Q : R → En → Prop} {Qs : List R → En → Prop} {QB : Bool → En → Prop} {N : En → Prop} {Rt : S → En → Prop} {m ma mb : En → Ou R} {ms : En → Ou (List R)} {t tb : En → Ou Bool} {r : R} {rs : List R} {a b : En → Fl} {g : S → En → Fl} {i j np : Nat} {s : S} {ss ss' : List S} {d : D} {ds xs : List D} {k : Bool}
theorem y_ok {α : Type} {k : α} {Q : α → En → Prop} : Wo X (.ok k e) Q = Q k e := (rfl)
theorem y_ex {α : Type} {x : Xn} {Q : α → En → Prop} : Wo X (.ex x e) Q = X x e := (rfl)
theorem y_no {α : Type} {Q : α → En → Prop} : Wo X .no Q = False := (rfl)
theorem y_nx : Wf X (.nx e) N Rt = N e := (rfl)
theorem y_rt : Wf X (.rt s e) N Rt = Rt s e := (rfl)
theorem y_fex {x : Xn} : Wf X (.ex x e) N Rt = X x e := (rfl)
theorem y_fno : Wf X .no N Rt = False := (rfl)
theorem y_cok {Q : S → List S → Prop} {XC : Xn → List S → Prop} : Wc (.ok s ss) Q XC = Q s ss := (rfl)
theorem y_cex {x : Xn} {Q : S → List S → Prop} {XC : Xn → List S → Prop} : Wc (.ex x ss) Q XC = XC x ss := (rfl)
/-- a variable's thing -/
def VarK (Q : R → En → Prop) (i : Nat) (e : En) : Option (Option S) → Prop
  | some (some (.fr d)) => Q (.vl (.fr d)) e
  | some (some _) => Q (.pl i) e
  | _ => False
theorem y_var : Wo X (bVar i e) Q = VarK Q i e e[i]? := by
  unfold Wo bVar VarK
  cases e[i]? with
  | none => rfl
  | some y => cases y with
    | none => rfl
    | some s => cases s <;> rfl
theorem y_vfr : VarK Q i e (some (some (.fr d))) = Q (.vl (.fr d)) e := (rfl)
theorem y_vol : VarK Q i e (some (some (.ol xs))) = Q (.pl i) e := (rfl)
theorem y_vod {ks : List Key} : VarK Q i e (some (some (.od ks xs))) = Q (.pl i) e := (rfl)
theorem y_voi {c : Nat} {ns : List Str} : VarK Q i e (some (some (.oi c ns xs))) = Q (.pl i) e := (rfl)
theorem y_vno : VarK Q i e (some none) = False := (rfl)
theorem y_con : Wo X (bCon d e) Q = Q (.vl (.fr d)) e := (rfl)
theorem y_nil : Wo X (aNil e) Qs = Qs [] e := (rfl)
theorem y_cons : Wo X (aCons m ms e) Qs = Wo X (m e) (KC1 X ms Qs) := by
  unfold aCons
  cases h : m e with
  | no => rfl
  | ex x e1 => rfl
  | ok r e1 =>
    simp only [KC1, Wo]
    cases h2 : ms e1 <;> rfl
theorem y_c1 : KC1 X ms Qs r e = Wo X (ms e) (KC2 r Qs) := (rfl)
theorem y_c2 : KC2 r Qs rs e = Qs (r :: rs) e := (rfl)
theorem y_P {p : List R → En → Ou R} : Wo X (bP p ms e) Q = Wo X (ms e) (KP X p Q) := by
  unfold bP
  cases h : ms e <;> rfl
theorem y_p {p : List R → En → Ou R} : KP X p Q rs e = Wo X (p rs e) Q := (rfl)
theorem y_b2 {p : List R → En → Ou R} : Wo X (b2 p ma mb e) Q = Wo X (ma e) (KC1 X (aCons mb aNil) (KP X p Q)) := y_P.trans y_cons
theorem y_b1 {p : List R → En → Ou R} : Wo X (b1 p ma e) Q = Wo X (ma e) (KC1 X aNil (KP X p Q)) := y_P.trans y_cons
theorem y_add : Wo X (bBin .Add ma mb e) Q = Wo X (b2 (pS dAdd) ma mb e) Q := (rfl)
theorem y_sub : Wo X (bBin .Sub ma mb e) Q = Wo X (b2 (pS dSub) ma mb e) Q := (rfl)
theorem y_mul : Wo X (bBin .Mult ma mb e) Q = Wo X (b2 (pSS dMulS) ma mb e) Q := (rfl)
theorem y_fdiv : Wo X (bBin .FloorDiv ma mb e) Q = Wo X (b2 (pS dDiv) ma mb e) Q := (rfl)
theorem y_mod : Wo X (bBin .Mod ma mb e) Q = Wo X (b2 (pS dMod) ma mb e) Q := (rfl)
theorem y_pow : Wo X (bBin .Pow ma mb e) Q = Wo X (b2 (pS dPow) ma mb e) Q := (rfl)
theorem y_eq : Wo X (bCmp .Eq ma mb e) Q = Wo X (b2 (pS dEq) ma mb e) Q := (rfl)
theorem y_ne : Wo X (bCmp .NotEq ma mb e) Q = Wo X (b2 (pS dNe) ma mb e) Q := (rfl)
theorem y_lt : Wo X (bCmp .Lt ma mb e) Q = Wo X (b2 (pS dLt) ma mb e) Q := (rfl)
theorem y_le : Wo X (bCmp .LtE ma mb e) Q = Wo X (b2 (pS dLe) ma mb e) Q := (rfl)
theorem y_gt : Wo X (bCmp .Gt ma mb e) Q = Wo X (b2 (pS dGt) ma mb e) Q := (rfl)
theorem y_ge : Wo X (bCmp .GtE ma mb e) Q = Wo X (b2 (pS dGe) ma mb e) Q := (rfl)
theorem y_is : Wo X (bCmp .Is ma mb e) Q = Wo X (b2 (pS (dIs false)) ma mb e) Q := (rfl)
theorem y_isn : Wo X (bCmp .IsNot ma mb e) Q = Wo X (b2 (pS (dIs true)) ma mb e) Q := (rfl)
theorem y_in : Wo X (bCmp .In ma mb e) Q = Wo X (b2 (pS (dIn false)) ma mb e) Q := (rfl)
theorem y_nin : Wo X (bCmp .NotIn ma mb e) Q = Wo X (b2 (pS (dIn true)) ma mb e) Q := (rfl)
theorem y_ix : Wo X (bIx ma mb e) Q = Wo X (b2 (pS dIx) ma mb e) Q := (rfl)
theorem y_tup : Wo X (bTup ms e) Q = Wo X (bP (pZ dTupN) ms e) Q := (rfl)
theorem y_lst : Wo X (bLst ms e) Q = Wo X (bP (pZ dLstN) ms e) Q := (rfl)
/-! looked at, one by one -/
def PkK (e : En) (k : List D → Prop) : List D → List R → Prop
  | acc, [] => k acc
  | acc, .vl s :: rs => PkK e k (acc ++ [s.d]) rs
  | acc, .pl i :: rs => match e[i]? with
    | some (some s) => PkK e k (acc ++ [s.d]) rs
    | _ => False
def OpK (f : List D → Option S) (Q : S → Prop) (ds : List D) : Prop := match f ds with
  | some s => Q s
  | none => False
theorem opK {f : List D → Option S} {Q : S → Prop} (h : f ds = some s) : OpK f Q ds = Q s := by unfold OpK; rw [h]
theorem pkK_eq {k : List D → Prop} : ∀ (rs : List R) (acc : List D), PkK e k acc rs = match pks e rs with | some ss => k (acc ++ ss.map S.d) | none => False
  | [], acc => by simp [PkK, pks]
  | .vl s :: rs, acc => by
    unfold PkK
    rw [pkK_eq rs]
    simp only [pks, pk]
    cases pks e rs <;> simp
  | .pl i :: rs, acc => by
    unfold PkK
    simp only [pks, pk]
    cases h : e[i]? with
    | none => simp
    | some y => cases y with
      | none => simp
      | some s =>
        simp only [Option.join_some]
        rw [pkK_eq rs]
        cases pks e rs <;> simp
theorem y_pS {f : List D → Option S} : Wo X (pS f rs e) Q = PkK e (OpK f fun s => Q (.vl s) e) [] rs := by
  rw [pkK_eq]
  unfold pS OpK
  cases pks e rs with
  | none => rfl
  | some ss =>
    simp only [List.nil_append]
    cases f (ss.map S.d) <;> rfl
theorem k_nil {k : List D → Prop} {acc : List D} : PkK e k acc [] = k acc := (rfl)
theorem k_vl {k : List D → Prop} {acc : List D} : PkK e k acc (.vl s :: rs) = PkK e k (acc ++ [s.d]) rs := (rfl)
def PkP (e : En) (k : List D → Prop) (acc : List D) (rs : List R) : Option (Option S) → Prop
  | some (some s) => PkK e k (acc ++ [s.d]) rs
  | _ => False
theorem k_pl {k : List D → Prop} {acc : List D} : PkK e k acc (.pl i :: rs) = PkP e k acc rs e[i]? := by
  show (match e[i]? with | some (some s) => PkK e k (acc ++ [s.d]) rs | _ => False) = _
  unfold PkP
  rfl
theorem k_pp {k : List D → Prop} {acc : List D} : PkP e k acc rs (some (some s)) = PkK e k (acc ++ [s.d]) rs := (rfl)
theorem sd_fr : S.d (.fr d) = d := (rfl)
theorem sd_ol : S.d (.ol xs) = .lst xs := (rfl)
theorem sd_od {ks : List Key} : S.d (.od ks xs) = .dic ks xs := (rfl)
theorem sd_oi {c : Nat} {ns : List Str} : S.d (.oi c ns xs) = .ins c ns xs := (rfl)
/-- the things themselves -/
def PsK (e : En) (k : List S → Prop) : List S → List R → Prop
  | acc, [] => k acc
  | acc, .vl s :: rs => PsK e k (acc ++ [s]) rs
  | acc, .pl i :: rs => match e[i]? with
    | some (some s) => PsK e k (acc ++ [s]) rs
    | _ => False
def OsK (f : List S → Option S) (Q : S → Prop) (ds : List S) : Prop := match f ds with
  | some s => Q s
  | none => False
theorem osK {f : List S → Option S} {Q : S → Prop} (h : f ss = some s) : OsK f Q ss = Q s := by unfold OsK; rw [h]
theorem psK_eq {k : List S → Prop} : ∀ (rs : List R) (acc : List S), PsK e k acc rs = match pks e rs with | some ss => k (acc ++ ss) | none => False
  | [], acc => by simp [PsK, pks]
  | .vl s :: rs, acc => by
    unfold PsK
    rw [psK_eq rs]
    simp only [pks, pk]
    cases pks e rs <;> simp
  | .pl i :: rs, acc => by
    unfold PsK
    simp only [pks, pk]
    cases h : e[i]? with
    | none => simp
    | some y => cases y with
      | none => simp
      | some s =>
        simp only [Option.join_some]
        rw [psK_eq rs]
        cases pks e rs <;> simp
theorem y_pSS {f : List S → Option S} : Wo X (pSS f rs e) Q = PsK e (OsK f fun s => Q (.vl s) e) [] rs := by
  rw [psK_eq]
  unfold pSS OsK
  cases pks e rs with
  | none => rfl
  | some ss =>
    simp only [List.nil_append]
    cases f ss <;> rfl
theorem s_nil {k : List S → Prop} {acc : List S} : PsK e k acc [] = k acc := (rfl)
theorem s_vl {k : List S → Prop} {acc : List S} : PsK e k acc (.vl s :: rs) = PsK e k (acc ++ [s]) rs := (rfl)
def PsP (e : En) (k : List S → Prop) (acc : List S) (rs : List R) : Option (Option S) → Prop
  | some (some s) => PsK e k (acc ++ [s]) rs
  | _ => False
theorem s_pl {k : List S → Prop} {acc : List S} : PsK e k acc (.pl i :: rs) = PsP e k acc rs e[i]? := by
  show (match e[i]? with | some (some s) => PsK e k (acc ++ [s]) rs | _ => False) = _
  unfold PsP
  rfl
theorem s_pp {k : List S → Prop} {acc : List S} : PsP e k acc rs (some (some s)) = PsK e k (acc ++ [s]) rs := (rfl)
/-- frozen -/
def FzK (k : List D → En → Prop) : List D → En → List R → Prop
  | acc, e, [] => k acc e
  | acc, e, .vl s :: rs => FzK k (acc ++ [s.d]) e rs
  | acc, e, .pl i :: rs => match e[i]? with
    | some (some s) => FzK k (acc ++ [s.d]) (e.set i (some (.fr s.d))) rs
    | _ => False
theorem fzK_eq {k : List D → En → Prop} : ∀ (rs : List R) (acc : List D) (e : En), FzK k acc e rs = match frzs e rs with | some (ds, e') => k (acc ++ ds) e' | none => False
  | [], acc, e => by simp [FzK, frzs]
  | .vl s :: rs, acc, e => by
    unfold FzK
    rw [fzK_eq rs]
    simp only [frzs, frz1]
    cases frzs e rs <;> simp
  | .pl i :: rs, acc, e => by
    unfold FzK
    simp only [frzs, frz1]
    cases h : e[i]? with
    | none => simp
    | some y => cases y with
      | none => simp
      | some s =>
        simp only
        rw [fzK_eq rs]
        cases frzs (e.set i (some (.fr s.d))) rs <;> simp
theorem z_nil {k : List D → En → Prop} {acc : List D} : FzK k acc e [] = k acc e := (rfl)
theorem z_vl {k : List D → En → Prop} {acc : List D} : FzK k acc e (.vl s :: rs) = FzK k (acc ++ [s.d]) e rs := (rfl)
def FzP (k : List D → En → Prop) (acc : List D) (e : En) (i : Nat) (rs : List R) : Option (Option S) → Prop
  | some (some s) => FzK k (acc ++ [s.d]) (e.set i (some (.fr s.d))) rs
  | _ => False
theorem z_pl {k : List D → En → Prop} {acc : List D} : FzK k acc e (.pl i :: rs) = FzP k acc e i rs e[i]? := by
  show (match e[i]? with | some (some s) => FzK k (acc ++ [s.d]) (e.set i (some (.fr s.d))) rs | _ => False) = _
  unfold FzP
  rfl
theorem z_pp {k : List D → En → Prop} {acc : List D} : FzP k acc e i rs (some (some s)) = FzK k (acc ++ [s.d]) (e.set i (some (.fr s.d))) rs := (rfl)
def OpE (f : List D → Option S) (Q : R → En → Prop) : List D → En → Prop := fun ds e => OpK f (fun s => Q (.vl s) e) ds
theorem y_ope {f : List D → Option S} : OpE f Q ds e = OpK f (fun s => Q (.vl s) e) ds := (rfl)
theorem y_pZ {f : List D → Option S} : Wo X (pZ f rs e) Q = FzK (OpE f Q) [] e rs := by
  rw [fzK_eq]
  unfold pZ OpE OpK
  cases frzs e rs with
  | none => rfl
  | some p =>
    simp only [List.nil_append]
    cases f p.1 <;> rfl
/-- handed over -/
def MvK (k : List S → En → Prop) : List S → En → List R → Prop
  | acc, e, [] => k acc e
  | acc, e, .vl s :: rs => MvK k (acc ++ [s]) e rs
  | acc, e, .pl i :: rs => match e[i]? with
    | some (some s) => MvK k (acc ++ [s]) (e.set i none) rs
    | _ => False
theorem mvK_eq {k : List S → En → Prop} : ∀ (rs : List R) (acc : List S) (e : En), MvK k acc e rs = match movs e rs with | some (ds, e') => k (acc ++ ds) e' | none => False
  | [], acc, e => by simp [MvK, movs]
  | .vl s :: rs, acc, e => by
    unfold MvK
    rw [mvK_eq rs]
    simp only [movs, mov1]
    cases movs e rs <;> simp
  | .pl i :: rs, acc, e => by
    unfold MvK
    simp only [movs, mov1]
    cases h : e[i]? with
    | none => simp
    | some y => cases y with
      | none => simp
      | some s =>
        simp only
        rw [mvK_eq rs]
        cases movs (e.set i none) rs <;> simp
theorem v_nil {k : List S → En → Prop} {acc : List S} : MvK k acc e [] = k acc e := (rfl)
theorem v_vl {k : List S → En → Prop} {acc : List S} : MvK k acc e (.vl s :: rs) = MvK k (acc ++ [s]) e rs := (rfl)
def MvP (k : List S → En → Prop) (acc : List S) (e : En) (i : Nat) (rs : List R) : Option (Option S) → Prop
  | some (some s) => MvK k (acc ++ [s]) (e.set i none) rs
  | _ => False
theorem v_pl {k : List S → En → Prop} {acc : List S} : MvK k acc e (.pl i :: rs) = MvP k acc e i rs e[i]? := by
  show (match e[i]? with | some (some s) => MvK k (acc ++ [s]) (e.set i none) rs | _ => False) = _
  unfold MvP
  rfl
theorem v_pp {k : List S → En → Prop} {acc : List S} : MvP k acc e i rs (some (some s)) = MvK k (acc ++ [s]) (e.set i none) rs := (rfl)
def CallE (X : Xn → En → Prop) (np : Nat) (fn : List S → FO) (rs : List R) (Q : R → En → Prop) : List S → En → Prop := fun ss e1 => ss.length = np ∧ Wc (fn ss) (KCall rs e1 Q) (KCallX X rs e1)
theorem y_calle {fn : List S → FO} : CallE X np fn rs Q ss e1 = (ss.length = np ∧ Wc (fn ss) (KCall rs e1 Q) (KCallX X rs e1)) := (rfl)
theorem y_call {fn : List S → FO} : Wo X (pCall np fn rs e) Q = MvK (CallE X np fn rs Q) [] e rs := by
  rw [mvK_eq]
  unfold pCall CallE
  cases movs e rs with
  | none => rfl
  | some p =>
    simp only [List.nil_append]
    by_cases h : p.1.length = np
    · simp only [h, if_true, true_and]
      cases fn p.1 <;> rfl
    · simp only [h, if_false, false_and]; rfl
theorem y_kcall : KCall rs e1 Q s ss' = Q (.vl s) (puts e1 rs ss') := (rfl)
theorem y_kcallX {x : Xn} : KCallX X rs e1 x ss' = X x (puts e1 rs ss') := (rfl)
theorem p_nil : puts e [] ss = e := by unfold puts; rfl
theorem p_vl {s t : S} : puts e (.vl s :: rs) (t :: ss) = puts e rs ss := (rfl)
theorem p_pl : puts e (.pl i :: rs) (s :: ss) = (puts e rs ss).set i (some s) := (rfl)
def CallZ (X : Xn → En → Prop) (ks ps : List Str) (fn : List S → FO) (Q : R → En → Prop) : List D → En → Prop := fun ds e1 => match (if ds.length = ks.length then arrG ks ps ds else none) with
  | some ds' => Wc (fn (ds'.map .fr)) (KCallF e1 Q) (KCallFX X e1)
  | none => False
theorem y_callz {ks ps : List Str} {fn : List S → FO} {ds' : List D} (h : (if ds.length = ks.length then arrG ks ps ds else none) = some ds') : CallZ X ks ps fn Q ds e1 = Wc (fn (ds'.map .fr)) (KCallF e1 Q) (KCallFX X e1) := by
  unfold CallZ; rw [h]
theorem y_callZ {ks ps : List Str} {fn : List S → FO} : Wo X (pCallZ ks ps fn rs e) Q = FzK (CallZ X ks ps fn Q) [] e rs := by
  rw [fzK_eq]
  unfold pCallZ CallZ
  cases frzs e rs with
  | none => rfl
  | some p =>
    simp only [List.nil_append]
    cases (if p.1.length = ks.length then arrG ks ps p.1 else none) with
    | none => rfl
    | some ds' => simp only; cases fn (ds'.map .fr) <;> rfl
def CallD (X : Xn → En → Prop) (dfl : List D) (np : Nat) (fn : List S → FO) (Q : R → En → Prop) : List D → En → Prop := fun ds e1 => (ds ++ dfl).length = np ∧ Wc (fn ((ds ++ dfl).map .fr)) (KCallF e1 Q) (KCallFX X e1)
theorem y_calld {dfl : List D} {fn : List S → FO} : CallD X dfl np fn Q ds e1 = ((ds ++ dfl).length = np ∧ Wc (fn ((ds ++ dfl).map .fr)) (KCallF e1 Q) (KCallFX X e1)) := (rfl)
theorem y_callD {dfl : List D} {fn : List S → FO} : Wo X (pCallD dfl np fn rs e) Q = FzK (CallD X dfl np fn Q) [] e rs := by
  rw [fzK_eq]
  unfold pCallD CallD
  cases frzs e rs with
  | none => rfl
  | some p =>
    simp only [List.nil_append]
    by_cases h : (p.1 ++ dfl).length = np
    · simp only [h, if_true, true_and]
      cases fn ((p.1 ++ dfl).map .fr) <;> rfl
    · simp only [h, if_false, false_and]; rfl
theorem y_kcallF : KCallF e1 Q s ss' = Q (.vl s) e1 := (rfl)
theorem y_kcallFX {x : Xn} : KCallFX X e1 x ss' = X x e1 := (rfl)
/-! tests -/
theorem y_Tb : Wo X (bTb m e) QB = Wo X (m e) (KTb QB) := by
  unfold bTb
  cases h : m e with
  | no => rfl
  | ex x e1 => rfl
  | ok r e1 =>
    refine propext ⟨fun q => ?_, fun q => ?_⟩
    · cases r with
      | pl i => exact (show False from q).elim
      | vl s => cases s with
        | fr d => cases d with
          | bl b => exact ⟨b, rfl, q⟩
          | _ => exact (show False from q).elim
        | _ => exact (show False from q).elim
    · obtain ⟨b, rfl, q⟩ := q; exact q
theorem y_tb : KTb QB (.vl (.fr (.bl k))) e = QB k e := propext ⟨fun ⟨_, h, q⟩ => by cases h; exact q, fun q => ⟨k, rfl, q⟩⟩
def TrK (Q : Bool → Prop) (d : D) : Prop := match truthD d with
  | some b => Q b
  | none => False
theorem y_trk {Q : Bool → Prop} (h : truthD d = some k) : TrK Q d = Q k := by unfold TrK; rw [h]
def KTrr (QB : Bool → En → Prop) : R → En → Prop := fun r e => PkK e (fun ds => match ds with | [d] => TrK (fun k => QB k e) d | _ => False) [] [r]
theorem y_Tr : Wo X (bTr m e) QB = Wo X (m e) (KTrr QB) := by
  unfold bTr
  cases h : m e with
  | no => rfl
  | ex x e1 => rfl
  | ok r e1 =>
    show _ = KTrr QB r e1
    unfold KTrr
    rw [pkK_eq]
    simp only [pks]
    cases pk e1 r with
    | none => rfl
    | some s =>
      simp only [List.map_cons, List.map_nil, List.nil_append]
      unfold TrK
      cases truthD s.d <;> rfl
theorem y_trr : KTrr QB (.vl s) e = TrK (fun k => QB k e) s.d := by unfold KTrr; simp only [k_vl, k_nil, List.nil_append]
def TrP (QB : Bool → En → Prop) (e : En) : Option (Option S) → Prop
  | some (some s) => TrK (fun k => QB k e) s.d
  | _ => False
theorem y_trp : KTrr QB (.pl i) e = TrP QB e e[i]? := by
  unfold KTrr; rw [k_pl]; unfold PkP TrP
  cases e[i]? with
  | none => rfl
  | some y => cases y <;> rfl
theorem y_trpp : TrP QB e (some (some s)) = TrK (fun k => QB k e) s.d := (rfl)
def KNot (QB : Bool → En → Prop) : Bool → En → Prop := fun k e => QB (!k) e
theorem y_Not : Wo X (bNot t e) QB = Wo X (t e) (KNot QB) := by
  unfold bNot
  cases h : t e <;> rfl
theorem y_knot : KNot QB k e = QB (!k) e := (rfl)
theorem y_And : Wo X (bAnd t tb e) QB = Wo X (t e) (KBo X tb (fun e => .ok false e) QB) := by
  unfold bAnd
  cases h : t e with
  | ok k e1 => cases k <;> rfl
  | _ => rfl
theorem y_Or : Wo X (bOr t tb e) QB = Wo X (t e) (KBo X (fun e => .ok true e) tb QB) := by
  unfold bOr
  cases h : t e with
  | ok k e1 => cases k <;> rfl
  | _ => rfl
theorem y_AndV : Wo X (bAndV m mb e) Q = Wo X (m e) (KTb (KBo X mb (fun e => .ok (.vl (.fr (.bl false))) e) Q)) := by
  rw [← y_Tb]
  unfold bAndV
  cases h : bTb m e with
  | ok k e1 => cases k <;> rfl
  | _ => rfl
theorem y_OrV : Wo X (bOrV m mb e) Q = Wo X (m e) (KTb (KBo X (fun e => .ok (.vl (.fr (.bl true))) e) mb Q)) := by
  rw [← y_Tb]
  unfold bOrV
  cases h : bTb m e with
  | ok k e1 => cases k <;> rfl
  | _ => rfl
def KNotV (Q : R → En → Prop) : Bool → En → Prop := fun k e => Q (.vl (.fr (.bl (!k)))) e
theorem y_knotV : KNotV Q k e = Q (.vl (.fr (.bl (!k)))) e := (rfl)
theorem y_NotV : Wo X (bNotV m e) Q = Wo X (m e) (KTb (KNotV Q)) := by
  rw [← y_Tb]
  unfold bNotV
  cases h : bTb m e <;> rfl
theorem y_IfE : Wo X (bIfE t ma mb e) Q = Wo X (t e) (KBo X ma mb Q) := by
  unfold bIfE
  cases h : t e with
  | ok k e1 => cases k <;> rfl
  | _ => rfl
section
variable {α : Type} {fa fb : En → Ou α} {QA : α → En → Prop} {P : Prop}
theorem y_bot : KBo X fa fb QA true e = Wo X (fa e) QA := (rfl)
theorem y_bof : KBo X fa fb QA false e = Wo X (fb e) QA := (rfl)
theorem y_bod [Decidable P] : KBo X fa fb QA (decide P) e = ((P → Wo X (fa e) QA) ∧ (¬ P → Wo X (fb e) QA)) := by
  unfold KBo
  by_cases h : P <;> simp [h]
theorem y_bon : KBo X fa fb QA (!k) e = KBo X fb fa QA k e := by cases k <;> rfl
end
/-! chains -/
def KCh1 (X : Xn → En → Prop) (f f' : List D → Option S) (mb mc : En → Ou R) (Q : R → En → Prop) : R → En → Prop := fun ra e1 => Wo X (mb e1) (fun rb e2 => PkK e2 (OpK f fun s => ∃ k, s = .fr (.bl k) ∧ KBo X (fun e2 => bP (pS f') (fun e => match mc e with | .ok rc e3 => .ok [rb, rc] e3 | .ex x e3 => .ex x e3 | .no => .no) e2) (fun e => .ok (.vl (.fr (.bl false))) e) Q k e2) [] [ra, rb])
/-! slices -/
def BndK (X : Xn → En → Prop) {α β : Type} (f : β → En → Ou α) (Q : α → En → Prop) : β → En → Prop := fun k e => Wo X (f k e) Q
theorem y_bnd {α β : Type} {o : Ou β} {f : β → En → Ou α} {Q : α → En → Prop} : Wo X (o.bnd f) Q = Wo X o (BndK X f Q) := by cases o <;> rfl
theorem y_bndk {α β : Type} {f : β → En → Ou α} {Q : α → En → Prop} {x : β} : BndK X f Q x e = Wo X (f x e) Q := (rfl)
theorem y_sl {lo hi : Option (En → Ou R)} : Wo X (bSl m lo hi e) Q = Wo X (m e) (KSl1 X lo hi Q) := by
  unfold bSl
  rw [y_bnd]
  congr 1
  funext r e
  unfold BndK KSl1
  rw [y_bnd]
  congr 1
  funext l e
  unfold BndK
  rw [y_bnd]
  rfl
theorem y_sl1 {lo hi : Option (En → Ou R)} : KSl1 X lo hi Q r e = Wo X (bPart lo e) (KSl2 X r hi Q) := (rfl)
theorem y_sl2 {l : Option Int} {hi : Option (En → Ou R)} : KSl2 X r hi Q l e = Wo X (bPart hi e) (KSl3 X r l Q) := (rfl)
theorem y_sl3 {l h : Option Int} : KSl3 X r l Q h e = Wo X (pS (dSl l h) [r] e) Q := (rfl)
theorem y_part0 {Q : Option Int → En → Prop} : Wo X (bPart none e) Q = Q none e := (rfl)
theorem y_part1 {Q : Option Int → En → Prop} : Wo X (bPart (some m) e) Q = Wo X (m e) (KInt Q) := by
  unfold bPart
  rw [y_bnd]
  unfold bInt
  cases h : m e with
  | no => rfl
  | ex x e1 => rfl
  | ok r e1 =>
    refine propext ⟨fun q => ?_, fun q => ?_⟩
    · cases r with
      | pl i => exact (show False from q).elim
      | vl s => cases s with
        | fr d => cases d with
          | int b => exact ⟨b, rfl, q⟩
          | _ => exact (show False from q).elim
        | _ => exact (show False from q).elim
    · obtain ⟨b, rfl, q⟩ := q; exact q
theorem y_int {Q : Option Int → En → Prop} {i : Int} : KInt Q (.vl (.fr (.int i))) e = Q (some i) e := propext ⟨fun ⟨_, h, q⟩ => by cases h; exact q, fun q => ⟨i, rfl, q⟩⟩
/-! statements -/
theorem y_S : Wf X (sCons a b e) N Rt = Wf X (a e) (KS X b N Rt) Rt := by
  unfold sCons
  cases h : a e <;> rfl
theorem y_s : KS X b N Rt e = Wf X (b e) N Rt := (rfl)
theorem y_sNil : Wf X (sNil e) N Rt = N e := (rfl)
def AsgK (X : Xn → En → Prop) (g : S → En → Fl) (N : En → Prop) (Rt : S → En → Prop) : R → En → Prop
  | .vl s, e => Wf X (g s e) N Rt
  | .pl i, e => match e[i]? with
    | some (some s) => Wf X (g (.fr s.d) (e.set i (some (.fr s.d)))) N Rt
    | _ => False
theorem y_asg : Wf X (sAsg g m e) N Rt = Wo X (m e) (AsgK X g N Rt) := by
  unfold sAsg
  cases h : m e with
  | no => rfl
  | ex x e1 => rfl
  | ok r e1 =>
    show _ = AsgK X g N Rt r e1
    cases r with
    | vl s => rfl
    | pl i =>
      simp only [own1, AsgK]
      cases e1[i]? with
      | none => rfl
      | some y => cases y <;> rfl
theorem y_asgv : AsgK X g N Rt (.vl s) e = Wf X (g s e) N Rt := (rfl)
def AsgP (X : Xn → En → Prop) (g : S → En → Fl) (N : En → Prop) (Rt : S → En → Prop) (i : Nat) (e : En) : Option (Option S) → Prop
  | some (some s) => Wf X (g (.fr s.d) (e.set i (some (.fr s.d)))) N Rt
  | _ => False
theorem y_asgp : AsgK X g N Rt (.pl i) e = AsgP X g N Rt i e e[i]? := by
  simp only [AsgK]; unfold AsgP; rfl
theorem y_asgpp : AsgP X g N Rt i e (some (some s)) = Wf X (g (.fr s.d) (e.set i (some (.fr s.d)))) N Rt := (rfl)
theorem y_gNm : Wf X (gNm i s e) N Rt = (i < e.length ∧ N (e.set i (some s))) := by
  unfold gNm
  by_cases h : i < e.length <;> simp [h, Wf]
theorem y_expr : Wf X (sExpr m e) N Rt = Wo X (m e) (KExpr N) := by
  unfold sExpr
  cases h : m e <;> rfl
theorem y_kexpr : KExpr N r e = N e := (rfl)
def RetK (np : Nat) (Rt : S → En → Prop) : R → En → Prop
  | .vl s, e => Rt s e
  | .pl i, e => match e[i]? with
    | some (some s) => if i < np then Rt (.fr s.d) (e.set i (some (.fr s.d))) else Rt s (e.set i none)
    | _ => False
theorem y_ret : Wf X (sRet np m e) N Rt = Wo X (m e) (RetK np Rt) := by
  unfold sRet
  cases h : m e with
  | no => rfl
  | ex x e1 => rfl
  | ok r e1 =>
    show _ = RetK np Rt r e1
    cases r with
    | vl s => rfl
    | pl i =>
      simp only [RetK]
      cases e1[i]? with
      | none => rfl
      | some y => cases y with
        | none => rfl
        | some s => simp only; split <;> rfl
theorem y_retv : RetK np Rt (.vl s) e = Rt s e := (rfl)
def RetP (np : Nat) (Rt : S → En → Prop) (i : Nat) (e : En) : Option (Option S) → Prop
  | some (some s) => if i < np then Rt (.fr s.d) (e.set i (some (.fr s.d))) else Rt s (e.set i none)
  | _ => False
theorem y_retp : RetK np Rt (.pl i) e = RetP np Rt i e e[i]? := by simp only [RetK]; unfold RetP; rfl
theorem y_retpp : RetP np Rt i e (some (some s)) = if i < np then Rt (.fr s.d) (e.set i (some (.fr s.d))) else Rt s (e.set i none) := (rfl)
theorem y_retN : Wf X (sRetN e) N Rt = Rt (.fr .non) e := (rfl)
theorem y_if : Wf X (sIf t a b e) N Rt = Wo X (t e) (KIf X a b N Rt) := by
  unfold sIf
  cases h : t e with
  | ok k e1 => cases k <;> rfl
  | _ => rfl
theorem y_ift : KIf X a b N Rt true e = Wf X (a e) N Rt := (rfl)
theorem y_iff : KIf X a b N Rt false e = Wf X (b e) N Rt := (rfl)
theorem y_ifd {P : Prop} [Decidable P] : KIf X a b N Rt (decide P) e = ((P → Wf X (a e) N Rt) ∧ (¬ P → Wf X (b e) N Rt)) := by
  unfold KIf
  by_cases h : P <;> simp [h]
theorem y_ifn : KIf X a b N Rt (!k) e = KIf X b a N Rt k e := by cases k <;> rfl
/-! a, b = x, y -/
def ParE (N : En → Prop) (i j : Nat) : List D → En → Prop
  | [a, b], e => i < e.length ∧ j < e.length ∧ N ((e.set i (some (.fr a))).set j (some (.fr b)))
  | _, _ => False
theorem y_pare {a b : D} : ParE N i j [a, b] e = (i < e.length ∧ j < e.length ∧ N ((e.set i (some (.fr a))).set j (some (.fr b)))) := (rfl)
def ParK (N : En → Prop) (i j : Nat) : List R → En → Prop := fun rs e => FzK (ParE N i j) [] e rs
theorem y_park : ParK N i j rs e = FzK (ParE N i j) [] e rs := (rfl)
theorem y_par : Wf X (sPar i j ms e) N Rt = Wo X (ms e) (ParK N i j) := by
  unfold sPar
  cases h : ms e with
  | no => rfl
  | ex x e1 => rfl
  | ok rs e1 =>
    show _ = ParK N i j rs e1
    unfold ParK
    rw [fzK_eq]
    dsimp only
    cases frzs e1 rs with
    | none => rfl
    | some p =>
      obtain ⟨ds, e2⟩ := p
      simp only [List.nil_append]
      match ds with
      | [] => rfl
      | [a] => rfl
      | [a, b] =>
        dsimp only [ParE]
        by_cases h : i < e2.length ∧ j < e2.length
        · rw [if_pos h]; simp [h, Wf]
        · rw [if_neg h]
          refine propext ⟨fun q => q.elim, fun q => h ⟨q.1, q.2.1⟩⟩
      | a :: b :: c :: l => rfl
/-! x += .. -/
def AugK (i : Nat) (op : Operator) (a : Int) (N : En → Prop) : R → En → Prop := fun r e => PsK e (fun ss => match ss with | [.fr (.int b)] => (match dAug op a b with | some c => i < e.length ∧ N (e.set i (some (.fr (.int c)))) | none => False) | _ => False) [] [r]
theorem y_aug {op : Operator} {n : Int} (h : e[i]? = some (some (.fr (.int n)))) : Wf X (sAug i op m e) N Rt = Wo X (m e) (AugK i op n N) := by
  unfold sAug
  rw [h]
  simp only
  cases h1 : m e with
  | no => rfl
  | ex x e1 => rfl
  | ok r e1 =>
    show _ = AugK i op n N r e1
    unfold AugK
    rw [psK_eq]
    simp only [pks]
    cases pk e1 r with
    | none => rfl
    | some s =>
      simp only [List.nil_append]
      cases s with
      | fr d =>
        cases d <;> try rfl
        rename_i b
        simp only
        cases dAug op n b with
        | none => rfl
        | some c => by_cases h : i < e1.length <;> simp [h, Wf]
      | _ => rfl
theorem y_augv {op : Operator} {n c b : Int} (h : dAug op n b = some c) : AugK i op n N (.vl (.fr (.int b))) e = (i < e.length ∧ N (e.set i (some (.fr (.int c))))) := by
  unfold AugK; simp only [s_vl, s_nil, List.nil_append, h]
/-! targets -/
theorem y_gall0 : Wf X (gAll [] [] e) N Rt = N e := (rfl)
def GK (X : Xn → En → Prop) (gs : List (S → En → Fl)) (ds : List D) (N : En → Prop) (Rt : S → En → Prop) : En → Prop := fun e => Wf X (gAll gs ds e) N Rt
theorem y_gall1 {gs : List (S → En → Fl)} : Wf X (gAll (g :: gs) (d :: ds) e) N Rt = Wf X (g (.fr d) e) (GK X gs ds N Rt) Rt := by
  unfold gAll
  cases h : g (.fr d) e <;> rfl
theorem y_gk {gs : List (S → En → Fl)} : GK X gs ds N Rt e = Wf X (gAll gs ds e) N Rt := (rfl)
theorem y_gtup {gs : List (S → En → Fl)} : Wf X (gTupF gs (.fr (.tup ds)) e) N Rt = (ds.length = gs.length ∧ Wf X (gAll gs ds e) N Rt) := by
  unfold gTupF
  by_cases h : ds.length = gs.length <;> simp [h, Wf]
theorem y_glst {gs : List (S → En → Fl)} : Wf X (gTupF gs (.fr (.lst ds)) e) N Rt = (ds.length = gs.length ∧ Wf X (gAll gs ds e) N Rt) := by
  unfold gTupF
  by_cases h : ds.length = gs.length <;> simp [h, Wf]
/-! x[i] = .. -/
def IxK2 (i : Nat) (d : D) (N : En → Prop) (n : Int) (e : En) : Option (Option S) → Prop
  | some (some (.ol ds)) => ∃ j, ixN ds.length n = some j ∧ N (e.set i (some (.ol (ds.set j d))))
  | _ => False
def IxK (i : Nat) (d : D) (N : En → Prop) : R → En → Prop := fun r e => PsK e (fun ss => match ss with | [.fr (.int n)] => IxK2 i d N n e e[i]? | _ => False) [] [r]
theorem y_gix (h : e[i]? = some (some (.ol xs))) : Wf X (gIx i m s e) N Rt = Wo X (m e) (IxK i s.d N) := by
  unfold gIx
  rw [h]
  simp only
  cases h1 : m e with
  | no => rfl
  | ex x e1 => rfl
  | ok r e1 =>
    show _ = IxK i s.d N r e1
    unfold IxK
    rw [psK_eq]
    simp only [pks]
    cases pk e1 r with
    | none => rfl
    | some s' =>
      simp only [List.nil_append]
      cases s' with
      | fr d =>
        cases d <;> try rfl
        rename_i n
        simp only
        unfold IxK2
        cases e1[i]? with
        | none => rfl
        | some y => cases y with
          | none => rfl
          | some s2 => cases s2 with
            | ol ds =>
              simp only
              cases ixN ds.length n <;> simp [Wf]
            | _ => rfl
      | _ => rfl
theorem y_ixv {n : Int} : IxK i d N (.vl (.fr (.int n))) e = IxK2 i d N n e e[i]? := by
  unfold IxK; simp only [s_vl, s_nil, List.nil_append]
theorem y_ix2 {n : Int} (h : ixN ds.length n = some j) : IxK2 i d N n e (some (some (.ol ds))) = N (e.set i (some (.ol (ds.set j d)))) := by
  unfold IxK2
  refine propext ⟨fun ⟨k, h1, q⟩ => by rw [h] at h1; cases h1; exact q, fun q => ⟨j, h, q⟩⟩
/-! methods -/
def MtE (f : List D → List D → Option (List D × D)) (i : Nat) (Q : R → En → Prop) : List D → En → Prop := fun as e2 => match e2[i]? with
  | some (some (.ol ds)) => match f ds as with
    | some (ds', d) => Q (.vl (.fr d)) (e2.set i (some (.ol ds')))
    | none => False
  | _ => False
def MtK (f : List D → List D → Option (List D × D)) (i : Nat) (Q : R → En → Prop) : List R → En → Prop := fun rs e => FzK (MtE f i Q) [] e rs
theorem y_mtk {f : List D → List D → Option (List D × D)} : MtK f i Q rs e = FzK (MtE f i Q) [] e rs := (rfl)
theorem y_mt {f : List D → List D → Option (List D × D)} (h : e[i]? = some (some (.ol xs))) : Wo X (bMt f i ms e) Q = Wo X (ms e) (MtK f i Q) := by
  unfold bMt
  rw [h]
  simp only
  cases h1 : ms e with
  | no => rfl
  | ex x e1 => rfl
  | ok rs e1 =>
    show _ = MtK f i Q rs e1
    unfold MtK
    rw [fzK_eq]
    dsimp only
    cases frzs e1 rs with
    | none => rfl
    | some p =>
      obtain ⟨as, e2⟩ := p
      simp only [List.nil_append, MtE]
      cases e2[i]? with
      | none => rfl
      | some y => cases y with
        | none => rfl
        | some s2 => cases s2 with
          | ol ds => simp only; cases f ds as <;> rfl
          | _ => rfl
theorem y_mte {f : List D → List D → Option (List D × D)} {as ds' : List D} (h : e[i]? = some (some (.ol ds))) (hf : f ds as = some (ds', d)) : MtE f i Q as e = Q (.vl (.fr d)) (e.set i (some (.ol ds'))) := by
  unfold MtE; rw [h]; simp only [hf]
/-! loops, sources -/
theorem y_for {it : En → Ou (List D)} : Wf X (sFor it g b e) N Rt = Wo X (it e) (KFor X g b N Rt) := by
  unfold sFor
  cases h : it e <;> rfl
def SeqK (Q : List D → En → Prop) (d : D) (e : En) : Prop := match seqD d with
  | some ds => Q ds e
  | none => False
def KSq (Q : List D → En → Prop) : R → En → Prop := fun r e => FzK (fun ds e => match ds with | [d] => SeqK Q d e | _ => False) [] e [r]
theorem y_seq {Q : List D → En → Prop} : Wo X (mSeq m e) Q = Wo X (m e) (KSq Q) := by
  unfold mSeq
  cases h : m e with
  | no => rfl
  | ex x e1 => rfl
  | ok r e1 =>
    show _ = KSq Q r e1
    unfold KSq
    rw [fzK_eq]
    dsimp only
    simp only [frzs]
    cases frz1 e1 r with
    | none => rfl
    | some p =>
      obtain ⟨d, e2⟩ := p
      simp only [List.nil_append, SeqK]
      cases seqD d <;> rfl
theorem y_sqv {Q : List D → En → Prop} : KSq Q (.vl s) e = SeqK Q s.d e := by unfold KSq; simp only [z_vl, z_nil, List.nil_append]
def SqP (Q : List D → En → Prop) (i : Nat) (e : En) : Option (Option S) → Prop
  | some (some s) => SeqK Q s.d (e.set i (some (.fr s.d)))
  | _ => False
theorem y_sqp {Q : List D → En → Prop} : KSq Q (.pl i) e = SqP Q i e e[i]? := by
  unfold KSq; rw [z_pl]; unfold FzP SqP
  cases e[i]? with
  | none => rfl
  | some y => cases y <;> rfl
theorem y_sqpp {Q : List D → En → Prop} : SqP Q i e (some (some s)) = SeqK Q s.d (e.set i (some (.fr s.d))) := (rfl)
theorem y_sqL {Q : List D → En → Prop} : SeqK Q (.lst ds) e = Q ds e := (rfl)
theorem y_sqT {Q : List D → En → Prop} : SeqK Q (.tup ds) e = Q ds e := (rfl)
theorem y_sqS {Q : List D → En → Prop} {x : Str} : SeqK Q (.str x) e = Q (strD x) e := (rfl)
def PsE (f : List D → Option (List D)) (Q : List D → En → Prop) : List D → En → Prop := fun ds e => match f ds with
  | some l => Q l e
  | none => False
theorem y_pse {f : List D → Option (List D)} {Q : List D → En → Prop} {l : List D} (h : f ds = some l) : PsE f Q ds e = Q l e := by unfold PsE; rw [h]
def PsL (f : List D → Option (List D)) (Q : List D → En → Prop) : List R → En → Prop := fun rs e => FzK (PsE f Q) [] e rs
theorem y_psl {f : List D → Option (List D)} {Q : List D → En → Prop} : PsL f Q rs e = FzK (PsE f Q) [] e rs := (rfl)
theorem y_ps {f : List D → Option (List D)} {Q : List D → En → Prop} : Wo X (mPs f ms e) Q = Wo X (ms e) (PsL f Q) := by
  unfold mPs
  cases h : ms e with
  | no => rfl
  | ex x e1 => rfl
  | ok rs e1 =>
    show _ = PsL f Q rs e1
    unfold PsL
    rw [fzK_eq]
    dsimp only
    cases frzs e1 rs with
    | none => rfl
    | some p =>
      obtain ⟨ds, e2⟩ := p
      simp only [List.nil_append, PsE]
      cases f ds <;> rfl
theorem y_lc {it : En → Ou (List D)} {vs : List Nat} : Wo X (bLc it g t m vs e) Q = Wo X (it e) (KLc g t m vs Q) := by
  unfold bLc
  cases h : it e with
  | no => rfl
  | ex x e1 => rfl
  | ok ds e1 =>
    show _ = KLc g t m vs Q ds e1
    unfold KLc
    dsimp only
    by_cases h1 : okW e1 vs = true ∧ ds.length < 16777216
    · rw [if_pos h1]
      simp only [h1, true_and]
      unfold WL
      cases h3 : lcL g t m vs ds (wipeE e1 vs) [] <;> rfl
    · rw [if_neg h1]
      refine propext ⟨fun q => q.elim, fun q => h1 ⟨q.1, q.2.1⟩⟩
/-! the end of a def -/
def FinK (p : Nat → Bool) (Q : List S → Prop) : List S → Nat → List S → En → Prop
  | acc, _, [], _ => Q acc
  | acc, i, s :: ss, y :: e => if p i = true then (match y with | some t => FinK p Q (acc ++ [t]) (i + 1) ss e | none => False) else (match s with | .fr d => FinK p Q (acc ++ [.fr d]) (i + 1) ss e | _ => False)
  | _, _, _ :: _, [] => False
theorem finK_eq {p : Nat → Bool} {Q : List S → Prop} : ∀ (ss : List S) (acc : List S) (i : Nat) (e : En), FinK p Q acc i ss e = ∃ ss', finS p i ss e = some ss' ∧ Q (acc ++ ss')
  | [], acc, i, e => by
    have : finS p i [] e = some [] := by unfold finS; rfl
    simp [FinK, this]
  | s :: ss, acc, i, [] => by
    have : finS p i (s :: ss) [] = none := by unfold finS; rfl
    simp [FinK, this]
  | s :: ss, acc, i, y :: e => by
    have ih := fun acc => finK_eq (p := p) (Q := Q) ss acc (i + 1) e
    unfold FinK
    by_cases hp : p i = true
    · simp only [hp, if_true]
      cases y with
      | none =>
        have : finS p i (s :: ss) (none :: e) = none := by
          show (if p i = true then _ else _) = _
          rw [if_pos hp]
        simp [this]
      | some t =>
        have : finS p i (s :: ss) (some t :: e) = (finS p (i + 1) ss e).map (t :: ·) := by
          show (if p i = true then _ else _) = _
          rw [if_pos hp]
          cases finS p (i + 1) ss e <;> rfl
        simp only [ih, this]
        cases finS p (i + 1) ss e <;> simp
    · simp only [hp]
      cases s with
      | fr d =>
        have : finS p i (.fr d :: ss) (y :: e) = (finS p (i + 1) ss e).map (.fr d :: ·) := by
          show (if p i = true then _ else _) = _
          rw [if_neg hp]
          cases finS p (i + 1) ss e <;> rfl
        simp only [ih, this]
        cases finS p (i + 1) ss e <;> simp
      | ol xs =>
        have : finS p i (.ol xs :: ss) (y :: e) = none := by
          show (if p i = true then _ else _) = _
          rw [if_neg hp]
        simp [this]
      | od ks vs =>
        have : finS p i (.od ks vs :: ss) (y :: e) = none := by
          show (if p i = true then _ else _) = _
          rw [if_neg hp]
        simp [this]
      | oi c ns vs =>
        have : finS p i (.oi c ns vs :: ss) (y :: e) = none := by
          show (if p i = true then _ else _) = _
          rw [if_neg hp]
        simp [this]
theorem y_fin {p : Nat → Bool} {Q : S → List S → Prop} : KFin p ss Q s e = FinK p (Q s) [] 0 ss e := by
  rw [finK_eq]; simp [KFin]
theorem y_finN {p : Nat → Bool} {Q : S → List S → Prop} : KFinN p ss Q e = FinK p (Q (.fr .non)) [] 0 ss e := y_fin
theorem y_finX {p : Nat → Bool} {XC : Xn → List S → Prop} {x : Xn} : KFinX p ss XC x e = FinK p (XC x) [] 0 ss e := by
  rw [finK_eq]; simp [KFinX]
theorem n_nil {p : Nat → Bool} {Q : List S → Prop} {acc : List S} : FinK p Q acc i [] e = Q acc := by cases e <;> rfl
theorem n_keep {p : Nat → Bool} {Q : List S → Prop} {acc : List S} {t : S} (h : p i = true) : FinK p Q acc i (s :: ss) (some t :: e) = FinK p Q (acc ++ [t]) (i + 1) ss e := by
  conv => lhs; unfold FinK
  rw [if_pos h]
theorem n_fr {p : Nat → Bool} {Q : List S → Prop} {acc : List S} {y : Option S} (h : p i = false) : FinK p Q acc i (.fr d :: ss) (y :: e) = FinK p Q (acc ++ [.fr d]) (i + 1) ss e := by
  conv => lhs; unfold FinK
  rw [if_neg (by rw [h]; decide)]
theorem y_fn {nl : Nat} {p : Nat → Bool} {body : En → Fl} {Q : S → List S → Prop} {XC : Xn → List S → Prop} : Wc (fnOf nl p body ss) Q XC = Wf (KFinX p ss XC) (body (se ss ++ List.replicate (nl - ss.length) none)) (KFinN p ss Q) (KFin p ss Q) := by
  unfold fnOf
  cases hb : body (se ss ++ List.replicate (nl - ss.length) none) with
  | nx e => simp only [Wf, KFinN, KFin]; cases finS p 0 ss e <;> simp [Wc]
  | rt s e => simp only [Wf, KFin]; cases finS p 0 ss e <;> simp [Wc]
  | ex x e => simp only [Wf, KFinX]; cases finS p 0 ss e <;> simp [Wc]
  | bk e => rfl
  | ct e => rfl
  | no => rfl
/-! the same, fit to rewrite -/
def OpM (Q : S → Prop) : Option S → Prop
  | some s => Q s
  | none => False
theorem x_op {f : List D → Option S} {Q : S → Prop} : OpK f Q ds = OpM Q (f ds) := by unfold OpK OpM; cases f ds <;> rfl
theorem x_os {f : List S → Option S} {Q : S → Prop} : OsK f Q ss = OpM Q (f ss) := by unfold OsK OpM; cases f ss <;> rfl
theorem x_opm {Q : S → Prop} : OpM Q (some s) = Q s := (rfl)
def TrM (Q : Bool → Prop) : Option Bool → Prop
  | some b => Q b
  | none => False
theorem x_tr {Q : Bool → Prop} : TrK Q d = TrM Q (truthD d) := by unfold TrK TrM; cases truthD d <;> rfl
theorem x_trm {Q : Bool → Prop} : TrM Q (some k) = Q k := (rfl)
def PsM (Q : List D → En → Prop) (e : En) : Option (List D) → Prop
  | some l => Q l e
  | none => False
theorem x_ps {f : List D → Option (List D)} {Q : List D → En → Prop} : PsE f Q ds e = PsM Q e (f ds) := by unfold PsE PsM; cases f ds <;> rfl
theorem x_psm {Q : List D → En → Prop} {l : List D} : PsM Q e (some l) = Q l e := (rfl)
def ZM (X : Xn → En → Prop) (fn : List S → FO) (Q : R → En → Prop) (e1 : En) : Option (List D) → Prop
  | some ds' => Wc (fn (ds'.map .fr)) (KCallF e1 Q) (KCallFX X e1)
  | none => False
theorem x_z {ks ps : List Str} {fn : List S → FO} : CallZ X ks ps fn Q ds e1 = ZM X fn Q e1 (if ds.length = ks.length then arrG ks ps ds else none) := by
  unfold CallZ ZM; rfl
theorem x_zm {fn : List S → FO} : ZM X fn Q e1 (some ds) = Wc (fn (ds.map .fr)) (KCallF e1 Q) (KCallFX X e1) := (rfl)
def AugP (X : Xn → En → Prop) (i : Nat) (op : Operator) (m : En → Ou R) (N : En → Prop) (e : En) : Option (Option S) → Prop
  | some (some (.fr (.int n))) => Wo X (m e) (AugK i op n N)
  | _ => False
theorem x_aug {op : Operator} : Wf X (sAug i op m e) N Rt = AugP X i op m N e e[i]? := by
  cases h : e[i]? with
  | none => unfold sAug; rw [h]; rfl
  | some y => cases y with
    | none => unfold sAug; rw [h]; rfl
    | some s => cases s with
      | fr d => cases d with
        | int n => exact y_aug h
        | _ => unfold sAug; rw [h]; rfl
      | _ => unfold sAug; rw [h]; rfl
theorem x_augp {op : Operator} {n : Int} : AugP X i op m N e (some (some (.fr (.int n)))) = Wo X (m e) (AugK i op n N) := (rfl)
def AugM (i : Nat) (N : En → Prop) (e : En) : Option Int → Prop
  | some c => i < e.length ∧ N (e.set i (some (.fr (.int c))))
  | none => False
theorem x_augv {op : Operator} {n b : Int} : AugK i op n N (.vl (.fr (.int b))) e = AugM i N e (dAug op n b) := by
  unfold AugK AugM; simp only [s_vl, s_nil, List.nil_append]
theorem x_augm {c : Int} : AugM i N e (some c) = (i < e.length ∧ N (e.set i (some (.fr (.int c))))) := (rfl)
def GixP (X : Xn → En → Prop) (i : Nat) (m : En → Ou R) (s : S) (N : En → Prop) (e : En) : Option (Option S) → Prop
  | some (some (.ol _)) => Wo X (m e) (IxK i s.d N)
  | _ => False
theorem x_gix : Wf X (gIx i m s e) N Rt = GixP X i m s N e e[i]? := by
  cases h : e[i]? with
  | none => unfold gIx; rw [h]; rfl
  | some y => cases y with
    | none => unfold gIx; rw [h]; rfl
    | some s' => cases s' with
      | ol xs => exact y_gix h
      | _ => unfold gIx; rw [h]; rfl
theorem x_gixp : GixP X i m s N e (some (some (.ol xs))) = Wo X (m e) (IxK i s.d N) := (rfl)
def IxM (i : Nat) (d : D) (N : En → Prop) (e : En) (ds : List D) : Option Nat → Prop
  | some j => N (e.set i (some (.ol (ds.set j d))))
  | none => False
theorem x_ix2 {n : Int} : IxK2 i d N n e (some (some (.ol ds))) = IxM i d N e ds (ixN ds.length n) := by
  cases h : ixN ds.length n with
  | none => unfold IxK2; simp [h, IxM]
  | some j => exact y_ix2 h
theorem x_ixm : IxM i d N e ds (some j) = N (e.set i (some (.ol (ds.set j d)))) := (rfl)
def MtP (X : Xn → En → Prop) (f : List D → List D → Option (List D × D)) (i : Nat) (ms : En → Ou (List R)) (Q : R → En → Prop) (e : En) : Option (Option S) → Prop
  | some (some (.ol _)) => Wo X (ms e) (MtK f i Q)
  | _ => False
theorem x_mt {f : List D → List D → Option (List D × D)} : Wo X (bMt f i ms e) Q = MtP X f i ms Q e e[i]? := by
  cases h : e[i]? with
  | none => unfold bMt; rw [h]; rfl
  | some y => cases y with
    | none => unfold bMt; rw [h]; rfl
    | some s' => cases s' with
      | ol xs => exact y_mt h
      | _ => unfold bMt; rw [h]; rfl
theorem x_mtp {f : List D → List D → Option (List D × D)} : MtP X f i ms Q e (some (some (.ol xs))) = Wo X (ms e) (MtK f i Q) := (rfl)
def MtQ (f : List D → List D → Option (List D × D)) (i : Nat) (Q : R → En → Prop) (as : List D) (e : En) : Option (Option S) → Prop
  | some (some (.ol ds)) => match f ds as with
    | some (ds', d) => Q (.vl (.fr d)) (e.set i (some (.ol ds')))
    | none => False
  | _ => False
theorem x_mte {f : List D → List D → Option (List D × D)} {as : List D} : MtE f i Q as e = MtQ f i Q as e e[i]? := by
  unfold MtE MtQ; rfl
def MtM (i : Nat) (Q : R → En → Prop) (e : En) : Option (List D × D) → Prop
  | some p => Q (.vl (.fr p.2)) (e.set i (some (.ol p.1)))
  | none => False
theorem x_mtq {f : List D → List D → Option (List D × D)} {as : List D} : MtQ f i Q as e (some (some (.ol ds))) = MtM i Q e (f ds as) := by
  unfold MtQ MtM; dsimp only; cases f ds as <;> rfl
theorem x_mtm {p : List D × D} : MtM i Q e (some p) = Q (.vl (.fr p.2)) (e.set i (some (.ol p.1))) := (rfl)
/-! x[i] += .. -/
def AsK (X : Xn → En → Prop) (i : Nat) (op : Operator) (m : En → Ou R) (N : En → Prop) : R → En → Prop := fun r e => PsK e (fun ss => match ss with | [.fr (.int n)] => (match e[i]? with | some (some (.ol ds)) => (match atI ds n with | some (.int a) => Wo X (m e) (KAugS2 i op n a N) | _ => False) | _ => False) | _ => False) [] [r]
def AsP (X : Xn → En → Prop) (i : Nat) (op : Operator) (mi m : En → Ou R) (N : En → Prop) (e : En) : Option (Option S) → Prop
  | some (some (.ol _)) => Wo X (mi e) (AsK X i op m N)
  | _ => False
theorem pk_eq {e : En} {r : R} {s : S} (h : pk e r = some s) : PkE e [r] [s] := by
  cases r with
  | vl t => cases h; exact .vl .nil
  | pl i =>
    have h : (e[i]?).join = some s := h
    cases z : e[i]? with
    | none => rw [z] at h; cases h
    | some y => rw [z] at h; cases y with
      | none => cases h
      | some t => cases h; exact .pl z .nil
theorem x_augs {op : Operator} (q : AsP X i op ma m N e e[i]?) : Wf X (sAugS i op ma m e) N Rt := by
  cases h : e[i]? with
  | none => rw [h] at q; exact q.elim
  | some y => cases y with
    | none => rw [h] at q; exact q.elim
    | some s' => cases s' with
      | ol xs =>
        rw [h] at q
        refine W_augS h (Wo.mono q fun r e q => ?_)
        unfold AsK at q
        rw [psK_eq] at q
        simp only [pks] at q
        cases h1 : pk e r with
        | none => rw [h1] at q; exact q.elim
        | some s =>
          rw [h1] at q
          simp only [List.nil_append] at q
          cases s with
          | fr d => cases d with
            | int n =>
              simp only at q
              cases h2 : e[i]? with
              | none => rw [h2] at q; exact q.elim
              | some y => cases y with
                | none => rw [h2] at q; exact q.elim
                | some s2 => cases s2 with
                  | ol ds =>
                    rw [h2] at q
                    simp only at q
                    cases h3 : atI ds n with
                    | none => rw [h3] at q; exact q.elim
                    | some d2 => cases d2 with
                      | int a => rw [h3] at q; exact K_augS (pk_eq h1) h2 h3 q
                      | _ => rw [h3] at q; exact q.elim
                  | _ => rw [h2] at q; exact q.elim
            | _ => exact q.elim
          | _ => exact q.elim
      | _ => rw [h] at q; exact q.elim
theorem setE_of {y : Option S} : ∀ {e : En} {i : Nat}, i < e.length → SetE e i y (e.set i y)
  | [], _, h => by simp at h
  | _ :: _, 0, _ => .zero
  | _ :: e, i + 1, h => .succ (setE_of (by simpa using h))
def AsQ (X : Xn → En → Prop) (i : Nat) (op : Operator) (m : En → Ou R) (N : En → Prop) (n : Int) (e : En) : Option (Option S) → Prop
  | some (some (.ol ds)) => (match atI ds n with | some (.int a) => Wo X (m e) (KAugS2 i op n a N) | _ => False)
  | _ => False
theorem x_ask {op : Operator} {n : Int} : AsK X i op m N (.vl (.fr (.int n))) e = AsQ X i op m N n e e[i]? := by
  unfold AsK AsQ; simp only [s_vl, s_nil, List.nil_append]
def AsR (X : Xn → En → Prop) (i : Nat) (op : Operator) (m : En → Ou R) (N : En → Prop) (n : Int) (e : En) : Option D → Prop
  | some (.int a) => Wo X (m e) (KAugS2 i op n a N)
  | _ => False
theorem x_asq {op : Operator} {n : Int} : AsQ X i op m N n e (some (some (.ol ds))) = AsR X i op m N n e (atI ds n) := by
  unfold AsQ AsR; rfl
theorem x_asr {op : Operator} {n a : Int} : AsR X i op m N n e (some (.int a)) = Wo X (m e) (KAugS2 i op n a N) := (rfl)
theorem x_asp {op : Operator} : AsP X i op ma m N e (some (some (.ol ds))) = Wo X (ma e) (AsK X i op m N) := (rfl)
def Ka3 (i : Nat) (op : Operator) (n a b : Int) (N : En → Prop) (e : En) : Option (Option S) → Prop
  | some (some (.ol ds)) => (match dAug op a b with | some c => IxM i (.int c) N e ds (ixN ds.length n) | none => False)
  | _ => False
theorem x_ka {op : Operator} {n a b : Int} : KAugS2 i op n a N (.vl (.fr (.int b))) e = Ka3 i op n a b N e e[i]? := by
  refine propext ⟨fun ⟨b', c, ds, j, e1, h1, h2, h3, h4, h5, q⟩ => ?_, fun q => ?_⟩
  · cases h1 with
    | vl _ => rw [h2]; unfold Ka3; simp only [h3, h4, IxM]; rw [h5.eq.1]; exact q
  · cases h2 : e[i]? with
    | none => rw [h2] at q; exact q.elim
    | some y => cases y with
      | none => rw [h2] at q; exact q.elim
      | some s2 => cases s2 with
        | ol ds =>
          rw [h2] at q
          unfold Ka3 at q
          simp only at q
          cases h3 : dAug op a b with
          | none => rw [h3] at q; exact q.elim
          | some c =>
            rw [h3] at q
            simp only at q
            cases h4 : ixN ds.length n with
            | none => rw [h4] at q; exact q.elim
            | some j =>
              rw [h4] at q
              exact ⟨b, c, ds, j, _, .vl .nil, h2, h3, h4, setE_of (List.getElem?_eq_some_iff.mp h2).1, q⟩
        | _ => rw [h2] at q; exact q.elim
def Ka4 (i : Nat) (n : Int) (N : En → Prop) (e : En) (ds : List D) : Option Int → Prop
  | some c => IxM i (.int c) N e ds (ixN ds.length n)
  | none => False
theorem x_ka3 {op : Operator} {n a b : Int} : Ka3 i op n a b N e (some (some (.ol ds))) = Ka4 i n N e ds (dAug op a b) := by
  unfold Ka3 Ka4; dsimp only
theorem x_ka4 {n c : Int} : Ka4 i n N e ds (some c) = IxM i (.int c) N e ds (ixN ds.length n) := (rfl)
/-! one of a row -/
theorem pickL {Q : S → Prop} {n : Int} (h : 0 ≤ n ∧ n < xs.length) (q : ∀ d, d ∈ xs → xs[n.toNat]? = some d → Q (.fr d)) : OpM Q (dIx [.lst xs, .int n]) := by
  obtain ⟨d, h1, h2, h3⟩ := atI_in h
  rw [f_ixL h1]; exact q d h2 h3
theorem pickT {Q : S → Prop} {n : Int} (h : 0 ≤ n ∧ n < xs.length) (q : ∀ d, d ∈ xs → xs[n.toNat]? = some d → Q (.fr d)) : OpM Q (dIx [.tup xs, .int n]) := by
  obtain ⟨d, h1, h2, h3⟩ := atI_in h
  rw [f_ixT h1]; exact q d h2 h3
/-! comprehensions -/
def KLi (I : List D → List D → En → Prop) (vs : List Nat) (ds acc : List D) : R → En → Prop := fun r e => ∃ x e4, frz1 e r = some (x, e4) ∧ I ds (acc ++ [x]) (wipeE e4 vs)
theorem y_kli {I : List D → List D → En → Prop} {vs : List Nat} {acc : List D} : KLi I vs ds acc (.vl s) e = I ds (acc ++ [s.d]) (wipeE e vs) := by
  refine propext ⟨fun ⟨x, e4, h, q⟩ => ?_, fun q => ⟨_, _, rfl, q⟩⟩
  cases h; exact q
def KLp (I : List D → List D → En → Prop) (vs : List Nat) (ds acc : List D) (i : Nat) (e : En) : Option (Option S) → Prop
  | some (some s) => I ds (acc ++ [s.d]) (wipeE (e.set i (some (.fr s.d))) vs)
  | _ => False
theorem y_klp {I : List D → List D → En → Prop} {vs : List Nat} {acc : List D} : KLi I vs ds acc (.pl i) e = KLp I vs ds acc i e e[i]? := by
  cases h : e[i]? with
  | none =>
    refine propext ⟨fun ⟨x, e4, h1, _⟩ => ?_, fun q => q.elim⟩
    simp only [frz1, h] at h1; cases h1
  | some y => cases y with
    | none =>
      refine propext ⟨fun ⟨x, e4, h1, _⟩ => ?_, fun q => q.elim⟩
      simp only [frz1, h] at h1; cases h1
    | some s =>
      refine propext ⟨fun ⟨x, e4, h1, q⟩ => ?_, fun q => ⟨_, _, by simp only [frz1, h], q⟩⟩
      simp only [frz1, h] at h1; cases h1; exact q
theorem y_klpp {I : List D → List D → En → Prop} {vs : List Nat} {acc : List D} : KLp I vs ds acc i e (some (some s)) = I ds (acc ++ [s.d]) (wipeE (e.set i (some (.fr s.d))) vs) := (rfl)
theorem w_nil : wipeE e [] = e := (rfl)
theorem w_cons {v : Nat} {vs : List Nat} : wipeE e (v :: vs) = (wipeE e vs).set v none := (rfl)
theorem y_yes {QB : Bool → En → Prop} : Wo X (bYes e) QB = QB true e := (rfl)
theorem wipe_same {vs : List Nat} (hv : ∀ v ∈ vs, e[v]? = some none) : wipeE e vs = e := by
  induction vs with
  | nil => rfl
  | cons v vs ih =>
    rw [w_cons, ih fun w hw => hv w (by simp [hw])]
    obtain ⟨hl, e2⟩ := List.getElem?_eq_some_iff.mp (hv v (by simp))
    rw [← e2]; exact List.set_getElem_self hl
theorem back_same {vs : List Nat} (hv : ∀ v ∈ vs, e[v]? = some none) (hv1 : ∀ v ∈ vs, e1[v]? = some none) : backE e1 e vs = e := by
  induction vs with
  | nil => rfl
  | cons v vs ih =>
    show (backE e1 e vs).set v (e1[v]?).join = e
    rw [ih (fun w hw => hv w (by simp [hw])) fun w hw => hv1 w (by simp [hw]), hv1 v (by simp)]
    obtain ⟨hl, e2⟩ := List.getElem?_eq_some_iff.mp (hv v (by simp))
    show e.set v none = e
    rw [← e2]; exact List.set_getElem_self hl
/-- a comprehension without a test, by what holds behind each turn -/
theorem K_map {vs : List Nat} {ds : List D} (I : List D → List D → En → Prop) (hl : ds.length < 16777216) (hv : ∀ v ∈ vs, e1[v]? = some none) (h0 : I ds [] e1)
    (hs : ∀ d ds' acc e, I (d :: ds') acc e → Wf noX (g (.fr d) e) (fun e1 => Wo noX (m e1) (KLi I vs ds' acc)) (fun _ _ => False))
    (hN : ∀ acc e, I [] acc e → (∀ v ∈ vs, e[v]? = some none) ∧ Q (.vl (.ol acc)) e) : KLc g bYes m vs Q ds e1 := by
  refine ⟨?_, hl, ?_⟩
  · unfold okW
    rw [List.all_eq_true]
    intro v hvv
    rw [hv v hvv]
  · rw [wipe_same hv]
    refine WL_inv I h0 (fun d ds' acc e h => Wf.mono (hs d ds' acc e h) (fun e1 q => ?_) (fun _ _ q => q)) (fun acc e h => ?_)
    · exact q
    · obtain ⟨h1, q⟩ := hN acc e h
      show Q (.vl (.ol acc)) (backE e1 e vs)
      rw [back_same h1 hv]
      exact q
/-- a comprehension with a test -/
def KTs (m : En → Ou R) (I : List D → List D → En → Prop) (vs : List Nat) (ds acc : List D) : Bool → En → Prop := fun k e => if k = true then Wo noX (m e) (KLi I vs ds acc) else I ds acc (wipeE e vs)
theorem y_kts {I : List D → List D → En → Prop} {vs : List Nat} {acc : List D} : KTs m I vs ds acc true e = Wo noX (m e) (KLi I vs ds acc) := (rfl)
theorem y_ktf {I : List D → List D → En → Prop} {vs : List Nat} {acc : List D} : KTs m I vs ds acc false e = I ds acc (wipeE e vs) := (rfl)
theorem y_ktd {I : List D → List D → En → Prop} {vs : List Nat} {acc : List D} {P : Prop} [Decidable P] : KTs m I vs ds acc (decide P) e = ((P → Wo noX (m e) (KLi I vs ds acc)) ∧ (¬ P → I ds acc (wipeE e vs))) := by
  unfold KTs
  by_cases h : P <;> simp [h]
theorem y_ktn {I : List D → List D → En → Prop} {vs : List Nat} {acc : List D} {P : Prop} [Decidable P] : KTs m I vs ds acc (!decide P) e = ((¬ P → Wo noX (m e) (KLi I vs ds acc)) ∧ (P → I ds acc (wipeE e vs))) := by
  unfold KTs
  by_cases h : P <;> simp [h]
theorem K_filter {vs : List Nat} {ds : List D} (I : List D → List D → En → Prop) (hl : ds.length < 16777216) (hv : ∀ v ∈ vs, e1[v]? = some none) (h0 : I ds [] e1)
    (hs : ∀ d ds' acc e, I (d :: ds') acc e → Wf noX (g (.fr d) e) (fun e1 => Wo noX (t e1) (KTs m I vs ds' acc)) (fun _ _ => False))
    (hN : ∀ acc e, I [] acc e → (∀ v ∈ vs, e[v]? = some none) ∧ Q (.vl (.ol acc)) e) : KLc g t m vs Q ds e1 := by
  refine ⟨?_, hl, ?_⟩
  · unfold okW
    rw [List.all_eq_true]
    intro v hvv
    rw [hv v hvv]
  · rw [wipe_same hv]
    refine WL_inv I h0 (fun d ds' acc e h => Wf.mono (hs d ds' acc e h) (fun e1 q => ?_) (fun _ _ q => q)) (fun acc e h => ?_)
    · exact q
    · obtain ⟨h1, q⟩ := hN acc e h
      show Q (.vl (.ol acc)) (backE e1 e vs)
      rw [back_same h1 hv]
      exact q
theorem of_Wc {o : FO} {s : S} {ss : List S} (h : Wc o (fun s' ss' => s' = s ∧ ss' = ss) noC) : o = .ok s ss := by
  cases o with
  | ok s' ss' => obtain ⟨rfl, rfl⟩ := h; rfl
  | ex x ss => exact h.elim
  | no => exact h.elim
/-! a loop over a row that is written out -/
theorem W_forN (q : N e) : Wf X (forL g b [] e) N Rt := q
theorem W_forC (q : Wf X (g (.fr d) e) (fun e1 => Wf X (b e1) (fun e2 => Wf X (forL g b ds e2) N Rt) Rt) (fun _ _ => False)) : Wf X (forL g b (d :: ds) e) N Rt := by
  unfold forL
  cases h : g (.fr d) e with
  | nx e1 =>
    rw [h] at q
    simp only [Wf] at q ⊢
    cases h2 : b e1 with
    | nx e2 => rw [h2] at q; exact q
    | rt s e2 => rw [h2] at q; exact q
    | ex x e2 => rw [h2] at q; exact q
    | bk e2 => rw [h2] at q; exact q.elim
    | ct e2 => rw [h2] at q; exact q.elim
    | no => rw [h2] at q; exact q
  | rt s e1 => rw [h] at q; exact q.elim
  | ex x e1 => rw [h] at q; exact q
  | bk e1 => rw [h] at q; exact q.elim
  | ct e1 => rw [h] at q; exact q.elim
  | no => rw [h] at q; exact q.elim
theorem y_kfor : KFor X g b N Rt ds e = Wf X (forL g b ds e) N Rt := (rfl)
theorem of_WcE {o : FO} {s : S} (h : Wc o (fun s' _ => s' = s) noC) : ∃ ss, o = .ok s ss := by
  cases o with
  | ok s' ss' => obtain rfl := h; exact ⟨_, rfl⟩
  | ex x ss => exact h.elim
  | no => exact h.elim
theorem cut_sub {α : Type} {l : List α} {a b : Option Int} {x : α} (h : x ∈ cutD l a b) : x ∈ l := List.mem_of_mem_drop (List.mem_of_mem_take h)
/-- the outermost loop: each number by itself -/
theorem W_each {P : D → Prop} {J : En → Prop} (hd : ∀ d ∈ ds, P d) (h0 : J e) (hs : ∀ d e, P d → J e → Wf X (g (.fr d) e) (fun e1 => Wf X (b e1) J Rt) (fun _ _ => False)) (hN : ∀ e, J e → N e) : Wf X (forL g b ds e) N Rt :=
  W_forL (fun ds e => (∀ d ∈ ds, P d) ∧ J e) ⟨hd, h0⟩ (fun d ds' e ⟨h1, h2⟩ => Wf.mono (hs d e (h1 d (by simp)) h2) (fun e1 w => Wf.mono w (fun e2 j => ⟨fun d hd => h1 d (by simp [hd]), j⟩) fun _ _ q => q) fun _ _ q => q) fun e h => hN e h.2
/-- a comprehension over a row whose items are told by P, without a test; the body leaves all as it was -/
theorem K_mapA {α : Type} {p : List α} {P F : α → D} {vs : List Nat} (hl : p.length < 16777216) (hv : ∀ v ∈ vs, e1[v]? = some none)
    (hs : ∀ a ∈ p, ∀ (I : List D → List D → En → Prop) (ds' acc : List D), I ds' (acc ++ [F a]) e1 → Wf noX (g (.fr (P a)) e1) (fun e2 => Wo noX (m e2) (KLi I vs ds' acc)) (fun _ _ => False))
    (hN : Q (.vl (.ol (p.map F))) e1) : KLc g bYes m vs Q (p.map P) e1 := by
  refine K_map (fun ds acc e => ∃ l r, l ++ r = p ∧ ds = r.map P ∧ acc = l.map F ∧ e = e1) (by rw [List.length_map]; exact hl) hv ⟨[], p, rfl, rfl, rfl, rfl⟩ ?_ ?_
  · rintro d ds' acc e ⟨l, r, h1, h2, h3, rfl⟩
    cases r with
    | nil => cases h2
    | cons a r =>
      cases h2
      refine hs a (by rw [← h1]; simp) _ _ _ ⟨l ++ [a], r, by rw [← h1]; simp, rfl, by rw [h3]; simp, rfl⟩
  · rintro acc e ⟨l, r, h1, h2, h3, rfl⟩
    refine ⟨hv, ?_⟩
    have : r = [] := by cases r with
      | nil => rfl
      | cons a r => cases h2
    subst this
    rw [List.append_nil] at h1
    rw [h3, h1]
    exact hN
/-- a loop over a row whose items are told by P: J says what holds once l is behind -/
theorem W_forA {α : Type} {p : List α} {P : α → D} (J : List α → En → Prop) (h0 : J [] e) (hs : ∀ l a r e, p = l ++ a :: r → J l e → Wf X (g (.fr (P a)) e) (fun e1 => Wf X (b e1) (J (l ++ [a])) Rt) (fun _ _ => False)) (hN : ∀ e, J p e → N e) : Wf X (forL g b (p.map P) e) N Rt := by
  refine W_forL (fun ds e => ∃ l r, l ++ r = p ∧ ds = r.map P ∧ J l e) ⟨[], p, rfl, rfl, h0⟩ ?_ ?_
  · rintro d ds' e ⟨l, r, h1, h2, j⟩
    cases r with
    | nil => cases h2
    | cons a r =>
      cases h2
      exact Wf.mono (hs l a r e h1.symm j) (fun e1 w => Wf.mono w (fun e2 j => ⟨l ++ [a], r, by rw [← h1]; simp, rfl, j⟩) fun _ _ q => q) fun _ _ q => q
  · rintro e ⟨l, r, h1, h2, j⟩
    have : r = [] := by cases r with
      | nil => rfl
      | cons a r => cases h2
    subst this
    rw [List.append_nil] at h1
    subst h1
    exact hN _ j
theorem f_backL : dBack [.lst xs] = some (.ol xs.reverse) := (rfl)
theorem f_backT : dBack [.tup xs] = some (.fr (.tup xs.reverse)) := (rfl)
end
end Fv

namespace FvS
open PySem PySem.Spec PyProof.Rows SS
/-! ### a set made of a list of keys (of one kind), counted if none is there twice -/
section
variable {prog : Program} {w : World} {κ : Type} [DecidableEq κ] [BEq κ] [LawfulBEq κ] (knd : KeyKind prog w κ)
/-- the set at a holds just the keys of ks; their number, if no two are alike -/
def Holds (h : Heap) (a : Addr) (ks : List κ) : Prop := ∃ n, h.SetOf knd a (fun k => decide (k ∈ ks)) n ∧ n ≤ ks.length ∧ (ks.Nodup → n = ks.length)
variable {knd}
theorem Holds.at {h h' : Heap} {a : Addr} {ks : List κ} (p : Holds knd h a ks) (e : ∀ o, h.get? a = some o → h'.get? a = some o) : Holds knd h' a ks :=
  let ⟨n, ⟨o, es, ep, t, ho, r⟩, q⟩ := p
  ⟨n, ⟨o, es, ep, t, e o ho, r⟩, q⟩
theorem Holds.put {h' : Heap} {a : Addr} {ks : List κ} {k : κ} {n : Nat} (hn : n ≤ ks.length ∧ (ks.Nodup → n = ks.length))
    (q : h'.SetOf knd a (fun k' => decide (k' ∈ ks) || decide (k' = k)) (if decide (k ∈ ks) then n else n + 1)) : Holds knd h' a (ks ++ [k]) := by
  refine ⟨_, SetOf_congr q (fun k' => ?_) rfl, ?_, fun nd => ?_⟩
  · rw [← Bool.decide_or]
    exact decide_eq_decide.mpr (by rw [List.mem_append, List.mem_singleton])
  · rw [List.length_append, List.length_singleton]
    split <;> omega
  · have ⟨h1, _, h3⟩ := List.nodup_append.mp nd
    have no : k ∉ ks := fun m => h3 k m k (by simp) rfl
    rw [if_neg (by simpa using no), List.length_append, List.length_singleton, hn.2 h1]
/-- the loop of set.update, from place i on -/
theorem fill {A : Around} {I : Addr} {fp wr : List Addr} {G : Array GenState → Array GenState → Prop} {n : Nat} {P : Nat → Value → Prop} {St : Nat → Shared → Prop} (W : WalksS prog w A.in1 I fp wr G n P St) {a : Addr} (ha : a ∉ fp)
    {ks : List κ} (hn : ks.length = n) (hb : n + 1 < scanBound) (hk : ∀ i v k, ks[i]? = some k → P i v → knd.is k v = true ∧ v.scannable = true) {R : Result → Shared → Prop} :
    ∀ (d : Nat) {i : Nat} {s : Shared}, d + i = n → St i s → Holds knd s.heap a (ks.take i) → (∀ s', Moved (a :: wr) G s s' → Holds knd s'.heap a ks → R (.ok (.ret .none)) s') →
      codeAny (model prog w) A (.builtin "set.update.loop" ⟨[.ref a, .ref I], []⟩) R s := by
  have hw : a ∉ wr := fun m => ha (W.sub _ m)
  have wide : ∀ {s1 s2 : Shared}, Moved wr G s1 s2 → Moved (a :: wr) G s1 s2 := fun m => m.mono fun _ h => .tail _ h
  intro d
  induction d with
  | zero =>
    intro i s hd st hs hR
    obtain rfl : i = n := by omega
    rw [← hn, List.take_length] at hs
    refine codeAny_builtin PyProof.Rows.F.entry_set_update_loop ?_
    rw [Around.under_plainId PyProof.Rows.F.plain_set_update_loop _]
    exact wpAny_bind (W.done s _ _ st fun s' m => wpAny_pure (hR s' (wide m) (hs.at fun o e => m.heap a o hw e)))
  | succ d ih =>
    intro i s hd st hs hR
    have il : i < ks.length := by omega
    have ek : ks[i]? = some ks[i] := List.getElem?_eq_getElem il
    have et : ks.take (i + 1) = ks.take i ++ [ks[i]] := by rw [List.take_add_one, ek]; rfl
    refine codeAny_builtin PyProof.Rows.F.entry_set_update_loop ?_
    rw [Around.under_plainId PyProof.Rows.F.plain_set_update_loop _]
    refine wpAny_bind (W.item i s _ _ (by omega) st fun v s1 hv st1 m => ?_)
    obtain ⟨k1, k2⟩ := hk i v _ ek hv
    obtain ⟨c, so, cn⟩ := hs.at (h' := s1.heap) fun o e => m.heap a o hw e
    have cl : c + 1 < scanBound := by
      have := cn.1
      rw [List.length_take] at this
      omega
    show wpAny _ A.in1 (holding [v] (setAdd a v) >>= _) _ _ s1
    unfold setAdd
    refine wpAny_bind (wpAny_holding (wpAny_holding (wpAny_bind (knd.pyHash k1 ?_))))
    refine wpAny_setAddHashed_of (s := { s1 with toks := s1.toks + 1 }) k1 k2 so cl fun h' sb so2 => ?_
    have off : ∀ {b : Addr}, b ≠ a → h'.get? b = s1.heap.get? b := fun {b} ne => sb.2 b ne
    have hp : Holds knd h' a (ks.take (i + 1)) := by
      rw [et]
      exact .put cn so2
    refine wpAny_pure ⟨plainId_quiet PyProof.Rows.F.plain_set_update_loop _, ih (i := i + 1) (by omega) (W.frame _ s1 _ _ st1 (Nat.le_succ _) fun b hb o e => ?_) hp fun s2 m2 hs2 => hR s2 (.trans W.gtrans ((wide m).then_heap (Nat.le_succ _) fun b o nb e => ?_) m2) hs2⟩
    · rw [off fun q => ha (q ▸ hb)]; exact e
    · rw [off fun q => nb (q ▸ .head _)]; exact e
end
section
variable {prog : Program} {w : World} {A : Around} {E : Value → Shared → Prop} {s : Shared}
/-- set(x), told by what set.__init__ does to a new set -/
theorem set_call {x : Value} {T : Shared → Prop} {Q : Value → Shared → Prop}
    (run : ∀ (led : Bool) (R : Result → Shared → Prop), (∀ s2, T s2 → R (.ok (.ret .none)) s2) → wpAny (model prog w) A.in1.in1 (Builtin.«set.__init__» ⟨[.ref s.heap.objs.size, x], []⟩)
      (fun f s' => match f with | .done f => R (.ok f) s' | .again c => c.quiet = true ∧ codeAny (model prog w) A.in1 c R s') (fun e s' => R (.error e) s') { s with heap := s.heap.push { cls := .type "set", dict := none, data := .set #[] 0 (.fresh 0 0 led) } })
    (fin : ∀ s2, T s2 → Q (.ref s.heap.objs.size) s2) : wpAny (model prog w) A (call (.type "set") [x]) Q E s := by
  have C := PySem.F.called_set
  have ⟨_, _, a1⟩ := C.mro
  have a2 := C.made
  have a3 := C.sub
  have a4 := C.notType
  have a5 := C.canCreate
  have a6 := PySem.F.typeCall_set_1 x
  refine wpAny_call (codeAny_of_tree (wpAny_pure ⟨Code.quiet_builtin _ (by decide +kernel), codeAny_builtin PySem.F.entry_type_call ?_⟩))
  rw [Around.under_plain (weight_type_call_type "set" [x] []) rfl]
  repeat (any_goals (first | assumption | wp_step))
  have new : ∀ led : Bool, (s.heap.push { cls := .type "set", dict := none, data := .set #[] 0 (.fresh 0 0 led) }).get? s.heap.objs.size = some { cls := .type "set", dict := none, data := .set #[] 0 (.fresh 0 0 led) } := fun led => Heap.get?_push_size _ rfl
  refine codeAny_mono (code_set_new_1 x (E := E) (Q₁ := fun v s1 => ∃ led : Bool, v = .ref s.heap.objs.size ∧ s1 = { s with heap := s.heap.push { cls := .type "set", dict := none, data := .set #[] 0 (.fresh 0 0 led) } }) fun led => ⟨led, rfl, rfl⟩) fun r s1 hr => ?_
  rcases r with e | f
  · exact hr
  cases f <;> try exact hr.elim
  rename_i v
  obtain ⟨led, rfl, rfl⟩ := hr
  have b0 : Shared.TypeIs { s with heap := s.heap.push { cls := .type "set", dict := none, data := .set #[] 0 (.fresh 0 0 led) } } (.ref s.heap.objs.size) "set" := ⟨_, new led, rfl⟩
  have b1 := C.init.lookup
  have b2 := C.init.bind (.ref s.heap.objs.size)
  repeat (any_goals (first | assumption | wp_step))
  refine codeAny_mono (codeAny_call_builtin (R := wants (fun r s2 => r = .none ∧ T s2) E) C.init.plain PySem.F.entry_set_init (check_set_init_1 b0 ?_)) fun r s2 hr => ?_
  · exact run led _ fun s2 q => ⟨rfl, q⟩
  · rcases r with e | f
    · exact hr
    cases f <;> try exact hr.elim
    obtain ⟨rfl, q⟩ := hr
    repeat (any_goals (first | assumption | wp_step))
    exact fin _ q
/-- set(xs) of a list whose values show the keys ks -/
theorem set_list {κ : Type} [DecidableEq κ] [BEq κ] [LawfulBEq κ] {knd : KeyKind prog w κ} {l : Addr} {vs : Array Value} {ks : List κ} {Q : Value → Shared → Prop}
    (hh : A.handled = none) (hl : s.heap.IsList l vs) (hn : ks.length = vs.size) (hb : ks.length + 1 < scanBound) (hk : ∀ (i : Nat) (v : Value) (k : κ), ks[i]? = some k → vs[i]? = some v → knd.is k v = true ∧ v.scannable = true)
    (h : ∀ (h' : Heap) (tk : Nat), Holds knd h' s.heap.objs.size ks → (∀ b o, s.heap.get? b = some o → h'.get? b = some o) → Q (.ref s.heap.objs.size) { s with heap := h', toks := tk }) :
    wpAny (model prog w) A (call (.type "set") [.ref l]) Q E s := by
  refine set_call (T := fun s2 => ∃ h' tk, s2 = { s with heap := h', toks := tk } ∧ Holds knd h' s.heap.objs.size ks ∧ ∀ b o, s.heap.get? b = some o → h'.get? b = some o) (fun led R hR => ?_) fun s2 q => ?_
  · have ⟨o, ho, hc, n, hd⟩ := hl
    cases o with | mk cls dict data slots => ?_
    cases hc
    cases hd
    have f0 : (s.heap.push { cls := .type "set", dict := none, data := .set #[] 0 (.fresh 0 0 led) }).get? s.heap.objs.size = some { cls := .type "set", dict := none, data := .set #[] 0 (.fresh 0 0 led) } := Heap.get?_push_size _ rfl
    have f1 : (s.heap.push { cls := .type "set", dict := none, data := .set #[] 0 (.fresh 0 0 led) }).get? l = some { cls := .type "list", dict := dict, data := .seq vs n, slots := slots } := Heap.get?_push_of_some _ ho
    have f2 : (s.heap.push { cls := .type "set", dict := none, data := .set #[] 0 (.fresh 0 0 led) }).IsList l vs := ⟨_, f1, rfl, n, rfl⟩
    have c1 := PySem.F.sub_list_set
    have c2 := PySem.F.sub_list_frozenset
    have c3 : (Value.type "list" == Value.type "dict") = false := by decide
    unfold Builtin.«set.__init__» noKeywords Builtin.Frozenset.updateFrom
    generalize hPI : pyIter = PI
    wp_walk
    subst hPI
    refine wpAny_pyIter_list f2 (wpAny_bind (wpAny_runValue ?_))
    have z : l < s.heap.objs.size := Heap.lt_size ho
    have zp : (s.heap.push { cls := .type "set", dict := none, data := .set #[] 0 (.fresh 0 0 led) }).objs.size = s.heap.objs.size + 1 := Heap.size_push ..
    have hand : A.in1.in1.in1.handled = none := by simp [hh]
    have W := (Walks.list (prog := prog) (w := w) hand (s.heap.push { cls := .type "set", dict := none, data := .set #[] 0 (.fresh 0 0 led) }).objs.size l (by rw [zp]; exact Nat.ne_of_lt (Nat.lt_succ_of_lt z)) vs).toS
    refine fill W (a := s.heap.objs.size) (ks := ks) (by rw [zp]; simp; exact Nat.ne_of_gt z) hn (by rw [← hn]; exact hb) (fun i v k e1 e2 => hk i v k e1 e2) vs.size (i := 0) rfl ⟨⟨_, Heap.get?_push_size _ rfl, rfl, rfl⟩, f2.push _⟩ ?_ fun s2 m p => ?_
    · have g : ((s.heap.push { cls := .type "set", dict := none, data := .set #[] 0 (.fresh 0 0 led) }).push { cls := .type "list_iterator", data := .fields #[.ref l, .int 0 0] }).get? s.heap.objs.size = some { cls := .type "set", dict := none, data := .set #[] 0 (.fresh 0 0 led) } := Heap.get?_push_of_some _ f0
      exact ⟨0, SetOf_congr ((setObjOf_fresh (knd := knd) led).setOf g (by unfold scanBound; omega)) (fun _ => by simp) rfl, Nat.zero_le _, fun _ => by simp⟩
    · have e1 := m.gens
      have e2 := m.drawn
      have e3 := m.os
      cases s2 with | mk h2 g2 d2 t2 o2 => ?_
      cases e1
      cases e2
      cases e3
      refine wpAny_pure (wpAny_pure (hR _ ⟨h2, t2, rfl, p, fun b o e => m.heap b o ?_ (Heap.get?_push_of_some _ (Heap.get?_push_of_some _ e))⟩))
      have lt := Heap.lt_size e
      rw [zp]
      simp only [List.mem_cons, List.not_mem_nil, or_false, not_or]
      exact ⟨Nat.ne_of_lt lt, Nat.ne_of_lt (Nat.lt_succ_of_lt lt)⟩
  · obtain ⟨h', tk, rfl, q1, q2⟩ := q
    exact h h' tk q1 q2
end
end FvS
namespace Fv
open PySem PySem.Spec PyProof.Rows L2
/-! ### len(set(xs)), xs a list of texts, none twice -/
theorem strVals_at : ∀ {xs : List Str} {us : List Value} {i : Nat} {k : Str} {v : Value}, Vals (xs.map V.str) us → xs[i]? = some k → us[i]? = some v → ∃ t, v = .str k t
  | x :: xs, _, i, k, v, .cons r rs, h1, h2 => by
    cases i with
    | zero => cases h1; cases h2; exact r
    | succ i => exact strVals_at rs h1 h2
def tLenSetN (K : PySem.W.Frag) (ta : TE) : TE := fun σ H Q => ta σ H fun x H1 => ∃ (l : Addr) (xs : List Str), x = .ref l ∧ SqL K H1 l (xs.map V.str) ∧ xs.Nodup ∧ xs.length ≤ 60 ∧ Q (.int (xs.length : Nat)) H1
theorem pe_lenSetN {X : Cx} {a : Expr} {ta : TE} {p p2 q pos : Pos} (hc : X.calm = true) (hg : Gl X "len") (hm : X.mg "len" = none) (hg2 : Gl X "set") (hm2 : X.mg "set" = none) (ha : PE X a ta)
    (na : starEach [a] X.env = (false, eval a X.env) :: starEach [] X.env) : PE X (.Call (.Name "len" p) [.Call (.Name "set" p2) [a] [] q] [] pos) (tLenSetN X.K ta) := by
  refine ⟨fun pins s σ H Q I h => ?_⟩
  refine Call_ (ld_blt I hg hm boot_len ?_)
  refine PyProof.Rows.callWith_builtin1 (PyProof.Rows.args_cons ?_ rfl) rfl rfl
  refine Call_ (ld_blt I hg2 hm2 boot_set ?_)
  refine PyProof.Rows.callWith_type1 (PyProof.Rows.args_cons (thn (ha.run pins s σ H _ I h) fun v s1 ⟨x, H1, I1, r1, q1⟩ => PyProof.Rows.args_nil ?_) na) na rfl
  obtain ⟨l, xs, rfl, hq, hnd, h1, q1⟩ := q1
  cases r1
  obtain ⟨its, r, pl, hz⟩ := I1.list hq
  have hl : its.toArray.size = xs.length := by rw [List.size_toArray, ← r.length, List.length_map]
  refine FvS.set_list (knd := PySem.strKind X.prog X.w) (ks := xs) (I1.ok.hd hc) pl.isList hl.symm (by unfold scanBound; omega) (fun i v k e1 e2 => ?_) fun h' tk ⟨n, hS, _, hn⟩ hk => ?_
  · have e3 : its[i]? = some v := by simpa using e2
    obtain ⟨t, rfl⟩ := strVals_at r e1 e3
    exact ⟨strKind_is _ _ _ _, rfl⟩
  refine PyProof.Rows.args_nil ?_
  rw [hn hnd] at hS
  obtain ⟨o, es, ep, t, ho, hex, hd, _, _, _, hf, hz⟩ := hS
  have I2 : Inv X pins σ H1 { s1 with heap := h', toks := tk } := I1.kept fun b o e => hk b o e
  exact call_len_set ho hex hd hf (by rw [hz] <;> omega) ⟨.int xs.length, H1, I2.tok _, ⟨_, by rw [hz]⟩, q1⟩
def strsD : List D → Option (List Str)
  | [] => some []
  | .str x :: ds => (strsD ds).map (x :: ·)
  | _ => none
def dLenSet : List D → Option S
  | [.lst xs] => (strsD xs).bind fun zs => if zs.Nodup ∧ zs.length ≤ 60 then some (.fr (.int (zs.length : Nat))) else none
  | _ => none
def rLenSetN (K : PySem.W.Frag) : List V → Hp → VK → Prop := fun vs H Q => ∃ (l : Addr) (xs : List Str), vs = [.ref l] ∧ SqL K H l (xs.map V.str) ∧ xs.Nodup ∧ xs.length ≤ 60 ∧ Q (.int (xs.length : Nat)) H
theorem strsD_rep {T : Tb} {G : Hp} : ∀ {ds : List D} {vs : List V} {is : List Str}, RepFs T G vs ds → strsD ds = some is → vs = is.map V.str
  | _, _, is, .nil, h => by cases h; rfl
  | _, _, is, .cons (d := d) r rs, h => by
    cases d <;> try (simp [strsD] at h; done)
    rename_i i
    simp [strsD] at h
    obtain ⟨js, h1, rfl⟩ := h
    cases r
    rw [strsD_rep rs h1]; rfl
theorem fo_lenSet {T : Tb} : FunOk T (rLenSetN T.K) dLenSet := fun G H vs ss s Q hs r h k => by
  unfold dLenSet at h
  split at h
  · rename_i xs heq
    obtain ⟨v, s1, rfl, r1, e1⟩ := repOs1 r heq
    obtain ⟨a, as, rfl, q1, k1⟩ := r1.lst hs e1
    cases hz : strsD xs with
    | none => rw [hz] at h; cases h
    | some zs =>
      rw [hz] at h
      simp only [Option.bind_some] at h
      split at h
      · rename_i hn
        cases h
        obtain rfl := strsD_rep k1 hz
        exact ⟨a, zs, rfl, q1, hn.1, hn.2, done_fr (W := True) hs k (.int _)⟩
      · cases h
  · cases h
theorem pe_lenSetF {X : Cx} {T : Tb} {W : WX} {a : Expr} {m : En → Ou R} {p p2 q pos : Pos} (hK : T.K = X.K) (hc : X.calm = true) (hg : Gl X "len") (hm : X.mg "len" = none) (hg2 : Gl X "set") (hm2 : X.mg "set" = none) (ha : PE X a (tE T W m))
    (na : starEach [a] X.env = (false, eval a X.env) :: starEach [] X.env) : PE X (.Call (.Name "len" p) [.Call (.Name "set" p2) [a] [] q] [] pos) (tE T W (b1 (pS dLenSet) m)) :=
  PE.imp (pe_lenSetN hc hg hm hg2 hm2 ha na) fun σ H Q h => tE.mono (fun v H1 ⟨l, xs, h1, h2, h3, h4, h5⟩ => by
    cases h1
    rw [hK] at h2
    exact ⟨l, xs, rfl, h2, h3, h4, h5⟩) (tE_prim1 (prim_S fo_lenSet) h)
end Fv

namespace Fv
open PySem PySem.Spec PyProof.Rows L2
/-! ### what is never reached -/
def bNo : En → Ou R := fun _ => .no
theorem pe_noF {X : Cx} {T : Tb} {W : WX} {e : Expr} : PE X e (tE T W bNo) := ⟨fun _ _ _ _ _ _ h => let ⟨_, _, _, _, _, p⟩ := h; p.elim⟩
theorem allc_nil {P : Nat → Prop} : ∀ c ∈ ([] : List Nat), P c := fun _ h => nomatch h
theorem allc_cons {P : Nat → Prop} {c : Nat} {cs : List Nat} (h : P c) (k : ∀ c ∈ cs, P c) : ∀ c' ∈ c :: cs, P c' := fun _ m => (List.mem_cons.mp m).elim (fun e => e ▸ h) (k _)
/-! ### rewriting rules for instances -/
section
variable {X : Xn → En → Prop} {e e1 : En} {m mo : En → Ou R} {ms : En → Ou (List R)} {Q : R → En → Prop} {N : En → Prop} {Rt : S → En → Prop} {s s0 : S} {ss' : List S} {rs : List R} {c c' i np : Nat} {mn f : Str} {ns : List Str} {vs : List D} {d : D}
def MeD (c : Nat) (mn : Str) (k : Prop) : D → Prop
  | .ins c' ns _ => (c' = c ∧ ns.contains mn = false) ∧ k
  | _ => False
theorem y_med {k : Prop} : MeD c mn k (.ins c' ns vs) = ((c' = c ∧ ns.contains mn = false) ∧ k) := (rfl)
def KMa (X : Xn → En → Prop) (np : Nat) (fn : List S → FO) (r : R) (Q : R → En → Prop) : List R → En → Prop := fun rs e => Wo X (pCall np fn (r :: rs) e) Q
theorem y_kma {fn : List S → FO} {r : R} : KMa X np fn r Q rs e = Wo X (pCall np fn (r :: rs) e) Q := (rfl)
def MeP (c : Nat) (mn : Str) (k : Prop) : Option (Option S) → Prop
  | some (some s) => MeD c mn k s.d
  | _ => False
theorem y_mepp {k : Prop} : MeP c mn k (some (some s)) = MeD c mn k s.d := (rfl)
def KMe (X : Xn → En → Prop) (c : Nat) (mn : Str) (np : Nat) (fn : List S → FO) (ms : En → Ou (List R)) (Q : R → En → Prop) : R → En → Prop
  | .vl s, e => MeD c mn (Wo X (ms e) (KMa X np fn (.vl s) Q)) s.d
  | .pl i, e => MeP c mn (Wo X (ms e) (KMa X np fn (.pl i) Q)) e[i]?
theorem y_mev {fn : List S → FO} : KMe X c mn np fn ms Q (.vl s) e = MeD c mn (Wo X (ms e) (KMa X np fn (.vl s) Q)) s.d := (rfl)
theorem y_mep {fn : List S → FO} : KMe X c mn np fn ms Q (.pl i) e = MeP c mn (Wo X (ms e) (KMa X np fn (.pl i) Q)) e[i]? := (rfl)
theorem meD_eq {k : Ou R} {fn : List S → FO} {r : R} : Wo X (match d with
      | .ins c' ns _ => if c' = c ∧ ns.contains mn = false then (match ms e1 with
          | .ok rs e2 => pCall np fn (r :: rs) e2
          | .ex x e2 => .ex x e2
          | .no => .no) else .no
      | _ => .no) Q = MeD c mn (Wo X (ms e1) (KMa X np fn r Q)) d := by
  cases d <;> try rfl
  rename_i c' ns vs
  simp only [MeD]
  by_cases h : c' = c ∧ ns.contains mn = false
  · simp only [h, and_self, if_true, true_and]
    cases ms e1 <;> rfl
  · simp only [h, if_false, false_and]; rfl
theorem y_meth {fn : List S → FO} : Wo X (bMeth c mn np fn mo ms e) Q = Wo X (mo e) (KMe X c mn np fn ms Q) := by
  unfold bMeth
  cases mo e with
  | no => rfl
  | ex x e1 => rfl
  | ok r e1 =>
    cases r with
    | vl s => exact meD_eq (k := .no)
    | pl i =>
      show _ = MeP c mn _ e1[i]?
      simp only [pk]
      cases h : e1[i]? with
      | none => rfl
      | some y => cases y with
        | none => rfl
        | some s => exact meD_eq (k := .no)
/-! C(..) -/
def KMk (rs : List R) (e1 : En) (Q : R → En → Prop) : S → List S → Prop
  | .fr .non, s0 :: ss => Q (.vl s0) (puts e1 rs ss)
  | _, _ => False
theorem y_kmk : KMk rs e1 Q (.fr .non) (s0 :: ss') = Q (.vl s0) (puts e1 rs ss') := (rfl)
def KMkX (X : Xn → En → Prop) (rs : List R) (e1 : En) : Xn → List S → Prop
  | x, _ :: ss => X x (puts e1 rs ss)
  | _, _ => False
def MakE (X : Xn → En → Prop) (c np : Nat) (fn : List S → FO) (rs : List R) (Q : R → En → Prop) : List S → En → Prop := fun ss e1 => ss.length + 1 = np ∧ Wc (fn (.oi c [] [] :: ss)) (KMk rs e1 Q) (KMkX X rs e1)
theorem y_make {fn : List S → FO} {ss : List S} : MakE X c np fn rs Q ss e1 = (ss.length + 1 = np ∧ Wc (fn (.oi c [] [] :: ss)) (KMk rs e1 Q) (KMkX X rs e1)) := (rfl)
theorem y_pmake {fn : List S → FO} : Wo X (pMake c np fn rs e) Q = MvK (MakE X c np fn rs Q) [] e rs := by
  rw [mvK_eq]
  unfold pMake MakE
  cases movs e rs with
  | none => rfl
  | some p =>
    simp only [List.nil_append]
    by_cases h : p.1.length + 1 = np
    · simp only [h, if_true, true_and]
      cases hf : fn (.oi c [] [] :: p.1) with
      | no => rfl
      | ex x ss => cases ss <;> rfl
      | ok s ss =>
        cases s with
        | fr d => cases d <;> cases ss <;> rfl
        | _ => cases ss <;> rfl
    · simp only [h, if_false, false_and]; rfl
def KFr (Q : R → En → Prop) : R → En → Prop
  | .vl s, e => Q (.vl (.fr s.d)) e
  | _, _ => False
theorem y_kfr : KFr Q (.vl s) e = Q (.vl (.fr s.d)) e := (rfl)
theorem y_fz : Wo X (bFz m e) Q = Wo X (m e) (KFr Q) := by
  unfold bFz
  cases m e with
  | no => rfl
  | ex x e1 => rfl
  | ok r e1 => cases r <;> rfl
/-! self.f = .. -/
def FlT (c i : Nat) (f : Str) (d : D) (N : En → Prop) (e : En) : Option (Option S) → Prop
  | some (some (.oi c' ns vs)) => (c' = c ∧ ns.length < 1000) ∧ N (e.set i (some (.oi c (putI f d ns vs).1 (putI f d ns vs).2)))
  | _ => False
theorem y_flt : FlT c i f d N e (some (some (.oi c' ns vs))) = ((c' = c ∧ ns.length < 1000) ∧ N (e.set i (some (.oi c (putI f d ns vs).1 (putI f d ns vs).2)))) := (rfl)
def FlE (c i : Nat) (f : Str) (N : En → Prop) : List D → En → Prop
  | [d], e => FlT c i f d N e e[i]?
  | _, _ => False
theorem y_fle : FlE c i f N [d] e = FlT c i f d N e e[i]? := (rfl)
def KFl (c i : Nat) (f : Str) (N : En → Prop) : R → En → Prop := fun r e => FzK (FlE c i f N) [] e [r]
theorem y_kfl {r : R} : KFl c i f N r e = FzK (FlE c i f N) [] e [r] := (rfl)
theorem y_sfld : Wf X (sFld i c f m e) N Rt = Wo X (m e) (KFl c i f N) := by
  unfold sFld
  cases m e with
  | no => rfl
  | ex x e1 => rfl
  | ok r e1 =>
    simp only [Wo]
    rw [y_kfl, fzK_eq]
    simp only [frzs]
    cases frz1 e1 r with
    | none => rfl
    | some p =>
      simp only [List.nil_append, FlE]
      cases h : p.2[i]? with
      | none => rfl
      | some y => cases y with
        | none => rfl
        | some s => cases s <;> try rfl
                    rename_i c' ns vs
                    simp only [FlT]
                    by_cases h : c' = c ∧ ns.length < 1000
                    · simp only [h, and_self, if_true, true_and]; rfl
                    · simp only [h, if_false, false_and]; rfl
/-! fields and len, told by facts -/
theorem f_fld {cs : List Nat} (h : cs.contains c = true) (k : (ns.zip vs).lookup f = some d) : dFld cs f [.ins c ns vs] = some (.fr d) := by
  simp only [dFld, h, if_true, k]; rfl
def lenS (c : Nat) (fn : List S → FO) : List S → Option S
  | [s] => lenD c fn s
  | _ => none
theorem y_plen {fn : List S → FO} : Wo X (pLen c fn rs e) Q = Wo X (pSS (lenS c fn) rs e) Q := by
  have : pLen c fn = pSS (lenS c fn) := by unfold pLen; congr 1
  rw [this]
theorem f_lenI {fn : List S → FO} {n : Int} {ss : List S} (h : fn [.fr (.ins c ns vs)] = .ok (.fr (.int n)) ss) (hn : 0 ≤ n ∧ n < 2 ^ 63) : lenS c fn [.fr (.ins c ns vs)] = some (.fr (.int n)) := by
  show (if c = c then (match fn [.fr (.ins c ns vs)] with
      | .ok (.fr (.int n)) _ => if 0 ≤ n ∧ n < 2 ^ 63 then some (S.fr (.int n)) else none
      | _ => none) else none) = _
  rw [if_pos rfl, h]
  simp only [hn, and_self, if_true]
theorem f_lenA {fn : List S → FO} {xs : List D} : lenS c fn [.fr (.lst xs)] = dLen [.lst xs] := (rfl)
theorem f_lenB {fn : List S → FO} {xs : List D} : lenS c fn [.ol xs] = dLen [.lst xs] := (rfl)
theorem f_lenC {fn : List S → FO} {xs : List D} : lenS c fn [.fr (.tup xs)] = dLen [.tup xs] := (rfl)
theorem strsD_map {α : Type} {F : α → D} {g : α → Str} : ∀ {l : List α}, (∀ a ∈ l, F a = .str (g a)) → strsD (l.map F) = some (l.map g)
  | [], _ => rfl
  | a :: l, h => by
    rw [List.map_cons, h a (by simp)]
    show (strsD (l.map F)).map (g a :: ·) = _
    rw [strsD_map fun b hb => h b (by simp [hb])]; rfl
theorem f_lenSet {xs : List D} {zs : List Str} (h : strsD xs = some zs) (hn : zs.Nodup ∧ zs.length ≤ 60) : dLenSet [.lst xs] = some (.fr (.int (zs.length : Nat))) := by
  show (strsD xs).bind _ = _
  rw [h]
  simp only [Option.bind_some, hn, and_self, if_true]
/-! literal rows: one of their items -/
theorem ixL10 {x0 : D} : dIx [.lst [x0], .int 0] = some (.fr x0) := (rfl)
theorem ixT10 {x0 : D} : dIx [.tup [x0], .int 0] = some (.fr x0) := (rfl)
theorem ixN10 : ixN 1 0 = some 0 := (rfl)
theorem ixL20 {x0 x1 : D} : dIx [.lst [x0, x1], .int 0] = some (.fr x0) := (rfl)
theorem ixT20 {x0 x1 : D} : dIx [.tup [x0, x1], .int 0] = some (.fr x0) := (rfl)
theorem ixN20 : ixN 2 0 = some 0 := (rfl)
theorem ixL21 {x0 x1 : D} : dIx [.lst [x0, x1], .int 1] = some (.fr x1) := (rfl)
theorem ixT21 {x0 x1 : D} : dIx [.tup [x0, x1], .int 1] = some (.fr x1) := (rfl)
theorem ixN21 : ixN 2 1 = some 1 := (rfl)
theorem ixL30 {x0 x1 x2 : D} : dIx [.lst [x0, x1, x2], .int 0] = some (.fr x0) := (rfl)
theorem ixT30 {x0 x1 x2 : D} : dIx [.tup [x0, x1, x2], .int 0] = some (.fr x0) := (rfl)
theorem ixN30 : ixN 3 0 = some 0 := (rfl)
theorem ixL31 {x0 x1 x2 : D} : dIx [.lst [x0, x1, x2], .int 1] = some (.fr x1) := (rfl)
theorem ixT31 {x0 x1 x2 : D} : dIx [.tup [x0, x1, x2], .int 1] = some (.fr x1) := (rfl)
theorem ixN31 : ixN 3 1 = some 1 := (rfl)
theorem ixL32 {x0 x1 x2 : D} : dIx [.lst [x0, x1, x2], .int 2] = some (.fr x2) := (rfl)
theorem ixT32 {x0 x1 x2 : D} : dIx [.tup [x0, x1, x2], .int 2] = some (.fr x2) := (rfl)
theorem ixN32 : ixN 3 2 = some 2 := (rfl)
theorem ixL40 {x0 x1 x2 x3 : D} : dIx [.lst [x0, x1, x2, x3], .int 0] = some (.fr x0) := (rfl)
theorem ixT40 {x0 x1 x2 x3 : D} : dIx [.tup [x0, x1, x2, x3], .int 0] = some (.fr x0) := (rfl)
theorem ixN40 : ixN 4 0 = some 0 := (rfl)
theorem ixL41 {x0 x1 x2 x3 : D} : dIx [.lst [x0, x1, x2, x3], .int 1] = some (.fr x1) := (rfl)
theorem ixT41 {x0 x1 x2 x3 : D} : dIx [.tup [x0, x1, x2, x3], .int 1] = some (.fr x1) := (rfl)
theorem ixN41 : ixN 4 1 = some 1 := (rfl)
theorem ixL42 {x0 x1 x2 x3 : D} : dIx [.lst [x0, x1, x2, x3], .int 2] = some (.fr x2) := (rfl)
theorem ixT42 {x0 x1 x2 x3 : D} : dIx [.tup [x0, x1, x2, x3], .int 2] = some (.fr x2) := (rfl)
theorem ixN42 : ixN 4 2 = some 2 := (rfl)
theorem ixL43 {x0 x1 x2 x3 : D} : dIx [.lst [x0, x1, x2, x3], .int 3] = some (.fr x3) := (rfl)
theorem ixT43 {x0 x1 x2 x3 : D} : dIx [.tup [x0, x1, x2, x3], .int 3] = some (.fr x3) := (rfl)
theorem ixN43 : ixN 4 3 = some 3 := (rfl)
theorem ixL50 {x0 x1 x2 x3 x4 : D} : dIx [.lst [x0, x1, x2, x3, x4], .int 0] = some (.fr x0) := (rfl)
theorem ixT50 {x0 x1 x2 x3 x4 : D} : dIx [.tup [x0, x1, x2, x3, x4], .int 0] = some (.fr x0) := (rfl)
theorem ixN50 : ixN 5 0 = some 0 := (rfl)
theorem ixL51 {x0 x1 x2 x3 x4 : D} : dIx [.lst [x0, x1, x2, x3, x4], .int 1] = some (.fr x1) := (rfl)
theorem ixT51 {x0 x1 x2 x3 x4 : D} : dIx [.tup [x0, x1, x2, x3, x4], .int 1] = some (.fr x1) := (rfl)
theorem ixN51 : ixN 5 1 = some 1 := (rfl)
theorem ixL52 {x0 x1 x2 x3 x4 : D} : dIx [.lst [x0, x1, x2, x3, x4], .int 2] = some (.fr x2) := (rfl)
theorem ixT52 {x0 x1 x2 x3 x4 : D} : dIx [.tup [x0, x1, x2, x3, x4], .int 2] = some (.fr x2) := (rfl)
theorem ixN52 : ixN 5 2 = some 2 := (rfl)
theorem ixL53 {x0 x1 x2 x3 x4 : D} : dIx [.lst [x0, x1, x2, x3, x4], .int 3] = some (.fr x3) := (rfl)
theorem ixT53 {x0 x1 x2 x3 x4 : D} : dIx [.tup [x0, x1, x2, x3, x4], .int 3] = some (.fr x3) := (rfl)
theorem ixN53 : ixN 5 3 = some 3 := (rfl)
theorem ixL54 {x0 x1 x2 x3 x4 : D} : dIx [.lst [x0, x1, x2, x3, x4], .int 4] = some (.fr x4) := (rfl)
theorem ixT54 {x0 x1 x2 x3 x4 : D} : dIx [.tup [x0, x1, x2, x3, x4], .int 4] = some (.fr x4) := (rfl)
theorem ixN54 : ixN 5 4 = some 4 := (rfl)
end
end Fv

namespace Fv
open PySem PySem.Spec PyProof.Rows L2
/-! ### sorted(x), x a list or a tuple of ints -/
theorem repT_of {T : Tb} {G : Hp} {a : Addr} {its : Array Value} {n : Nat} {sl : Array (Option Value)} {us : List Value} {vs : List V} {ds : List D} (l : T.K.lookup a = some ⟨.type "tuple", none, .seq its n, sl⟩) (h : its.toList = us) (hs : us.length ≤ 1000) (r : Vals vs us) (k : RepFs T G vs ds) : RepF T G (.ref a) (.tup ds) := by
  refine .tup (.inr ⟨_, its, n, l, rfl, rfl, rfl, ?_, by rw [h]; exact r⟩) k
  rw [← Array.length_toList, h, sizeLine_eq]
  omega
def rSortA (K : PySem.W.Frag) : List V → Hp → VK → Prop := fun vs H Q => ∃ (a : Addr) (ns : List Int), vs = [V.ref a] ∧ (SqL K H a (ns.map V.int) ∨ SqT K H a (ns.map V.int)) ∧
  ∀ (ns' : List Int) (p : Addr), ns'.Perm ns → ns'.Pairwise (· ≤ ·) → H p = none → Q (.ref p) (upd H p (.lst (ns'.map V.int)))
theorem call_sortA {X : Cx} : CallR X (.builtin "sorted") (rSortA X.K) := by
  intro pins s σ H vs us Q I r h
  obtain ⟨a, ns, rfl, hs, q⟩ := h
  rw [Vals.ref1 r]
  obtain ⟨ty, o, its, n, hT, ho, hc, hd, rv, hz⟩ : ∃ (ty : String) (o : Obj) (its : Array Value) (n : Nat), (ty = "list" ∨ ty = "tuple") ∧ s.heap.get? a = some o ∧ o.cls = .type ty ∧ o.data = .seq its n ∧ Vals (ns.map V.int) its.toList ∧ its.size ≤ sizeLine := by
    rcases hs with hs | hs
    · obtain ⟨is, rv, hl, hz⟩ := I.list hs
      obtain ⟨o, h1, h2, n, h3⟩ := hl.isList
      exact ⟨"list", o, is.toArray, n, .inl rfl, h1, h2, h3, rv, by rw [List.size_toArray, ← rv.length]; exact hz⟩
    · obtain ⟨is, rv, ⟨o, h1, h2, n, h3⟩, hz⟩ := I.tuple hs
      exact ⟨"tuple", o, is.toArray, n, .inr rfl, h1, h2, h3, rv, by rw [List.size_toArray, ← rv.length]; exact hz⟩
  have hi : IntsAre its.toList ns := rv.ints
  refine Calls.call_function_entry kind_sorted plain_sorted entry_sorted (args_sorted1 _) ?_
  refine wpAny_bind (m := checkCount "sorted" 1 1 _) (wpAny_pure (wpAny_bind (wpAny_collect_seq a hT ho hc hd (fun h1 kp => ?_) hz)))
  have I1 : Inv X pins σ H { s with heap := h1 } := I.kept (t' := s.toks) kp
  have hz2 : its.toList.length ≤ sizeLine := by rw [Array.length_toList]; exact hz
  refine wpAny_bind (wpAny_newList ?_ hz2)
  have hp : (h1.push (seqObj "list" its.toList.toArray 0)).get? h1.objs.size = some (seqObj "list" its.toList.toArray 0) := Heap.get?_push_size _ rfl
  refine wpAny_bind (wpAny_holding (wpAny_call_entry slot_list_sort ⟨_, hp, rfl⟩ entry_list_sort (SrtO.list_sort_ord SrtO.swo_int hp hz2 (fun h2 => SrtO.ints_sortable hi h2) fun out k1 k2 => ⟨_, rfl, ?_⟩) (args_list_sort _)))
  refine wpAny_pure ⟨_, rfl, ?_⟩
  obtain ⟨k3, k4, k5⟩ := SrtO.ints_out hi k1 k2
  obtain ⟨ep, he⟩ := sortedHeap_at (vs := its.toList) (out := out.toArray) hp
  have hlen : ((out.map SrtO.iv).map V.int).length ≤ sizeLine := by
    rw [List.length_map, k4.length_eq, ← hi.length]; exact hz2
  refine ⟨.ref h1.objs.size, upd H h1.objs.size (.lst ((out.map SrtO.iv).map V.int)), I1.laid (t' := s.toks) (fun b u hb => ?_) (Nat.le_refl _) ⟨hlen, out, ep, vals_of_ints k3, he⟩, rfl, q _ _ k4 k5 (I1.hok.fresh (Nat.le_refl _))⟩
  have hl := Heap.lt_size hb
  rw [sortedHeap_old (Nat.ne_of_lt hl) (by rw [Heap.size_push]; exact Nat.lt_succ_of_lt hl)]
  exact Heap.get?_push_of_some _ hb
/-! ints in order: what sorted gives -/
def sortI (l : List Int) : List Int := l.mergeSort (fun a b => decide (a ≤ b))
theorem sortI_perm (l : List Int) : (sortI l).Perm l := List.mergeSort_perm l _
theorem sortI_ord (l : List Int) : (sortI l).Pairwise (· ≤ ·) := by
  have := List.pairwise_mergeSort (le := fun a b : Int => decide (a ≤ b)) (fun a b c h1 h2 => by simp at *; omega) (fun a b => by simp; omega) l
  exact this.imp fun h => by simpa using h
theorem ord_uniq : ∀ {l m : List Int}, l.Perm m → l.Pairwise (· ≤ ·) → m.Pairwise (· ≤ ·) → l = m
  | [], m, h, _, _ => by rw [List.nil_perm.mp h]
  | a :: l, [], h, _, _ => by have := h.length_eq; simp at this
  | a :: l, b :: m, h, h1, h2 => by
    have ha : a ∈ b :: m := h.mem_iff.mp (by simp)
    have hb : b ∈ a :: l := h.mem_iff.mpr (by simp)
    have e : a = b := by
      rcases List.mem_cons.mp ha with e | ha
      · exact e
      · rcases List.mem_cons.mp hb with e | hb
        · exact e.symm
        · have x1 := (List.pairwise_cons.mp h1).1 b hb
          have x2 := (List.pairwise_cons.mp h2).1 a ha
          omega
    subst e
    rw [ord_uniq (List.perm_cons a |>.mp h) (List.pairwise_cons.mp h1).2 (List.pairwise_cons.mp h2).2]
theorem sortI_of {l m : List Int} (h : m.Perm l) (h1 : m.Pairwise (· ≤ ·)) : m = sortI l := ord_uniq (h.trans (sortI_perm l).symm) h1 (sortI_ord l)
theorem sortI_eq {l m : List Int} : sortI l = sortI m ↔ l.Perm m := ⟨fun h => (sortI_perm l).symm.trans (h ▸ sortI_perm m), fun h => sortI_of ((sortI_perm l).trans h) (sortI_ord l)⟩
def dSort : List D → Option S
  | [.lst xs] => (intsD xs).map fun is => .ol ((sortI is).map D.int)
  | [.tup xs] => (intsD xs).map fun is => .ol ((sortI is).map D.int)
  | _ => none
end Fv

namespace Fv
open PySem PySem.Spec PyProof.Rows L2
/-! ### sorted, max, max with default: of lists and tuples of ints -/
section
variable {T : Tb} {W : Prop}
theorem fo_sort {T : Tb} : FunOk T (rSortA T.K) dSort := fun G H vs ss s Q hs r h k => by
  unfold dSort at h
  split at h
  · rename_i xs heq
    obtain ⟨v, s1, rfl, r1, e1⟩ := repOs1 r heq
    obtain ⟨a, as, rfl, q1, k1⟩ := r1.lst hs e1
    cases hi : intsD xs with
    | none => rw [hi] at h; cases h
    | some is =>
      rw [hi] at h; cases h
      obtain rfl := intsD_rep k1 hi
      refine ⟨a, is, rfl, .inl q1, fun ns' p hp ho hf => ?_⟩
      rw [sortI_of hp ho]
      exact done_ol hs k (ints_repF _) hf
  · rename_i xs heq
    obtain ⟨v, s1, rfl, r1, e1⟩ := repOs1 r heq
    obtain ⟨a, as, rfl, q1, t1, k1⟩ := r1.tup hs e1
    cases hi : intsD xs with
    | none => rw [hi] at h; cases h
    | some is =>
      rw [hi] at h; cases h
      obtain rfl := intsD_rep k1 hi
      refine ⟨a, is, rfl, .inr q1, fun ns' p hp ho hf => ?_⟩
      rw [sortI_of hp ho]
      exact done_ol hs k (ints_repF _) hf
  · cases h
end
theorem max_fold (y : Int) (ys : List Int) : PySem.W.maxOf y ys = ys.foldl max y := by
  unfold PySem.W.maxOf
  congr 1
  funext a b
  show (if decide (a < b) = true then b else a) = max a b
  by_cases h : a < b
  · rw [if_pos (by simpa using h)]; omega
  · rw [if_neg (by simpa using h)]; omega
theorem int_held {h : Heap} {n m : Int} {t : Tok} (H : PySem.W.Holds h (.int n t) m) : n = m := by
  obtain ⟨as, r⟩ := H
  cases r; rfl
/-- max(x) of a tuple of ints -/
def rMaxT (K : PySem.W.Frag) : List V → Hp → VK → Prop := fun vs H Q => ∃ (a : Addr) (n : Int) (ns : List Int), vs = [V.ref a] ∧ SqT K H a ((n :: ns).map V.int) ∧ Q (.int (ns.foldl max n)) H
theorem cr_maxT {X : Cx} (hc : X.calm = true) (hu : X.A.units + 65 < cLine) : CallR X (.builtin "max") (rMaxT X.K) := by
  intro pins s σ H vs us Q I r h
  obtain ⟨a, n, ns, rfl, hs, q⟩ := h
  rw [Vals.ref1 r]
  obtain ⟨its, rv, tp, hz⟩ := I.tuple hs
  have hi : IntsAre its (n :: ns) := rv.ints
  refine PySem.W.max_tuple_datum (I.ok.hd hc) tp (PySem.W.HoldAll.of_ints (by simpa using hi)) (by have := (by decide : PySem.W.Datum.depth Int ≤ 1); omega) fun i v h' tk hv hold hk => ?_
  obtain ⟨j, t, rfl⟩ := SrtO.ints_mem hi v (by simpa using Array.mem_of_getElem? hv)
  obtain rfl := int_held hold
  rw [max_fold] at *
  exact ⟨.int _, H, I.kept hk, ⟨_, rfl⟩, q⟩
def rMaxB (K : PySem.W.Frag) : List V → Hp → VK → Prop := fun xs H Q => rMaxA K xs H Q ∨ rMaxT K xs H Q
theorem call_maxB {X : Cx} (hc : X.calm = true) (hu : X.A.units + 65 < cLine) : CallR X (.builtin "max") (rMaxB X.K) := (call_maxA hc).or (cr_maxT hc hu)
def dMaxB : List D → Option S
  | [.tup xs] => (intsD xs).bind fun is => (maxL is).map fun i => .fr (.int i)
  | ds => dMax ds
theorem fo_maxB {T : Tb} : FunOk T (rMaxB T.K) dMaxB := fun G H vs ss s Q hs r h k => by
  unfold dMaxB at h
  split at h
  · rename_i xs heq
    obtain ⟨v, s1, rfl, r1, e1⟩ := repOs1 r heq
    obtain ⟨a, as, rfl, q1, t1, k1⟩ := r1.tup hs e1
    cases hi : intsD xs with
    | none => rw [hi] at h; cases h
    | some is =>
      rw [hi] at h
      cases is with
      | nil => cases h
      | cons n ns =>
        cases h
        obtain rfl := intsD_rep k1 hi
        exact .inr ⟨a, n, ns, rfl, q1, done_fr (W := True) hs k (.int _)⟩
  · exact .inl (fo_max G H vs ss s Q hs r h k)
/-- max(x, default=d) -/
def rMaxD (K : PySem.W.Frag) : List V → List V → Hp → VK → Prop := fun vs zs H Q => ∃ (a : Addr) (ns : List Int) (d : Int), vs = [V.ref a] ∧ zs = [V.int d] ∧ (SqL K H a (ns.map V.int) ∨ SqT K H a (ns.map V.int)) ∧ Q (.int ((maxL ns).getD d)) H
theorem cr_maxDf {X : Cx} (hc : X.calm = true) (hu : X.A.units + 65 < cLine) : CallRK X (.builtin "max") [Str.ofString "default"] (rMaxD X.K) := by
  intro pins s σ H vs zs us ws Q I r rz h
  obtain ⟨a, ns, d, rfl, rfl, hs, q⟩ := h
  rw [Vals.ref1 r]
  cases rz with
  | cons rz rz' =>
    cases rz'
    obtain ⟨td, rfl⟩ := rz
    have hu2 : X.A.units + 1 + PySem.W.Datum.depth Int < cLine := by have := (by decide : PySem.W.Datum.depth Int ≤ 1); omega
    have fin : ∀ {its : List Value}, IntsAre its ns → ∀ (y : Int) (ys : List Int) (i : Nat) (v : Value) (h' : Heap) (tk : Nat), ns = y :: ys → its.toArray[i]? = some v → PySem.W.Holds h' v (PySem.W.maxOf y ys) → (∀ b o, s.heap.get? b = some o → h'.get? b = some o) → EP X pins σ Q v { s with heap := h', toks := tk } := fun hi y ys i v h' tk e hv hold hk => by
      subst e
      obtain ⟨j, t, rfl⟩ := SrtO.ints_mem hi v (by simpa using Array.mem_of_getElem? hv)
      obtain rfl := int_held hold
      rw [max_fold] at *
      exact ⟨.int _, H, I.kept hk, ⟨_, rfl⟩, q⟩
    have emp : ns = [] → ∀ h' tk, (∀ b o, s.heap.get? b = some o → h'.get? b = some o) → EP X pins σ Q (.int d td) { s with heap := h', toks := tk } := fun e h' tk hk => by
      subst e
      exact ⟨.int _, H, I.kept hk, ⟨_, rfl⟩, q⟩
    rcases hs with hs | hs
    · obtain ⟨its, rv, hl, hz⟩ := I.list hs
      exact PySem.W.max_list_datum_default (I.ok.hd hc) hl.isList (PySem.W.HoldAll.of_ints (by simpa using rv.ints)) hu2 emp (fin rv.ints)
    · obtain ⟨its, rv, tp, hz⟩ := I.tuple hs
      exact PySem.W.max_tuple_datum_default (I.ok.hd hc) tp (PySem.W.HoldAll.of_ints (by simpa using rv.ints)) hu2 emp (fin rv.ints)
def dMaxD : List D → Option S
  | [.tup xs, .int d] => (intsD xs).map fun is => .fr (.int ((maxL is).getD d))
  | [.lst xs, .int d] => (intsD xs).map fun is => .fr (.int ((maxL is).getD d))
  | _ => none
theorem fo_maxD {T : Tb} : FunOk T (fun vs H Q => ∃ x y, vs = [x, y] ∧ rMaxD T.K [x] [y] H Q) dMaxD := fun G H vs ss s Q hs r h k => by
  unfold dMaxD at h
  split at h
  · rename_i xs d heq
    obtain ⟨v, w, s1, s2, rfl, r1, r2, e1, e2⟩ := repOs2 r heq
    obtain ⟨a, as, rfl, q1, t1, k1⟩ := r1.tup hs e1
    obtain rfl := r2.int e2
    cases hi : intsD xs with
    | none => rw [hi] at h; cases h
    | some is =>
      rw [hi] at h; cases h
      obtain rfl := intsD_rep k1 hi
      exact ⟨_, _, rfl, a, is, d, rfl, rfl, .inr q1, done_fr (W := True) hs k (.int _)⟩
  · rename_i xs d heq
    obtain ⟨v, w, s1, s2, rfl, r1, r2, e1, e2⟩ := repOs2 r heq
    obtain ⟨a, as, rfl, q1, k1⟩ := r1.lst hs e1
    obtain rfl := r2.int e2
    cases hi : intsD xs with
    | none => rw [hi] at h; cases h
    | some is =>
      rw [hi] at h; cases h
      obtain rfl := intsD_rep k1 hi
      exact ⟨_, _, rfl, a, is, d, rfl, rfl, .inl q1, done_fr (W := True) hs k (.int _)⟩
  · cases h
theorem pe_maxDF {X : Cx} {T : Tb} {W : WX} {x : Str} {p pos kpos : Pos} {e ed : Expr} {me md : En → Ou R} (hK : T.K = X.K) (hc : X.calm = true) (hu : X.A.units + 65 < cLine) (hg : Gl X x) (hm : X.mg x = none) (hv : bootBuiltins x = some (.builtin "max")) (ha : PE X e (tE T W me)) (hd : PE X ed (tE T W md)) (hn : x ≠ "__name__") (hdb : (x == ("__debug__" : Str)) = false)
    (he : backTo pos (starEach [e] X.env) = (false, eval e X.env) :: backTo pos (starEach [] X.env)) (hpl : (backTo pos (starEach [e] X.env)).any (·.1) = false) (he2 : starEach [e] X.env = (false, eval e X.env) :: starEach [] X.env) :
    PE X (.Call (.Name x p) [e] [⟨some "default", ed, kpos⟩] pos) (tE T W (bP (pS dMaxD) (aCons me (aCons md aNil)))) :=
  PE.imp (pe_callBK (cr_maxDf hc hu) hg hm hv (pa_cons ha pa_nil he2) (pk_cons hd pk_nil) hn hdb he hpl) fun σ H Q h => by
    have h := tE_prim2 (prim_S (W := W) (fo_maxD (T := T))) h
    exact tE.mono (fun a H1 k => tE.mono (fun b H2 ⟨x, y, e, q⟩ => by cases e; rw [hK] at q; exact q) k) h
theorem f_maxA {i j : Int} : dMaxB [.int i, .int j] = some (.fr (.int (if j > i then j else i))) := (rfl)
theorem f_maxLB {xs : List D} : dMaxB [.lst xs] = dMax [.lst xs] := (rfl)
theorem f_maxTB {xs : List D} {is : List Int} {i : Int} (h : intsD xs = some is) (k : maxL is = some i) : dMaxB [.tup xs] = some (.fr (.int i)) := by
  show (intsD xs).bind _ = _
  rw [h]
  show (maxL is).map _ = _
  rw [k]; rfl
theorem f_maxTD {xs : List D} {is : List Int} {d : Int} (h : intsD xs = some is) : dMaxD [.tup xs, .int d] = some (.fr (.int ((maxL is).getD d))) := by
  show (intsD xs).map _ = _
  rw [h]; rfl
theorem f_maxLD {xs : List D} {is : List Int} {d : Int} (h : intsD xs = some is) : dMaxD [.lst xs, .int d] = some (.fr (.int ((maxL is).getD d))) := by
  show (intsD xs).map _ = _
  rw [h]; rfl
theorem f_sortL {xs : List D} {is : List Int} (h : intsD xs = some is) : dSort [.lst xs] = some (.ol ((sortI is).map D.int)) := by
  show (intsD xs).map _ = _
  rw [h]; rfl
theorem f_sortT {xs : List D} {is : List Int} (h : intsD xs = some is) : dSort [.tup xs] = some (.ol ((sortI is).map D.int)) := by
  show (intsD xs).map _ = _
  rw [h]; rfl
end Fv

namespace Fv
open PySem PySem.Spec PyProof.Rows L2
/-! ### facts about data that every law uses -/
abbrev iL (p : List Int) : List D := p.map D.int
theorem iLn : iL [] = [] := (rfl)
theorem len_iL (p : List Int) : (iL p).length = p.length := by simp
theorem isi_non_int  : dIsi [.non, .ty "int"] = some (.fr (.bl false)) := f_isi rfl (by decide +kernel)
theorem isi_non_bool  : dIsi [.non, .ty "bool"] = some (.fr (.bl false)) := f_isi rfl (by decide +kernel)
theorem isi_non_str  : dIsi [.non, .ty "str"] = some (.fr (.bl false)) := f_isi rfl (by decide +kernel)
theorem isi_non_list  : dIsi [.non, .ty "list"] = some (.fr (.bl false)) := f_isi rfl (by decide +kernel)
theorem isi_non_tuple  : dIsi [.non, .ty "tuple"] = some (.fr (.bl false)) := f_isi rfl (by decide +kernel)
theorem isi_non_dict  : dIsi [.non, .ty "dict"] = some (.fr (.bl false)) := f_isi rfl (by decide +kernel)
theorem isi_bl_int {b : Bool} : dIsi [(.bl b), .ty "int"] = some (.fr (.bl true)) := f_isi rfl (by decide +kernel)
theorem isi_bl_bool {b : Bool} : dIsi [(.bl b), .ty "bool"] = some (.fr (.bl true)) := f_isi rfl (by decide +kernel)
theorem isi_bl_str {b : Bool} : dIsi [(.bl b), .ty "str"] = some (.fr (.bl false)) := f_isi rfl (by decide +kernel)
theorem isi_bl_list {b : Bool} : dIsi [(.bl b), .ty "list"] = some (.fr (.bl false)) := f_isi rfl (by decide +kernel)
theorem isi_bl_tuple {b : Bool} : dIsi [(.bl b), .ty "tuple"] = some (.fr (.bl false)) := f_isi rfl (by decide +kernel)
theorem isi_bl_dict {b : Bool} : dIsi [(.bl b), .ty "dict"] = some (.fr (.bl false)) := f_isi rfl (by decide +kernel)
theorem isi_int_int {i : Int} : dIsi [(.int i), .ty "int"] = some (.fr (.bl true)) := f_isi rfl (by decide +kernel)
theorem isi_int_bool {i : Int} : dIsi [(.int i), .ty "bool"] = some (.fr (.bl false)) := f_isi rfl (by decide +kernel)
theorem isi_int_str {i : Int} : dIsi [(.int i), .ty "str"] = some (.fr (.bl false)) := f_isi rfl (by decide +kernel)
theorem isi_int_list {i : Int} : dIsi [(.int i), .ty "list"] = some (.fr (.bl false)) := f_isi rfl (by decide +kernel)
theorem isi_int_tuple {i : Int} : dIsi [(.int i), .ty "tuple"] = some (.fr (.bl false)) := f_isi rfl (by decide +kernel)
theorem isi_int_dict {i : Int} : dIsi [(.int i), .ty "dict"] = some (.fr (.bl false)) := f_isi rfl (by decide +kernel)
theorem isi_str_int {x : Str} : dIsi [(.str x), .ty "int"] = some (.fr (.bl false)) := f_isi rfl (by decide +kernel)
theorem isi_str_bool {x : Str} : dIsi [(.str x), .ty "bool"] = some (.fr (.bl false)) := f_isi rfl (by decide +kernel)
theorem isi_str_str {x : Str} : dIsi [(.str x), .ty "str"] = some (.fr (.bl true)) := f_isi rfl (by decide +kernel)
theorem isi_str_list {x : Str} : dIsi [(.str x), .ty "list"] = some (.fr (.bl false)) := f_isi rfl (by decide +kernel)
theorem isi_str_tuple {x : Str} : dIsi [(.str x), .ty "tuple"] = some (.fr (.bl false)) := f_isi rfl (by decide +kernel)
theorem isi_str_dict {x : Str} : dIsi [(.str x), .ty "dict"] = some (.fr (.bl false)) := f_isi rfl (by decide +kernel)
theorem isi_tup_int {xs : List D} : dIsi [(.tup xs), .ty "int"] = some (.fr (.bl false)) := f_isi rfl (by decide +kernel)
theorem isi_tup_bool {xs : List D} : dIsi [(.tup xs), .ty "bool"] = some (.fr (.bl false)) := f_isi rfl (by decide +kernel)
theorem isi_tup_str {xs : List D} : dIsi [(.tup xs), .ty "str"] = some (.fr (.bl false)) := f_isi rfl (by decide +kernel)
theorem isi_tup_list {xs : List D} : dIsi [(.tup xs), .ty "list"] = some (.fr (.bl false)) := f_isi rfl (by decide +kernel)
theorem isi_tup_tuple {xs : List D} : dIsi [(.tup xs), .ty "tuple"] = some (.fr (.bl true)) := f_isi rfl (by decide +kernel)
theorem isi_tup_dict {xs : List D} : dIsi [(.tup xs), .ty "dict"] = some (.fr (.bl false)) := f_isi rfl (by decide +kernel)
theorem isi_lst_int {xs : List D} : dIsi [(.lst xs), .ty "int"] = some (.fr (.bl false)) := f_isi rfl (by decide +kernel)
theorem isi_lst_bool {xs : List D} : dIsi [(.lst xs), .ty "bool"] = some (.fr (.bl false)) := f_isi rfl (by decide +kernel)
theorem isi_lst_str {xs : List D} : dIsi [(.lst xs), .ty "str"] = some (.fr (.bl false)) := f_isi rfl (by decide +kernel)
theorem isi_lst_list {xs : List D} : dIsi [(.lst xs), .ty "list"] = some (.fr (.bl true)) := f_isi rfl (by decide +kernel)
theorem isi_lst_tuple {xs : List D} : dIsi [(.lst xs), .ty "tuple"] = some (.fr (.bl false)) := f_isi rfl (by decide +kernel)
theorem isi_lst_dict {xs : List D} : dIsi [(.lst xs), .ty "dict"] = some (.fr (.bl false)) := f_isi rfl (by decide +kernel)
theorem isi_dic_int {ks : List Key} {xs : List D} : dIsi [(.dic ks xs), .ty "int"] = some (.fr (.bl false)) := f_isi rfl (by decide +kernel)
theorem isi_dic_bool {ks : List Key} {xs : List D} : dIsi [(.dic ks xs), .ty "bool"] = some (.fr (.bl false)) := f_isi rfl (by decide +kernel)
theorem isi_dic_str {ks : List Key} {xs : List D} : dIsi [(.dic ks xs), .ty "str"] = some (.fr (.bl false)) := f_isi rfl (by decide +kernel)
theorem isi_dic_list {ks : List Key} {xs : List D} : dIsi [(.dic ks xs), .ty "list"] = some (.fr (.bl false)) := f_isi rfl (by decide +kernel)
theorem isi_dic_tuple {ks : List Key} {xs : List D} : dIsi [(.dic ks xs), .ty "tuple"] = some (.fr (.bl false)) := f_isi rfl (by decide +kernel)
theorem isi_dic_dict {ks : List Key} {xs : List D} : dIsi [(.dic ks xs), .ty "dict"] = some (.fr (.bl true)) := f_isi rfl (by decide +kernel)
theorem isi_non_lt  : dIsi [.non, .tup [.ty "list", .ty "tuple"]] = some (.fr (.bl false)) := f_isiT (t := "NoneType") rfl (isiL_cons (b := false) (c := false) (by decide +kernel) (isiL_cons (b := false) (c := false) (by decide +kernel) isiL_nil))
theorem isi_bl_lt {b : Bool} : dIsi [(.bl b), .tup [.ty "list", .ty "tuple"]] = some (.fr (.bl false)) := f_isiT (t := "bool") rfl (isiL_cons (b := false) (c := false) (by decide +kernel) (isiL_cons (b := false) (c := false) (by decide +kernel) isiL_nil))
theorem isi_int_lt {i : Int} : dIsi [(.int i), .tup [.ty "list", .ty "tuple"]] = some (.fr (.bl false)) := f_isiT (t := "int") rfl (isiL_cons (b := false) (c := false) (by decide +kernel) (isiL_cons (b := false) (c := false) (by decide +kernel) isiL_nil))
theorem isi_str_lt {x : Str} : dIsi [(.str x), .tup [.ty "list", .ty "tuple"]] = some (.fr (.bl false)) := f_isiT (t := "str") rfl (isiL_cons (b := false) (c := false) (by decide +kernel) (isiL_cons (b := false) (c := false) (by decide +kernel) isiL_nil))
theorem isi_tup_lt {xs : List D} : dIsi [(.tup xs), .tup [.ty "list", .ty "tuple"]] = some (.fr (.bl true)) := f_isiT (t := "tuple") rfl (isiL_cons (b := false) (c := true) (by decide +kernel) (isiL_cons (b := true) (c := false) (by decide +kernel) isiL_nil))
theorem isi_lst_lt {xs : List D} : dIsi [(.lst xs), .tup [.ty "list", .ty "tuple"]] = some (.fr (.bl true)) := f_isiT (t := "list") rfl (isiL_cons (b := true) (c := false) (by decide +kernel) (isiL_cons (b := false) (c := false) (by decide +kernel) isiL_nil))
theorem isi_dic_lt {ks : List Key} {xs : List D} : dIsi [(.dic ks xs), .tup [.ty "list", .ty "tuple"]] = some (.fr (.bl false)) := f_isiT (t := "dict") rfl (isiL_cons (b := false) (c := false) (by decide +kernel) (isiL_cons (b := false) (c := false) (by decide +kernel) isiL_nil))
theorem ints_of : ∀ l : List Int, intsD (iL l) = some l
  | [] => rfl
  | a :: l => by
    show (intsD (iL l)).map (a :: ·) = _
    rw [ints_of l]; rfl
theorem bools_true {α : Type} : ∀ l : List α, boolsD (l.map fun _ => D.bl true) = some (l.map fun _ => true)
  | [] => rfl
  | a :: l => by
    show (boolsD (l.map fun _ => D.bl true)).map (true :: ·) = _
    rw [bools_true l]; rfl
theorem all_yes {α : Type} (l : List α) : dAll [.lst (l.map fun _ => D.bl true)] = some (.fr (.bl true)) := by
  rw [f_all (bools_true l)]
  congr 3
  induction l with
  | nil => rfl
  | cons a l ih => simp
/-! shapes and ==, of rows of ints and of texts -/
theorem pds_iL : ∀ p : List Int, D.pds (iL p) = p.map PyData.int
  | [] => rfl
  | a :: p => by
    show PyData.int a :: D.pds (iL p) = _
    rw [pds_iL p]; rfl
theorem lay_iL : ∀ p : List Int, PyData.canLayAll0 (p.map PyData.int) = true
  | [] => rfl
  | a :: p => by
    show (PyData.canLay0 (.int a) && PyData.canLayAll0 (p.map PyData.int)) = true
    rw [lay_iL p]; rfl
theorem deep_iL : ∀ p : List Int, PyData.depthAll (p.map PyData.int) ≤ 1
  | [] => by simp [PyData.depthAll]
  | a :: p => by
    have := deep_iL p
    simp [PyData.depthAll, PyData.depth]
    omega
theorem shaped_tupI (p : List Int) : SeqAt.shaped (D.tup (iL p)).pd = true := by
  show (PyData.canLay0 (.tuple (D.pds (iL p))) && decide (PyData.depth (.tuple (D.pds (iL p))) ≤ 64)) = true
  rw [pds_iL, show PyData.canLay0 (.tuple (p.map PyData.int)) = true from lay_iL p, decide_eq_true (by have := deep_iL p; simp only [PyData.depth]; omega)]; rfl
theorem shaped_lstI (p : List Int) : SeqAt.shaped (D.lst (iL p)).pd = true := by
  show (PyData.canLay0 (.list (D.pds (iL p))) && decide (PyData.depth (.list (D.pds (iL p))) ≤ 64)) = true
  rw [pds_iL, show PyData.canLay0 (.list (p.map PyData.int)) = true from lay_iL p, decide_eq_true (by have := deep_iL p; simp only [PyData.depth]; omega)]; rfl
theorem eqv_iL : ∀ p q : List Int, PyData.eqvAll (p.map PyData.int) (q.map PyData.int) = decide (p = q)
  | [], [] => rfl
  | [], _ :: _ => rfl
  | _ :: _, [] => rfl
  | a :: p, b :: q => by
    show (PyData.eqv (.int a) (.int b) && PyData.eqvAll (p.map PyData.int) (q.map PyData.int)) = _
    rw [eqv_iL p q, show PyData.eqv (.int a) (.int b) = decide (a = b) from rfl]
    by_cases h : a = b <;> by_cases k : p = q <;> simp [h, k]
theorem eqv_tupI (p q : List Int) : dEqv (.tup (iL p)) (.tup (iL q)) = some (decide (p = q)) := by
  unfold dEqv
  rw [shaped_tupI, shaped_tupI]
  show some (PyData.eqvAll (D.pds (iL p)) (D.pds (iL q))) = _
  rw [pds_iL, pds_iL, eqv_iL]
theorem eqv_lstI (p q : List Int) : dEqv (.lst (iL p)) (.lst (iL q)) = some (decide (p = q)) := by
  unfold dEqv
  rw [shaped_lstI, shaped_lstI]
  show some (PyData.eqvAll (D.pds (iL p)) (D.pds (iL q))) = _
  rw [pds_iL, pds_iL, eqv_iL]
theorem eqv_S {x y : Str} (hx : PyData.strOk x = true) (hy : PyData.strOk y = true) : dEqv (.str x) (.str y) = some (decide (x = y)) := by
  have sh : ∀ z : Str, PyData.strOk z = true → SeqAt.shaped (D.str z).pd = true := fun z h => by
    simp [SeqAt.shaped, D.pd, PyData.canLay0, PyData.depth, h]
  unfold dEqv
  rw [sh x hx, sh y hy]
  rfl
theorem eq_tupI (p q : List Int) : dEq [.tup (iL p), .tup (iL q)] = some (.fr (.bl (decide (p = q)))) := f_eq (eqv_tupI p q)
theorem ne_tupI (p q : List Int) : dNe [.tup (iL p), .tup (iL q)] = some (.fr (.bl (!decide (p = q)))) := f_ne (eqv_tupI p q)
theorem eq_lstI (p q : List Int) : dEq [.lst (iL p), .lst (iL q)] = some (.fr (.bl (decide (p = q)))) := f_eq (eqv_lstI p q)
theorem ne_lstI (p q : List Int) : dNe [.lst (iL p), .lst (iL q)] = some (.fr (.bl (!decide (p = q)))) := f_ne (eqv_lstI p q)
theorem eq_S {x y : Str} (hx : PyData.strOk x = true) (hy : PyData.strOk y = true) : dEq [.str x, .str y] = some (.fr (.bl (decide (x = y)))) := f_eq (eqv_S hx hy)
theorem ne_S {x y : Str} (hx : PyData.strOk x = true) (hy : PyData.strOk y = true) : dNe [.str x, .str y] = some (.fr (.bl (!decide (x = y)))) := f_ne (eqv_S hx hy)
/-- the greatest of a row of ints, or the other -/
theorem maxL_pos (l : List Int) : 0 < (maxL l).getD 0 ↔ ∃ a ∈ l, 0 < a := by
  have f : ∀ (l : List Int) (i : Int), 0 < l.foldl max i ↔ 0 < i ∨ ∃ a ∈ l, 0 < a := fun l => by
    induction l with
    | nil => intro i; simp
    | cons a l ih =>
      intro i
      rw [List.foldl_cons, ih]
      constructor
      · rintro (h | ⟨b, h1, h2⟩)
        · by_cases z : 0 < i
          · exact .inl z
          · exact .inr ⟨a, by simp, by omega⟩
        · exact .inr ⟨b, by simp [h1], h2⟩
      · rintro (h | ⟨b, h1, h2⟩)
        · exact .inl (by omega)
        · rcases List.mem_cons.mp h1 with rfl | h1
          · exact .inl (by omega)
          · exact .inr ⟨b, h1, h2⟩
  cases l with
  | nil => simp [maxL]
  | cons a l =>
    show 0 < l.foldl max a ↔ _
    rw [f]
    simp
/-- xs.pop(n), n a place of it -/
theorem popA {α : Type} {P : α → D} {xs : List α} {n : Int} {i : Nat} {e : En} {Q : R → En → Prop} (h : 0 ≤ n ∧ n < xs.length) (hl : xs.length < 1000000) (q : ∀ l a r, xs = l ++ a :: r → Q (.vl (.fr (P a))) (e.set i (some (.ol ((l ++ r).map P))))) : MtM i Q e (fPopAt (xs.map P) [.int n]) := by
  have hn : n.toNat < xs.length := by omega
  have z : -(2 ^ 63) ≤ n ∧ n < 2 ^ 63 := by omega
  have s : seqIndex? n (xs.map P).length = some n.toNat := by
    rw [List.length_map]
    unfold seqIndex?
    simp
    omega
  have g : (xs.map P)[n.toNat]? = some (P xs[n.toNat]) := by rw [List.getElem?_map, List.getElem?_eq_getElem hn]; rfl
  have e1 : xs = xs.take n.toNat ++ xs[n.toNat] :: xs.drop (n.toNat + 1) := by rw [← List.drop_eq_getElem_cons hn, List.take_append_drop]
  have e2 : (xs.map P).eraseIdx n.toNat = (xs.take n.toNat ++ xs.drop (n.toNat + 1)).map P := by
    rw [List.eraseIdx_eq_take_drop_succ, List.map_append, List.map_take, List.map_drop]
  have f : fPopAt (xs.map P) [.int n] = some ((xs.take n.toNat ++ xs.drop (n.toNat + 1)).map P, P xs[n.toNat]) := by
    unfold fPopAt
    simp only [z, and_self, if_true, s, g, e2, Option.bind_some, Option.map_some]
  rw [f, x_mtm]
  exact q _ _ _ e1
/-! a < b < c -/
section
variable {X : Xn → En → Prop} {e : En} {ma mb mc : En → Ou R} {Q : R → En → Prop} {f g : List D → Option S}
def KHt (X : Xn → En → Prop) (g : List D → Option S) (rb : R) (mc : En → Ou R) (Q : R → En → Prop) (e : En) : Prop := Wo X (mc e) fun rc e3 => Wo X (pS g [rb, rc] e3) Q
def KHg (X : Xn → En → Prop) (g : List D → Option S) (rb : R) (Q : R → En → Prop) : R → En → Prop := fun rc e => Wo X (pS g [rb, rc] e) Q
theorem y_hg {rb rc : R} : KHg X g rb Q rc e = Wo X (pS g [rb, rc] e) Q := (rfl)
theorem y_ht {rb : R} : KHt X g rb mc Q e = Wo X (mc e) (KHg X g rb Q) := (rfl)
def KHr (X : Xn → En → Prop) (g : List D → Option S) (rb : R) (mc : En → Ou R) (Q : R → En → Prop) : R → En → Prop
  | .vl (.fr (.bl b)), e => (b = true → KHt X g rb mc Q e) ∧ (b = false → Q (.vl (.fr (.bl false))) e)
  | _, _ => False
theorem y_hr {rb : R} {p : Prop} [Decidable p] : KHr X g rb mc Q (.vl (.fr (.bl (decide p)))) e = ((p → KHt X g rb mc Q e) ∧ (¬ p → Q (.vl (.fr (.bl false))) e)) := by
  show ((decide p = true → _) ∧ (decide p = false → _)) = _
  rw [decide_eq_true_eq, decide_eq_false_iff_not]
theorem y_hrt {rb : R} : KHr X g rb mc Q (.vl (.fr (.bl true))) e = KHt X g rb mc Q e := by
  show ((true = true → _) ∧ (true = false → _)) = _
  simp
theorem y_hrf {rb : R} : KHr X g rb mc Q (.vl (.fr (.bl false))) e = Q (.vl (.fr (.bl false))) e := by
  show ((false = true → _) ∧ (false = false → _)) = _
  simp
def KHb (X : Xn → En → Prop) (f g : List D → Option S) (ra : R) (mc : En → Ou R) (Q : R → En → Prop) : R → En → Prop := fun rb e => Wo X (pS f [ra, rb] e) (KHr X g rb mc Q)
theorem y_hb {ra rb : R} : KHb X f g ra mc Q rb e = Wo X (pS f [ra, rb] e) (KHr X g rb mc Q) := (rfl)
def KHa (X : Xn → En → Prop) (f g : List D → Option S) (mb mc : En → Ou R) (Q : R → En → Prop) : R → En → Prop := fun ra e => Wo X (mb e) (KHb X f g ra mc Q)
theorem y_ha {ra : R} : KHa X f g mb mc Q ra e = Wo X (mb e) (KHb X f g ra mc Q) := (rfl)
theorem chainG {op op' : CmpOp} (hf : dCmp op = some f) (hg : dCmp op' = some g) : Wo X (bChain op op' ma mb mc e) Q = Wo X (ma e) (KHa X f g mb mc Q) := by
  unfold bChain
  rw [hf, hg]
  cases ma e with
  | no => rfl
  | ex x e1 => rfl
  | ok ra e1 =>
    simp only [Wo, KHa]
    cases mb e1 with
    | no => rfl
    | ex x e2 => rfl
    | ok rb e2 =>
      simp only [KHb, pS, pks]
      cases h1 : pk e2 ra with
      | none => rfl
      | some sa =>
        cases h2 : pk e2 rb with
        | none => rfl
        | some sb =>
          simp only [List.map_cons, List.map_nil]
          cases f [sa.d, sb.d] with
          | none => rfl
          | some s => cases s with
            | fr d => cases d with
              | bl b =>
                cases b
                · simp [KHr, Wo]
                · simp only [KHr, Wo, KHt, pS, pks, true_implies, Bool.true_eq_false, false_implies, and_true]
                  cases mc e2 <;> rfl
              | _ => rfl
            | _ => rfl
theorem y_chain1 : Wo X (bChain .LtE .LtE ma mb mc e) Q = Wo X (ma e) (KHa X dLe dLe mb mc Q) := chainG rfl rfl
theorem y_chain2 : Wo X (bChain .LtE .Lt ma mb mc e) Q = Wo X (ma e) (KHa X dLe dLt mb mc Q) := chainG rfl rfl
theorem y_chain3 : Wo X (bChain .Lt .LtE ma mb mc e) Q = Wo X (ma e) (KHa X dLt dLe mb mc Q) := chainG rfl rfl
theorem y_chain4 : Wo X (bChain .Lt .Lt ma mb mc e) Q = Wo X (ma e) (KHa X dLt dLt mb mc Q) := chainG rfl rfl
end
end Fv

namespace Fv
open PySem PySem.Spec PyProof.Rows L2
/-! ### ==, in: of all plain data without truths -/
mutual
/-- plain, without truths, at most n deep -/
def D.pn : D → Nat → Bool
  | .non, _ => true
  | .int _, _ => true
  | .str x, _ => PyData.strOk x
  | .tup xs, n => decide (0 < n) && D.pns xs (n - 1)
  | .lst xs, n => decide (0 < n) && D.pns xs (n - 1)
  | .bl _, _ => false
  | .dic _ _, _ => false
  | .ins _ _ _, _ => false
  | .fn _, _ => false
  | .ty _, _ => false
def D.pns : List D → Nat → Bool
  | [], _ => true
  | x :: xs, n => D.pn x n && D.pns xs n
end
mutual
theorem pn_lay : ∀ {d : D} {n : Nat}, D.pn d n = true → PyData.canLay0 d.pd = true ∧ PyData.depth d.pd ≤ n
  | .non, _, _ => by simp [D.pd, PyData.canLay0, PyData.depth]
  | .int _, _, _ => by simp [D.pd, PyData.canLay0, PyData.depth]
  | .str x, _, h => by simp only [D.pn] at h; simp [D.pd, PyData.canLay0, PyData.depth, h]
  | .tup xs, n, h => by
    simp only [D.pn, Bool.and_eq_true, decide_eq_true_eq] at h
    have := pns_lay h.2
    simp only [D.pd, PyData.canLay0, PyData.depth]
    exact ⟨this.1, by omega⟩
  | .lst xs, n, h => by
    simp only [D.pn, Bool.and_eq_true, decide_eq_true_eq] at h
    have := pns_lay h.2
    simp only [D.pd, PyData.canLay0, PyData.depth]
    exact ⟨this.1, by omega⟩
  | .bl _, _, h => by simp [D.pn] at h
  | .dic _ _, _, h => by simp [D.pn] at h
  | .ins _ _ _, _, h => by simp [D.pn] at h
  | .fn _, _, h => by simp [D.pn] at h
  | .ty _, _, h => by simp [D.pn] at h
theorem pns_lay : ∀ {ds : List D} {n : Nat}, D.pns ds n = true → PyData.canLayAll0 (D.pds ds) = true ∧ PyData.depthAll (D.pds ds) ≤ n
  | [], _, _ => by simp [D.pds, PyData.canLayAll0, PyData.depthAll]
  | x :: xs, n, h => by
    simp only [D.pns, Bool.and_eq_true] at h
    have h1 := pn_lay h.1
    have h2 := pns_lay h.2
    simp only [D.pds, PyData.canLayAll0, PyData.depthAll, h1.1, h2.1, Bool.and_self, true_and]
    omega
end
mutual
theorem pn_eqv : ∀ {a b : D} {n m : Nat}, D.pn a n = true → D.pn b m = true → (PyData.eqv a.pd b.pd = true ↔ a = b)
  | .non, b, _, _, _, h => by cases b <;> simp_all [D.pd, PyData.eqv, D.pn]
  | .int i, b, _, _, _, h => by cases b <;> simp_all [D.pd, PyData.eqv, D.pn]
  | .str x, b, _, _, _, h => by cases b <;> simp_all [D.pd, PyData.eqv, D.pn]
  | .tup xs, .tup ys, n, m, h1, h2 => by
    simp only [D.pn, Bool.and_eq_true, decide_eq_true_eq] at h1 h2
    simp only [D.pd, PyData.eqv, D.tup.injEq]
    exact pns_eqv h1.2 h2.2
  | .lst xs, .lst ys, n, m, h1, h2 => by
    simp only [D.pn, Bool.and_eq_true, decide_eq_true_eq] at h1 h2
    simp only [D.pd, PyData.eqv, D.lst.injEq]
    exact pns_eqv h1.2 h2.2
  | .tup xs, .non, _, _, _, _ => by simp [D.pd, PyData.eqv]
  | .tup xs, .int _, _, _, _, _ => by simp [D.pd, PyData.eqv]
  | .tup xs, .str _, _, _, _, _ => by simp [D.pd, PyData.eqv]
  | .tup xs, .lst _, _, _, _, _ => by simp [D.pd, PyData.eqv]
  | .lst xs, .non, _, _, _, _ => by simp [D.pd, PyData.eqv]
  | .lst xs, .int _, _, _, _, _ => by simp [D.pd, PyData.eqv]
  | .lst xs, .str _, _, _, _, _ => by simp [D.pd, PyData.eqv]
  | .lst xs, .tup _, _, _, _, _ => by simp [D.pd, PyData.eqv]
  | .tup _, .bl _, _, _, _, h => by simp [D.pn] at h
  | .tup _, .dic _ _, _, _, _, h => by simp [D.pn] at h
  | .tup _, .ins _ _ _, _, _, _, h => by simp [D.pn] at h
  | .tup _, .fn _, _, _, _, h => by simp [D.pn] at h
  | .tup _, .ty _, _, _, _, h => by simp [D.pn] at h
  | .lst _, .bl _, _, _, _, h => by simp [D.pn] at h
  | .lst _, .dic _ _, _, _, _, h => by simp [D.pn] at h
  | .lst _, .ins _ _ _, _, _, _, h => by simp [D.pn] at h
  | .lst _, .fn _, _, _, _, h => by simp [D.pn] at h
  | .lst _, .ty _, _, _, _, h => by simp [D.pn] at h
  | .bl _, _, _, _, h, _ => by simp [D.pn] at h
  | .dic _ _, _, _, _, h, _ => by simp [D.pn] at h
  | .ins _ _ _, _, _, _, h, _ => by simp [D.pn] at h
  | .fn _, _, _, _, h, _ => by simp [D.pn] at h
  | .ty _, _, _, _, h, _ => by simp [D.pn] at h
theorem pns_eqv : ∀ {xs ys : List D} {n m : Nat}, D.pns xs n = true → D.pns ys m = true → (PyData.eqvAll (D.pds xs) (D.pds ys) = true ↔ xs = ys)
  | [], [], _, _, _, _ => by simp [D.pds, PyData.eqvAll]
  | [], _ :: _, _, _, _, _ => by simp [D.pds, PyData.eqvAll]
  | _ :: _, [], _, _, _, _ => by simp [D.pds, PyData.eqvAll]
  | x :: xs, y :: ys, n, m, h1, h2 => by
    simp only [D.pns, Bool.and_eq_true] at h1 h2
    simp only [D.pds, PyData.eqvAll, Bool.and_eq_true, List.cons.injEq]
    rw [pn_eqv h1.1 h2.1, pns_eqv h1.2 h2.2]
end
noncomputable def dceq {α : Type} (a b : α) : Bool := @decide (a = b) (Classical.propDecidable _)
theorem dceq_true {α : Type} {a b : α} : dceq a b = true ↔ a = b := by unfold dceq; exact @decide_eq_true_iff _ (Classical.propDecidable _)
theorem shaped_pn {a : D} {n : Nat} (h : D.pn a n = true) (hn : n ≤ 64) : SeqAt.shaped a.pd = true := by
  have := pn_lay h
  simp only [SeqAt.shaped, this.1, Bool.true_and, decide_eq_true_eq]
  omega
theorem eqv_P {a b : D} (h1 : D.pn a 60 = true) (h2 : D.pn b 60 = true) : dEqv a b = some (@decide (a = b) (Classical.propDecidable _)) := by
  unfold dEqv
  rw [shaped_pn h1 (by omega), shaped_pn h2 (by omega)]
  simp only [Bool.and_self, if_true, Option.some.injEq]
  rw [Bool.eq_iff_iff, pn_eqv h1 h2]
  exact (@decide_eq_true_iff _ (Classical.propDecidable _)).symm
theorem eq_P {a b : D} (h1 : D.pn a 60 = true) (h2 : D.pn b 60 = true) : dEq [a, b] = some (.fr (.bl (@decide (a = b) (Classical.propDecidable _)))) := f_eq (eqv_P h1 h2)
theorem ne_P {a b : D} (h1 : D.pn a 60 = true) (h2 : D.pn b 60 = true) : dNe [a, b] = some (.fr (.bl (!@decide (a = b) (Classical.propDecidable _)))) := f_ne (eqv_P h1 h2)
theorem eq_Pt {a b : D} (h1 : D.pn a 60 = true) (h : a = b) : dEq [a, b] = some (.fr (.bl true)) := by
  subst h; rw [eq_P h1 h1]; simp
theorem eq_Pf {a b : D} (h1 : D.pn a 60 = true) (h2 : D.pn b 60 = true) (h : a ≠ b) : dEq [a, b] = some (.fr (.bl false)) := by
  rw [eq_P h1 h2]; simp [h]
theorem ne_Pt {a b : D} (h1 : D.pn a 60 = true) (h : a = b) : dNe [a, b] = some (.fr (.bl false)) := by
  subst h; rw [ne_P h1 h1]; simp
theorem ne_Pf {a b : D} (h1 : D.pn a 60 = true) (h2 : D.pn b 60 = true) (h : a ≠ b) : dNe [a, b] = some (.fr (.bl true)) := by
  rw [ne_P h1 h2]; simp [h]
theorem pns_all {ds : List D} {n : Nat} : D.pns ds n = true ↔ ∀ d ∈ ds, D.pn d n = true := by
  induction ds with
  | nil => simp [D.pns]
  | cons d ds ih => simp [D.pns, ih]
theorem pn_tup {xs : List D} {n : Nat} (h : ∀ d ∈ xs, D.pn d n = true) : D.pn (.tup xs) (n + 1) = true := by
  simp only [D.pn, Bool.and_eq_true, decide_eq_true_eq]; exact ⟨by omega, pns_all.mpr h⟩
theorem pn_lst {xs : List D} {n : Nat} (h : ∀ d ∈ xs, D.pn d n = true) : D.pn (.lst xs) (n + 1) = true := by
  simp only [D.pn, Bool.and_eq_true, decide_eq_true_eq]; exact ⟨by omega, pns_all.mpr h⟩
mutual
theorem pn_mono : ∀ {d : D} {n m : Nat}, D.pn d n = true → n ≤ m → D.pn d m = true
  | .non, _, _, _, _ => by simp [D.pn]
  | .int _, _, _, _, _ => by simp [D.pn]
  | .str x, _, _, h, _ => by simpa [D.pn] using h
  | .tup xs, n, m, h, k => by
    simp only [D.pn, Bool.and_eq_true, decide_eq_true_eq] at h ⊢
    exact ⟨by omega, pns_mono h.2 (by omega)⟩
  | .lst xs, n, m, h, k => by
    simp only [D.pn, Bool.and_eq_true, decide_eq_true_eq] at h ⊢
    exact ⟨by omega, pns_mono h.2 (by omega)⟩
  | .bl _, _, _, h, _ => by simp [D.pn] at h
  | .dic _ _, _, _, h, _ => by simp [D.pn] at h
  | .ins _ _ _, _, _, h, _ => by simp [D.pn] at h
  | .fn _, _, _, h, _ => by simp [D.pn] at h
  | .ty _, _, _, h, _ => by simp [D.pn] at h
theorem pns_mono : ∀ {ds : List D} {n m : Nat}, D.pns ds n = true → n ≤ m → D.pns ds m = true
  | [], _, _, _, _ => by simp [D.pns]
  | x :: xs, n, m, h, k => by
    simp only [D.pns, Bool.and_eq_true] at h ⊢
    exact ⟨pn_mono h.1 k, pns_mono h.2 k⟩
end
theorem pn_iL {p : List Int} {n : Nat} : D.pn (.tup (iL p)) (n + 1) = true := pn_tup fun d hd => by
  obtain ⟨a, _, rfl⟩ := List.mem_map.mp hd
  simp [D.pn]
theorem pn_iLl {p : List Int} {n : Nat} : D.pn (.lst (iL p)) (n + 1) = true := pn_lst fun d hd => by
  obtain ⟨a, _, rfl⟩ := List.mem_map.mp hd
  simp [D.pn]
theorem iL_inj {p q : List Int} : iL p = iL q ↔ p = q := by
  refine ⟨fun h => ?_, fun h => by rw [h]⟩
  exact List.map_inj_right (fun a b e => by cases e; rfl) |>.mp h
/-- x in row -/
theorem any_pn {a : D} {n m : Nat} (ha : D.pn a n = true) : ∀ {ds : List D}, D.pns ds m = true → ((D.pds ds).any fun z => PyData.eqv z a.pd) = @decide (a ∈ ds) (Classical.propDecidable _)
  | [], _ => by simp [D.pds]
  | d :: ds, h => by
    simp only [D.pns, Bool.and_eq_true] at h
    simp only [D.pds, List.any_cons]
    rw [any_pn ha h.2]
    have := pn_eqv h.1 ha
    rw [Bool.eq_iff_iff, Bool.or_eq_true, this]
    simp only [List.mem_cons, @decide_eq_true_iff _ (Classical.propDecidable _)]
    exact or_congr ⟨Eq.symm, Eq.symm⟩ Iff.rfl
theorem in_L {a : D} {ds : List D} (ha : D.pn a 60 = true) (hd : D.pns ds 59 = true) : dIn false [a, .lst ds] = some (.fr (.bl (@decide (a ∈ ds) (Classical.propDecidable _)))) := by
  have h2 : D.pn (.lst ds) 60 = true := by simp [D.pn, hd]
  show (if SeqAt.shaped a.pd && SeqAt.shaped (D.lst ds).pd then some (S.fr (.bl ((D.pds ds).any fun z => PyData.eqv z a.pd))) else none) = _
  rw [shaped_pn ha (by omega), shaped_pn h2 (by omega), any_pn ha hd]; rfl
theorem in_T {a : D} {ds : List D} (ha : D.pn a 60 = true) (hd : D.pns ds 59 = true) : dIn false [a, .tup ds] = some (.fr (.bl (@decide (a ∈ ds) (Classical.propDecidable _)))) := by
  have h2 : D.pn (.tup ds) 60 = true := by simp [D.pn, hd]
  show (if SeqAt.shaped a.pd && SeqAt.shaped (D.tup ds).pd then some (S.fr (.bl ((D.pds ds).any fun z => PyData.eqv z a.pd))) else none) = _
  rw [shaped_pn ha (by omega), shaped_pn h2 (by omega), any_pn ha hd]; rfl
theorem nin_L {a : D} {ds : List D} (ha : D.pn a 60 = true) (hd : D.pns ds 59 = true) : dIn true [a, .lst ds] = some (.fr (.bl (!@decide (a ∈ ds) (Classical.propDecidable _)))) := by
  have h2 : D.pn (.lst ds) 60 = true := by simp [D.pn, hd]
  show (if SeqAt.shaped a.pd && SeqAt.shaped (D.lst ds).pd then some (S.fr (.bl (!(D.pds ds).any fun z => PyData.eqv z a.pd))) else none) = _
  rw [shaped_pn ha (by omega), shaped_pn h2 (by omega), any_pn ha hd]; rfl
theorem nin_T {a : D} {ds : List D} (ha : D.pn a 60 = true) (hd : D.pns ds 59 = true) : dIn true [a, .tup ds] = some (.fr (.bl (!@decide (a ∈ ds) (Classical.propDecidable _)))) := by
  have h2 : D.pn (.tup ds) 60 = true := by simp [D.pn, hd]
  show (if SeqAt.shaped a.pd && SeqAt.shaped (D.tup ds).pd then some (S.fr (.bl (!(D.pds ds).any fun z => PyData.eqv z a.pd))) else none) = _
  rw [shaped_pn ha (by omega), shaped_pn h2 (by omega), any_pn ha hd]; rfl
/-- a comprehension with a test over a row told by P; the body leaves all as it was -/
theorem K_filterA {g : S → En → Fl} {t : En → Ou Bool} {m : En → Ou R} {Q : R → En → Prop} {e1 : En} {α : Type} {p : List α} {P F : α → D} {Tp : α → Bool} {vs : List Nat} (hl : p.length < 16777216) (hv : ∀ v ∈ vs, e1[v]? = some none)
    (hs : ∀ a ∈ p, ∀ (I : List D → List D → En → Prop) (ds' acc : List D), (Tp a = true → I ds' (acc ++ [F a]) e1) → (Tp a = false → I ds' acc e1) → Wf noX (g (.fr (P a)) e1) (fun e2 => Wo noX (t e2) (KTs m I vs ds' acc)) (fun _ _ => False))
    (hN : Q (.vl (.ol ((p.filter Tp).map F))) e1) : KLc g t m vs Q (p.map P) e1 := by
  refine K_filter (fun ds acc e => ∃ l r, l ++ r = p ∧ ds = r.map P ∧ acc = (l.filter Tp).map F ∧ e = e1) (by rw [List.length_map]; exact hl) hv ⟨[], p, rfl, rfl, rfl, rfl⟩ ?_ ?_
  · rintro d ds' acc e ⟨l, r, h1, h2, h3, rfl⟩
    cases r with
    | nil => cases h2
    | cons a r =>
      cases h2
      refine hs a (by rw [← h1]; simp) _ _ _ (fun ht => ⟨l ++ [a], r, by rw [← h1]; simp, rfl, by rw [h3]; simp [ht], rfl⟩) fun ht => ⟨l ++ [a], r, by rw [← h1]; simp, rfl, by rw [h3]; simp [ht], rfl⟩
  · rintro acc e ⟨l, r, h1, h2, h3, rfl⟩
    refine ⟨hv, ?_⟩
    have : r = [] := by cases r with
      | nil => rfl
      | cons a r => cases h2
    subst this
    rw [List.append_nil] at h1
    rw [h3, h1]
    exact hN
theorem rngD0 (n : Nat) : rngD 0 n = (List.range n).map fun (i : Nat) => D.int i := by unfold rngD; simp
theorem enumD_map {α : Type} (P : α → D) : ∀ (l : List α) (k : Nat), enumD k (l.map P) = (l.zipIdx k).map fun (x : α × Nat) => D.tup [.int x.2, P x.1]
  | [], k => rfl
  | a :: l, k => by
    have := enumD_map P l (k + 1)
    simp only [List.map_cons, List.zipIdx_cons]
    rw [← this]; rfl
end Fv

/-! ### exceptions: raise, try with several clauses (with or without a name) -/
namespace L2
open PySem PySem.Spec PyProof.Rows
structure Hd where
  c : Value
  i : Option Nat
  ts : Addr → Value → Option Addr → TS
/-- the wish of a suite, its name's slot being i -/
def unAs (i : Nat) (D : Ends) : Ends := { nx := fun σ' H' => D.nx (σ'.set i none) H', rt := D.rt, bk := fun σ' H' => D.bk (σ'.set i none) H', ct := fun σ' H' => D.ct (σ'.set i none) H' }
def Hd.go (h : Hd) (a : Addr) (cls : Value) (d : Option Addr) (D : Ends) (σ : St) (H : Hp) : Prop := match h.i with
  | none => h.ts a cls d D σ H
  | some i => h.ts a cls d (unAs i D) (σ.set i (some (.ref a))) H
def wAll (K : PySem.W.Frag) (Wout : WX) (D : Ends) : List Hd → WX
  | [] => Wout
  | h :: r => fun cls d σ H => ∃ b, PySem.W.exmOne K cls h.c = some b ∧ (b = true → ∀ a, H a = none → h.go a cls d D σ H) ∧ (b = false → wAll K Wout D r cls d σ H)
inductive HdsA (X : Cx) : List ExceptHandler → List Hd → Prop
  | nil : HdsA X [] []
  | cons {x : Str} {c : Value} {ts : Addr → Value → Option Addr → TS} {b₀ : Stmt} {suite : List Stmt} {np pos' : Pos} {hds : List ExceptHandler} {l : List Hd} (hc : Names X x c)
      (hsu : ∀ (a : Addr) (oe : Obj) (cls : Value) (d : Option Addr) (pn : List (Addr × Obj)), L2N.Zn cls d oe → (∃ vs, oe.data = .fields vs) → PSs (X.suite a ((a, oe) :: pn)) (b₀ :: suite) (ts a cls d)) (r : HdsA X hds l) :
      HdsA X (.ExceptHandler (some (.Name x np)) none (b₀ :: suite) pos' :: hds) (⟨c, none, ts⟩ :: l)
  | consAs {x n : Str} {i : Nat} {c : Value} {ts : Addr → Value → Option Addr → TS} {b₀ : Stmt} {suite : List Stmt} {np pos' : Pos} {hds : List ExceptHandler} {l : List Hd} (hc : Names X x c) (hi : X.N[i]? = some n) (hln : X.env.kindOf n = some .local)
      (hsu : ∀ (a : Addr) (oe : Obj) (cls : Value) (d : Option Addr) (pn : List (Addr × Obj)), L2N.Zn cls d oe → (∃ vs, oe.data = .fields vs) → PSs (X.suite a ((a, oe) :: pn)) (b₀ :: suite) (ts a cls d)) (r : HdsA X hds l) :
      HdsA X (.ExceptHandler (some (.Name x np)) (some n) (b₀ :: suite) pos' :: hds) (⟨c, some i, ts⟩ :: l)
section
variable {X : Cx} {body : List Stmt} {h₀ : ExceptHandler} {hds : List ExceptHandler} {l : List Hd} {pos : Pos} {tb : WX → TS} {Wout : WX}
theorem ps_try_all (hs : X.stack = X.env :: X.outer) (hf : X.env.frame = some X.env.locals) (hN : X.N.Nodup) (tk : L2N.Takes X Wout)
    (hb : ∀ (W : WX) (pn : List (Addr × Obj)) (xe : Value → Shared → Prop), L2N.Takes (X.tr pn xe) W → PassesOwn (model X.prog X.w) X.A X.env xe → PSs (X.tr pn xe) body (tb W))
    (hh : HdsA X (h₀ :: hds) l) : PS X (.Try body (h₀ :: hds) [] [] pos) (fun D σ H => tb (wAll X.K Wout D l) D σ H) := by
  refine ⟨fun pins s σ H D I h => ?_⟩
  have ok := I.ok
  have hfr : X.A.frames = some (X.env :: X.outer) := by rw [ok.frames, hs]
  refine wpAny_Try_except ?_
  refine wpAny_mono ((hb (wAll X.K Wout D l) (X.pn ++ pins) (fun e s₁ => wpAny (model X.prog X.w) X.A (noteFrame e X.env) (fun _ s₂ => wpAny (model X.prog X.w) X.A (setFlight e none) (fun _ s₃ =>
    wpAny (model X.prog X.w) X.A (handleBy e X.env (h₀ :: hds)) (SP X pins D) X.xe s₃) X.xe s₂) X.xe s₁) (fun u s' xx => ?_) PassesOwn.looking).run [] s σ H D (I.toTry _) h) (fun f s1 hsp => ?_) (fun e s1 he => he)
  · -- the catch
    obtain ⟨a, B, sI, pins', σ', H', cls, d, rfl, J', nb, up, sky, na, os, ag, w⟩ := xx
    have J : Inv X pins σ' H' sI := J'.ofTry ok
    have sky' : Sky B (X.env :: X.outer) a (L2N.Zn cls d) X.env.locals s'.heap := by rw [← hs]; exact sky
    show wpAny (model X.prog X.w) X.A (noteFrame (.ref a) X.env) _ _ _
    refine L2N.Sky.land L2N.Zn.steady hfr hf sky' fun h3 fl3 up3 => ?_
    have J3 : Inv X pins σ' H' { s' with heap := h3 } := J.landed nb fl3.1 (up.trans up3) os ag
    obtain ⟨oe3, vs3, he3, hz3, hd3⟩ := fl3.there
    have notFr : ∀ {h : Heap} {o : Obj} {vs : Array Value}, h.FunFrames B (X.env :: X.outer) → h.get? a = some o → o.data = .fields vs → a ∉ frs (X.env :: X.outer) := fun {h o vs} ff e dd hm => by
      obtain ⟨_, o', e', hnf⟩ := ff.mem hm
      rw [e] at e'; cases e'
      exact hnf _ dd
    have nfr := notFr fl3.2.2.1 he3 hd3
    have nL : a ≠ X.env.locals := fun z => nfr (List.mem_filterMap.mpr ⟨X.env, List.mem_cons_self, by rw [hf, z]⟩)
    have nF : a ∉ X.fs := fun hm => by
      obtain ⟨e, he, q⟩ := List.mem_filterMap.mp hm
      exact nfr (List.mem_filterMap.mpr ⟨e, List.mem_cons_of_mem _ he, q⟩)
    have S3 := J3.suite he3 hd3 na nL nF
    have LT : PySem.W.Looks (model X.prog X.w) h3 (typeOf (.ref a)) cls := fun A Q E s k q => wpAny_typeOf_ref (k _ _ he3) (by rw [hz3.1]; exact q)
    have go : ∀ {hds' : List ExceptHandler} {l' : List Hd}, HdsA X hds' l' → wAll X.K Wout D l' cls d σ' H' →
        wpAny (model X.prog X.w) X.A (handleBy (.ref a) X.env hds') (SP X pins D) X.xe { s' with heap := h3 } := by
      intro hds' l' hk
      induction hk with
      | nil =>
        intro w
        refine wpAny_handleBy_nil ?_
        obtain ⟨k1, k2, k3, oe, vs, T, oT, ts', he, hz, hd, h1, hr⟩ := id fl3
        unfold PySem.passOn
        refine wpAny_bind (wpAny_field he hd h1 ?_)
        rw [if_neg (show ¬ ((Value.ref T == Value.none) = true) from by simp)]
        have fin : wpAny (model X.prog X.w) X.A (setFlight (.ref a) X.env.frame) (fun _ s4 => wpAny (model X.prog X.w) X.A (throw (.ref a) : Sem Flow) (SP X pins D) X.xe s4) X.xe { s' with heap := h3 } := by
          rw [hf]
          refine HandSPX.setFlight_upZ fl3 fun h4 hh4 up4 => wpAny_throw (tk _ _ ?_)
          exact ⟨a, B, sI, pins, σ', H', cls, d, rfl, J, nb, (up.trans up3).trans up4, .inr (.inr (by rw [hs]; exact hh4)), na, os, ag, w⟩
        first
          | exact wpAny_bind (wpAny_pure (wpAny_bind fin))
          | exact wpAny_bind fin
      | @cons x c ts b₀ suite np pos' hds2 l2 hc hsu r ih =>
        intro w
        obtain ⟨b, hb1, hyes, hno⟩ := w
        refine wpAny_handleBy_cons (codeAny_handlers_test ?_) (by intro q; cases q)
        have LM := PySem.W.exm_one (M := model X.prog X.w) (J3.kIn) LT hb1
        have test : ∀ {Q : Value → Shared → Prop} {E : Value → Shared → Prop}, Q c { s' with heap := h3 } → wpAny (model X.prog X.w) (X.A.mark (some (.ref a))) (eval (.Name x np) X.env) Q E { s' with heap := h3 } := fun {Q E} q => by
          obtain ⟨hg, hdbg, hm | ⟨hm, hv, hnn⟩⟩ := hc
          · exact ld_glob (X := X.suite a ((a, oe3) :: (X.pn ++ pins))) S3 hg hm q hdbg
          · exact ld_blt (X := X.suite a ((a, oe3) :: (X.pn ++ pins))) S3 hg hm hv q hnn hdbg
        refine test (LM.here ?_)
        cases b with
        | true =>
          refine codeAny_handlers_suite ?_
          refine HandSPX.lands_againZ fl3 fun h4 fl4 up4 => ?_
          have J4 : Inv X pins σ' H' { s' with heap := h4 } := J.landed nb fl4.1 ((up.trans up3).trans up4) os ag
          obtain ⟨oe4, vs4, he4, hz4, hd4⟩ := fl4.there
          have S4 := J4.suite he4 hd4 na nL nF
          refine wpAny_mono ((hsu a oe4 cls d (X.pn ++ pins) hz4 ⟨_, hd4⟩).run [] _ _ H' _ S4 (hyes rfl a na)) (fun f s6 hsp => ?_) (fun _ _ z => False.elim z)
          cases f with
          | next =>
            obtain ⟨σ6, H6, S6, q6⟩ := hsp
            exact ⟨_, _, S6.unsuite ok, q6⟩
          | brk =>
            obtain ⟨σ6, H6, S6, q6⟩ := hsp
            exact ⟨_, _, S6.unsuite ok, q6⟩
          | cont =>
            obtain ⟨σ6, H6, S6, q6⟩ := hsp
            exact ⟨_, _, S6.unsuite ok, q6⟩
          | ret u =>
            obtain ⟨v6, σ6, H6, S6, r6, q6⟩ := hsp
            exact ⟨_, _, _, S6.unsuite ok, r6, q6⟩
        | false =>
          show wpAny _ X.A (handleBy (.ref a) X.env hds2) _ _ _
          exact ih (hno rfl)
      | @consAs x n i c ts b₀ suite np pos' hds2 l2 hc hi hln hsu r ih =>
        intro w
        obtain ⟨b, hb1, hyes, hno⟩ := w
        have hloc : Loc X.env.scope n := .inl hln
        refine wpAny_handleBy_cons (codeAny_handlers_test ?_) (by intro q; cases q)
        have LM := PySem.W.exm_one (M := model X.prog X.w) (J3.kIn) LT hb1
        have test : ∀ {Q : Value → Shared → Prop} {E : Value → Shared → Prop}, Q c { s' with heap := h3 } → wpAny (model X.prog X.w) (X.A.mark (some (.ref a))) (eval (.Name x np) X.env) Q E { s' with heap := h3 } := fun {Q E} q => by
          obtain ⟨hg, hdbg, hm | ⟨hm, hv, hnn⟩⟩ := hc
          · exact ld_glob (X := X.suite a ((a, oe3) :: (X.pn ++ pins))) S3 hg hm q hdbg
          · exact ld_blt (X := X.suite a ((a, oe3) :: (X.pn ++ pins))) S3 hg hm hv q hnn hdbg
        refine test (LM.here ?_)
        cases b with
        | true =>
          refine codeAny_handlers_suite_as ?_
          refine HandSPX.lands_againZ fl3 fun h4 fl4 up4 => ?_
          have J4 : Inv X pins σ' H' { s' with heap := h4 } := J.landed nb fl4.1 ((up.trans up3).trans up4) os ag
          obtain ⟨oe4, vs4, he4, hz4, hd4⟩ := fl4.there
          have S4 := J4.suite he4 hd4 na nL nF
          refine store_ok (X := X.suite a ((a, oe4) :: (X.pn ++ pins))) (v := .ref a) S4 hN hi hloc rfl (fun s5 S5 => ?_) (.inr hln)
          refine wpAny_mono ((hsu a oe4 cls d (X.pn ++ pins) hz4 ⟨_, hd4⟩).run [] s5 _ H' _ S5 (hyes rfl a na)) (fun f s6 hsp => ?_) (fun _ _ z => False.elim z)
          have end_ : ∀ {σ6 : St} {H6 : Hp} {Q : Shared → Prop}, Inv (X.suite a ((a, oe4) :: (X.pn ++ pins))) [] σ6 H6 s6 → (∀ s7, Inv X pins (σ6.set i none) H6 s7 → Q s7) →
              wpAny (model X.prog X.w) X.A (do bindName X.env n .none; unbindBehindTheSuite X.env n pos') (fun _ s7 => Q s7) X.xe s6 := fun {σ6 H6 Q} S6 hq => gone_ok (S6.unsuite ok) hN hi hln hq
          cases f with
          | next =>
            obtain ⟨σ6, H6, S6, q6⟩ := hsp
            exact end_ S6 fun s7 J7 => ⟨_, _, J7, q6⟩
          | brk =>
            obtain ⟨σ6, H6, S6, q6⟩ := hsp
            exact end_ S6 fun s7 J7 => ⟨_, _, J7, q6⟩
          | cont =>
            obtain ⟨σ6, H6, S6, q6⟩ := hsp
            exact end_ S6 fun s7 J7 => ⟨_, _, J7, q6⟩
          | ret u =>
            obtain ⟨v6, σ6, H6, S6, r6, q6⟩ := hsp
            exact end_ S6 fun s7 J7 => ⟨_, _, _, J7, r6, q6⟩
        | false =>
          show wpAny _ X.A (handleBy (.ref a) X.env hds2) _ _ _
          exact ih (hno rfl)
    exact go hh w
  · cases f with
    | next =>
      obtain ⟨σ', H', J', q⟩ := hsp
      exact wpAny_execs_nil ⟨σ', H', J'.ofTry ok, q⟩
    | brk =>
      obtain ⟨σ', H', J', q⟩ := hsp
      exact ⟨σ', H', J'.ofTry ok, q⟩
    | cont =>
      obtain ⟨σ', H', J', q⟩ := hsp
      exact ⟨σ', H', J'.ofTry ok, q⟩
    | ret u =>
      obtain ⟨v, σ', H', J', r, q⟩ := hsp
      exact ⟨v, σ', H', J'.ofTry ok, r, q⟩
end
end L2

namespace Fv
open PySem PySem.Spec PyProof.Rows L2
/-! ### raise C("..") -/
/-- a class of exceptions without an __init__ of its own, whose instances may be raised -/
structure Xc (K : PySem.W.Frag) (C : Addr) : Prop where
  q : PySem.W.excIn K C [.type "ValueError", .type "Exception", .type "BaseException", .type "object"] "ValueError.__new__" = true
  kp : PySem.W.keepIn K (.ref C) = true
  sb : PySem.W.subIn K (.ref C) (.type "BaseException") = some true
  ty : PySem.W.typeIn K (.ref C) = some (.type "type")
def sRai (c : Nat) : En → Fl := fun e => .ex ⟨c, [], []⟩ e
theorem ps_raiF {X : Cx} {T : Tb} {W : WX} {p : Nat → Bool} {c : Nat} {x m : Str} {j : Nat} {p1 p2 pos pos' : Pos} (hc : X.calm = true) (tk : L2N.Takes X W) (Z : Xc X.K (T.ca c)) (gC : X.mg x = some (.ref (T.ca c))) (hg : Gl X x)
    (hdb : (x == ("__debug__" : Str)) = false := by decide) : PS X (.Raise (some (.Call (.Name x p1) [.Constant (.str m) j p2] [] pos)) none pos') (tS T W p (sRai c)) :=
  PS.imp (L2N.ps_raise hc tk (L2N.pmk_own PySem.F.excBase_ValueError Z.q gC Z.kp (raises_own Z.sb Z.ty) hg hdb)) fun D σ H ⟨G, e, sl, q⟩ => q σ _ none G H .refl sl rfl .refl ⟨rfl, .inl ⟨rfl, rfl, rfl⟩⟩
/-! ### try -/
mutual
def D.nf : D → Bool
  | .tup xs => D.nfs xs
  | .lst xs => D.nfs xs
  | .dic _ xs => D.nfs xs
  | .ins _ _ xs => D.nfs xs
  | .fn _ => false
  | .non => true
  | .bl _ => true
  | .int _ => true
  | .str _ => true
  | .ty _ => true
def D.nfs : List D → Bool
  | [] => true
  | x :: xs => D.nf x && D.nfs xs
end
def nfS : S → Bool
  | .fr d => d.nf
  | .ol xs => D.nfs xs
  | .od _ xs => D.nfs xs
  | .oi _ _ xs => D.nfs xs
def nfO : Option S → Bool
  | none => true
  | some s => nfS s
def nfE : En → Bool
  | [] => true
  | x :: e => nfO x && nfE e
mutual
theorem RepF.sw {T T' : Tb} {G : Hp} (hK : T'.K = T.K) (hc : T'.ca = T.ca) : ∀ {v : V} {d : D}, RepF T G v d → D.nf d = true → RepF T' G v d
  | _, _, .non, _ => .non
  | _, _, .bl b, _ => .bl b
  | _, _, .int i, _ => .int i
  | _, _, .str x, _ => .str x
  | _, _, .tup h k, z => .tup (by rw [hK]; exact h) (RepFs.sw hK hc k (by simpa [D.nf] using z))
  | _, _, .lst h k, z => .lst (by rw [hK]; exact h) (RepFs.sw hK hc k (by simpa [D.nf] using z))
  | _, _, .dic h l k, z => .dic h l (RepFs.sw hK hc k (by simpa [D.nf] using z))
  | _, _, .ins h l k, z => .ins (by rw [hc]; exact h) l (RepFs.sw hK hc k (by simpa [D.nf] using z))
  | _, _, .fn f _, z => by simp [D.nf] at z
  | _, _, .ty n, _ => .ty n
theorem RepFs.sw {T T' : Tb} {G : Hp} (hK : T'.K = T.K) (hc : T'.ca = T.ca) : ∀ {vs : List V} {ds : List D}, RepFs T G vs ds → D.nfs ds = true → RepFs T' G vs ds
  | _, _, .nil, _ => .nil
  | _, _, .cons h k, z => by
    simp only [D.nfs, Bool.and_eq_true] at z
    exact .cons (RepF.sw hK hc h z.1) (RepFs.sw hK hc k z.2)
end
theorem RepO.sw {T T' : Tb} {G H : Hp} (hK : T'.K = T.K) (hc : T'.ca = T.ca) {v : V} {s : S} (r : RepO T G H v s) (z : nfS s = true) : RepO T' G H v s := by
  cases r with
  | fr h => exact .fr (h.sw hK hc z)
  | ol h g q => exact .ol h g (q.sw hK hc z)
  | od h g l q => exact .od h g l (q.sw hK hc z)
  | oi h g l q => exact .oi (by rw [hc]; exact h) g l (q.sw hK hc z)
theorem nfE_get : ∀ {e : En} {i : Nat} {s : S}, nfE e = true → e[i]? = some (some s) → nfS s = true
  | [], _, _, _, h => by simp at h
  | x :: e, 0, s, z, h => by
    simp only [nfE, Bool.and_eq_true] at z
    simp at h; subst h; exact z.1
  | x :: e, i + 1, s, z, h => by
    simp only [nfE, Bool.and_eq_true] at z
    exact nfE_get z.2 (by simpa using h)
theorem Sl.sw {T T' : Tb} {G H : Hp} {σ : SV} {e : En} (hK : T'.K = T.K) (hc : T'.ca = T.ca) (ht : T'.tbs = T.tbs) (x : Sl T G H σ e) (z : nfE e = true) : Sl T' G H σ e :=
  ⟨x.sub, x.len, fun i s h => let ⟨v, h1, r⟩ := x.rep i s h; ⟨v, h1, r.sw hK hc (nfE_get z h)⟩, x.nd, by rw [ht]; exact x.tab⟩
/-- a slot that is emptied, whatever stands there -/
theorem Sl.gone {T : Tb} {G H : Hp} {σ : SV} {e : En} (x : Sl T G H σ e) (i : Nat) (y : Option V) : Sl T G H (σ.set i y) (e.set i none) := by
  refine ⟨x.sub, by simp [x.len], fun j s h => ?_, ?_, x.tab⟩
  · by_cases hj : i = j
    · subst hj
      by_cases hl : i < e.length
      · rw [List.getElem?_set_self hl] at h; cases h
      · rw [List.getElem?_eq_none (by simpa using hl)] at h; cases h
    · rw [List.getElem?_set_ne hj] at h
      obtain ⟨v, h1, r⟩ := x.rep j s h
      exact ⟨v, by rw [List.getElem?_set_ne hj]; exact h1, r⟩
  · rw [fps_none]; exact fps_nodup_out x.nd
theorem fps_gone {σ : SV} {e : En} {i : Nat} {y : Option V} : ∀ b ∈ fps (σ.set i y) (e.set i none), b ∈ fps σ e := fun b hb => by
  rw [fps_none] at hb; exact fps_sub b hb
/-- one clause: its class, the slot of its name, its suite -/
structure Cl where
  c : Nat
  i : Option Nat
  m : Xn → En → Fl
/-- behind a suite whose name stood in slot i -/
def unS (i : Nat) : Fl → Fl
  | .nx e => if nfE (e.set i none) = true then .nx (e.set i none) else .no
  | .bk e => if nfE (e.set i none) = true then .bk (e.set i none) else .no
  | .ct e => if nfE (e.set i none) = true then .ct (e.set i none) else .no
  | .rt s e => if (nfS s && nfE (e.set i none)) = true then .rt s (e.set i none) else .no
  | .ex _ _ => .no
  | .no => .no
/-- which class an exception is of: told by a table -/
def xsub (t : List (Nat × Nat × Bool)) (i j : Nat) : Option Bool := (t.find? fun r => r.1 == i && r.2.1 == j).map (·.2.2)
/-- the table is true -/
def XtOk (K : PySem.W.Frag) (ca : Nat → Addr) (t : List (Nat × Nat × Bool)) : Prop := ∀ r ∈ t, PySem.W.exmOne K (.ref (ca r.1)) (.ref (ca r.2.1)) = some r.2.2
theorem XtOk.at {K : PySem.W.Frag} {ca : Nat → Addr} {t : List (Nat × Nat × Bool)} (h : XtOk K ca t) {i j : Nat} {b : Bool} (e : xsub t i j = some b) : PySem.W.exmOne K (.ref (ca i)) (.ref (ca j)) = some b := by
  unfold xsub at e
  cases q : t.find? fun r => r.1 == i && r.2.1 == j with
  | none => rw [q] at e; cases e
  | some r =>
    rw [q] at e
    have hm := List.mem_of_find?_eq_some q
    have hp := List.find?_some q
    simp only [Bool.and_eq_true, beq_iff_eq] at hp
    have := h r hm
    rw [hp.1, hp.2] at this
    cases e
    exact this
theorem RepX.mono {T : Tb} {G G' : Hp} (s : Sub G G') {c : Value} {d : Option Addr} {x : Xn} (h : RepX T G c d x) : RepX T G' c d x := by
  obtain ⟨h1, h2 | ⟨dd, vs, h2, h3, h4, h5⟩⟩ := h
  · exact ⟨h1, .inl h2⟩
  · exact ⟨h1, .inr ⟨dd, vs, h2, s _ _ h3, h4, h5.mono s⟩⟩
/-- T, the caught exception told -/
def Tb.at (T : Tb) (a : Addr) (c : Value) (d : Option Addr) (x : Xn) : Tb := { T with fa := fun _ => a, xk := ⟨fun G => RepX T G c d x, fun _ _ s h => RepX.mono s h⟩ }
/-- what the suites promise -/
inductive ClsOk (X : Cx) (T : Tb) (p : Nat → Bool) (t : List (Nat × Nat × Bool)) : List ExceptHandler → List Cl → Prop
  | nil : ClsOk X T p t [] []
  | cons {x : Str} {c : Nat} {m : Xn → En → Fl} {b₀ : Stmt} {suite : List Stmt} {np pos' : Pos} {hds : List ExceptHandler} {l : List Cl} (hc : Names X x (.ref (T.ca c)))
      (hsu : ∀ (a : Addr) (oe : Obj) (x : Xn) (d : Option Addr) (pn : List (Addr × Obj)), xsub t x.c c = some true → L2N.Zn (.ref (T.ca x.c)) d oe → (∃ vs, oe.data = .fields vs) → PSs (X.suite a ((a, oe) :: pn)) (b₀ :: suite) (tS T (fun _ _ _ _ => False) p (m x))) (r : ClsOk X T p t hds l) :
      ClsOk X T p t (.ExceptHandler (some (.Name x np)) none (b₀ :: suite) pos' :: hds) (⟨c, none, m⟩ :: l)
  | consAs {x n : Str} {i : Nat} {c : Nat} {m : Xn → En → Fl} {b₀ : Stmt} {suite : List Stmt} {np pos' : Pos} {hds : List ExceptHandler} {l : List Cl} (hc : Names X x (.ref (T.ca c))) (hi : X.N[i]? = some n) (hln : X.env.kindOf n = some .local) (hp : p i = false)
      (hsu : ∀ (a : Addr) (oe : Obj) (x : Xn) (d : Option Addr) (pn : List (Addr × Obj)), xsub t x.c c = some true → L2N.Zn (.ref (T.ca x.c)) d oe → (∃ vs, oe.data = .fields vs) → PSs (X.suite a ((a, oe) :: pn)) (b₀ :: suite) (tS (T.at a (.ref (T.ca x.c)) d x) (fun _ _ _ _ => False) p (m x))) (r : ClsOk X T p t hds l) :
      ClsOk X T p t (.ExceptHandler (some (.Name x np)) (some n) (b₀ :: suite) pos' :: hds) (⟨c, some i, m⟩ :: l)
section
variable {X : Cx} {T : Tb} {W : WX} {p : Nat → Bool} {t : List (Nat × Nat × Bool)}
/-- the suites' readings -/
def tsN (T : Tb) (p : Nat → Bool) (P : Xn → Prop) (m : Xn → En → Fl) : Addr → Value → Option Addr → TS := fun _ cls d D σ H => ∃ (x : Xn) (G : Hp) (e : En), P x ∧ cls = .ref (T.ca x.c) ∧ Sl T G H σ e ∧ PostS T (fun _ _ _ _ => False) p D G H σ (fps σ e) (m x e)
def tsA (T : Tb) (p : Nat → Bool) (P : Xn → Prop) (m : Xn → En → Fl) : Addr → Value → Option Addr → TS := fun a cls d D σ H => ∃ (x : Xn) (G : Hp) (e : En), P x ∧ cls = .ref (T.ca x.c) ∧ Sl (T.at a (.ref (T.ca x.c)) d x) G H σ e ∧ PostS (T.at a (.ref (T.ca x.c)) d x) (fun _ _ _ _ => False) p D G H σ (fps σ e) (m x e)
def hdOf (T : Tb) (p : Nat → Bool) (t : List (Nat × Nat × Bool)) (k : Cl) : Hd := ⟨.ref (T.ca k.c), k.i, match k.i with | none => tsN T p (fun x => xsub t x.c k.c = some true) k.m | some _ => tsA T p (fun x => xsub t x.c k.c = some true) k.m⟩
theorem clsA {hds : List ExceptHandler} {l : List Cl} (h : ClsOk X T p t hds l) : HdsA X hds (l.map (hdOf T p t)) := by
  induction h with
  | nil => exact .nil
  | @cons x c m b₀ suite np pos' hds l hc hsu r ih =>
    refine .cons hc (fun a oe cls d pn hz hf => ⟨fun pins s σ H D I h => ?_⟩) ih
    obtain ⟨y, G, e, hy, rfl, sl, q⟩ := h
    exact (hsu a oe y d pn hy hz hf).run pins s σ H D I ⟨G, e, sl, q⟩
  | @consAs x n i c m b₀ suite np pos' hds l hc hi hln hp hsu r ih =>
    refine .consAs hc hi hln (fun a oe cls d pn hz hf => ⟨fun pins s σ H D I h => ?_⟩) ih
    obtain ⟨y, G, e, hy, rfl, sl, q⟩ := h
    exact (hsu a oe y d pn hy hz hf).run pins s σ H D I ⟨G, e, sl, q⟩
theorem hps {hds : List ExceptHandler} {l : List Cl} (h : ClsOk X T p t hds l) : ∀ k ∈ l, ∀ i, k.i = some i → p i = false := by
  induction h with
  | nil => intro k hk; cases hk
  | cons hc hsu r ih => intro k hk i hi; rcases List.mem_cons.mp hk with rfl | hk; cases hi; exact ih k hk i hi
  | consAs hc hi hln hp hsu r ih =>
    intro k hk j hj
    rcases List.mem_cons.mp hk with rfl | hk
    · cases hj; exact hp
    · exact ih k hk j hj
/-- a suite's end, back in T -/
theorem unS_post {D : Ends} {G H : Hp} {σ σ0 : SV} {A : List Addr} {a : Addr} {c : Value} {d : Option Addr} {x : Xn} {i : Nat} {o : Fl} (hp : p i = false) (hl : σ0.length = σ.length) (hk : Keeps p σ σ0) (q : PostS T W p D G H σ A (unS i o)) : PostS (T.at a c d x) (fun _ _ _ _ => False) p (unAs i D) G H σ0 A o := by
  have b1 : ∀ {G' H' : Hp} {σ' : SV} {e : En}, Sl (T.at a c d x) G' H' σ' e → nfE (e.set i none) = true → Sl T G' H' (σ'.set i none) (e.set i none) := fun sl z => Sl.sw (T := T.at a c d x) (T' := T) rfl rfl rfl (sl.gone i none) z
  have kk : ∀ {σ' : SV}, Keeps p σ0 σ' → Keeps p σ (σ'.set i none) := fun k => (hk.trans k).trans (.set hp)
  have ll : ∀ {σ' : SV}, σ'.length = σ0.length → (σ'.set i none).length = σ.length := fun l => by rw [List.length_set]; exact l.trans hl
  cases o with
  | nx e =>
    intro σ' G' H' ev sl l k
    have q : PostS T W p D G H σ A (if nfE (e.set i none) = true then .nx (e.set i none) else .no) := q
    split at q
    · rename_i z
      exact q (σ'.set i none) G' H' (ev.less fps_gone) (b1 sl z) (ll l) (kk k)
    · exact q.elim
  | bk e =>
    intro σ' G' H' ev sl l k
    have q : PostS T W p D G H σ A (if nfE (e.set i none) = true then .bk (e.set i none) else .no) := q
    split at q
    · rename_i z
      exact q (σ'.set i none) G' H' (ev.less fps_gone) (b1 sl z) (ll l) (kk k)
    · exact q.elim
  | ct e =>
    intro σ' G' H' ev sl l k
    have q : PostS T W p D G H σ A (if nfE (e.set i none) = true then .ct (e.set i none) else .no) := q
    split at q
    · rename_i z
      exact q (σ'.set i none) G' H' (ev.less fps_gone) (b1 sl z) (ll l) (kk k)
    · exact q.elim
  | rt s e =>
    intro σ' v G' H' ev sl l k
    have q : PostS T W p D G H σ A (if (nfS s && nfE (e.set i none)) = true then .rt s (e.set i none) else .no) := q
    split at q
    · rename_i z
      have hle : σ'.length = e.length := by have := sl.len; simp at this; exact this
      simp only [Bool.and_eq_true] at z
      have slL := sl.left hle
      have slR := sl.right hle
      obtain ⟨w, hw, r⟩ := slR.rep 0 s rfl
      cases hw
      have s1 := b1 slL z.2
      have r2 : RepO T G' H' v s := RepO.sw (T := T.at a c d x) (T' := T) rfl rfl r z.1
      have one := Sl.one (T := T) sl.sub r2 s1.tab
      have dis : ∀ b ∈ fps (σ'.set i none) (e.set i none), b ∉ fps [some v] [some s] := fun b hb => sl.dis hle b (fps_gone b hb)
      have s3 := s1.append one dis
      refine q (σ'.set i none) v G' H' (ev.less fun b hb => ?_) s3 (ll l) (kk k)
      rw [fps_append _ _ (by simp [hle])] at hb
      rw [fps_append _ _ hle]
      rcases List.mem_append.mp hb with z | z
      · exact List.mem_append_left _ (fps_gone b z)
      · exact List.mem_append_right _ z
    · exact q.elim
  | ex y e => exact q.elim
  | no => exact q.elim
theorem PostS.unW {D : Ends} {G H : Hp} {σ : SV} {A : List Addr} {o : Fl} (q : PostS T W p D G H σ A o) (hn : ∀ y e, o ≠ .ex y e) : PostS T (fun _ _ _ _ => False) p D G H σ A o := by
  cases o with
  | ex y e => exact absurd rfl (hn y e)
  | _ => exact q
end
/-- a suite lets no exception out -/
def noEx : Fl → Fl
  | .ex _ _ => .no
  | o => o
def Cl.go (k : Cl) (x : Xn) (e : En) : Fl := match k.i with
  | none => noEx (k.m x e)
  | some i => if nfE e = true then if i < e.length then unS i (k.m x (e.set i (some (.fr (.fn 0))))) else .no else .no
def hand (t : List (Nat × Nat × Bool)) : List Cl → Xn → En → Fl
  | [], x, e => .ex x e
  | k :: ks, x, e => match xsub t x.c k.c with
    | some true => k.go x e
    | some false => hand t ks x e
    | none => .no
def sTry (t : List (Nat × Nat × Bool)) (ks : List Cl) (b : En → Fl) : En → Fl := fun e => match b e with
  | .ex x e1 => hand t ks x e1
  | o => o
section
variable {X : Cx} {T : Tb} {W : WX} {p : Nat → Bool}
theorem noEx_post {D : Ends} {G H : Hp} {σ : SV} {A : List Addr} {o : Fl} (q : PostS T W p D G H σ A (noEx o)) : PostS T (fun _ _ _ _ => False) p D G H σ A o := by
  cases o with
  | ex y e => exact q.elim
  | _ => exact q
theorem hand_ok {t : List (Nat × Nat × Bool)} {D : Ends} {G H : Hp} {σ : SV} {e : En} {x : Xn} {cls : Value} {d : Option Addr} (ht : XtOk T.K T.ca t) (sl : Sl T G H σ e) (rx : RepX T G cls d x) : ∀ {l : List Cl}, (∀ k ∈ l, ∀ i, k.i = some i → p i = false) →
    PostS T W p D G H σ (fps σ e) (hand t l x e) → wAll T.K W D (l.map (hdOf T p t)) cls d σ H
  | [], _, q => q σ cls d G H .refl sl rfl .refl rx
  | k :: l, hp, q => by
    obtain ⟨rfl, rx'⟩ := rx
    unfold hand at q
    cases hs : xsub t x.c k.c with
    | none => rw [hs] at q; exact q.elim
    | some b =>
      rw [hs] at q
      refine ⟨b, ht.at hs, fun hb a na => ?_, fun hb => ?_⟩
      · subst hb
        have q : PostS T W p D G H σ (fps σ e) (k.go x e) := q
        unfold Cl.go at q
        unfold Hd.go hdOf
        obtain ⟨c, i, m⟩ := k
        cases i with
        | none => exact ⟨x, G, e, hs, rfl, sl, noEx_post q⟩
        | some i =>
          have hpi := hp _ (List.mem_cons_self) i rfl
          simp only at q ⊢
          split at q
          · rename_i z
            split at q
            · rename_i hi
              have s0 : Sl (T.at a (.ref (T.ca x.c)) d x) G H σ e := Sl.sw (T := T) (T' := T.at a (.ref (T.ca x.c)) d x) rfl rfl rfl sl z
              have s1 : Sl (T.at a (.ref (T.ca x.c)) d x) G H (σ.set i (some (.ref a))) (e.set i (some (.fr (.fn 0)))) := (s0.out i).put hi (.fr (RepF.fn (T := T.at a (.ref (T.ca x.c)) d x) 0 ⟨rfl, rx'⟩)) (by rw [fp_fr]; simp)
              refine ⟨x, G, _, hs, rfl, s1, ?_⟩
              have fe : ∀ b, b ∈ fps (σ.set i (some (.ref a))) (e.set i (some (.fr (.fn 0)))) → b ∈ fps σ e := fun b hb => by
                rcases (fps_set_mem (σ := σ) (v := .ref a) (s := .fr (.fn 0)) hi sl.len b).mp hb with z | z
                · rw [fp_fr] at z; simp at z
                · exact fps_sub b z
              exact PostS.after (unS_post hpi (by simp) (.set hpi) q) (Evo.refl.less fe) rfl .refl
            · exact q.elim
          · exact q.elim
      · subst hb
        exact hand_ok ht sl ⟨rfl, rx'⟩ (fun k' hk' => hp k' (List.mem_cons_of_mem _ hk')) q
theorem ps_tryF {t : List (Nat × Nat × Bool)} {body : List Stmt} {h₀ : ExceptHandler} {hds : List ExceptHandler} {l : List Cl} {pos : Pos} {mb : En → Fl} (hK : T.K = X.K) (hs : X.stack = X.env :: X.outer) (hf : X.env.frame = some X.env.locals) (hN : X.N.Nodup) (tk : L2N.Takes X W) (ht : XtOk T.K T.ca t)
    (hb : ∀ (W' : WX) (pn : List (Addr × Obj)) (xe : Value → Shared → Prop), L2N.Takes (X.tr pn xe) W' → PassesOwn (model X.prog X.w) X.A X.env xe → PSs (X.tr pn xe) body (tS T W' p mb))
    (hh : ClsOk X T p t (h₀ :: hds) l) : PS X (.Try body (h₀ :: hds) [] [] pos) (tS T W p (sTry t l mb)) := by
  refine PS.imp (ps_try_all (tb := fun W' => tS T W' p mb) hs hf hN tk hb (clsA hh)) fun D σ H ⟨G, e, sl, q⟩ => ⟨G, e, sl, ?_⟩
  unfold sTry at q
  cases hm : mb e with
  | ex x e1 =>
    rw [hm] at q
    intro σ' c dx G' H' ev sl' l' k rx
    rw [← hK]
    exact hand_ok ht sl' rx (hps hh) (PostS.after q ev l' k)
  | nx e1 => rw [hm] at q; exact q
  | bk e1 => rw [hm] at q; exact q
  | ct e1 => rw [hm] at q; exact q
  | rt s e1 => rw [hm] at q; exact q
  | no => rw [hm] at q; exact q.elim
end
theorem xt_nil {K : PySem.W.Frag} {ca : Nat → Addr} : XtOk K ca [] := fun _ h => nomatch h
theorem xt_cons {K : PySem.W.Frag} {ca : Nat → Addr} {i j : Nat} {b : Bool} {l : List (Nat × Nat × Bool)} (h : PySem.W.exmOne K (.ref (ca i)) (.ref (ca j)) = some b) (k : XtOk K ca l) : XtOk K ca ((i, j, b) :: l) := fun r hr => by
  rcases List.mem_cons.mp hr with rfl | hr
  · exact h
  · exact k r hr
end Fv

namespace Fv
open PySem PySem.Spec PyProof.Rows L2
/-! ### in a suite: isinstance(e, C), isinstance(e, (C, ..)), e.f -/
abbrev Tk := Nat ⊕ String
def tkV (ca : Nat → Addr) : Tk → Value
  | .inl j => .ref (ca j)
  | .inr n => .type n
def tkP (ca : Nat → Addr) : Tk → V
  | .inl j => .ref (ca j)
  | .inr n => .ty n
def ksub (t : List (Nat × Tk × Bool)) (i : Nat) (j : Tk) : Option Bool := (t.find? fun r => decide (r.1 = i) && decide (r.2.1 = j)).map (·.2.2)
def kany (t : List (Nat × Tk × Bool)) (i : Nat) : List Tk → Option Bool
  | [] => some false
  | j :: js => match ksub t i j with
    | some true => some true
    | some false => kany t i js
    | none => none
def KtOk (K : PySem.W.Frag) (ca : Nat → Addr) (t : List (Nat × Tk × Bool)) : Prop := ∀ r ∈ t, PySem.W.kitOne K (.ref (ca r.1)) (tkV ca r.2.1) = some r.2.2
theorem KtOk.at {K : PySem.W.Frag} {ca : Nat → Addr} {t : List (Nat × Tk × Bool)} (h : KtOk K ca t) {i : Nat} {j : Tk} {b : Bool} (e : ksub t i j = some b) : PySem.W.kitOne K (.ref (ca i)) (tkV ca j) = some b := by
  unfold ksub at e
  cases q : t.find? fun r => decide (r.1 = i) && decide (r.2.1 = j) with
  | none => rw [q] at e; cases e
  | some r =>
    rw [q] at e
    have hm := List.mem_of_find?_eq_some q
    have hp := List.find?_some q
    simp only [Bool.and_eq_true, decide_eq_true_eq] at hp
    have := h r hm
    rw [hp.1, hp.2] at this
    cases e
    exact this
theorem KtOk.any {K : PySem.W.Frag} {ca : Nat → Addr} {t : List (Nat × Tk × Bool)} (h : KtOk K ca t) {i : Nat} : ∀ {js : List Tk} {b : Bool}, kany t i js = some b → PySem.W.kitAny K (.ref (ca i)) (js.map (tkV ca)) = some b
  | [], _, e => by cases e; rfl
  | j :: js, b, e => by
    unfold kany at e
    show (match PySem.W.kitOne K (.ref (ca i)) (tkV ca j) with
      | some true => some true
      | some false => PySem.W.kitAny K (.ref (ca i)) (js.map (tkV ca))
      | none => none) = some b
    cases q : ksub t i j with
    | none => rw [q] at e; cases e
    | some k =>
      rw [q] at e
      rw [h.at q]
      cases k with
      | true => exact e
      | false => exact h.any e
/-- what the class of an exception must say -/
structure Xi (K : PySem.W.Frag) (D : Addr) : Prop where
  hg : PySem.W.findIn K (.ref D) "__getattribute__" = some (some (.builtin "BaseException.__getattribute__"))
  hk : PySem.W.findIn K (.ref D) "__getattr__" = some none
  hs : PySem.W.subIn K (.ref D) (.type "BaseException") = some true
  hd : PySem.W.hasDictIn K D = true
  ha : PySem.W.findIn K (.ref D) "__class__" = some (some (.builtin "object.__class__"))
  hm : PySem.W.mroIn K D (.type "object") = some true
structure Xo (K : PySem.W.Frag) : Prop where
  hn : PySem.W.specialIn K (.builtin "object.__class__") "__get__" = some (some (.builtin "getset_descriptor.__get__"))
  ht : PySem.W.takesIn K (.builtin "object.__class__") = some true
theorem kt_nil {K : PySem.W.Frag} {ca : Nat → Addr} : KtOk K ca [] := fun _ h => nomatch h
theorem kt_cons {K : PySem.W.Frag} {ca : Nat → Addr} {i : Nat} {j : Tk} {b : Bool} {l : List (Nat × Tk × Bool)} (h : PySem.W.kitOne K (.ref (ca i)) (tkV ca j) = some b) (k : KtOk K ca l) : KtOk K ca ((i, j, b) :: l) := fun r hr => by
  rcases List.mem_cons.mp hr with rfl | hr
  · exact h
  · exact k r hr
def XiOk (K : PySem.W.Frag) (ca : Nat → Addr) (t : List (Nat × Nat × Bool)) : Prop := ∀ c j b, xsub t c j = some b → Xi K (ca c)
theorem xi_of {K : PySem.W.Frag} {ca : Nat → Addr} {t : List (Nat × Nat × Bool)} (l : List Nat) (h : ∀ c ∈ l, Xi K (ca c)) (ht : (t.all fun r => l.contains r.1) = true) : XiOk K ca t := fun c j b e => by
  unfold xsub at e
  cases q : t.find? fun r => r.1 == c && r.2.1 == j with
  | none => rw [q] at e; cases e
  | some r =>
    have hm := List.mem_of_find?_eq_some q
    have hp := List.find?_some q
    simp only [Bool.and_eq_true, beq_iff_eq] at hp
    have := List.all_eq_true.mp ht r hm
    rw [hp.1] at this
    exact h c (by simpa using this)
def bExI (t : List (Nat × Tk × Bool)) (c : Nat) (js : List Tk) (mo : En → Ou R) : En → Ou R := fun e => match mo e with
  | .ok (.vl (.fr (.fn _))) e1 => match kany t c js with
    | some b => .ok (.vl (.fr (.bl b))) e1
    | none => .no
  | .ok _ _ => .no
  | .ex x e1 => .ex x e1
  | .no => .no
def rIsX (K : PySem.W.Frag) (T : Tb) (c : Nat) (t : List (Nat × Tk × Bool)) (js : List Tk) : List V → Hp → VK → Prop := fun xs H Q => ∃ (v cv : V) (G : Hp) (b : Bool) (f : Nat), xs = [v, cv] ∧ Sub G H ∧ RepF T G v (.fn f) ∧ kany t c js = some b ∧
  ((∃ j, js = [j] ∧ cv = tkP T.ca j) ∨ ∃ tp, cv = .ref tp ∧ H tp = some (.tup (js.map (tkP T.ca)))) ∧ Q (.bl b) H
theorem tkVals {ca : Nat → Addr} : ∀ {js : List Tk} {us : List Value}, Vals (js.map (tkP ca)) us → us = js.map (tkV ca)
  | [], _, .nil => rfl
  | .inl j :: js, _, .cons r k => by
    have h := tkVals k
    have r : _ = Value.ref (ca j) := r
    rw [h, r]; rfl
  | .inr n :: js, _, .cons r k => by
    have h := tkVals k
    have r : _ = Value.type n := r
    rw [h, r]; rfl
section
variable {X : Cx} {T : Tb} {W : WX} {a : Addr} {oe : Obj} {pn : List (Addr × Obj)} {d : Option Addr} {x : Xn}
theorem call_isX {t : List (Nat × Tk × Bool)} {js : List Tk} (hK : T.K = X.K) (hz : L2N.Zn (.ref (T.ca x.c)) d oe) (hf : ∃ vs, oe.data = .fields vs) (C : Xi T.K (T.ca x.c)) (O : Xo T.K) (hkt : KtOk T.K T.ca t) :
    CallR (X.suite a ((a, oe) :: pn)) (.builtin "isinstance") (rIsX T.K (T.at a (.ref (T.ca x.c)) d x) x.c t js) := by
  intro pins s σ H xs us Q I r h
  obtain ⟨v, cv, G, b, f, rfl, hsub, rv, hb, hc, q⟩ := h
  cases rv with
  | fn f rx =>
    obtain ⟨u1, u2, rfl, r1, r2⟩ := vals2 r
    cases (show u1 = Value.ref a from r1)
    obtain ⟨hget, _⟩ := I.pin (a, oe) (List.mem_append.mpr (.inl List.mem_cons_self))
    obtain ⟨vs, hv⟩ := hf
    have J : ∃ od, PySem.W.InstAt s.heap a oe (T.ca x.c) od := by
      obtain ⟨h1, h2, _⟩ := hz
      rcases rx.2 with ⟨_, _, hd⟩ | ⟨dd, ws, hd, hG, _, _⟩
      · refine ⟨none, hget, h1, by unfold PySem.W.notCls; rw [hv] <;> rfl, ?_⟩
        rw [h2, hd]; trivial
      · obtain ⟨mA, hns, hr⟩ := (show ObjOk X.prog X.w H s.heap dd (.xd (x.ns.zip ws)) from I.hok dd _ (hsub _ _ hG))
        obtain ⟨od, ho, hl⟩ := lookIn_ns hns
        refine ⟨some od, hget, h1, by unfold PySem.W.notCls; rw [hv] <;> rfl, ?_⟩
        rw [h2, hd]; exact ho
    obtain ⟨od, J⟩ := J
    have kin : T.K.In s.heap := by rw [hK]; exact I.kIn
    obtain ⟨cdD, hcD, _⟩ := PySem.W.any_some C.hd
    have Z := PySem.W.kitx_exc (x := a) (ox := oe) (od := od) (by rw [hcD]; rfl) C.hg C.hk C.hs C.ha O.hn O.ht C.hm
    rcases hc with ⟨j, rfl, rfl⟩ | ⟨tp, rfl, hT⟩
    · have e : ksub t x.c j = some b := by
        unfold kany at hb
        cases q : ksub t x.c j with
        | none => rw [q] at hb; cases hb
        | some k => rw [q] at hb; cases k <;> exact hb
      have e2 : u2 = tkV T.ca j := by
        have := tkVals (ca := T.ca) (js := [j]) (us := [u2]) (.cons r2 .nil)
        simpa using this
      subst e2
      exact PySem.W.kia_one Z kin J (hkt.at e) (fun z => nomatch z) fun tk => ⟨.bl b, H, I.tok tk, rfl, q⟩
    · cases (show u2 = Value.ref tp from r2)
      obtain ⟨_, its, rv, o, h1, h2, n, h3⟩ := (show ObjOk X.prog X.w H s.heap tp (.tup (js.map (tkP T.ca))) from I.hok tp _ hT)
      have e3 := tkVals rv
      subst e3
      obtain ⟨oc, od, dt, sl⟩ := o
      simp only at h2 h3
      subst h2 h3
      exact PySem.W.kia_tup Z kin J h1 (hkt.any hb) (fun z => nomatch z) fun tk => ⟨.bl b, H, I.tok tk, rfl, q⟩
/-- the classes as arguments -/
inductive PTk (X : Cx) (ca : Nat → Addr) : List Expr → List Tk → Prop
  | nil : PTk X ca [] []
  | cons {e : Expr} {j : Tk} {es : List Expr} {js : List Tk} (h : PE X e (tC (tkP ca j))) (r : PTk X ca es js) (hs : starEach (e :: es) X.env = (false, eval e X.env) :: starEach es X.env) : PTk X ca (e :: es) (j :: js)
def tCs (vs : List V) : TA := fun _ H Q => Q vs H
theorem PTk.pa {X : Cx} {ca : Nat → Addr} {es : List Expr} {js : List Tk} (h : PTk X ca es js) : PA X es (tCs (js.map (tkP ca))) := by
  induction h with
  | nil => exact pa_nil
  | cons h r hs ih => exact PA.imp (pa_cons h ih (hs := hs)) fun σ H Q q => q
theorem tE_exI {t : List (Nat × Tk × Bool)} {T : Tb} {c : Nat} {js : List Tk} {mo : En → Ou R} {σ : SV} {H : Hp} {Q : VK} : tE T W (bExI t c js mo) σ H Q → tE T W mo σ H fun v H1 => ∃ (G1 : Hp) (f : Nat) (b : Bool), Sub G1 H1 ∧ RepF T G1 v (.fn f) ∧ kany t c js = some b ∧ Q (.bl b) H1 ∧ ∀ p o, H1 p = none → Q (.bl b) (upd H1 p o) := by
  rintro ⟨G, e, τ, u, md, q⟩
  refine ⟨G, e, τ, u, md, ?_⟩
  unfold bExI at q
  cases hm : mo e with
  | no => rw [hm] at q; exact q
  | ex y e1 => rw [hm] at q; exact q
  | ok r e1 =>
    rw [hm] at q
    intro G1 H1 v τ1 u1 ev1 md1 hr1
    cases r with
    | pl i => exact q.elim
    | vl s =>
      cases s with
      | ol xs => exact q.elim
      | od ks xs => exact q.elim
      | oi c ns xs => exact q.elim
      | fr dd =>
        cases dd with
        | fn f =>
          simp only at q
          cases hb : kany t c js with
          | none => rw [hb] at q; exact q.elim
          | some b =>
            rw [hb] at q
            cases hr1 with
            | vl hn =>
              cases hn
              have rf : RepF T G1 v (.fn f) := by
                have := md1.last md.l2
                cases this with | fr h => exact h
              have fin : ∀ H2, Grow G1 H1 G1 H2 → Q (.bl b) H2 := fun H2 g => by
                have md2 := (md1.dropT md.l2).grow g
                refine q G1 H2 (.bl b) [.bl b] [.fr (.bl b)] ((ev1.trans (g.evo _)).less fun x hx => ?_) (md2.push (.fr (.bl b)) (by simp [fp])) (.vl .nil)
                rcases (As_push md2.l1 md.l2 x).mp hx with z | z
                · exact As_drop md2.l1 md.l2 x z
                · simp [fp] at z
              exact ⟨G1, f, b, md1.sl.sub, rf, rfl, fin H1 (.refl md1.sl.sub), fun p o hp => fin _ (.own md1.sl.sub hp)⟩
        | _ => exact q.elim
theorem pe_exI {t : List (Nat × Tk × Bool)} {j : Tk} {mo : En → Ou R} {eo ec : Expr} {px pos : Pos} (hK : T.K = X.K) (hz : L2N.Zn (.ref (T.ca x.c)) d oe) (hf : ∃ vs, oe.data = .fields vs) (C : Xi T.K (T.ca x.c)) (O : Xo T.K) (hkt : KtOk T.K T.ca t)
    (hg : Gl X "isinstance") (hm : X.mg "isinstance" = none) (ho : PE (X.suite a ((a, oe) :: pn)) eo (tE (T.at a (.ref (T.ca x.c)) d x) W mo)) (hc : PE (X.suite a ((a, oe) :: pn)) ec (tC (tkP T.ca j)))
    (he : starEach [eo, ec] X.env = (false, eval eo X.env) :: starEach [ec] X.env) (hs : starEach [ec] X.env = (false, eval ec X.env) :: starEach [] X.env) (hpl : (backTo pos (starEach [ec] X.env)).any (·.1) = false) :
    PE (X.suite a ((a, oe) :: pn)) (.Call (.Name "isinstance" px) [eo, ec] [] pos) (tE (T.at a (.ref (T.ca x.c)) d x) W (bExI t x.c [j] mo)) :=
  PE.imp (pe_callB (X := X.suite a ((a, oe) :: pn)) (call_isX (js := [j]) hK hz hf C O hkt) hg hm boot_isinstance (pa_cons ho (pa_cons hc pa_nil (hs := hs)) (hs := he)) (by decide) (by decide) he hpl) fun σ H Q h => tE.mono (fun v H1 ⟨G1, f, b, h1, h2, h3, h4, h5⟩ => ⟨v, _, G1, b, f, rfl, h1, h2, h3, .inl ⟨j, rfl, rfl⟩, h4⟩) (tE_exI h)
theorem pe_exIT {t : List (Nat × Tk × Bool)} {js : List Tk} {mo : En → Ou R} {eo : Expr} {ecs : List Expr} {kk : Nat} {px pos tpos : Pos} (hK : T.K = X.K) (hz : L2N.Zn (.ref (T.ca x.c)) d oe) (hf : ∃ vs, oe.data = .fields vs) (C : Xi T.K (T.ca x.c)) (O : Xo T.K) (hkt : KtOk T.K T.ca t)
    (hg : Gl X "isinstance") (hm : X.mg "isinstance" = none) (ho : PE (X.suite a ((a, oe) :: pn)) eo (tE (T.at a (.ref (T.ca x.c)) d x) W mo)) (hc : PTk (X.suite a ((a, oe) :: pn)) T.ca ecs js) (hl : js.length ≤ 1000)
    (he : starEach [eo, .Tuple ecs kk tpos] X.env = (false, eval eo X.env) :: starEach [.Tuple ecs kk tpos] X.env) (hs : starEach [.Tuple ecs kk tpos] X.env = (false, eval (.Tuple ecs kk tpos) X.env) :: starEach [] X.env) (hpl : (backTo pos (starEach [.Tuple ecs kk tpos] X.env)).any (·.1) = false) :
    PE (X.suite a ((a, oe) :: pn)) (.Call (.Name "isinstance" px) [eo, .Tuple ecs kk tpos] [] pos) (tE (T.at a (.ref (T.ca x.c)) d x) W (bExI t x.c js mo)) :=
  PE.imp (pe_callB (X := X.suite a ((a, oe) :: pn)) (call_isX (js := js) hK hz hf C O hkt) hg hm boot_isinstance (pa_cons ho (pa_cons (pe_tup hc.pa) pa_nil (hs := hs)) (hs := he)) (by decide) (by decide) he hpl) fun σ H Q h => tE.mono (fun v H1 ⟨G1, f, b, h1, h2, h3, h4, h5⟩ =>
    ⟨by rw [sizeLine_eq]; simp; omega, fun p hp => ⟨v, _, G1, b, f, rfl, h1.trans (.upd_none hp), h2, h3, .inr ⟨p, rfl, upd_same⟩, h5 p _ hp⟩⟩) (tE_exI h)
end
end Fv

namespace Fv
open PySem PySem.Spec PyProof.Rows L2
/-! ### the forward run: raise, try, isinstance of what was caught -/
section
variable {X : Xn → En → Prop} {e e1 : En} {Q : R → En → Prop} {N : En → Prop} {Rt : S → En → Prop} {m : En → Ou R} {b : En → Fl} {s : S} {c i j : Nat} {x : Xn} {t : List (Nat × Nat × Bool)} {kt : List (Nat × Tk × Bool)} {js : List Tk} {k : Cl} {ks : List Cl} {ms : Xn → En → Fl}
theorem y_rai : Wf X (sRai c e) N Rt = X ⟨c, [], []⟩ e := (rfl)
def KTry (X : Xn → En → Prop) (t : List (Nat × Nat × Bool)) (ks : List Cl) (N : En → Prop) (Rt : S → En → Prop) : Xn → En → Prop := fun x e => Wf X (hand t ks x e) N Rt
theorem y_ktry : KTry X t ks N Rt x e = Wf X (hand t ks x e) N Rt := (rfl)
theorem y_try : Wf X (sTry t ks b e) N Rt = Wf (KTry X t ks N Rt) (b e) N Rt := by
  unfold sTry
  cases b e <;> rfl
theorem y_hand0 : Wf X (hand t [] x e) N Rt = X x e := (rfl)
def HndM (X : Xn → En → Prop) (t : List (Nat × Nat × Bool)) (k : Cl) (ks : List Cl) (x : Xn) (e : En) (N : En → Prop) (Rt : S → En → Prop) : Option Bool → Prop
  | some true => Wf X (k.go x e) N Rt
  | some false => Wf X (hand t ks x e) N Rt
  | none => False
theorem y_hand1 : Wf X (hand t (k :: ks) x e) N Rt = HndM X t k ks x e N Rt (xsub t x.c k.c) := by
  unfold hand
  cases xsub t x.c k.c with
  | none => rfl
  | some b => cases b <;> rfl
theorem y_hndt : HndM X t k ks x e N Rt (some true) = Wf X (k.go x e) N Rt := (rfl)
theorem y_hndf : HndM X t k ks x e N Rt (some false) = Wf X (hand t ks x e) N Rt := (rfl)
theorem y_go : Wf X (Cl.go ⟨c, none, ms⟩ x e) N Rt = Wf noX (ms x e) N Rt := by
  show Wf X (noEx (ms x e)) N Rt = _
  cases ms x e <;> rfl
def KUn (i : Nat) (N : En → Prop) : En → Prop := fun e => nfE (e.set i none) = true ∧ N (e.set i none)
theorem y_kun : KUn i N e = (nfE (e.set i none) = true ∧ N (e.set i none)) := (rfl)
def KUr (i : Nat) (Rt : S → En → Prop) : S → En → Prop := fun s e => (nfS s = true ∧ nfE (e.set i none) = true) ∧ Rt s (e.set i none)
theorem y_kur : KUr i Rt s e = ((nfS s = true ∧ nfE (e.set i none) = true) ∧ Rt s (e.set i none)) := (rfl)
theorem y_goA : Wf X (Cl.go ⟨c, some i, ms⟩ x e) N Rt = ((nfE e = true ∧ i < e.length) ∧ Wf noX (ms x (e.set i (some (.fr (.fn 0))))) (KUn i N) (KUr i Rt)) := by
  show Wf X (if nfE e = true then if i < e.length then unS i (ms x (e.set i (some (.fr (.fn 0))))) else .no else .no) N Rt = _
  by_cases h : nfE e = true
  · rw [if_pos h]
    by_cases h2 : i < e.length
    · rw [if_pos h2]
      simp only [h, h2, true_and]
      have key : ∀ o : Fl, Wf X (unS i o) N Rt = Wf noX o (KUn i N) (KUr i Rt) := fun o => by
        cases o with
        | nx e =>
          show Wf X (if nfE (e.set i none) = true then .nx (e.set i none) else .no) N Rt = (nfE (e.set i none) = true ∧ N (e.set i none))
          by_cases z : nfE (e.set i none) = true
          · rw [if_pos z]; simp only [z, true_and]; rfl
          · rw [if_neg z]; exact (propext ⟨fun q => False.elim q, fun q => absurd q.1 z⟩)
        | bk e =>
          show Wf X (if nfE (e.set i none) = true then .bk (e.set i none) else .no) N Rt = False
          split <;> rfl
        | ct e =>
          show Wf X (if nfE (e.set i none) = true then .ct (e.set i none) else .no) N Rt = False
          split <;> rfl
        | rt s e =>
          show Wf X (if (nfS s && nfE (e.set i none)) = true then .rt s (e.set i none) else .no) N Rt = ((nfS s = true ∧ nfE (e.set i none) = true) ∧ Rt s (e.set i none))
          by_cases z : (nfS s && nfE (e.set i none)) = true
          · rw [if_pos z]
            rw [Bool.and_eq_true] at z
            simp only [z.1, z.2, and_self, true_and]; rfl
          · rw [if_neg z]
            refine (propext ⟨fun q => False.elim q, fun q => absurd ?_ z⟩)
            rw [Bool.and_eq_true]; exact q.1
        | ex y e => rfl
        | no => rfl
      exact key _
    · rw [if_neg h2]
      exact propext ⟨fun q => False.elim q, fun q => absurd q.1.2 h2⟩
  · rw [if_neg h]
    exact propext ⟨fun q => False.elim q, fun q => absurd q.1.1 h⟩
def ExB (Q : R → En → Prop) (e : En) : Option Bool → Prop
  | some b => Q (.vl (.fr (.bl b))) e
  | none => False
theorem y_exb {k : Bool} : ExB Q e (some k) = Q (.vl (.fr (.bl k))) e := (rfl)
def KEx (kt : List (Nat × Tk × Bool)) (c : Nat) (js : List Tk) (Q : R → En → Prop) : R → En → Prop
  | .vl (.fr (.fn _)), e => ExB Q e (kany kt c js)
  | _, _ => False
theorem y_kex {f : Nat} : KEx kt c js Q (.vl (.fr (.fn f))) e = ExB Q e (kany kt c js) := (rfl)
theorem y_exi : Wo X (bExI kt c js m e) Q = Wo X (m e) (KEx kt c js Q) := by
  unfold bExI
  cases m e with
  | no => rfl
  | ex y e1 => rfl
  | ok r e1 =>
    cases r with
    | pl i => rfl
    | vl s => cases s with
      | fr d => cases d with
        | fn f =>
          show Wo X (match kany kt c js with | some b => .ok (.vl (.fr (.bl b))) e1 | none => .no) Q = ExB Q e1 (kany kt c js)
          cases kany kt c js <;> rfl
        | _ => rfl
      | _ => rfl
end
/-! data without functions -/
theorem nf_nil : nfE [] = true := (rfl)
theorem nf_cons {x : Option S} {e : En} : nfE (x :: e) = (nfO x && nfE e) := (rfl)
theorem nf_none : nfO none = true := (rfl)
theorem nf_some {s : S} : nfO (some s) = nfS s := (rfl)
theorem nf_fr {d : D} : nfS (.fr d) = d.nf := (rfl)
theorem nf_ol {xs : List D} : nfS (.ol xs) = D.nfs xs := (rfl)
theorem nf_od {ks : List Key} {xs : List D} : nfS (.od ks xs) = D.nfs xs := (rfl)
theorem nf_oi {c : Nat} {ns : List Str} {xs : List D} : nfS (.oi c ns xs) = D.nfs xs := (rfl)
theorem nf_non : D.nf .non = true := by simp only [D.nf]
theorem nf_bl {b : Bool} : D.nf (.bl b) = true := by simp only [D.nf]
theorem nf_int {i : Int} : D.nf (.int i) = true := by simp only [D.nf]
theorem nf_str {x : Str} : D.nf (.str x) = true := by simp only [D.nf]
theorem nf_tup {xs : List D} : D.nf (.tup xs) = D.nfs xs := by simp only [D.nf]
theorem nf_lst {xs : List D} : D.nf (.lst xs) = D.nfs xs := by simp only [D.nf]
theorem nf_dic {ks : List Key} {xs : List D} : D.nf (.dic ks xs) = D.nfs xs := by simp only [D.nf]
theorem nf_ins {c : Nat} {ns : List Str} {xs : List D} : D.nf (.ins c ns xs) = D.nfs xs := by simp only [D.nf]
theorem nfs_nil : D.nfs [] = true := by simp only [D.nfs]
theorem nfs_cons {x : D} {xs : List D} : D.nfs (x :: xs) = (D.nf x && D.nfs xs) := by simp only [D.nfs]
theorem nfs_all {xs : List D} : D.nfs xs = true ↔ ∀ d ∈ xs, D.nf d = true := by
  induction xs with
  | nil => simp [D.nfs]
  | cons x xs ih => simp [D.nfs, ih]
theorem nfs_map {α : Type} {f : α → D} {l : List α} (h : ∀ a, D.nf (f a) = true) : D.nfs (l.map f) = true := nfs_all.mpr fun d hd => by
  obtain ⟨a, _, rfl⟩ := List.mem_map.mp hd
  exact h a
theorem nfs_iL {l : List Int} : D.nfs (l.map D.int) = true := nfs_map fun a => nf_int
theorem nfs_sL {l : List Str} : D.nfs (l.map D.str) = true := nfs_map fun a => nf_str
theorem nfs_app {xs ys : List D} : D.nfs (xs ++ ys) = (D.nfs xs && D.nfs ys) := by
  induction xs with
  | nil => simp [D.nfs]
  | cons x xs ih => simp [D.nfs, ih, Bool.and_assoc]
theorem of_WcX {o : FO} {x : Xn} {ss : List S} (h : Wc o (fun _ _ => False) (fun x' ss' => x' = x ∧ ss' = ss)) : o = .ex x ss := by
  cases o with
  | ok s' ss' => exact h.elim
  | ex x ss => obtain ⟨rfl, rfl⟩ := h; rfl
  | no => exact h.elim
end Fv

namespace Fv
open PySem PySem.Spec PyProof.Rows L2
/-! ### list(range(..)) -/
def dLr : List D → Option S
  | [.int n] => if -(2 ^ 62) ≤ n ∧ n ≤ 16777216 then some (.ol (rngD 0 n.toNat)) else none
  | [.int m, .int n] => if 0 ≤ m ∧ m ≤ 16777216 ∧ -(2 ^ 62) ≤ n ∧ n ≤ 16777216 then some (.ol (rngD m (n - m).toNat)) else none
  | _ => none
theorem rg_repF {T : Tb} {G : Hp} (a b : Int) : RepFs T G (rgV a b) (rngD a (b - a).toNat) := by
  unfold rgV rngD
  generalize List.range (b - a).toNat = l
  induction l with
  | nil => exact .nil
  | cons x l ih => exact .cons (.int _) ih
def rLr1 : List V → Hp → VK → Prop := fun vs H Q => ∃ n, vs = [.int n] ∧ RgOk 0 n ∧ ∀ q, H q = none → Q (.ref q) (upd H q (.lst (rgV 0 n)))
def rLr2 : List V → Hp → VK → Prop := fun vs H Q => ∃ m n, vs = [.int m, .int n] ∧ RgOk m n ∧ ∀ q, H q = none → Q (.ref q) (upd H q (.lst (rgV m n)))
theorem fo_lr1 {T : Tb} : FunOk T rLr1 (fun ds => if ds.length = 1 then dLr ds else none) := fun G H vs ss s Q hs r h k => by
  have h : (if (ss.map S.d).length = 1 then dLr (ss.map S.d) else none) = some s := h
  split at h
  · unfold dLr at h
    split at h
    · rename_i n heq
      split at h
      · rename_i hn
        cases h
        obtain ⟨v, s1, rfl, r1, e1⟩ := repOs1 r heq
        obtain rfl := r1.int e1
        refine ⟨n, rfl, ⟨by omega, by omega, by omega, by omega, by omega⟩, fun q hq => ?_⟩
        have := rg_repF (T := T) (G := G) 0 n
        rw [Int.sub_zero] at this
        exact done_ol hs k this hq
      · cases h
    · exfalso
      simp_all
    · cases h
  · cases h
theorem fo_lr2 {T : Tb} : FunOk T rLr2 (fun ds => if ds.length = 2 then dLr ds else none) := fun G H vs ss s Q hs r h k => by
  have h : (if (ss.map S.d).length = 2 then dLr (ss.map S.d) else none) = some s := h
  split at h
  · unfold dLr at h
    split at h
    · exfalso
      simp_all
    · rename_i m n heq
      split at h
      · rename_i hn
        cases h
        obtain ⟨v, w, s1, s2, rfl, r1, r2, e1, e2⟩ := repOs2 r heq
        obtain rfl := r1.int e1
        obtain rfl := r2.int e2
        exact ⟨m, n, rfl, ⟨by omega, by omega, by omega, by omega, by omega⟩, fun q hq => done_ol hs k (rg_repF m n) hq⟩
      · cases h
    · cases h
  · cases h
section
variable {X : Cx} {T : Tb} {W : WX} {a b : Expr} {ma mb : En → Ou R} {p p2 pos pos2 : Pos}
theorem pe_lr1 (hc : X.calm = true) (hg : Gl X "list") (hm : X.mg "list" = none) (hg2 : Gl X "range") (hm2 : X.mg "range" = none) (ha : PE X a (tE T W ma)) (na : starEach [a] X.env = (false, eval a X.env) :: starEach [] X.env)
    (nb : starEach [.Call (.Name "range" p2) [a] [] pos2] X.env = (false, eval (.Call (.Name "range" p2) [a] [] pos2) X.env) :: starEach [] X.env) :
    PE X (.Call (.Name "list" p) [.Call (.Name "range" p2) [a] [] pos2] [] pos) (tE T W (bP (pS fun ds => if ds.length = 1 then dLr ds else none) (aCons ma aNil))) :=
  PE.imp (pe_listRg hc hg hm (prg_1 hg2 hm2 ha na) nb) fun σ H Q h => tE.mono (fun x H1 ⟨n, e, ok, q⟩ => by cases e; exact ⟨n, rfl, ok, q⟩) (tE_prim1 (prim_S fo_lr1) h)
theorem pe_lr2 (hc : X.calm = true) (hg : Gl X "list") (hm : X.mg "list" = none) (hg2 : Gl X "range") (hm2 : X.mg "range" = none) (ha : PE X a (tE T W ma)) (hb : PE X b (tE T W mb)) (na : starEach [a, b] X.env = (false, eval a X.env) :: starEach [b] X.env) (nb' : starEach [b] X.env = (false, eval b X.env) :: starEach [] X.env) (hp : (backTo pos2 (starEach [b] X.env)).any (·.1) = false)
    (nb : starEach [.Call (.Name "range" p2) [a, b] [] pos2] X.env = (false, eval (.Call (.Name "range" p2) [a, b] [] pos2) X.env) :: starEach [] X.env) :
    PE X (.Call (.Name "list" p) [.Call (.Name "range" p2) [a, b] [] pos2] [] pos) (tE T W (bP (pS fun ds => if ds.length = 2 then dLr ds else none) (aCons ma (aCons mb aNil)))) :=
  PE.imp (pe_listRg hc hg hm (prg_2 hg2 hm2 ha hb na nb' hp) nb) fun σ H Q h => tE.mono (fun x H1 k => tE.mono (fun y H2 ⟨m, n, e, ok, q⟩ => by cases e; exact ⟨m, n, rfl, rfl, ok, q⟩) k) (tE_prim2 (prim_S fo_lr2) h)
end
theorem f_lr1 {n : Int} (h : -(2 ^ 62) ≤ n ∧ n ≤ 16777216) : dLr [.int n] = some (.ol (rngD 0 n.toNat)) := if_pos h
theorem f_lr2 {m n : Int} (h : 0 ≤ m ∧ m ≤ 16777216 ∧ -(2 ^ 62) ≤ n ∧ n ≤ 16777216) : dLr [.int m, .int n] = some (.ol (rngD m (n - m).toNat)) := if_pos h
/-! ### xs.index(x), xs.count(n), xs any list -/
def isL : D → Bool
  | .lst _ => true
  | _ => false
def bMp (f : List D → Option S) (mo : En → Ou R) (ms : En → Ou (List R)) : En → Ou R := fun e => match mo e with
  | .ok r e1 => match pk e1 r with
    | some s => if isL s.d = true then match ms e1 with
        | .ok rs e2 => pS f (r :: rs) e2
        | .ex x e2 => .ex x e2
        | .no => .no
      else .no
    | none => .no
  | .ex x e1 => .ex x e1
  | .no => .no
/-- what a method of a list promises that only looks -/
def MpOk (T : Tb) (r : V → List V → Hp → VK → Prop) (f : List D → Option S) : Prop := FunOk T (fun vs H Q => ∃ x xs, vs = x :: xs ∧ r x xs H Q) f
theorem tE_mp {T : Tb} {W : WX} {f : List D → Option S} {mo : En → Ou R} {ms : En → Ou (List R)} {r : V → List V → Hp → VK → Prop} (ho : MpOk T r f) {σ : SV} {H : Hp} {Q : VK} : tE T W (bMp f mo ms) σ H Q → tE T W mo σ H fun x H1 => tyV T.K "list" x H1 ∧ tEs T W ms σ H1 fun xs H2 => r x xs H2 Q := by
  rintro ⟨G, e, τ, u, md, q⟩
  refine ⟨G, e, τ, u, md, ?_⟩
  unfold bMp at q
  cases hm : mo e with
  | no => rw [hm] at q; exact q
  | ex x e1 => rw [hm] at q; exact q
  | ok rr e1 =>
    rw [hm] at q
    intro G1 H1 v τ1 u1 ev1 md1 hr1
    simp only at q
    cases hp : pk e1 rr with
    | none => rw [hp] at q; exact q.elim
    | some s =>
      rw [hp] at q
      simp only at q
      split at q
      · rename_i hl
        have ro : RepO T G1 H1 v s := by
          have := hr1.peek (ss := [s]) md1 md.l2 (by simp [pks, hp])
          cases this with | cons a _ => exact a
        refine ⟨?_, G1, e1, τ ++ τ1, u ++ u1, md1, ?_⟩
        · cases hsd : s.d with
          | lst ds =>
            obtain ⟨a, xs, rfl, hq, _⟩ := ro.lst md1.sl.sub hsd
            exact .inl ⟨rfl, xs, hq⟩
          | _ => rw [hsd] at hl; simp [isL] at hl
        · cases hms : ms e1 with
          | no => rw [hms] at q; exact q.elim
          | ex x e2 =>
            rw [hms] at q
            refine fun G2 H2 c dx ev2 md2 rx => q G2 H2 c dx ((ev1.trans ev2).less (As_drop md2.l1 md.l2)) (md2.dropT md.l2) rx
          | ok rs e2 =>
            rw [hms] at q
            intro G2 H2 vs τ2 u2 ev2 md2 hr2
            have key := prim_S (W := W) (f := f) (rd := fun vs H Q => ∃ x xs, vs = x :: xs ∧ r x xs H Q) ho G2 H2 σ e2 τ (τ1 ++ τ2) u (u1 ++ u2) (rr :: rs) (v :: vs) Q (by rw [← List.append_assoc, ← List.append_assoc]; exact md2) md.l2 (hr1.app hr2)
              (Post.after q (by rw [← List.append_assoc, ← List.append_assoc]; exact ev1.trans ev2))
            obtain ⟨x, xs, e3, k⟩ := key
            cases e3
            exact k
      · exact q.elim
section
variable {X : Cx} {T : Tb} {W : WX} {r : V → List V → Hp → VK → Prop} {f : List D → Option S} {mo : En → Ou R} {ms : En → Ou (List R)} {o e : Expr} {es : List Expr} {name : Str} {id : String} {apos cpos : Pos}
theorem pe_mpF (hK : T.K = X.K) (slot : Slot "list" name id) (hty : typeOf (.builtin id) = pure (.type "method_descriptor")) (hm : MtR X id r) (ho : MpOk T r f) (hv : PE X o (tE T W mo)) (ha : PA X (e :: es) (tEs T W ms))
    (hbase : attributeBase o name X.env (eval o X.env) = eval o X.env)
    (hfew : ((backTo cpos (starEach (e :: es) X.env)).all (fun x => !x.1) && (backToKw cpos (keywordEach [] X.env)).all (fun x => x.1.isSome)
      && decide ((e :: es).length + ([] : List Keyword).length + (if ([] : List Keyword).isEmpty then 0 else 1) < 30)) = true)
    (hline : (apos.endLine == cpos.line) = true) (hs : starEach (e :: es) X.env = (false, eval e X.env) :: starEach es X.env) (hplain : (backTo cpos (starEach es X.env)).any (·.1) = false) :
    PE X (.Call (.Attribute o name apos) (e :: es) [] cpos) (tE T W (bMp f mo ms)) :=
  PE.imp (pe_bm PySem.F.plainAttrs_list slot hty hm hv ha hbase hfew hline hs hplain) fun σ H Q h => by
    have h := tE_mp ho h
    rw [hK] at h
    exact h
end
/-- the first place of a thing in a row -/
def idxD (d : D) (ds : List D) : Option Nat := (D.pds ds).findIdx? fun z => PyData.eqv z d.pd
def dIndex : List D → Option S
  | [.lst ds, d] => if SeqAt.shaped (D.lst ds).pd && SeqAt.shaped d.pd then (idxD d ds).map fun j => .fr (.int (j : Nat)) else none
  | _ => none
def dCount : List D → Option S
  | [.lst ds, d] => if SeqAt.shaped (D.lst ds).pd && SeqAt.shaped d.pd then some (.fr (.int ((D.pds ds).countP fun z => PyData.eqv z d.pd : Nat))) else none
  | _ => none
/-- l.count(x): how many equal ones -/
def rCountD (K : PySem.W.Frag) : V → List V → Hp → VK → Prop := fun x xs H Q => ∃ (a : Addr) (y : V) (d : PyData) (ds : List PyData), x = V.ref a ∧ xs = [y] ∧ Dp K H (V.ref a) (.list ds) ∧ Dp K H y d ∧
  SeqAt.shaped (.list ds) = true ∧ SeqAt.shaped d = true ∧ Q (.int (ds.countP fun z => PyData.eqv z d : Nat)) H
theorem mt_countD {X : Cx} (hu : X.A.units + 65 < cLine) : MtR X "list.count" (rCountD X.K) := by
  intro pins s σ H x xs v us Q I rx rxs h
  obtain ⟨a, y, d, ds, rfl, rfl, hl, hy, sl, sd, q⟩ := h
  cases rx
  cases rxs with
  | cons ry rt =>
    rename_i uy ut
    cases rt
    obtain ⟨bs, r1⟩ := Dp.reads I d y uy hy ry
    have hxs : PyData.canLayAll0 ds = true := SeqAt.canLay_of_shaped sl
    have hroom : X.A.units + 1 + min (PyData.depthAll ds) d.depth < cLine := room_in_shaped sd hu
    cases hl with
    | lst hs ha =>
      obtain ⟨its, rv, ⟨⟨cls, dd, data, sls⟩, n, ho, hc, hdn, hdt⟩, hlen⟩ := I.list hs
      simp only at hc hdt
      subst hc hdt
      obtain ⟨as, h4⟩ := Dp.readsAll I ds _ its ha rv
      have hmap : its.map (SeqAt.readOf s.heap) = ds := SeqAt.readsAll_map ds its as hxs h4
      refine call_meets PySem.F.slot_list_count ⟨_, ho, rfl⟩ PySem.F.entry_list_count (PySem.F.args_list_count_2 _ _)
        (SeqAt.list_countAt a its.toArray n dd sls uy (fun u => PyData.eqv (SeqAt.readOf s.heap u) d)) ⟨ho, SeqAt.items_eqAt (vs := its.toArray) (show ReadsAll s.heap its.toArray.toList ds as from h4) r1 hxs (SeqAt.canLay_of_shaped sd) hroom, ?_⟩
      have ec : its.toArray.toList.countP (fun u => PyData.eqv (SeqAt.readOf s.heap u) d) = ds.countP fun z => PyData.eqv z d := by
        rw [← hmap, List.countP_map]; rfl
      refine ⟨.int (ds.countP fun z => PyData.eqv z d : Nat), H, I.tok _, ⟨s.toks, ?_⟩, q⟩
      show Value.int ((its.toArray.toList.countP (fun u => PyData.eqv (SeqAt.readOf s.heap u) d) : Nat) : Int) s.toks = Value.int ((ds.countP fun z => PyData.eqv z d : Nat) : Int) s.toks
      rw [ec]
theorem mp_index {T : Tb} : MpOk T (rIndexD T.K) dIndex := fun G H vs ss s Q hs r h k => by
  unfold dIndex at h
  split at h
  · rename_i ds d heq
    obtain ⟨v, w, s1, s2, rfl, r1, r2, e1, e2⟩ := repOs2 r heq
    split at h
    · rename_i hz
      rw [Bool.and_eq_true] at hz
      cases hj : idxD d ds with
      | none => rw [hj] at h; cases h
      | some j =>
        rw [hj] at h; cases h
        obtain ⟨a, xs, rfl, _, _⟩ := r1.lst hs e1
        have d1 := r1.dp hs (by rw [e1]; exact hz.1)
        rw [e1] at d1
        have d2 := r2.dp hs (by rw [e2]; exact hz.2)
        rw [e2] at d2
        obtain ⟨hlt, h1, h2⟩ := List.findIdx?_eq_some_iff_getElem.mp hj
        refine ⟨_, _, rfl, a, w, d.pd, D.pds ds, j, (D.pds ds)[j], rfl, rfl, d1, d2, hz.1, hz.2, List.getElem?_eq_getElem hlt, h1, fun m z hm hz' => ?_, done_fr (W := True) hs k (.int _)⟩
        have hml : m < (D.pds ds).length := by omega
        have := h2 m hm
        rw [List.getElem?_eq_getElem hml] at hz'
        cases hz'
        simpa using this
    · cases h
  · cases h
theorem mp_count {T : Tb} : MpOk T (rCountD T.K) dCount := fun G H vs ss s Q hs r h k => by
  unfold dCount at h
  split at h
  · rename_i ds d heq
    obtain ⟨v, w, s1, s2, rfl, r1, r2, e1, e2⟩ := repOs2 r heq
    split at h
    · rename_i hz
      rw [Bool.and_eq_true] at hz
      cases h
      obtain ⟨a, xs, rfl, _, _⟩ := r1.lst hs e1
      have d1 := r1.dp hs (by rw [e1]; exact hz.1)
      rw [e1] at d1
      have d2 := r2.dp hs (by rw [e2]; exact hz.2)
      rw [e2] at d2
      exact ⟨_, _, rfl, a, w, d.pd, D.pds ds, rfl, rfl, d1, d2, hz.1, hz.2, done_fr (W := True) hs k (.int _)⟩
    · cases h
  · cases h
/-! ### xs.insert(i, x) -/
def rInsert : V → List V → Hp → VK → Prop := fun x vs H Q => ∃ (l : Addr) (xs : List V) (i : Int) (y : V), x = .ref l ∧ vs = [.int i, y] ∧ H l = some (.lst xs) ∧ xs.length < sizeLine ∧ 0 ≤ i ∧ i < 2 ^ 63 ∧ Q .non (upd H l (.lst (xs.take i.toNat ++ [y] ++ xs.drop i.toNat)))
theorem mo_ins : MtOk rInsert fIns := fun T G H a xs vs ds as ds' d Q hA rx rv hf k => by
  unfold fIns at hf
  split at hf
  · split at hf
    · rename_i i d0 hz
      cases hf
      obtain ⟨v, w, rfl, r1, r2⟩ := repFs2 rv
      cases r1
      refine ⟨a, xs, i, w, rfl, rfl, hA, by rw [rx.length]; exact line24 hz.1, hz.2.1, by omega, k _ _ (((rx.take _).append (.cons r2 .nil)).append (rx.drop _)) .non⟩
    · cases hf
  · cases hf
theorem mt_insertF {X : Cx} : MtR X "list.insert" rInsert := mt_insert
/-! ### xs.extend(ys), ys a list of its own -/
def bExt (i : Nat) (m : En → Ou R) : En → Ou R := fun e => match e[i]? with
  | some (some (.ol _)) => match m e with
    | .ok r e1 => match pk e1 r with
      | some (.ol zs) => match e1[i]? with
        | some (some (.ol ds)) => if ds.length + zs.length ≤ 16777216 then .ok (.vl (.fr .non)) (e1.set i (some (.ol (ds ++ zs)))) else .no
        | _ => .no
      | _ => .no
    | .ex x e1 => .ex x e1
    | .no => .no
  | _ => .no
theorem tE_ext {T : Tb} {W : WX} {i : Nat} {m : En → Ou R} {σ : SV} {H : Hp} {Q : VK} : tE T W (bExt i m) σ H Q → tE T W (bVar i) σ H fun x H1 => tyV T.K "list" x H1 ∧ tE T W m σ H1 fun y H2 => rExtend x [y] H2 Q := by
  rintro ⟨G, e, τ, u, md, q⟩
  refine ⟨G, e, τ, u, md, ?_⟩
  unfold bExt at q
  split at q
  · rename_i d0 h0
    unfold bVar
    rw [h0]
    intro G1 H1 x τ' u' ev1 md1 hr1
    cases hr1 with
    | pl hv1 hn1 =>
      cases hn1
      rw [List.append_nil, List.append_nil] at ev1 md1
      obtain ⟨a, xs0, hva, hA0, _⟩ := md1.olAt h0
      rw [hv1] at hva; cases hva
      refine ⟨.inl ⟨rfl, _, .inl (.inl hA0)⟩, G1, e, τ, u, md1, ?_⟩
      cases hm : m e with
      | no => rw [hm] at q; exact q.elim
      | ex x e1 =>
        rw [hm] at q
        exact fun G2 H2 c dx ev2 md2 rx => q G2 H2 c dx (ev1.trans ev2) md2 rx
      | ok rr e1 =>
        rw [hm] at q
        intro G2 H2 y τ2 u2 ev2 md2 hr2
        simp only at q
        split at q
        · rename_i zs hp
          split at q
          · rename_i ds h2
            split at q
            · rename_i hz
              have ro : RepO T G2 H2 y (.ol zs) := by
                have := hr2.peek (ss := [.ol zs]) md2 md1.l2 (by simp [pks, hp])
                cases this with | cons a _ => exact a
              have md4 := md2.dropT md1.l2
              obtain ⟨a2, xs, hva2, hA, rxs⟩ := md4.olAt h2
              rw [hv1] at hva2; cases hva2
              cases ro with
              | @ol b ws _ hb hg rz =>
                refine ⟨a, b, xs, ws, rfl, rfl, hA, hb, by rw [rxs.length, rz.length]; exact Nat.le_trans hz (by decide), ?_⟩
                obtain ⟨md5, ev5⟩ := md4.wr h2 hv1 hA (rxs.append rz)
                have ev := ((ev1.trans ev2).less (As_drop md2.l1 md1.l2)).trans ev5
                refine q G2 _ .non [.non] [.fr .non] (ev.less fun b hb => ?_) (md5.push (.fr .non) (by simp [fp])) (.vl .nil)
                rcases (As_push md5.l1 md5.l2 b).mp hb with z | z
                · exact z
                · simp [fp] at z
            · exact q.elim
          · exact q.elim
        · exact q.elim
  · exact q.elim
section
variable {X : Cx} {T : Tb} {W : WX} {i : Nat} {m : En → Ou R} {e : Expr} {x : Str} {pn apos cpos : Pos}
theorem pe_extF (hK : T.K = X.K) (hv : PE X (.Name x pn) (tE T W (bVar i))) (ha : PE X e (tE T W m))
    (hbase : attributeBase (.Name x pn) "extend" X.env (eval (.Name x pn) X.env) = eval (.Name x pn) X.env)
    (hfew : ((backTo cpos (starEach [e] X.env)).all (fun x => !x.1) && (backToKw cpos (keywordEach [] X.env)).all (fun x => x.1.isSome)
      && decide (([e] : List Expr).length + ([] : List Keyword).length + (if ([] : List Keyword).isEmpty then 0 else 1) < 30)) = true)
    (hline : (apos.endLine == cpos.line) = true) (hs : starEach [e] X.env = (false, eval e X.env) :: starEach [] X.env) (hplain : (backTo cpos (starEach [] X.env)).any (·.1) = false) :
    PE X (.Call (.Attribute (.Name x pn) "extend" apos) [e] [] cpos) (tE T W (bExt i m)) :=
  PE.imp (pe_bm PySem.F.plainAttrs_list PySem.F.slot_list_extend PySem.F.type_list_extend (r := rExtend) (show MtR X "list.extend" rExtend from mt_extend) hv (pa_cons ha pa_nil (hs := hs)) hbase hfew hline hs hplain) fun σ H Q h => by
    have h := tE_ext h
    rw [hK] at h
    exact tE.mono (fun x H1 ⟨h1, h2⟩ => ⟨h1, h2⟩) h
end
/-! ### for x in reversed(xs) -/
theorem WalkOk.rev {T : Tb} {G : Hp} {a : Addr} {xs : List V} {ds : List D} (hq : SqL T.K G a xs) (r : RepFs T G xs ds) : WalkOk T G (Itv T.K a xs.length) ds.reverse := by
  refine ⟨fun i d G' H' s1 s2 hd => ?_, fun i G' H' s1 s2 hl => by show xs.length ≤ i; rw [r.length]; simpa using hl⟩
  have hi : i < ds.length := by simpa using (List.getElem?_eq_some_iff.mp hd).1
  rw [List.getElem?_reverse hi] at hd
  obtain ⟨x, hx, rx⟩ := r.get hd
  have hl := r.length
  rw [show ds.length - 1 - i = xs.length - 1 - i by omega] at hx
  refine ⟨⟨by omega, xs, x, (s1.trans s2).sqL hq, hx⟩, fun y H2 ⟨e1, e2⟩ => ?_⟩
  have := e2 xs ((s1.trans s2).sqL hq)
  rw [hx] at this; cases this
  subst e1
  exact ⟨G', .refl s2, rx.mono s1⟩
theorem WalkOk.revT {T : Tb} {G : Hp} {a : Addr} {xs : List V} {ds : List D} (hq : SqT T.K G a xs) (r : RepFs T G xs ds) : WalkOk T G (RT.ItvT T.K a xs.length) ds.reverse := by
  refine ⟨fun i d G' H' s1 s2 hd => ?_, fun i G' H' s1 s2 hl => by show xs.length ≤ i; rw [r.length]; simpa using hl⟩
  have hi : i < ds.length := by simpa using (List.getElem?_eq_some_iff.mp hd).1
  rw [List.getElem?_reverse hi] at hd
  obtain ⟨x, hx, rx⟩ := r.get hd
  have hl := r.length
  rw [show ds.length - 1 - i = xs.length - 1 - i by omega] at hx
  refine ⟨⟨by omega, xs, x, (s1.trans s2).sqT hq, hx⟩, fun y H2 ⟨e1, e2⟩ => ?_⟩
  have := e2 xs ((s1.trans s2).sqT hq)
  rw [hx] at this; cases this
  subst e1
  exact ⟨G', .refl s2, rx.mono s1⟩
def revOf : List D → Option (List D)
  | [.lst ds] => some ds.reverse
  | [.tup ds] => some ds.reverse
  | _ => none
theorem pi_revF {X : Cx} {T : Tb} {W : WX} {tg a : Expr} {ma : En → Ou R} {p pos : Pos} (hK : T.K = X.K) (hg : Gl X "reversed") (hm : X.mg "reversed" = none) (ha : PE X a (tE T W ma)) (hs : starEach [a] X.env = (false, eval a X.env) :: starEach [] X.env) :
    PI X tg (.Call (.Name "reversed" p) [a] [] pos) (tI T W (mPs revOf (aCons ma aNil))) :=
  PI.imp (RT.pi_revA hg hm ha hs) fun σ H R h => by
    have h2 : tEs T W (aCons ma aNil) σ H (fun vs H1 => ∃ v, vs = [v] ∧ ∃ (a : Addr) (xs : List V), v = .ref a ∧ ((SqL X.K H1 a xs ∧ R (Itv X.K a xs.length) H1) ∨ (SqT X.K H1 a xs ∧ R (RT.ItvT X.K a xs.length) H1))) := by
      refine tEs.mono (fun vs H1 ⟨G1, ds, l, hsub, r, hf, k⟩ => ?_) (tI_args h)
      unfold revOf at hf
      split at hf
      · cases hf
        obtain ⟨v, rfl, rv⟩ := repFs1 r
        cases rv with
        | lst h1 k1 => rw [← hK]; exact ⟨_, rfl, _, _, rfl, .inl ⟨hsub.sqL h1, k _ (.rev h1 k1)⟩⟩
      · cases hf
        obtain ⟨v, rfl, rv⟩ := repFs1 r
        cases rv with
        | tup h1 k1 => rw [← hK]; exact ⟨_, rfl, _, _, rfl, .inr ⟨hsub.sqT h1.sq, k _ (.revT h1.sq k1)⟩⟩
      · cases hf
    exact tE.mono (fun v H1 k => by obtain ⟨w, e, k⟩ := tEs_nil k; cases e; exact k) (tEs_cons h2)
end Fv

namespace Fv
open PySem PySem.Spec PyProof.Rows L2
section
variable {X : Xn → En → Prop} {e e1 : En} {Q : R → En → Prop} {m mo : En → Ou R} {ms : En → Ou (List R)} {f : List D → Option S} {r : R} {rs : List R} {s : S} {i j : Nat} {ds zs xs : List D}
def KMr (X : Xn → En → Prop) (f : List D → Option S) (r : R) (Q : R → En → Prop) : List R → En → Prop := fun rs e => Wo X (pS f (r :: rs) e) Q
theorem y_kmr : KMr X f r Q rs e = Wo X (pS f (r :: rs) e) Q := (rfl)
def MpL (X : Xn → En → Prop) (f : List D → Option S) (ms : En → Ou (List R)) (r : R) (e : En) (Q : R → En → Prop) : D → Prop
  | .lst _ => Wo X (ms e) (KMr X f r Q)
  | _ => False
theorem y_mpl : MpL X f ms r e Q (.lst ds) = Wo X (ms e) (KMr X f r Q) := (rfl)
def MpP (X : Xn → En → Prop) (f : List D → Option S) (ms : En → Ou (List R)) (r : R) (e : En) (Q : R → En → Prop) : Option (Option S) → Prop
  | some (some s) => MpL X f ms r e Q s.d
  | _ => False
theorem y_mppp : MpP X f ms r e Q (some (some s)) = MpL X f ms r e Q s.d := (rfl)
def KMp (X : Xn → En → Prop) (f : List D → Option S) (ms : En → Ou (List R)) (Q : R → En → Prop) : R → En → Prop
  | .vl s, e => MpL X f ms (.vl s) e Q s.d
  | .pl i, e => MpP X f ms (.pl i) e Q e[i]?
theorem y_mpv : KMp X f ms Q (.vl s) e = MpL X f ms (.vl s) e Q s.d := (rfl)
theorem y_mpp : KMp X f ms Q (.pl i) e = MpP X f ms (.pl i) e Q e[i]? := (rfl)
theorem y_mp : Wo X (bMp f mo ms e) Q = Wo X (mo e) (KMp X f ms Q) := by
  have key : ∀ (r : R) (e1 : En) (s : S), Wo X (if isL s.d = true then match ms e1 with
        | .ok rs e2 => pS f (r :: rs) e2
        | .ex x e2 => .ex x e2
        | .no => .no
      else .no) Q = MpL X f ms r e1 Q s.d := fun r e1 s => by
    cases hd : s.d with
    | lst ds =>
      rw [if_pos (by rfl)]
      show _ = Wo X (ms e1) (KMr X f r Q)
      cases ms e1 <;> rfl
    | _ => rfl
  unfold bMp
  cases mo e with
  | no => rfl
  | ex x e1 => rfl
  | ok r e1 =>
    show Wo X (match pk e1 r with
      | some s => if isL s.d = true then match ms e1 with
        | .ok rs e2 => pS f (r :: rs) e2
        | .ex x e2 => .ex x e2
        | .no => .no
      else .no
      | none => .no) Q = KMp X f ms Q r e1
    cases r with
    | vl s => exact key _ _ _
    | pl i =>
      show _ = MpP X f ms (.pl i) e1 Q e1[i]?
      simp only [pk]
      cases e1[i]? with
      | none => rfl
      | some y => cases y with
        | none => rfl
        | some s => exact key _ _ _
/-! extend -/
def ExtM (i : Nat) (Q : R → En → Prop) (zs : List D) (e : En) : Option (Option S) → Prop
  | some (some (.ol ds)) => ds.length + zs.length ≤ 16777216 ∧ Q (.vl (.fr .non)) (e.set i (some (.ol (ds ++ zs))))
  | _ => False
theorem y_extm : ExtM i Q zs e (some (some (.ol ds))) = (ds.length + zs.length ≤ 16777216 ∧ Q (.vl (.fr .non)) (e.set i (some (.ol (ds ++ zs))))) := (rfl)
def KExtP (i : Nat) (Q : R → En → Prop) (e : En) : Option (Option S) → Prop
  | some (some (.ol zs)) => ExtM i Q zs e e[i]?
  | _ => False
theorem y_kextpp : KExtP i Q e (some (some (.ol zs))) = ExtM i Q zs e e[i]? := (rfl)
def KExt (i : Nat) (Q : R → En → Prop) : R → En → Prop
  | .vl (.ol zs), e => ExtM i Q zs e e[i]?
  | .pl j, e => KExtP i Q e e[j]?
  | _, _ => False
theorem y_kextv : KExt i Q (.vl (.ol zs)) e = ExtM i Q zs e e[i]? := (rfl)
theorem y_kextp : KExt i Q (.pl j) e = KExtP i Q e e[j]? := (rfl)
def ExtP (X : Xn → En → Prop) (i : Nat) (m : En → Ou R) (Q : R → En → Prop) (e : En) : Option (Option S) → Prop
  | some (some (.ol _)) => Wo X (m e) (KExt i Q)
  | _ => False
theorem y_extp : ExtP X i m Q e (some (some (.ol ds))) = Wo X (m e) (KExt i Q) := (rfl)
theorem y_ext : Wo X (bExt i m e) Q = ExtP X i m Q e e[i]? := by
  have fin : ∀ (e1 : En) (zs : List D), Wo X (match e1[i]? with
        | some (some (.ol ds)) => if ds.length + zs.length ≤ 16777216 then .ok (.vl (.fr .non)) (e1.set i (some (.ol (ds ++ zs)))) else .no
        | _ => .no) Q = ExtM i Q zs e1 e1[i]? := fun e1 zs => by
    cases e1[i]? with
    | none => rfl
    | some y => cases y with
      | none => rfl
      | some s => cases s with
        | ol ds =>
          show Wo X (if ds.length + zs.length ≤ 16777216 then .ok (.vl (.fr .non)) (e1.set i (some (.ol (ds ++ zs)))) else .no) Q = (ds.length + zs.length ≤ 16777216 ∧ Q (.vl (.fr .non)) (e1.set i (some (.ol (ds ++ zs)))))
          by_cases h : ds.length + zs.length ≤ 16777216
          · rw [if_pos h]; simp only [h, true_and]; rfl
          · rw [if_neg h]; exact propext ⟨fun q => False.elim q, fun q => absurd q.1 h⟩
        | _ => rfl
  unfold bExt
  cases e[i]? with
  | none => rfl
  | some y => cases y with
    | none => rfl
    | some s => cases s with
      | ol d0 =>
        show Wo X (match m e with
          | .ok r e1 => match pk e1 r with
            | some (.ol zs) => match e1[i]? with
              | some (some (.ol ds)) => if ds.length + zs.length ≤ 16777216 then .ok (.vl (.fr .non)) (e1.set i (some (.ol (ds ++ zs)))) else .no
              | _ => .no
            | _ => .no
          | .ex x e1 => .ex x e1
          | .no => .no) Q = Wo X (m e) (KExt i Q)
        cases m e with
        | no => rfl
        | ex x e1 => rfl
        | ok r e1 =>
          cases r with
          | vl s => cases s with
            | ol zs => exact fin e1 zs
            | _ => rfl
          | pl j =>
            show Wo X (match (e1[j]?).join with
              | some (.ol zs) => match e1[i]? with
                | some (some (.ol ds)) => if ds.length + zs.length ≤ 16777216 then .ok (.vl (.fr .non)) (e1.set i (some (.ol (ds ++ zs)))) else .no
                | _ => .no
              | _ => .no) Q = KExtP i Q e1 e1[j]?
            cases e1[j]? with
            | none => rfl
            | some y => cases y with
              | none => rfl
              | some s => cases s with
                | ol zs => exact fin e1 zs
                | _ => rfl
      | _ => rfl
end
theorem cnt_iL {k : Int} : ∀ {l : List Int}, (D.pds (iL l)).countP (fun z => PyData.eqv z (D.int k).pd) = l.count k
  | [] => rfl
  | a :: l => by
    show List.countP _ (PyData.int a :: D.pds (iL l)) = _
    rw [List.countP_cons, cnt_iL (l := l), List.count_cons]
    have e : PyData.eqv (.int a) (D.int k).pd = (a == k) := rfl
    rw [e]
theorem f_count {l : List Int} {k : Int} : dCount [.lst (iL l), .int k] = some (.fr (.int (l.count k : Nat))) := by
  show (if (SeqAt.shaped (D.lst (iL l)).pd && SeqAt.shaped (D.int k).pd) = true then some (S.fr (.int ((D.pds (iL l)).countP fun z => PyData.eqv z (D.int k).pd : Nat))) else none) = _
  rw [shaped_lstI, shaped_int, cnt_iL]; rfl
theorem idx_iL {k : Int} : ∀ {l : List Int}, k ∈ l → idxD (.int k) (iL l) = some (l.idxOf k)
  | [], h => by cases h
  | a :: l, h => by
    unfold idxD
    show List.findIdx? _ (PyData.int a :: D.pds (iL l)) = _
    rw [List.findIdx?_cons, List.idxOf_cons]
    have e : PyData.eqv (.int a) (D.int k).pd = (a == k) := rfl
    rw [e]
    by_cases hak : a = k
    · subst hak; simp
    · have hk : (a == k) = false := by simpa using hak
      rcases List.mem_cons.mp h with h | h
      · exact absurd h.symm hak
      · have := idx_iL h
        unfold idxD at this
        rw [this, hk]
        simp
theorem f_index {l : List Int} {k : Int} (h : k ∈ l) : dIndex [.lst (iL l), .int k] = some (.fr (.int (l.idxOf k : Nat))) := by
  show (if (SeqAt.shaped (D.lst (iL l)).pd && SeqAt.shaped (D.int k).pd) = true then (idxD (.int k) (iL l)).map fun j => S.fr (.int (j : Nat)) else none) = _
  rw [shaped_lstI, shaped_int, idx_iL h]; rfl
theorem hu65m {k : Nat} {A : Around} {v : Option Value} (hr : Room k A) : (A.mark v).units + 65 < cLine := by
  have := hr.un
  show A.units + 65 < cLine
  omega
theorem revL {xs : List D} : revOf [.lst xs] = some xs.reverse := (rfl)
theorem revT {xs : List D} : revOf [.tup xs] = some xs.reverse := (rfl)
theorem f_rep {k : Int} {xs : List D} (h : -(2 ^ 62) ≤ k ∧ k < 2 ^ 62 ∧ xs.length * k.toNat ≤ 16777216) : dMulS [.ol xs, .fr (.int k)] = some (.ol (List.replicate k.toNat xs).flatten) := f_mulL h
end Fv

namespace Fv
open PySem PySem.Spec PyProof.Rows L2
section
variable {e e0 e1 : En} {vs : List Nat} {Q : R → En → Prop} {g : S → En → Fl} {t : En → Ou Bool} {m : En → Ou R}
theorem wipeE_len : ∀ vs : List Nat, (wipeE e vs).length = e.length
  | [] => rfl
  | v :: vs => by rw [w_cons, List.length_set, wipeE_len vs]
theorem wipeE_get2 {i : Nat} : ∀ vs : List Nat, (wipeE e vs)[i]? = if i ∈ vs ∧ i < e.length then some none else e[i]?
  | [] => by simp [w_nil]
  | v :: vs => by
    rw [w_cons, List.getElem?_set, wipeE_get2 vs, wipeE_len]
    by_cases h : v = i
    · subst h
      by_cases h2 : v < e.length
      · simp [h2]
      · simp [h2]
    · have h' : ¬ i = v := fun z => h z.symm
      simp [h, h']
theorem backE_get {i : Nat} : ∀ vs : List Nat, (backE e0 e vs)[i]? = if i ∈ vs ∧ i < e.length then some (e0[i]?).join else e[i]?
  | [] => by simp [backE]
  | v :: vs => by
    show ((backE e0 e vs).set v (e0[v]?).join)[i]? = _
    rw [List.getElem?_set, backE_get vs, backE_length]
    by_cases h : v = i
    · subst h
      by_cases h2 : v < e.length
      · simp [h2]
      · simp [h2]
    · have h' : ¬ i = v := fun z => h z.symm
      simp [h, h']
theorem back_wipe : backE e1 (wipeE e1 vs) vs = e1 := by
  apply List.ext_getElem?
  intro i
  rw [backE_get, wipeE_len, wipeE_get2]
  by_cases h : i ∈ vs ∧ i < e1.length
  · rw [if_pos h]
    have := List.getElem?_eq_getElem h.2
    rw [this]; rfl
  · rw [if_neg h, if_neg h]
/-- a comprehension over a row told by P; its names may stand for something ahead; the body leaves all as it was -/
theorem K_mapB {α : Type} {p : List α} {P F : α → D} (hl : p.length < 16777216) (ho : okW e1 vs = true)
    (hs : ∀ a ∈ p, ∀ (I : List D → List D → En → Prop) (ds' acc : List D), I ds' (acc ++ [F a]) (wipeE e1 vs) → Wf noX (g (.fr (P a)) (wipeE e1 vs)) (fun e2 => Wo noX (m e2) (KLi I vs ds' acc)) (fun _ _ => False))
    (hN : Q (.vl (.ol (p.map F))) e1) : KLc g bYes m vs Q (p.map P) e1 := by
  refine ⟨ho, by rw [List.length_map]; exact hl, ?_⟩
  let J : List D → List D → En → Prop := fun ds acc e => ∃ l r, l ++ r = p ∧ ds = r.map P ∧ acc = l.map F ∧ e = wipeE e1 vs
  refine WL_inv J ⟨[], p, rfl, rfl, rfl, rfl⟩ (fun d ds' acc e h => ?_) (fun acc e h => ?_)
  · obtain ⟨l, r, h1, h2, h3, rfl⟩ := h
    cases r with
    | nil => cases h2
    | cons a r =>
      cases h2
      refine Wf.mono (hs a (by rw [← h1]; simp) J (r.map P) acc ⟨l ++ [a], r, by rw [← h1]; simp, rfl, by rw [h3]; simp, rfl⟩) (fun e1 q => ?_) (fun _ _ q => q)
      exact q
  · obtain ⟨l, r, h1, h2, h3, rfl⟩ := h
    have : r = [] := by cases r with
      | nil => rfl
      | cons a r => cases h2
    subst this
    rw [List.append_nil] at h1
    show Q (.vl (.ol acc)) (backE e1 (wipeE e1 vs) vs)
    rw [back_wipe, h3, h1]
    exact hN
/-- one with a test -/
theorem K_filterB {α : Type} {p : List α} {P F : α → D} {Tp : α → Bool} (hl : p.length < 16777216) (ho : okW e1 vs = true)
    (hs : ∀ a ∈ p, ∀ (I : List D → List D → En → Prop) (ds' acc : List D), (Tp a = true → I ds' (acc ++ [F a]) (wipeE e1 vs)) → (Tp a = false → I ds' acc (wipeE e1 vs)) → Wf noX (g (.fr (P a)) (wipeE e1 vs)) (fun e2 => Wo noX (t e2) (KTs m I vs ds' acc)) (fun _ _ => False))
    (hN : Q (.vl (.ol ((p.filter Tp).map F))) e1) : KLc g t m vs Q (p.map P) e1 := by
  refine ⟨ho, by rw [List.length_map]; exact hl, ?_⟩
  let J : List D → List D → En → Prop := fun ds acc e => ∃ l r, l ++ r = p ∧ ds = r.map P ∧ acc = (l.filter Tp).map F ∧ e = wipeE e1 vs
  refine WL_inv J ⟨[], p, rfl, rfl, rfl, rfl⟩ (fun d ds' acc e h => ?_) (fun acc e h => ?_)
  · obtain ⟨l, r, h1, h2, h3, rfl⟩ := h
    cases r with
    | nil => cases h2
    | cons a r =>
      cases h2
      refine Wf.mono (hs a (by rw [← h1]; simp) J (r.map P) acc (fun ht => ⟨l ++ [a], r, by rw [← h1]; simp, rfl, by rw [h3]; simp [ht], rfl⟩) fun ht => ⟨l ++ [a], r, by rw [← h1]; simp, rfl, by rw [h3]; simp [ht], rfl⟩) (fun e1 q => ?_) (fun _ _ q => q)
      exact q
  · obtain ⟨l, r, h1, h2, h3, rfl⟩ := h
    have : r = [] := by cases r with
      | nil => rfl
      | cons a r => cases h2
    subst this
    rw [List.append_nil] at h1
    show Q (.vl (.ol acc)) (backE e1 (wipeE e1 vs) vs)
    rw [back_wipe, h3, h1]
    exact hN
end
/-- a text among texts -/
theorem nin_S {y : Str} {ws : List Str} (hy : PyData.strOk y = true) (hw : ∀ x ∈ ws, PyData.strOk x = true) : dIn true [.str y, .lst (ws.map D.str)] = some (.fr (.bl (!decide (y ∈ ws)))) := by
  rw [nin_L (by simpa [D.pn] using hy) (pns_all.mpr fun d hd => by obtain ⟨a, ha, rfl⟩ := List.mem_map.mp hd; simpa [D.pn] using hw a ha)]
  congr 4
  rw [Bool.eq_iff_iff]
  simp only [decide_eq_true_eq, List.mem_map]
  exact ⟨fun ⟨a, ha, e⟩ => by cases e; exact ha, fun h => ⟨y, h, rfl⟩⟩
theorem in_S {y : Str} {ws : List Str} (hy : PyData.strOk y = true) (hw : ∀ x ∈ ws, PyData.strOk x = true) : dIn false [.str y, .lst (ws.map D.str)] = some (.fr (.bl (decide (y ∈ ws)))) := by
  rw [in_L (by simpa [D.pn] using hy) (pns_all.mpr fun d hd => by obtain ⟨a, ha, rfl⟩ := List.mem_map.mp hd; simpa [D.pn] using hw a ha)]
  congr 3
  rw [Bool.eq_iff_iff]
  simp only [decide_eq_true_eq, List.mem_map]
  exact ⟨fun ⟨a, ha, e⟩ => by cases e; exact ha, fun h => ⟨y, h, rfl⟩⟩
/-- a number among numbers -/
theorem in_I {y : Int} {l : List Int} : dIn false [.int y, .lst (iL l)] = some (.fr (.bl (decide (y ∈ l)))) := by
  rw [in_L (by simp [D.pn]) (pns_all.mpr fun d hd => by obtain ⟨a, ha, rfl⟩ := List.mem_map.mp hd; simp [D.pn])]
  congr 3
  rw [Bool.eq_iff_iff]
  simp only [decide_eq_true_eq, List.mem_map]
  exact ⟨fun ⟨a, ha, e⟩ => by cases e; exact ha, fun h => ⟨y, h, rfl⟩⟩
theorem ixN_in {n : Nat} {i : Int} (h : 0 ≤ i ∧ i < n) : ixN n i = some i.toNat := by
  unfold ixN
  rw [if_pos h.1, if_pos (by omega)]
theorem atI_nat {α : Type} {f : α → D} {l : List α} {i : Int} {a : α} (h : 0 ≤ i) (e : l[i.toNat]? = some a) : atI (l.map f) i = some (f a) := by
  have hi : i.toNat < l.length := (List.getElem?_eq_some_iff.mp e).1
  unfold atI
  rw [ixN_in ⟨h, by rw [List.length_map]; omega⟩]
  show (l.map f)[i.toNat]? = _
  rw [List.getElem?_map, e]; rfl
/-- all different, all there: as many at least -/
theorem nodup_len {α : Type} [DecidableEq α] : ∀ {l ws : List α}, l.Nodup → (∀ x ∈ l, x ∈ ws) → l.length ≤ ws.length
  | [], _, _, _ => Nat.zero_le _
  | a :: l, ws, h, k => by
    have ha := k a (by simp)
    have h2 := List.nodup_cons.mp h
    have := nodup_len (l := l) (ws := ws.erase a) h2.2 fun x hx => (List.mem_erase_of_ne fun e => h2.1 (by rw [← e]; exact hx)).mpr (k x (by simp [hx]))
    rw [List.length_erase_of_mem ha] at this
    have : 0 < ws.length := List.length_pos_of_mem ha
    simp only [List.length_cons]
    omega
end Fv

namespace Fv
open PySem PySem.Spec PyProof.Rows L2
/-! ### a comprehension over a list of one's own, which stays one's own -/
def bLcP (i : Nat) (ds acc : List D) (e : En) : Ou R := match e[i]? with
  | some none => .ok (.vl (.ol acc)) (e.set i (some (.ol ds)))
  | _ => .no
def bLcO (i : Nat) (g : S → En → Fl) (t : En → Ou Bool) (m : En → Ou R) (vs : List Nat) : En → Ou R := fun e =>
  match e[i]? with
  | some (some (.ol ds)) => if okW (e.set i none) vs = true ∧ ds.length < 16777216 then
      match lcL g t m vs ds (wipeE (e.set i none) vs) [] with
      | some (acc, e2) => bLcP i ds acc (backE (e.set i none) e2 vs)
      | none => .no
    else .no
  | _ => .no
section
variable {T : Tb} {G H G' H' : Hp} {σ : SV} {e e' : En} {τ τ' : List V} {u u' : List S}
theorem tE_lcO {W : WX} {i0 : Nat} {H1 : Hp} {g : S → En → Fl} {t : En → Ou Bool} {m : En → Ou R} {vs : List Nat} (hg : GoG g) (nd : vs.Nodup) {Q : VK} : tE T W (bLcO i0 g t m vs) σ H1 Q →
    tLc (iSeq T.K (tVar i0)) (tG T WF (pC vs) g) (tB T WF t) (tE T WF m) vs σ H1 Q := by
  rintro ⟨G1, e0, τ, u, md, q⟩
  have hex : ∃ ds, e0[i0]? = some (some (.ol ds)) ∧ Post T W G1 H1 σ (As σ e0 τ u) τ u (if okW (e0.set i0 none) vs = true ∧ ds.length < 16777216 then (match lcL g t m vs ds (wipeE (e0.set i0 none) vs) [] with | some (acc, e2) => bLcP i0 ds acc (backE (e0.set i0 none) e2 vs) | none => .no) else .no) Q := by
    unfold bLcO at q
    split at q
    · rename_i ds h0; exact ⟨ds, h0, q⟩
    · exact q.elim
  obtain ⟨ds, h0, q⟩ := hex
  have hi0 : i0 < e0.length := (List.getElem?_eq_some_iff.mp h0).1
  obtain ⟨a0, vs0, hva, hA, rA⟩ := md.olAt h0
  have md1 := md.out hi0
  have aG : G1 a0 = none := by
    obtain ⟨w, hw, r⟩ := md.var h0
    rw [hva] at hw; cases hw
    cases r with | ol _ g _ => exact g
  have aA : a0 ∉ As σ (e0.set i0 none) τ u := (md.outDis h0 hva a0 (by simp [fp])).2
  have evU : ∀ b ∈ As σ (e0.set i0 none) τ u, b ∈ As σ e0 τ u := As_set_sub hi0
  have aU : a0 ∈ As σ e0 τ u := (md.outDis h0 hva a0 (by simp [fp])).1
  generalize e0.set i0 none = e1 at *
  refine ⟨.ref a0, hva, .inl ⟨a0, rfl, ⟨vs0, .of hA⟩, ?_⟩⟩
  · split at q
    · rename_i hok
      cases hL : lcL g t m vs ds (wipeE e1 vs) [] with
      | none => rw [hL] at q; exact q.elim
      | some z =>
        obtain ⟨accF, eF⟩ := z
        rw [hL] at q
        intro Dd hD
        have hDA : ∀ {σ' : SV} {e' : En} {τ' : List V} {u' : List S} {G' H' : Hp}, Md T G' H' σ' e' τ' u' → H' Dd = none → Dd ∉ As σ' e' τ' u' := fun m' hn hc => by
          obtain ⟨_, o, ho⟩ := m'.sl.own Dd hc
          rw [hn] at ho; cases ho
        have lowV : ∀ v ∈ vs, v < e1.length := fun v hv => by
          have := hok.1
          unfold okW at this
          rw [List.all_eq_true] at this
          have h1 := this v hv
          cases h2 : e1[v]? with
          | none => rw [h2] at h1; cases h1
          | some _ => exact (List.getElem?_eq_some_iff.mp h2).1
        obtain ⟨mw, sw⟩ := md1.wipe vs
        have g1 : Grow G1 H1 G1 (upd H1 Dd (.lst [])) := .own md1.sl.sub hD
        refine ⟨fun i k H => ∃ (G : Hp) (e : En) (acc : List D) (xs : List V), k = ds.length - i ∧ i ≤ ds.length ∧ Evo T.tbs G1 H1 (As σ e1 τ u) G H (As (L2.wipe σ vs) e τ u) ∧ Md T G H (L2.wipe σ vs) e τ u ∧ (∀ v ∈ vs, e[v]? = some none) ∧
            H Dd = some (.lst xs) ∧ G Dd = none ∧ Dd ∉ As (L2.wipe σ vs) e τ u ∧ RepFs T G xs acc ∧ acc.length ≤ i ∧ lcL g t m vs (ds.drop i) e acc = some (accF, eF),
          ⟨ds.length, G1, wipeE e1 vs, [], [], by simp, Nat.zero_le _, ?_, mw.grow g1, fun v hv => ?_, upd_same, md1.sl.sub.none hD, hDA mw hD, .nil, Nat.le_refl _, by rw [List.drop_zero]; exact hL⟩, ?_⟩
        · exact ⟨g1.mono, fun b o h _ _ => g1.keep b o h, fun b hb => .inl (sw b hb), fun b o h => (g1.frz b o h).imp id fun z => .inr (.of z), g1.tabs _⟩
        · rw [wipeE_get, if_pos ⟨hv, lowV v hv⟩]
        · rintro i k H ⟨G, e, acc, xs, rfl, hle, ev, m0, hn, hHD, hGD, hDn, rf, hacc, hl⟩
          by_cases hlt : i < ds.length
          · have hd : ds[i]? = some ds[i] := List.getElem?_eq_getElem hlt
            have hHa : H a0 = some (.lst vs0) := ev.keep a0 _ hA aA Od.lst.1
            obtain ⟨x0, hx0, rx0⟩ := rA.get hd
            have go : (Itl T.K a0).go i H := ⟨vs0, x0, .of hHa, hx0⟩
            have yl : ∀ x H2, (Itl T.K a0).yld i H x H2 → ∃ G2, Grow G H G2 H2 ∧ RepF T G2 x ds[i] := fun y H2 ⟨e1, e2⟩ => by
              subst e1
              have := e2 vs0 (.of hHa)
              rw [hx0] at this; cases this
              exact ⟨G, .refl m0.sl.sub, rx0.mono ev.mono⟩
            refine .inr ⟨go, fun H' => ∃ (G : Hp) (e : En) (acc : List D) (xs : List V), Evo T.tbs G1 H1 (As σ e1 τ u) G H' (As (L2.wipe σ vs) e τ u) ∧ Md T G H' (L2.wipe σ vs) e τ u ∧ (∀ v ∈ vs, e[v]? = some none) ∧
                H' Dd = some (.lst xs) ∧ G Dd = none ∧ Dd ∉ As (L2.wipe σ vs) e τ u ∧ RepFs T G xs acc ∧ acc.length ≤ i + 1 ∧ lcL g t m vs (ds.drop (i + 1)) e acc = some (accF, eF),
              fun H' ⟨G, e, acc, xs, a1, a2, a3, a4, a5, a6, a7, a8, a9⟩ => ⟨ds.length - (i + 1), by omega, G, e, acc, xs, rfl, hlt, a1, a2, a3, a4, a5, a6, a7, a8, a9⟩, fun x H2 hy => ?_⟩
            obtain ⟨G2, gr, rx⟩ := yl x H2 hy
            have m2 := m0.grow gr
            rw [List.drop_eq_getElem_cons hlt] at hl
            have hl : (match g (.fr ds[i]) e with
              | .nx e1 => match t e1 with
                | .ok true e2 => match m e2 with
                  | .ok r e3 => match frz1 e3 r with
                    | some (x, e4) => lcL g t m vs (ds.drop (i + 1)) (wipeE e4 vs) (acc ++ [x])
                    | none => none
                  | _ => none
                | .ok false e2 => lcL g t m vs (ds.drop (i + 1)) (wipeE e2 vs) acc
                | _ => none
              | _ => none) = some (accF, eF) := hl
            -- facts about the new list that every step hands on
            have keepD : ∀ {Ga Ha Gb Hb : Hp} {Aa Ab : List Addr}, Evo T.tbs Ga Ha Aa Gb Hb Ab → Ha Dd = some (.lst xs) → Ga Dd = none → Dd ∉ Aa → Hb Dd = some (.lst xs) ∧ Gb Dd = none ∧ Dd ∉ Ab := fun {Ga Ha Gb Hb Aa Ab} ev h1 h2 h3 => by
              refine ⟨ev.keep _ _ h1 h3 Od.lst.1, ?_, fun hc => ?_⟩
              · cases hq : Gb Dd with
                | none => rfl
                | some o =>
                  rcases ev.frz _ _ hq with z | z | z
                  · rw [h2] at z; cases z
                  · exact absurd z h3
                  · exact (z.no h1 .lst).elim
              · rcases ev.own _ hc with z | z
                · exact h3 z
                · exact z.no h1 .lst
            have e2g : Evo T.tbs G H (As (L2.wipe σ vs) e τ u) G2 H2 (As (L2.wipe σ vs) e τ u) := gr.evo _
            obtain ⟨hHD2, hGD2, hDn2⟩ := keepD e2g hHD hGD hDn
            refine ⟨G2, e, .fr ds[i], m2.l1, ?_, ?_⟩
            · have := (m2.base.md.push (RepO.fr rx) (by rw [fp_fr]; simp)).sl
              simpa using this
            · have eA : fps (L2.wipe σ vs ++ [some x]) (e ++ [some (.fr ds[i])]) = fps (L2.wipe σ vs) e := by
                rw [fps_append _ _ m2.l1]
                show _ ++ (fp x (.fr ds[i]) ++ []) = _
                rw [fp_fr, List.append_nil, List.append_nil]
              rw [eA]
              rcases hg (.fr ds[i]) e with ⟨e3, h1⟩ | ⟨x3, e3, h1⟩ | h1
              · rw [h1] at hl ⊢
                simp only at hl
                intro σ3 G3 H3 ev3 sl3 l3 k3
                obtain ⟨m3, ev3'⟩ := m2.step ev3 sl3
                obtain ⟨hHD3, hGD3, hDn3⟩ := keepD ev3' hHD2 hGD2 hDn2
                have hw : L2.wipe σ3 vs = L2.wipe σ vs := by
                  have := wipe_ext (vs := vs) l3 fun j hj => k3 j (by simp [pC, hj])
                  rw [this, wipe_idem]
                refine ⟨hw, G3, e3, τ, u, m3, ?_⟩
                have evA := (ev.trans e2g).trans ev3'
                cases ht : t e3 with
                | no => rw [ht] at hl; cases hl
                | ex x4 e4 => rw [ht] at hl; cases hl
                | ok k e4 =>
                  intro G4 H4 ev4 m4
                  obtain ⟨hHD4, hGD4, hDn4⟩ := keepD ev4 hHD3 hGD3 hDn3
                  have evB := evA.trans ev4
                  -- the turn's end
                  have fin : ∀ {Ga Ha : Hp} {ea : En} {σa : SV}, L2.wipe σa vs = L2.wipe σ vs → Md T Ga Ha σa ea τ u → Evo T.tbs G1 H1 (As σ e1 τ u) Ga Ha (As σa ea τ u) → Dd ∉ As σa ea τ u → σa.length = σ.length →
                      Md T Ga Ha (L2.wipe σ vs) (wipeE ea vs) τ u ∧ Evo T.tbs G1 H1 (As σ e1 τ u) Ga Ha (As (L2.wipe σ vs) (wipeE ea vs) τ u) ∧ (∀ v ∈ vs, (wipeE ea vs)[v]? = some none) ∧ Dd ∉ As (L2.wipe σ vs) (wipeE ea vs) τ u := fun {Ga Ha ea σa} hwa ma eva hda hla => by
                    obtain ⟨mw2, sw2⟩ := ma.wipe vs
                    rw [hwa] at mw2 sw2
                    refine ⟨mw2, eva.less sw2, fun v hv => ?_, fun hc => hda (sw2 _ hc)⟩
                    have h1 := lowV v hv
                    have h2 := md1.l1
                    have h3 := ma.l1
                    rw [wipeE_get, if_pos ⟨hv, by omega⟩]
                  have hl3 : σ3.length = σ.length := by rw [l3, wipe_length]
                  cases k with
                  | false =>
                    rw [ht] at hl
                    rw [if_neg Bool.false_ne_true]
                    obtain ⟨a1, a2, a3, a4⟩ := fin hw m4 evB hDn4 hl3
                    exact ⟨G4, wipeE e4 vs, acc, xs, a2, a1, a3, hHD4, hGD4, a4, rf.mono ((e2g.mono.trans ev3'.mono).trans ev4.mono), by omega, hl⟩
                  | true =>
                    rw [ht] at hl
                    simp only at hl
                    rw [if_pos rfl]
                    refine ⟨G4, e4, τ, u, m4, ?_⟩
                    cases hm : m e4 with
                    | no => rw [hm] at hl; cases hl
                    | ex x5 e5 => rw [hm] at hl; cases hl
                    | ok r e5 =>
                      rw [hm] at hl
                      simp only at hl
                      cases hf : frz1 e5 r with
                      | none => rw [hf] at hl; cases hl
                      | some z5 =>
                        obtain ⟨y, e6⟩ := z5
                        rw [hf] at hl
                        simp only at hl
                        intro G5 H5 v5 τ5 u5 ev5 m5 hr5
                        obtain ⟨G6, ev6, m6, ry⟩ := frz1_ok m5 md.l2 hr5 hf
                        have ev56 := ev5.trans ev6
                        obtain ⟨hHD6, hGD6, hDn6⟩ := keepD ev56 hHD4 hGD4 hDn4
                        refine ⟨xs, hHD6, sizeL' ?_, ?_⟩
                        · rw [rf.length]; have := hok.2; omega
                        · obtain ⟨a1, a2, a3, a4⟩ := fin hw m6 (evB.trans ev56) hDn6 hl3
                          refine ⟨G6, wipeE e6 vs, acc ++ [y], xs ++ [v5], ?_, a1.updAt (fun o z => by rw [hHD6] at z; cases z; exact .lst) a4 hGD6, a3, upd_same, hGD6, a4, (rf.mono (((e2g.mono.trans ev3'.mono).trans ev4.mono).trans ev56.mono)).append (.cons ry .nil), by simp; omega, hl⟩
                          refine ⟨a2.mono, fun b o hb hnb hnt => ?_, a2.own, a2.frz, fun h => ⟨tabs_upd (fun o z => by rw [hHD6] at z; cases z; exact .lst) _ (a2.tab h).1, (a2.tab h).2⟩⟩
                          rw [upd_ne (fun z => by rw [z, hD] at hb; cases hb)]
                          exact a2.keep b o hb hnb hnt
              · rw [h1] at hl; cases hl
              · rw [h1] at hl; cases hl
          · have hie : i = ds.length := by omega
            subst hie
            have hHa : H a0 = some (.lst vs0) := ev.keep a0 _ hA aA Od.lst.1
            refine .inl ⟨⟨vs0, .of hHa, by rw [rA.length]; exact Nat.le_refl _⟩, ?_⟩
            rw [List.drop_length] at hl
            have hl : some (acc, e) = some (accF, eF) := hl
            cases hl
            obtain ⟨mB, sB⟩ := md1.backs hok.1 hn ev.mono m0 nd
            have ro : RepO T G H (.ref Dd) (.ol accF) := .ol hHD hGD rf
            have own : ∀ b ∈ fp (.ref Dd) (.ol accF), b ∉ As σ (backE e1 eF vs) τ u := fun b hb hc => by
              have : b = Dd := by simpa [fp] using hb
              subst this
              exact hDn (sB _ hc)
            have q : Post T W G1 H1 σ (As σ e0 τ u) τ u (bLcP i0 ds accF (backE e1 eF vs)) Q := q
            unfold bLcP at q
            split at q
            · rename_i hb0
              have aGH : G a0 = none := by
                cases hq : G a0 with
                | none => rfl
                | some o =>
                  rcases ev.frz _ _ hq with z | z | z
                  · rw [aG] at z; cases z
                  · exact absurd z aA
                  · exact (z.no hA .lst).elim
              have aB : a0 ∉ As σ (backE e1 eF vs) τ u := fun hc => by
                rcases ev.own a0 (sB a0 hc) with z | z
                · exact aA z
                · exact z.no hA .lst
              obtain ⟨mP, sP⟩ := mB.put hb0 hva (RepO.ol hHa aGH (rA.mono ev.mono)) fun b hb => by
                have : b = a0 := by simpa [fp] using hb
                rw [this]; exact aB
              have ownP : ∀ b ∈ fp (.ref Dd) (.ol accF), b ∉ As σ ((backE e1 eF vs).set i0 (some (.ol ds))) τ u := fun b hb hc => by
                rcases sP b hc with z | z
                · have h1 : b = Dd := by simpa [fp] using hb
                  have h2 : b = a0 := by simpa [fp] using z
                  rw [h2] at h1
                  rw [← h1, hA] at hD; cases hD
                · exact own b hb z
              refine q G H (.ref Dd) [.ref Dd] [.ol accF] ⟨ev.mono, fun b o hb hn => ev.keep b o hb fun z => hn (evU b z), fun b hb => ?_, fun b o hb => (ev.frz b o hb).imp id (Or.imp (evU b) id), ev.tab⟩ (mP.push ro ownP) (.vl .nil)
              rcases (As_push mP.l1 mP.l2 b).mp hb with z | z
              · rcases sP b z with z | z
                · have : b = a0 := by simpa [fp] using z
                  rw [this]; exact .inl aU
                · exact (ev.own b (sB b z)).imp (evU b) id
              · have : b = Dd := by simpa [fp] using z
                rw [this]; exact .inr (.of hD)
            · exact q.elim
    · exact q.elim
end
section
variable {X : Cx} {T : Tb} {W : WX} {p : Nat → Bool} {own : List (Str × Nat)} {vs : List Nat} {g : S → En → Fl} {t : En → Ou Bool} {m : En → Ou R} {elt tg : Expr} {ifs : List Expr} {scope : Scope} {pos : Pos} {i0 : Nat} {x0 : Str} {p0 : Pos}
theorem pe_lcOF (hK : T.K = X.K) (hc : X.calm = true) (hN : X.N.Nodup) (ok : BlkOk X.N X.env.scope scope own) (hv : own.map (·.2) = vs) (nd : vs.Nodup) (gg : GoG g) (hN0 : X.N[i0]? = some x0) (hv0 : Vis X.env.scope x0)
    (hg : ∀ (s : Shared) (H : Hp) (C : Addr) (cl : List (Str × Addr)) (fp : List Addr), PG (X.blk s H scope (compEnvC scope cl C X.env) fp) tg (tG T WF (pC vs) g))
    (ht : ∀ (s : Shared) (H : Hp) (C : Addr) (cl : List (Str × Addr)) (fp : List Addr), PTs (X.blk s H scope (compEnvC scope cl C X.env) fp) ifs (tB T WF t))
    (he : ∀ (s : Shared) (H : Hp) (C : Addr) (cl : List (Str × Addr)) (fp : List Addr), PE (X.blk s H scope (compEnvC scope cl C X.env) fp) elt (tE T WF m)) (hs : ∀ x, foldedSetIterable (.Name x0 p0) X.env x = pure x)
    (hdb : (x0 == ("__debug__" : Str)) = false := by decide) (hcd : (x0 == ("__classdict__" : Str)) = false := by decide) :
    PE X (.ListComp elt [⟨tg, .Name x0 p0, ifs, 0⟩] scope pos) (tE T W (bLcO i0 g t m vs)) := by
  subst hv
  refine PE.imp (pe_lc hc hN (pi_seq (pe_var (hd := hdb) (hcd := hcd) hN0 hv0)) ok hg ht he hs) fun σ H Q h => ?_
  rw [← hK]
  exact tE_lcO gg nd h
end
/-! forwards -/
section
variable {X : Xn → En → Prop} {e e1 : En} {Q : R → En → Prop} {g : S → En → Fl} {t : En → Ou Bool} {m : En → Ou R} {i : Nat} {ds acc : List D} {vs : List Nat}
def LcO (i : Nat) (g : S → En → Fl) (t : En → Ou Bool) (m : En → Ou R) (vs : List Nat) (Q : R → En → Prop) (e : En) : Option (Option S) → Prop
  | some (some (.ol ds)) => KLc g t m vs (fun r e => match r with | .vl (.ol acc) => e[i]? = some none ∧ Q (.vl (.ol acc)) (e.set i (some (.ol ds))) | _ => False) ds (e.set i none)
  | _ => False
theorem y_lco1 : LcO i g t m vs Q e (some (some (.ol ds))) = KLc g t m vs (fun r e => match r with | .vl (.ol acc) => e[i]? = some none ∧ Q (.vl (.ol acc)) (e.set i (some (.ol ds))) | _ => False) ds (e.set i none) := (rfl)
theorem x_lco (q : LcO i g t m vs Q e e[i]?) : Wo X (bLcO i g t m vs e) Q := by
  unfold bLcO
  cases h : e[i]? with
  | none => rw [h] at q; exact q.elim
  | some y => cases y with
    | none => rw [h] at q; exact q.elim
    | some s => cases s with
      | ol ds =>
        rw [h] at q
        obtain ⟨h1, h2, q⟩ := q
        simp only [h1, h2, and_self, if_true]
        unfold WL at q
        cases h3 : lcL g t m vs ds (wipeE (e.set i none) vs) [] with
        | none => rw [h3] at q; exact q.elim
        | some p =>
          obtain ⟨a, e2⟩ := p
          rw [h3] at q
          obtain ⟨q1, q2⟩ := q
          show Wo X (bLcP i ds a (backE (e.set i none) e2 vs)) Q
          unfold bLcP
          rw [q1]
          exact q2
      | _ => rw [h] at q; exact q.elim
end
end Fv

namespace Fv
open PySem PySem.Spec PyProof.Rows L2
/-! ### a comprehension over a name: what is one's own stays so -/
def ownAt (e : En) (i : Nat) : Bool := match e[i]? with
  | some (some (.ol _)) => true
  | _ => false
def bLcE (i : Nat) (g : S → En → Fl) (t : En → Ou Bool) (m : En → Ou R) (vs : List Nat) : En → Ou R := fun e => if ownAt e i = true then bLcO i g t m vs e else bLc (mSeq (bVar i)) g t m vs e
section
variable {X : Cx} {T : Tb} {W : WX} {x : Expr} {m1 m2 : En → Ou R} {c : En → Bool}
theorem pe_or {t1 t2 : TE} (h : PE X x t1) (k : PE X x t2) : PE X x (fun σ H Q => t1 σ H Q ∨ t2 σ H Q) := ⟨fun pins s σ H Q I q => q.elim (fun z => h.run pins s σ H Q I z) fun z => k.run pins s σ H Q I z⟩
theorem pe_if2 (h : PE X x (tE T W m1)) (k : PE X x (tE T W m2)) : PE X x (tE T W fun e => if c e = true then m1 e else m2 e) := PE.imp (pe_or h k) fun σ H Q ⟨G, e, τ, u, md, q⟩ => by
  by_cases hc : c e = true
  · refine .inl ⟨G, e, τ, u, md, ?_⟩
    simp only [hc, if_true] at q
    exact q
  · refine .inr ⟨G, e, τ, u, md, ?_⟩
    simp only [hc, if_false] at q
    exact q
end
section
variable {X : Cx} {T : Tb} {W : WX} {p : Nat → Bool} {own : List (Str × Nat)} {vs : List Nat} {g : S → En → Fl} {t : En → Ou Bool} {m : En → Ou R} {elt tg : Expr} {ifs : List Expr} {scope : Scope} {pos : Pos} {i0 : Nat} {x0 : Str} {p0 : Pos}
theorem pe_lcEF (hK : T.K = X.K) (hN0 : X.N[i0]? = some x0) (hv0 : Vis X.env.scope x0) (hc : X.calm = true) (hN : X.N.Nodup) (ok : BlkOk X.N X.env.scope scope own) (hv : own.map (·.2) = vs) (nd : vs.Nodup) (gg : GoG g) (hi : PI X tg (.Name x0 p0) (tI T W (mSeq (bVar i0))))
    (hg : ∀ (s : Shared) (H : Hp) (C : Addr) (cl : List (Str × Addr)) (fp : List Addr), PG (X.blk s H scope (compEnvC scope cl C X.env) fp) tg (tG T WF (pC vs) g))
    (ht : ∀ (s : Shared) (H : Hp) (C : Addr) (cl : List (Str × Addr)) (fp : List Addr), PTs (X.blk s H scope (compEnvC scope cl C X.env) fp) ifs (tB T WF t))
    (he : ∀ (s : Shared) (H : Hp) (C : Addr) (cl : List (Str × Addr)) (fp : List Addr), PE (X.blk s H scope (compEnvC scope cl C X.env) fp) elt (tE T WF m)) (hs : ∀ x, foldedSetIterable (.Name x0 p0) X.env x = pure x)
    (hdb : (x0 == ("__debug__" : Str)) = false := by decide) (hcd : (x0 == ("__classdict__" : Str)) = false := by decide) :
    PE X (.ListComp elt [⟨tg, .Name x0 p0, ifs, 0⟩] scope pos) (tE T W (bLcE i0 g t m vs)) :=
  pe_if2 (c := fun e => ownAt e i0) (pe_lcOF hK hc hN ok hv nd gg hN0 hv0 hg ht he hs hdb hcd) (pe_lcF hc hN ok hv nd gg hi hg ht he hs)
end
section
variable {X : Xn → En → Prop} {e e1 : En} {Q : R → En → Prop} {g : S → En → Fl} {t : En → Ou Bool} {m : En → Ou R} {i : Nat} {ds acc : List D} {vs : List Nat}
def KLo (i : Nat) (ds : List D) (Q : R → En → Prop) : R → En → Prop
  | .vl (.ol acc), e => e[i]? = some none ∧ Q (.vl (.ol acc)) (e.set i (some (.ol ds)))
  | _, _ => False
theorem y_klo : KLo i ds Q (.vl (.ol acc)) e = (e[i]? = some none ∧ Q (.vl (.ol acc)) (e.set i (some (.ol ds)))) := (rfl)
def LcE (i : Nat) (g : S → En → Fl) (t : En → Ou Bool) (m : En → Ou R) (vs : List Nat) (Q : R → En → Prop) (e : En) : Option (Option S) → Prop
  | some (some (.ol ds)) => KLc g t m vs (KLo i ds Q) ds (e.set i none)
  | some (some (.fr d)) => SeqK (KLc g t m vs Q) d e
  | _ => False
theorem y_lce1 : LcE i g t m vs Q e (some (some (.ol ds))) = KLc g t m vs (KLo i ds Q) ds (e.set i none) := (rfl)
theorem y_lce2 {d : D} : LcE i g t m vs Q e (some (some (.fr d))) = SeqK (KLc g t m vs Q) d e := (rfl)
theorem bLcP_eq : Wo X (bLcP i ds acc e) Q = KLo i ds Q (.vl (.ol acc)) e := by
  rw [y_klo]
  unfold bLcP
  cases h : e[i]? with
  | none => exact propext ⟨fun q => q.elim, fun q => nomatch q.1⟩
  | some y => cases y with
    | none => exact propext ⟨fun q => ⟨rfl, q⟩, fun q => q.2⟩
    | some s => exact propext ⟨fun q => q.elim, fun q => nomatch q.1⟩
theorem lco_eq (h : e[i]? = some (some (.ol ds))) : Wo X (bLcO i g t m vs e) Q = KLc g t m vs (KLo i ds Q) ds (e.set i none) := by
  unfold bLcO KLc
  rw [h]
  by_cases h1 : okW (e.set i none) vs = true ∧ ds.length < 16777216
  · simp only [h1, and_self, if_true, true_and]
    unfold WL
    cases lcL g t m vs ds (wipeE (e.set i none) vs) [] with
    | none => rfl
    | some p => exact bLcP_eq
  · simp only [h1, if_false]
    exact propext ⟨fun q => q.elim, fun q => h1 ⟨q.1, q.2.1⟩⟩
theorem set_at {s : S} (h : e[i]? = some (some s)) : e.set i (some s) = e := by
  have hi := (List.getElem?_eq_some_iff.mp h).1
  have he := (List.getElem?_eq_some_iff.mp h).2
  rw [← he]; exact List.set_getElem_self hi
theorem y_lce : Wo X (bLcE i g t m vs e) Q = LcE i g t m vs Q e e[i]? := by
  unfold bLcE
  cases h : e[i]? with
  | none =>
    have h1 : ¬ ownAt e i = true := by unfold ownAt; rw [h]; simp
    rw [if_neg h1, y_lc, y_seq, y_var, h]; rfl
  | some y => cases y with
    | none =>
      have h1 : ¬ ownAt e i = true := by unfold ownAt; rw [h]; simp
      rw [if_neg h1, y_lc, y_seq, y_var, h]; rfl
    | some s => cases s with
      | ol ds =>
        have h1 : ownAt e i = true := by unfold ownAt; rw [h]
        rw [if_pos h1, lco_eq h]; rfl
      | fr d =>
        have h1 : ¬ ownAt e i = true := by unfold ownAt; rw [h]; simp
        rw [if_neg h1, y_lc, y_seq, y_var, h, y_vfr, y_sqv]
        cases d <;> rfl
      | od ks xs =>
        have h1 : ¬ ownAt e i = true := by unfold ownAt; rw [h]; simp
        rw [if_neg h1, y_lc, y_seq, y_var, h, y_vod, y_sqp, h, y_sqpp]; rfl
      | oi c ns xs =>
        have h1 : ¬ ownAt e i = true := by unfold ownAt; rw [h]; simp
        rw [if_neg h1, y_lc, y_seq, y_var, h, y_voi, y_sqp, h, y_sqpp]; rfl
end
end Fv

namespace Fv
open PySem PySem.Spec PyProof.Rows L2
/-! ### (0,) * n -/
theorem tm_one {l : Addr} {its : Array Value} {n : Nat} {dd : Option Addr} {sl : Array (Option Value)} {x : Int} {u : Tok}
    (c0 : (decide (x < -(2 ^ 63)) || decide (x ≥ 2 ^ 63)) = false)
    (c1 : (its.isEmpty || x == 1) = true) :
    Meets (Builtin.«tuple.__mul__» ⟨[.ref l, .int x u], []⟩) fun _ R s =>
      s.heap.get? l = some { cls := .type "tuple", dict := dd, data := .seq its n, slots := sl } ∧ R (.ok (.ret (Value.ref l))) s := by
  refine .of_wp fun _ _ _ _ s h => ?_
  obtain ⟨_, _, _, _, _⟩ := s
  obtain ⟨hl, h⟩ := h
  have f1 := AutoSeq1.idx_int
  wp_walk using wpAny_loadPart' hl
  all_goals repeat (first | (refine wpAny_ite_false (decide_eq_false (by rw [c0]; simp)) ?_; wp_walk using wpAny_loadPart' hl) | (refine wpAny_ite_true (decide_eq_true (by rw [c1])) ?_; wp_walk using wpAny_loadPart' hl))
  all_goals exact ⟨_, rfl, h⟩
theorem tm_none {l : Addr} {its : Array Value} {n : Nat} {dd : Option Addr} {sl : Array (Option Value)} {x : Int} {u : Tok}
    (c0 : (decide (x < -(2 ^ 63)) || decide (x ≥ 2 ^ 63)) = false)
    (c1 : (its.isEmpty || x == 1) = false) (c2 : (decide (x ≤ 0) || its.isEmpty) = true) :
    Meets (Builtin.«tuple.__mul__» ⟨[.ref l, .int x u], []⟩) fun _ R s =>
      s.heap.get? l = some { cls := .type "tuple", dict := dd, data := .seq its n, slots := sl } ∧
        R (.ok (.ret (Value.ref s.heap.objs.size))) { s with heap := s.heap.push { cls := Value.type "tuple", data := Data.seq #[] }, toks := s.toks } := by
  refine .of_wp fun _ _ _ _ s h => ?_
  obtain ⟨_, _, _, _, _⟩ := s
  obtain ⟨hl, h⟩ := h
  have f1 := AutoSeq1.idx_int
  wp_walk using wpAny_loadPart' hl
  all_goals repeat (first | (refine wpAny_ite_false (decide_eq_false (by rw [c0]; simp)) ?_; wp_walk using wpAny_loadPart' hl) | (refine wpAny_ite_false (decide_eq_false (by rw [c1]; simp)) ?_; wp_walk using wpAny_loadPart' hl) | (refine wpAny_ite_true (decide_eq_true (by rw [c2])) ?_; wp_walk using wpAny_loadPart' hl))
  all_goals exact ⟨_, rfl, h⟩
def rTm (K : PySem.W.Frag) : R2 := fun x y H Q => ∃ l k xs, x = .ref l ∧ y = .int k ∧ SqT K H l xs ∧ xs ≠ [] ∧ 0 ≤ k ∧ k ≤ 5000 ∧ xs.length ≤ 1000 ∧ (k = 1 → Q (.ref l) H) ∧
  (k ≠ 1 → NewT Q H (List.replicate k.toNat xs).flatten)
section
variable {X : Cx}
theorem op_tm : OpR X (binaryOp .Mult) (rTm X.K) := by
  intro pins s σ H x y v u Q I rx ry h
  obtain ⟨l, k, xs, rfl, rfl, hT, hne, h0, h1, hz, q1, q2⟩ := h
  cases rx
  obtain ⟨t, rfl⟩ := ry
  obtain ⟨vs, r, ⟨⟨_, dd, _, sl⟩, ho, hc, n, hd⟩, hs⟩ := I.tuple hT
  simp only at hc hd
  subst hc hd
  have e0 : vs.toArray.isEmpty = false := by
    cases vs with
    | nil => exact absurd (List.eq_nil_of_length_eq_zero (by simpa using r.length)) hne
    | cons a b => rfl
  have b0 : (decide (k < -(2 ^ 63)) || decide (k ≥ 2 ^ 63)) = false := by simp; omega
  by_cases k2 : 2 ≤ k
  · have ln : vs.length = xs.length := r.length.symm
    have sz : vs.toArray.size = xs.length := by simp [ln]
    have big : k.toNat * xs.length ≤ 5000 * 1000 := Nat.mul_le_mul (by omega) hz
    have szk : ((vs.toArray.size : Nat) : Int) * k = ((k.toNat * xs.length : Nat) : Int) := by
      rw [sz, Int.natCast_mul, Int.toNat_of_nonneg h0, Int.mul_comm]
    have fl : (List.replicate k.toNat vs).flatten.length ≤ sizeLine := by
      rw [PyProof.Rows.lm_len_rep_flat, ln, sizeLine_eq]; omega
    have fl2 : (List.replicate k.toNat xs).flatten.length ≤ sizeLine := by
      rw [PyProof.Rows.lm_len_rep_flat, sizeLine_eq]; omega
    have big2 : ((vs.toArray.size : Nat) : Int) * k ≤ 5000000 := by rw [szk]; omega
    have mt := tuple_mulW l vs.toArray n dd sl k t b0 (by rw [e0]; simp; omega) (by rw [e0]; simp; omega) (by omega)
      (by unfold Builtin.Tuple.tupleTooMany; rw [sizeLine_eq]; exact decide_eq_false (by omega)) (by rw [size_rep, List.size_toArray]; exact fl)
    refine wpAny_binaryOp_repeat_ref (T := "tuple") (U := "int") (by decide) ⟨_, ho, rfl⟩
      (fun z => typeIs_int z k t) noFill_tuple_mul F.fills_int_mul F.slot_int_rmul repeat_tuple F.slot_int_index.lookup
      (call_meets F.slot_int_rmul (typeIs_int s k t) F.entry_int_rmul (F.args_int_rmul_2 _ _) (int_rmul_tuple k t l vs.toArray n dd sl) ⟨ho, rfl, ⟨_, ho, rfl⟩, ?_⟩)
    refine call_meets F.slot_tuple_mul ⟨_, ho, rfl⟩ F.entry_tuple_mul (F.args_tuple_mul_2 _ _) mt ⟨ho, ?_⟩
    rw [size_rep]
    exact ⟨.ref s.heap.objs.size, _, tupN I (r.rep k.toNat) fl2, rfl, q2 (by omega) _ _ (I.hok.fresh (Nat.le_refl _))⟩
  by_cases k1 : k = 1
  · subst k1
    refine wpAny_binaryOp_repeat_ref (T := "tuple") (U := "int") (by decide) ⟨_, ho, rfl⟩
      (fun z => typeIs_int z 1 t) noFill_tuple_mul F.fills_int_mul F.slot_int_rmul repeat_tuple F.slot_int_index.lookup
      (call_meets F.slot_int_rmul (typeIs_int s 1 t) F.entry_int_rmul (F.args_int_rmul_2 _ _) (int_rmul_tuple 1 t l vs.toArray n dd sl) ⟨ho, rfl, ⟨_, ho, rfl⟩, ?_⟩)
    refine call_meets F.slot_tuple_mul ⟨_, ho, rfl⟩ F.entry_tuple_mul (F.args_tuple_mul_2 _ _) (tm_one b0 (by simp)) ⟨ho, ?_⟩
    exact ⟨.ref l, H, I, rfl, q1 rfl⟩
  · have k0 : k = 0 := by omega
    subst k0
    refine wpAny_binaryOp_repeat_ref (T := "tuple") (U := "int") (by decide) ⟨_, ho, rfl⟩
      (fun z => typeIs_int z 0 t) noFill_tuple_mul F.fills_int_mul F.slot_int_rmul repeat_tuple F.slot_int_index.lookup
      (call_meets F.slot_int_rmul (typeIs_int s 0 t) F.entry_int_rmul (F.args_int_rmul_2 _ _) (int_rmul_tuple 0 t l vs.toArray n dd sl) ⟨ho, rfl, ⟨_, ho, rfl⟩, ?_⟩)
    refine call_meets F.slot_tuple_mul ⟨_, ho, rfl⟩ F.entry_tuple_mul (F.args_tuple_mul_2 _ _) (tm_none b0 (by rw [e0]; rfl) (by simp)) ⟨ho, ?_⟩
    exact ⟨.ref s.heap.objs.size, _, tupN I (xs := []) .nil (by simp), rfl, q2 (by omega) _ _ (I.hok.fresh (Nat.le_refl _))⟩
end
def dMulT : List D → Option S
  | [.tup xs, .int k] => if xs ≠ [] ∧ 0 ≤ k ∧ k ≤ 5000 ∧ xs.length ≤ 1000 then some (.fr (.tup (List.replicate k.toNat xs).flatten)) else none
  | _ => none
section
variable {T : Tb} {W : WX} {X : Cx} {m ma mb : En → Ou R} {a b : Expr} {pos : Pos} {Q : R → En → Prop} {e : En} {XX : Xn → En → Prop}
theorem pr_mulT : FunOk T (r2 (rTm T.K)) dMulT := fun G H vs ss s Q hs r h k => by
  unfold dMulT at h
  split at h
  · rename_i xs j heq
    split at h
    · rename_i hz
      cases h
      obtain ⟨v, w, s1, s2, rfl, r1, r2, e1, e2⟩ := repOs2 r heq
      obtain ⟨c, cs, rfl, g1, t1, k1⟩ := r1.tup hs e1
      obtain rfl := r2.int e2
      refine ⟨_, _, rfl, c, j, cs, rfl, rfl, g1, fun z => hz.1 (by subst z; cases k1; rfl), hz.2.1, hz.2.2.1, by rw [k1.length]; exact hz.2.2.2, fun z => ?_, fun _ => done_tup hs k (k1.rep _)⟩
      subst z
      have e : (List.replicate (1 : Int).toNat xs).flatten = xs := by simp
      rw [e] at k
      exact done_fr (W := True) hs k (.tup t1 k1)
    · cases h
  · cases h
def bTm (ma mb : En → Ou R) : En → Ou R := b2 (pS dMulT) ma mb
theorem pe_tmF (hK : T.K = X.K) (ha : PE X a (tE T W ma)) (hb : PE X b (tE T W mb)) : PE X (.BinOp a .Mult b pos) (tE T W (bTm ma mb)) :=
  pe_b2 (r := rTm X.K) (by rw [← hK]; exact prim_S pr_mulT) op_tm ha hb
theorem y_tm : Wo XX (bTm ma mb e) Q = Wo XX (b2 (pS dMulT) ma mb e) Q := (rfl)
theorem f_tm {xs : List D} {k : Int} (h : xs ≠ [] ∧ 0 ≤ k ∧ k ≤ 5000 ∧ xs.length ≤ 1000) : dMulT [.tup xs, .int k] = some (.fr (.tup (List.replicate k.toNat xs).flatten)) := if_pos h
theorem eqv_bb (a b : Bool) : dEqv (.bl a) (.bl b) = some (decide (a = b)) := by cases a <;> cases b <;> rfl
theorem eq_bb (a b : Bool) : dEq [.bl a, .bl b] = some (.fr (.bl (decide (a = b)))) := f_eq (eqv_bb a b)
theorem ne_bb (a b : Bool) : dNe [.bl a, .bl b] = some (.fr (.bl (!decide (a = b)))) := f_ne (eqv_bb a b)
end
end Fv

namespace Fv
open PySem PySem.Spec PyProof.Rows L2
/-! ### while, by rewriting -/
def KWh (X : Xn → En → Prop) (b : En → Fl) (J N : En → Prop) (Rt : S → En → Prop) : Bool → En → Prop := fun k e1 => if k = true then Wf X (b e1) J Rt else N e1
section
variable {X : Xn → En → Prop} {b : En → Fl} {t : En → Ou Bool} {J N : En → Prop} {Rt : S → En → Prop} {e : En}
theorem y_wht : KWh X b J N Rt true e = Wf X (b e) J Rt := (rfl)
theorem y_whf : KWh X b J N Rt false e = N e := (rfl)
theorem y_whd {P : Prop} [Decidable P] : KWh X b J N Rt (decide P) e = ((P → Wf X (b e) J Rt) ∧ (¬ P → N e)) := by
  unfold KWh
  by_cases h : P <;> simp [h]
theorem y_whn {P : Prop} [Decidable P] : KWh X b J N Rt (!decide P) e = ((¬ P → Wf X (b e) J Rt) ∧ (P → N e)) := by
  unfold KWh
  by_cases h : P <;> simp [h]
theorem W_wh (I : Nat → En → Prop) {n : Nat} (h0 : I n e) (hs : ∀ n e, I n e → Wo X (t e) (KWh X b (fun e2 => ∃ m, m < n ∧ I m e2) N Rt)) : Wf X (sWh t b e) N Rt := W_while I h0 hs
end
end Fv

namespace Fv
open PySem PySem.Spec PyProof.Rows L2
/-! ### a dict of one's own that grows by new whole numbers; a whole number among its keys -/
def keyIn (k : Int) : List Key → Bool
  | [] => false
  | .inl j :: ks => decide (j = k) || keyIn k ks
  | .inr _ :: ks => keyIn k ks
def gDk (i : Nat) (mi : En → Ou R) : S → En → Fl := fun s e =>
  match e[i]? with
  | some (some (.od _ _)) => match mi e with
    | .ok r e1 => match pk e1 r, e1[i]? with
      | some (.fr (.int k)), some (some (.od ks ds)) => if keyIn k ks = false ∧ ks.length < 1000000 then .nx (e1.set i (some (.od (ks ++ [Sum.inl k]) (ds ++ [s.d])))) else .no
      | _, _ => .no
    | .ex x e1 => .ex x e1
    | .no => .no
  | _ => .no
theorem GoG.dk {i : Nat} {mi : En → Ou R} : GoG (gDk i mi) := fun s e => by
  unfold gDk
  repeat' split
  all_goals first | exact .inl ⟨_, rfl⟩ | exact .inr (.inl ⟨_, _, rfl⟩) | exact .inr (.inr rfl)
section
variable {T : Tb} {W : WX} {p : Nat → Bool} {G H : Hp} {σ : SV} {e : En} {τ : List V} {u : List S}
theorem Md.odAt (m : Md T G H σ e τ u) {i : Nat} {ks : List Key} {ds : List D} (he : e[i]? = some (some (.od ks ds))) : ∃ a xs, σ[i]? = some (some (.ref a)) ∧ H a = some (.dK (ks.zip xs)) ∧ G a = none ∧ ks.length = xs.length ∧ RepFs T G xs ds := by
  obtain ⟨v, hv, r⟩ := m.var he
  cases r with
  | od h1 h0 h2 h3 => exact ⟨_, _, hv, h1, h0, h2, h3⟩
theorem valV_key {k : Int} : ∀ {ks : List Key} {xs : List V}, ks.length = xs.length → (valV (ks.zip xs) (.inl k)).isSome = keyIn k ks
  | [], _, _ => rfl
  | _ :: _, [], h => by cases h
  | .inl j :: ks, x :: xs, hl => by
    rw [List.zip_cons_cons]
    by_cases z : j = k
    · subst z
      rw [valV_pos rfl]
      simp [keyIn]
    · rw [valV_neg (fun y => z (Sum.inl.inj y)), valV_key (by simpa using hl)]
      simp [keyIn, z]
  | .inr y :: ks, x :: xs, hl => by
    rw [List.zip_cons_cons, valV_neg (fun y => by cases y), valV_key (by simpa using hl)]
    rfl
theorem tG_dk {i : Nat} {mi : En → Ou R} {v : V} {Q : SV → Hp → Prop} : tG T W p (gDk i mi) v σ H Q → gSub (tE T W (bVar i)) (tE T W mi) rSetD v σ H Q := by
  rintro ⟨G, e, s, hl, sl, q⟩
  have md : Md T G H σ e [v] [s] := ⟨hl, rfl, by simpa using sl⟩
  have eA : As σ e [v] [s] = fps (σ ++ [some v]) (e ++ [some s]) := by simp [As]
  rw [← eA] at q
  unfold gDk at q
  cases h0 : e[i]? with
  | none => rw [h0] at q; exact q.elim
  | some y => cases y with
    | none => rw [h0] at q; exact q.elim
    | some t0 => cases t0 with
     | fr _ => rw [h0] at q; exact q.elim
     | ol _ => rw [h0] at q; exact q.elim
     | oi _ _ _ => rw [h0] at q; exact q.elim
     | od k0 d0 =>
      rw [h0] at q
      refine ⟨G, e, [v], [s], md, ?_⟩
      unfold bVar
      rw [h0]
      intro G1 H1 o τ' u' ev1 md1 hr1
      cases hr1 with
      | pl hv1 hn1 =>
        cases hn1
        rw [List.append_nil, List.append_nil] at ev1 md1
        refine ⟨G1, e, [v], [s], md1, ?_⟩
        cases hm : mi e with
        | no => rw [hm] at q; exact q.elim
        | ex x e1 =>
          rw [hm] at q
          intro G2 H2 c dx ev2 md2 rx
          exact q σ c dx G2 H2 ((ev1.trans ev2).less (As_base md2.l1)) md2.base rfl .refl rx
        | ok r e1 =>
          rw [hm] at q
          intro G2 H2 iv τ2 u2 ev2 md2 hr2
          simp only at q
          split at q
          · rename_i k ks ds hp h2
            split at q
            · rename_i hk
              have hq := hr2.peek (ss := [.fr (.int k)]) md2 (by simp) (by unfold pks; rw [hp]; rfl)
              obtain ⟨w, sw, hw, rw', ew⟩ := repOs1 hq rfl
              cases hw
              obtain rfl := rw'.int ew
              obtain ⟨G3, ev3, md3, rv⟩ := Md.freezeTmp (τ := []) (u := []) (v := v) (s := s) (τ1 := τ2) (u1 := u2) md2 rfl
              obtain ⟨a, xs, hva, hA, hG, hlk, rxs⟩ := md3.odAt h2
              rw [hv1] at hva; cases hva
              have hz : ks.zip xs ++ [((Sum.inl k : Key), v)] = (ks ++ [Sum.inl k]).zip (xs ++ [v]) := by
                rw [List.zip_append hlk]; rfl
              obtain ⟨md4, ev4⟩ := md3.wrG (a := a) (o' := .dK ((ks ++ [Sum.inl k]).zip (xs ++ [v]))) (s' := .od (ks ++ [Sum.inl k]) (ds ++ [s.d])) h2 hv1 (by simp [fp]) (.od upd_same hG (by rw [List.length_append, List.length_append, hlk]; rfl) (rxs.append (.cons rv .nil))) fun b hb => by simpa [fp] using hb
              have pu := DPut.k (k := (Sum.inl k : Key)) (v := v) hA (by rw [List.length_zip, ← hlk, Nat.min_self]; exact sizeL' (by omega))
              rw [L2.putK_new v (by have := valV_key (k := k) hlk; rw [hk.1] at this; exact Option.not_isSome_iff_eq_none.mp (by rw [this]; exact Bool.false_ne_true)), hz] at pu
              exact ⟨a, _, rfl, pu, q σ G3 _ ((((ev1.trans ev2).trans ev3).trans ev4).less (As_base md4.l1)) md4.base rfl .refl⟩
            · exact q.elim
          · exact q.elim
end
section
variable {X : Cx} {T : Tb} {W : WX} {p : Nat → Bool} {i : Expr} {mi : En → Ou R} {x : Str} {n : Nat} {pn pos : Pos}
theorem pg_dkF (hu : X.A.units + 65 < cLine) (ho : PE X (.Name x pn) (tE T W (bVar n))) (hi : PE X i (tE T W mi)) (ha : ∀ v, assign (.Subscript (.Name x pn) i pos) X.env v = (do
      let ov ← holding [v] (eval (.Name x pn) X.env)
      let iv ← holding [v, ov] (eval i X.env)
      standAt pos
      holding [v, ov, iv] (setItem ov iv v)
      release [v, ov, iv] [])) : PG X (.Subscript (.Name x pn) i pos) (tG T W p (gDk n mi)) := PG.imp (pg_sub ho hi (set_dict (by omega)) ha) fun v σ H Q h => tG_dk h
end
/-! a whole number among the keys -/
def dInK (neg : Bool) : List D → Option S
  | [.int k, .dic ks _] => some (.fr (.bl (if neg then !keyIn k ks else keyIn k ks)))
  | _ => none
def rInDk : R2 := fun x y H Q => ∃ a o, y = .ref a ∧ DGet H a x o ∧ Q (.bl o.isSome) H
theorem op_inDk {X : Cx} (hu : X.A.units + 65 < cLine) : OpR X (compareOp .In) rInDk := by
  intro pins s σ H x y v u Q I rx ry h
  obtain ⟨a, o, rfl, g, q⟩ := h
  cases (show u = Value.ref a from ry)
  exact d_in (by omega) I g rx fun s' I' => ⟨.bl _, H, I', rfl, q⟩
section
variable {T : Tb}
theorem pr_inDk : FunOk T (r2 rInDk) (dInK false) := fun G H vs ss s Q hs r h k => by
  unfold dInK at h
  split at h
  · rename_i j ks ds heq
    cases h
    obtain ⟨v, w, s1, s2, rfl, r1, r2, e1, e2⟩ := repOs2 r heq
    obtain rfl := r1.int e1
    obtain ⟨a, xs, rfl, hA, hl, _⟩ := r2.dic hs e2
    have e : (valV (ks.zip xs) (.inl j)).isSome = keyIn j ks := valV_key hl
    refine ⟨_, _, rfl, a, _, rfl, DGet.k (k := (Sum.inl j : Key)) hA, ?_⟩
    rw [e]
    exact done_fr (W := True) hs k (.bl _)
  · cases h
end
section
variable {X : Cx} {T : Tb} {W : WX} {a b c : Expr} {ma mb mc : En → Ou R} {pos : Pos}
theorem pe_inDk (hu : X.A.units + 65 < cLine) (hm : behindInMarks .In b = false) (ha : PE X a (tE T W ma)) (hb : PE X b (tE T W mb)) : PE X (.Compare a [.In] [b] pos) (tE T W (b2 (pS (dInK false)) ma mb)) :=
  PE.imp (pe_cmpR (op_inDk hu) ha hb hm) fun σ H Q h => tE.mono (fun _ _ k => tE.mono (fun _ _ k => by
    obtain ⟨x, y, e, q⟩ := k
    cases e
    exact q) k) (tE_prim2 (prim_S pr_inDk) h)
end
end Fv

namespace Fv
open PySem PySem.Spec PyProof.Rows L2
section
variable {X : Cx} {T : Tb} {W : WX} {a b : Expr} {ma mb : En → Ou R} {pos : Pos}
theorem pt_inDk (hu : X.A.units + 65 < cLine) (hm : behindInMarks .In b = false) (ha : PE X a (tE T W ma)) (hb : PE X b (tE T W mb)) : PT X (.Compare a [.In] [b] pos) (tB T W (bTb (b2 (pS (dInK false)) ma mb))) :=
  PT.imp (pt_cmpR (op_inDk hu) ha hb hm) fun σ H Q h => tE.mono (fun _ _ k => tE.mono (fun _ _ k => by
    obtain ⟨x, y, e, q⟩ := k
    cases e
    exact q) k) (tE_prim2 (prim_S pr_inDk) (tB_bool h))
end
/-! rewriting rules: a growing dict -/
section
variable {X : Xn → En → Prop} {Q : R → En → Prop} {N : En → Prop} {Rt : S → En → Prop} {e : En} {m : En → Ou R} {s : S} {i : Nat} {d : D}
theorem y_dic0 {X : Xn → En → Prop} : Wo X (bDic [] aNil e) Q = Q (.vl (.od [] [])) e := by
  show Wo X (bDic [] aNil e) Q = _
  unfold bDic aNil
  rfl
def DkK2 (i : Nat) (d : D) (N : En → Prop) (k : Int) (e : En) : Option (Option S) → Prop
  | some (some (.od ks ds)) => keyIn k ks = false ∧ ks.length < 1000000 ∧ N (e.set i (some (.od (ks ++ [Sum.inl k]) (ds ++ [d]))))
  | _ => False
def DkK (i : Nat) (d : D) (N : En → Prop) : R → En → Prop := fun r e => PsK e (fun ss => match ss with | [.fr (.int n)] => DkK2 i d N n e e[i]? | _ => False) [] [r]
def DkP (X : Xn → En → Prop) (i : Nat) (m : En → Ou R) (s : S) (N : En → Prop) (e : En) : Option (Option S) → Prop
  | some (some (.od _ _)) => Wo X (m e) (DkK i s.d N)
  | _ => False
theorem y_gdk {k0 : List Key} {xs : List D} (h : e[i]? = some (some (.od k0 xs))) : Wf X (gDk i m s e) N Rt = Wo X (m e) (DkK i s.d N) := by
  unfold gDk
  rw [h]
  simp only
  cases h1 : m e with
  | no => rfl
  | ex x e1 => rfl
  | ok r e1 =>
    show _ = DkK i s.d N r e1
    unfold DkK
    rw [psK_eq]
    simp only [pks]
    cases pk e1 r with
    | none => rfl
    | some s' =>
      simp only [List.nil_append]
      cases s' with
      | fr d =>
        cases d <;> try rfl
        rename_i n
        simp only
        unfold DkK2
        cases e1[i]? with
        | none => rfl
        | some y => cases y with
          | none => rfl
          | some t => cases t with
            | od ks ds =>
              simp only
              by_cases hk : keyIn n ks = false ∧ ks.length < 1000000
              · rw [if_pos hk]
                exact propext ⟨fun q => ⟨hk.1, hk.2, q⟩, fun q => q.2.2⟩
              · rw [if_neg hk]
                exact propext ⟨fun q => q.elim, fun q => hk ⟨q.1, q.2.1⟩⟩
            | _ => rfl
      | _ => rfl
theorem x_gdk : Wf X (gDk i m s e) N Rt = DkP X i m s N e e[i]? := by
  cases h : e[i]? with
  | none => unfold gDk; rw [h]; rfl
  | some y => cases y with
    | none => unfold gDk; rw [h]; rfl
    | some s' => cases s' with
      | od ks xs => exact y_gdk h
      | _ => unfold gDk; rw [h]; rfl
theorem x_gdkp {ks : List Key} {xs : List D} : DkP X i m s N e (some (some (.od ks xs))) = Wo X (m e) (DkK i s.d N) := (rfl)
theorem y_dkv {n : Int} : DkK i d N (.vl (.fr (.int n))) e = DkK2 i d N n e e[i]? := by
  unfold DkK; simp only [s_vl, s_nil, List.nil_append]
theorem x_dk2 {n : Int} {ks : List Key} {ds : List D} : DkK2 i d N n e (some (some (.od ks ds))) = (keyIn n ks = false ∧ ks.length < 1000000 ∧ N (e.set i (some (.od (ks ++ [Sum.inl n]) (ds ++ [d]))))) := (rfl)
theorem f_inK {n : Int} {ks : List Key} {ds : List D} : dInK false [.int n, .dic ks ds] = some (.fr (.bl (keyIn n ks))) := (rfl)
theorem keyIn_iff {k : Int} : ∀ {l : List Int}, keyIn k (l.map Sum.inl) = decide (k ∈ l)
  | [] => rfl
  | a :: l => by
    show (decide (a = k) || keyIn k (l.map Sum.inl)) = _
    rw [keyIn_iff]
    by_cases h : a = k
    · simp [h]
    · have : ¬ k = a := fun z => h z.symm
      simp [h, this]
end
end Fv

namespace Fv
open PySem PySem.Spec PyProof.Rows L2
/-! ### dict([(k, v), ..]), whole-number keys, no key twice; d[k] -/
def prsD : List D → Option (List (Int × D))
  | [] => some []
  | .tup [.int k, v] :: r => (prsD r).map ((k, v) :: ·)
  | _ => none
def dDict : List D → Option S
  | [.lst ds] => match prsD ds with
    | some ps => if (ps.map (·.1)).Nodup then some (.od (ps.map fun p => Sum.inl p.1) (ps.map (·.2))) else none
    | none => none
  | _ => none
def rDictP (K : PySem.W.Frag) : List V → Hp → VK → Prop := fun xs H Q => ∃ (a : Addr) (ps : List Addr) (kvs : List (Key × V)), xs = [.ref a] ∧ SqL K H a (ps.map V.ref) ∧ Paired (fun p kv => SqT K H p [kV kv.1, kv.2]) ps kvs ∧
  ∀ p, H p = none → Q (.ref p) (upd H p (.dK (mergeK [] kvs)))
section
variable {T : Tb} {G H : Hp}
theorem prs_pairs (hs : Sub G H) : ∀ {ds : List D} {ps : List (Int × D)} {xs : List V}, prsD ds = some ps → RepFs T G xs ds → ∃ (as : List Addr) (vs : List V), xs = as.map V.ref ∧ vs.length = ps.length ∧ Paired (fun p kv => SqT T.K H p [kV kv.1, kv.2]) as ((ps.map fun p => (Sum.inl p.1 : Key)).zip vs) ∧ RepFs T G vs (ps.map (·.2))
  | [], _, _, h, r => by
    cases h; cases r
    exact ⟨[], [], rfl, rfl, .nil, .nil⟩
  | d :: ds, ps, xs, h, r => by
    unfold prsD at h
    split at h
    · cases ‹_ = ([] : List D)›
    · rename_i k v rr heq
      cases heq
      cases h1 : prsD ds with
      | none => rw [h1] at h; cases h
      | some qs =>
        rw [h1] at h
        cases h
        cases r with
        | cons rd rr =>
          obtain ⟨as, vs, rfl, hl, pp, rv⟩ := prs_pairs hs h1 rr
          cases rd with
          | tup t k1 =>
            rename_i a ys
            cases k1 with
            | cons r1 k2 => cases k2 with
              | cons r2 k3 =>
                cases k3
                cases r1
                exact ⟨a :: as, _ :: vs, rfl, by simp [hl], .cons (hs.sqT t.sq) pp, .cons r2 rv⟩
    · cases h
theorem fo_dict (X : Cx) (hK : T.K = X.K) : FunOk T (rDictP X.K) dDict := fun G H vs ss s Q hs r h k => by
  rw [← hK]
  unfold dDict at h
  split at h
  · rename_i xs heq
    cases h1 : prsD xs with
    | none => rw [h1] at h; cases h
    | some ps =>
      rw [h1] at h
      simp only at h
      split at h
      · rename_i hn
        cases h
        obtain ⟨v, s1, rfl, r1, e1⟩ := repOs1 r heq
        obtain ⟨a, as, rfl, q1, k1⟩ := r1.lst hs e1
        obtain ⟨bs, us, rfl, hl, pp, ru⟩ := prs_pairs hs h1 k1
        refine ⟨a, bs, _, rfl, q1, pp, fun p hp => ?_⟩
        have e : mergeK [] ((ps.map fun p => (Sum.inl p.1 : Key)).zip us) = (ps.map fun p => (Sum.inl p.1 : Key)).zip us := mergeK_new (ks0 := []) (vs0 := []) (by
          rw [List.nil_append]
          have : (ps.map fun p => (Sum.inl p.1 : Key)) = (ps.map (·.1)).map Sum.inl := by rw [List.map_map]; rfl
          rw [this]
          exact List.Pairwise.map _ (fun a b hab z => hab (Sum.inl.inj z)) hn) (by simp [hl]) rfl
        rw [e]
        exact done_od hs k ru (by simp [hl]) hp
      · cases h
  · cases h
theorem call_dictD {X : Cx} (hc : X.calm = true) : CallR X (.type "dict") (rDictP X.K) := call_dictP hc
end
/-- what a dict holds at a key -/
def dvD (k : Key) : List Key → List D → Option D
  | j :: ks, d :: ds => if j = k then some d else dvD k ks ds
  | _, _ => none
def dDx : List D → Option S
  | [.dic ks ds, .int k] => (dvD (.inl k) ks ds).map .fr
  | [.dic ks ds, .str x] => (dvD (.inr x) ks ds).map .fr
  | _ => none
def rDx : R2 := fun x y H Q => ∃ a v, x = .ref a ∧ DGet H a y (some v) ∧ Q v H
section
variable {T : Tb} {G H : Hp}
theorem dv_val {k : Key} {d : D} : ∀ {ks : List Key} {xs : List V} {ds : List D}, dvD k ks ds = some d → ks.length = xs.length → RepFs T G xs ds → ∃ v, valV (ks.zip xs) k = some v ∧ RepF T G v d
  | [], _, _, h, _, _ => by unfold dvD at h; cases h
  | j :: ks, [], _, _, hl, _ => by simp at hl
  | j :: ks, x :: xs, _, h, hl, r => by
    cases r with
    | cons r1 rr =>
      unfold dvD at h
      rw [List.zip_cons_cons]
      split at h
      · rename_i z
        cases h
        exact ⟨x, valV_pos z, r1⟩
      · rename_i z
        obtain ⟨v, h1, h2⟩ := dv_val h (by simpa using hl) rr
        exact ⟨v, by rw [valV_neg z]; exact h1, h2⟩
theorem pr_dx : FunOk T (r2 rDx) dDx := fun G H vs ss s Q hs r h k => by
  unfold dDx at h
  split at h
  · rename_i ks ds j heq
    cases h1 : dvD (.inl j) ks ds with
    | none => rw [h1] at h; cases h
    | some d =>
      rw [h1] at h
      cases h
      obtain ⟨v, w, s1, s2, rfl, r1, r2, e1, e2⟩ := repOs2 r heq
      obtain ⟨a, xs, rfl, hA, hl, rx⟩ := r1.dic hs e1
      obtain rfl := r2.int e2
      obtain ⟨u, e, ru⟩ := dv_val h1 hl rx
      refine ⟨_, _, rfl, a, u, rfl, ?_, done_fr (W := True) hs k ru⟩
      rw [← e]
      exact DGet.k (k := (Sum.inl j : Key)) hA
  · rename_i ks ds j heq
    cases h1 : dvD (.inr j) ks ds with
    | none => rw [h1] at h; cases h
    | some d =>
      rw [h1] at h
      cases h
      obtain ⟨v, w, s1, s2, rfl, r1, r2, e1, e2⟩ := repOs2 r heq
      obtain ⟨a, xs, rfl, hA, hl, rx⟩ := r1.dic hs e1
      obtain rfl := r2.str e2
      obtain ⟨u, e, ru⟩ := dv_val h1 hl rx
      refine ⟨_, _, rfl, a, u, rfl, ?_, done_fr (W := True) hs k ru⟩
      rw [← e]
      exact DGet.k (k := (Sum.inr j : Key)) hA
  · cases h
end
section
variable {X : Cx} {T : Tb} {W : WX} {a b : Expr} {ma mb : En → Ou R} {pos : Pos}
theorem pe_dxF (hu : X.A.units + 65 < cLine) (ha : PE X a (tE T W ma)) (hb : PE X b (tE T W mb)) (hs : NoSl b) : PE X (.Subscript a b pos) (tE T W (b2 (pS dDx) ma mb)) :=
  PE.imp (pe_dget (by omega) ha hb hs) fun σ H Q h => tE.mono (fun _ _ k => tE.mono (fun _ _ k => by
    obtain ⟨x, y, e, q⟩ := k
    cases e
    exact q) k) (tE_prim2 (prim_S pr_dx) h)
end
/-! rewriting facts -/
theorem f_dxI {ks : List Key} {ds : List D} {k : Int} : dDx [.dic ks ds, .int k] = (dvD (.inl k) ks ds).map .fr := (rfl)
theorem f_dxS {ks : List Key} {ds : List D} {x : Str} : dDx [.dic ks ds, .str x] = (dvD (.inr x) ks ds).map .fr := (rfl)
theorem prs_map {α : Type} {f : α → Int} {g : α → D} : ∀ l : List α, prsD (l.map fun a => D.tup [.int (f a), g a]) = some (l.map fun a => (f a, g a))
  | [] => rfl
  | a :: l => by
    show (prsD (l.map fun a => D.tup [.int (f a), g a])).map _ = _
    rw [prs_map l]; rfl
theorem f_dict {α : Type} {f : α → Int} {g : α → D} {l : List α} (h : (l.map f).Nodup) : dDict [.lst (l.map fun a => D.tup [.int (f a), g a])] = some (.od (l.map fun a => Sum.inl (f a)) (l.map g)) := by
  unfold dDict
  simp only [prs_map, List.map_map]
  rw [if_pos (show (List.map ((fun x => x.1) ∘ fun a => (f a, g a)) l).Nodup from h)]
  rfl
theorem dv_map {α : Type} {f : α → Int} {g : α → D} {k : α} : ∀ {l : List α}, k ∈ l → (l.map f).Nodup → dvD (.inl (f k)) (l.map fun a => Sum.inl (f a)) (l.map g) = some (g k)
  | [], h, _ => by cases h
  | a :: l, h, hn => by
    rw [List.map_cons, List.nodup_cons] at hn
    rcases List.mem_cons.mp h with rfl | h
    · show (if (Sum.inl (f k) : Key) = Sum.inl (f k) then some (g k) else _) = _
      rw [if_pos rfl]
    · have : f a ≠ f k := fun e => hn.1 (by rw [e]; exact List.mem_map_of_mem h)
      show (if (Sum.inl (f a) : Key) = Sum.inl (f k) then some (g a) else dvD _ _ _) = _
      rw [if_neg (fun e => this (Sum.inl.inj e))]
      exact dv_map h hn.2
end Fv

namespace Fv
open PySem PySem.Spec PyProof.Rows L2
/-! ### t.index(x), t.count(x) of tuples of whole numbers; one rule for lists and tuples -/
theorem flat_intsT (ys : List Int) : (ys.map V.int).all flatV = true := by
  rw [List.all_map]; exact List.all_eq_true.mpr fun _ _ => rfl
def rIndexT (K : PySem.W.Frag) : V → List V → Hp → VK → Prop := fun x xs H Q => ∃ (a : Addr) (ys : List Int) (z : Int) (j : Nat), x = .ref a ∧ xs = [.int z] ∧ SqT K H a (ys.map V.int) ∧ ys[j]? = some z ∧ (∀ m, m < j → ys[m]? ≠ some z) ∧ Q (.int (j : Nat)) H
def rCountT (K : PySem.W.Frag) : V → List V → Hp → VK → Prop := fun x xs H Q => ∃ (a : Addr) (ys : List Int) (z : Int), x = .ref a ∧ xs = [.int z] ∧ SqT K H a (ys.map V.int) ∧ Q (.int (ys.count z : Nat)) H
theorem vals_eqU {z : Int} : ∀ {ys : List Int} {us : List Value}, Vals (ys.map V.int) us → us.map (eqU (.int z)) = ys.map fun y => y == z
  | [], _, r => by cases r; rfl
  | y :: ys, us, r => by
    rw [List.map_cons] at r
    cases r with
    | cons r1 rr =>
      rw [List.map_cons, List.map_cons, vals_eqU rr, eqU_of (x := .int z) r1 rfl]; rfl
section
variable {X : Cx}
theorem mt_indexT : MtR X "tuple.index" (rIndexT X.K) := by
  intro pins s σ H x xs v us Q I rx rs h
  obtain ⟨p, ys, z, j, rfl, rfl, hq, hy, hno, q⟩ := h
  cases rx
  cases rs with
  | cons ru rt =>
    cases rt
    obtain ⟨t, rfl⟩ := ru
    obtain ⟨its, r, ⟨⟨cls, dd, dt, sl⟩, ho, hc, n, hd⟩, hz⟩ := I.tuple hq
    simp only at hc hd
    subst hc hd
    have em := vals_eqU (z := z) r
    have hl : its.length = ys.length := by rw [← r.length, List.length_map]
    have one : ∀ (m : Nat) (hm : m < its.toArray.size), eqU (.int z) its.toArray[m] = (ys[m]'(by rw [← hl]; simpa using hm) == z) := fun m hm => by
      have e := congrArg (fun l : List Bool => l[m]?) em
      simp only [List.getElem?_map] at e
      rw [List.getElem?_eq_getElem (show m < its.length by simpa using hm), List.getElem?_eq_getElem (show m < ys.length by rw [← hl]; simpa using hm)] at e
      simpa using e
    obtain ⟨hj, ej⟩ := List.getElem?_eq_some_iff.mp hy
    have hj' : j < its.toArray.size := by rw [List.size_toArray, hl]; exact hj
    refine call_meets PySem.F.slot_tuple_index ⟨_, ho, rfl⟩ PySem.F.entry_tuple_index (PySem.F.args_tuple_index_2 _ _) (TI.tuple_indexAt p its.toArray n dd sl (.int z t) (eqU (.int z)) j hj' (by rw [one j hj', ej]; simp) fun m hm hmj => ?_)
      ⟨ho, fun w hw => mem_eqAt (x := .int z) ⟨t, rfl⟩ rfl r (flat_intsT ys) w (by simpa using hw), ⟨.int (j : Nat), H, I.tok _, ⟨_, rfl⟩, q⟩⟩
    rw [one m hm]
    have hm2 : m < ys.length := by rw [← hl]; simpa using hm
    refine beq_eq_false_iff_ne.mpr fun e => hno m hmj ?_
    rw [List.getElem?_eq_getElem hm2, e]
theorem mt_countT : MtR X "tuple.count" (rCountT X.K) := by
  intro pins s σ H x xs v us Q I rx rs h
  obtain ⟨p, ys, z, rfl, rfl, hq, q⟩ := h
  cases rx
  cases rs with
  | cons ru rt =>
    cases rt
    obtain ⟨t, rfl⟩ := ru
    obtain ⟨its, r, ⟨⟨cls, dd, dt, sl⟩, ho, hc, n, hd⟩, hz⟩ := I.tuple hq
    simp only at hc hd
    subst hc hd
    have em := vals_eqU (z := z) r
    refine call_meets PySem.F.slot_tuple_count ⟨_, ho, rfl⟩ PySem.F.entry_tuple_count (PySem.F.args_tuple_count_2 _ _) (SeqAt.tuple_countAt p its.toArray n dd sl (.int z t) (eqU (.int z)))
      ⟨ho, fun w hw => mem_eqAt (x := .int z) ⟨t, rfl⟩ rfl r (flat_intsT ys) w (by simpa using hw), ⟨.int (ys.count z : Nat), H, I.tok _, ⟨s.toks, ?_⟩, q⟩⟩
    have ec : its.countP (eqU (.int z)) = ys.count z := by
      have e1 : its.countP (eqU (.int z)) = (its.map (eqU (.int z))).countP id := by rw [List.countP_map]; rfl
      rw [e1, em, List.countP_map]; rfl
    show Value.int ((its.toArray.toList.countP (eqU (.int z)) : Nat) : Int) s.toks = _
    rw [show its.toArray.toList = its from rfl, ec]
end
def dIndexT : List D → Option S
  | [.tup ds, .int k] => match intsD ds with
    | some l => if k ∈ l then some (.fr (.int (l.idxOf k : Nat))) else none
    | none => none
  | _ => none
def dCountT : List D → Option S
  | [.tup ds, .int k] => match intsD ds with
    | some l => some (.fr (.int (l.count k : Nat)))
    | none => none
  | _ => none
section
variable {T : Tb} {G : Hp}
theorem intsT_vals : ∀ {ds : List D} {l : List Int} {xs : List V}, intsD ds = some l → RepFs T G xs ds → xs = l.map V.int
  | [], _, _, h, r => by cases h; cases r; rfl
  | d :: ds, l, xs, h, r => by
    cases r with
    | cons r1 rr =>
      cases d with
      | int i =>
        unfold intsD at h
        cases h1 : intsD ds with
        | none => rw [h1] at h; cases h
        | some m =>
          rw [h1] at h
          cases h
          cases r1
          rw [intsT_vals h1 rr]; rfl
      | _ => unfold intsD at h; cases h
theorem mp_indexT {T : Tb} : MpOk T (rIndexT T.K) dIndexT := fun G H vs ss s Q hs r h k => by
  unfold dIndexT at h
  split at h
  · rename_i ds z heq
    obtain ⟨v, w, s1, s2, rfl, r1, r2, e1, e2⟩ := repOs2 r heq
    cases h1 : intsD ds with
    | none => rw [h1] at h; cases h
    | some l =>
      rw [h1] at h
      simp only at h
      split at h
      · rename_i hm
        cases h
        obtain ⟨a, xs, rfl, q1, _, k1⟩ := r1.tup hs e1
        obtain rfl := r2.int e2
        obtain rfl := intsT_vals h1 k1
        have hx := List.idxOf_lt_length_iff.mpr hm
        refine ⟨_, _, rfl, a, l, z, l.idxOf z, rfl, rfl, q1, by rw [List.getElem?_eq_getElem hx, List.getElem_idxOf hx], fun m hm2 e => ?_, done_fr (W := True) hs k (.int _)⟩
        obtain ⟨hm3, e⟩ := List.getElem?_eq_some_iff.mp e
        have := List.not_of_lt_findIdx (p := (· == z)) (xs := l) (i := m) hm2
        simp [e] at this
      · cases h
  · cases h
theorem mp_countT {T : Tb} : MpOk T (rCountT T.K) dCountT := fun G H vs ss s Q hs r h k => by
  unfold dCountT at h
  split at h
  · rename_i ds z heq
    obtain ⟨v, w, s1, s2, rfl, r1, r2, e1, e2⟩ := repOs2 r heq
    cases h1 : intsD ds with
    | none => rw [h1] at h; cases h
    | some l =>
      rw [h1] at h
      cases h
      obtain ⟨a, xs, rfl, q1, _, k1⟩ := r1.tup hs e1
      obtain rfl := r2.int e2
      obtain rfl := intsT_vals h1 k1
      exact ⟨_, _, rfl, a, l, z, rfl, rfl, q1, done_fr (W := True) hs k (.int _)⟩
  · cases h
end
/-! one rule for both -/
def isLT : D → Option Bool
  | .lst _ => some true
  | .tup _ => some false
  | _ => none
def bMq (f g : List D → Option S) (mo : En → Ou R) (ms : En → Ou (List R)) : En → Ou R := fun e => match mo e with
  | .ok r e1 => match pk e1 r with
    | some s => match isLT s.d with
      | some b => match ms e1 with
        | .ok rs e2 => pS (if b = true then f else g) (r :: rs) e2
        | .ex x e2 => .ex x e2
        | .no => .no
      | none => .no
    | none => .no
  | .ex x e1 => .ex x e1
  | .no => .no
def tyT (K : PySem.W.Frag) (x : V) (H : Hp) : Prop := ∃ a xs, x = .ref a ∧ TupAt K H a xs
theorem tyT_is {X : Cx} {pins : List (Addr × Obj)} {σ : L2.St} {H : Hp} {s : Shared} {x : V} {v : Value} (I : Inv X pins σ H s) (r : RelV x v) (ty : tyT X.K x H) :
    s.TypeIs v "tuple" ∧ ∀ a, v = .ref a → ∃ ob, s.heap.get? a = some ob ∧ ob.dict = none := by
  obtain ⟨a, xs, rfl, h⟩ := ty
  cases r
  have key : ∃ o, s.heap.get? a = some o ∧ o.cls = .type "tuple" ∧ o.dict = none := by
    rcases h with ⟨its, h⟩ | ⟨o, its, n, h1, h2, h3, _⟩
    · obtain ⟨e, _⟩ := (show ObjOk X.prog X.w H s.heap a (tbO its xs) from I.hok a _ h)
      exact ⟨_, e, rfl, rfl⟩
    · exact ⟨o, I.kIn a o h1, h2, h3⟩
  obtain ⟨o, e, h1, h2⟩ := key
  exact ⟨⟨o, e, h1⟩, fun b z => by cases z; exact ⟨o, e, h2⟩⟩
theorem tE_mq {T : Tb} {W : WX} {f g : List D → Option S} {mo : En → Ou R} {ms : En → Ou (List R)} {r r' : V → List V → Hp → VK → Prop} (ho : MpOk T r f) (ho' : MpOk T r' g) {σ : SV} {H : Hp} {Q : VK} : tE T W (bMq f g mo ms) σ H Q → tE T W mo σ H fun x H1 => (tyV T.K "list" x H1 ∧ tEs T W ms σ H1 fun xs H2 => r x xs H2 Q) ∨ (tyT T.K x H1 ∧ tEs T W ms σ H1 fun xs H2 => r' x xs H2 Q) := by
  rintro ⟨G, e, τ, u, md, q⟩
  refine ⟨G, e, τ, u, md, ?_⟩
  unfold bMq at q
  cases hm : mo e with
  | no => rw [hm] at q; exact q
  | ex x e1 => rw [hm] at q; exact q
  | ok rr e1 =>
    rw [hm] at q
    intro G1 H1 v τ1 u1 ev1 md1 hr1
    simp only at q
    cases hp : pk e1 rr with
    | none => rw [hp] at q; exact q.elim
    | some s =>
      rw [hp] at q
      simp only at q
      have ro : RepO T G1 H1 v s := by
        have := hr1.peek (ss := [s]) md1 md.l2 (by simp [pks, hp])
        cases this with | cons a _ => exact a
      have rest : ∀ {b : Bool} {h : List D → Option S} {k : V → List V → Hp → VK → Prop}, MpOk T k h → Post T W G H σ (As σ e τ u) τ u (match ms e1 with | .ok rs e2 => pS h (rr :: rs) e2 | .ex x e2 => .ex x e2 | .no => .no) Q → tEs T W ms σ H1 fun xs H2 => k v xs H2 Q := by
        intro b h k hk q
        refine ⟨G1, e1, τ ++ τ1, u ++ u1, md1, ?_⟩
        cases hms : ms e1 with
        | no => rw [hms] at q; exact q.elim
        | ex x e2 =>
          rw [hms] at q
          refine fun G2 H2 c dx ev2 md2 rx => q G2 H2 c dx ((ev1.trans ev2).less (As_drop md2.l1 md.l2)) (md2.dropT md.l2) rx
        | ok rs e2 =>
          rw [hms] at q
          intro G2 H2 vs τ2 u2 ev2 md2 hr2
          have key := prim_S (W := W) (f := h) (rd := fun vs H Q => ∃ x xs, vs = x :: xs ∧ k x xs H Q) hk G2 H2 σ e2 τ (τ1 ++ τ2) u (u1 ++ u2) (rr :: rs) (v :: vs) Q (by rw [← List.append_assoc, ← List.append_assoc]; exact md2) md.l2 (hr1.app hr2)
            (Post.after q (by rw [← List.append_assoc, ← List.append_assoc]; exact ev1.trans ev2))
          obtain ⟨x, xs, e3, k⟩ := key
          cases e3
          exact k
      cases hsd : s.d with
      | lst ds =>
        rw [hsd] at q
        obtain ⟨a, xs, rfl, hq, _⟩ := ro.lst md1.sl.sub hsd
        exact .inl ⟨.inl ⟨rfl, xs, hq⟩, rest (b := true) ho q⟩
      | tup ds =>
        rw [hsd] at q
        obtain ⟨a, xs, rfl, hq, tq, _⟩ := ro.tup md1.sl.sub hsd
        exact .inr ⟨⟨a, xs, rfl, md1.sl.sub.tupAt tq⟩, rest (b := false) ho' q⟩
      | _ => rw [hsd] at q; exact q.elim
section
variable {X : Cx} {T : Tb} {W : WX} {r r' : V → List V → Hp → VK → Prop} {f g : List D → Option S} {mo : En → Ou R} {ms : En → Ou (List R)} {o e : Expr} {es : List Expr} {name : Str} {id id' : String} {apos cpos : Pos} {to t : TE} {tA : TA}
theorem pe_mqF (hK : T.K = X.K) (slot : Slot "list" name id) (hty : typeOf (.builtin id) = pure (.type "method_descriptor")) (hm : MtR X id r) (ho : MpOk T r f)
    (slot' : Slot "tuple" name id') (hty' : typeOf (.builtin id') = pure (.type "method_descriptor")) (hm' : MtR X id' r') (ho' : MpOk T r' g) (hv : PE X o (tE T W mo)) (ha : PA X (e :: es) (tEs T W ms))
    (hbase : attributeBase o name X.env (eval o X.env) = eval o X.env)
    (hfew : ((backTo cpos (starEach (e :: es) X.env)).all (fun x => !x.1) && (backToKw cpos (keywordEach [] X.env)).all (fun x => x.1.isSome)
      && decide ((e :: es).length + ([] : List Keyword).length + (if ([] : List Keyword).isEmpty then 0 else 1) < 30)) = true)
    (hline : (apos.endLine == cpos.line) = true) (hs : starEach (e :: es) X.env = (false, eval e X.env) :: starEach es X.env) (hplain : (backTo cpos (starEach es X.env)).any (·.1) = false) :
    PE X (.Call (.Attribute o name apos) (e :: es) [] cpos) (tE T W (bMq f g mo ms)) := by
  refine ⟨fun pins s σ H Q I h => ?_⟩
  have h := tE_mq ho ho' h
  rw [hK] at h
  refine wpAny_Call_method_late hbase hfew hline rfl (thn (hv.run pins s σ H _ I h) fun v s1 ⟨x, H1, I1, r1, q1⟩ => ?_)
  rcases q1 with ⟨ty, q1⟩ | ⟨ty, q1⟩
  · obtain ⟨h1, h2⟩ := tyV_is I1 r1 ty
    refine ⟨"list", id, PySem.F.plainAttrs_list, slot, hty, h1, h2, ?_⟩
    have hA := ha.run cpos pins s1 σ H1 _ I1 q1
    rw [hs] at hA ⊢
    refine Calls.callWith_builtin (by show (false || (backTo cpos (starEach es X.env)).any (·.1)) = false; rw [hplain] <;> rfl) (Calls.evalArgs_plain ?_)
    exact thn hA fun us s2 ⟨vs, H2, I2, r2, q2⟩ => hm pins s2 σ H2 x vs v us Q I2 r1 r2 q2
  · obtain ⟨h1, h2⟩ := tyT_is I1 r1 ty
    refine ⟨"tuple", id', PySem.F.plainAttrs_tuple, slot', hty', h1, h2, ?_⟩
    have hA := ha.run cpos pins s1 σ H1 _ I1 q1
    rw [hs] at hA ⊢
    refine Calls.callWith_builtin (by show (false || (backTo cpos (starEach es X.env)).any (·.1)) = false; rw [hplain] <;> rfl) (Calls.evalArgs_plain ?_)
    exact thn hA fun us s2 ⟨vs, H2, I2, r2, q2⟩ => hm' pins s2 σ H2 x vs v us Q I2 r1 r2 q2
end
/-! rewriting rules -/
section
variable {X : Xn → En → Prop} {e e1 : En} {Q : R → En → Prop} {m mo : En → Ou R} {ms : En → Ou (List R)} {f g : List D → Option S} {r : R} {s : S} {i : Nat} {ds : List D}
def MqL (X : Xn → En → Prop) (f g : List D → Option S) (ms : En → Ou (List R)) (r : R) (e : En) (Q : R → En → Prop) : D → Prop
  | .lst _ => Wo X (ms e) (KMr X f r Q)
  | .tup _ => Wo X (ms e) (KMr X g r Q)
  | _ => False
theorem y_mql : MqL X f g ms r e Q (.lst ds) = Wo X (ms e) (KMr X f r Q) := (rfl)
theorem y_mqt : MqL X f g ms r e Q (.tup ds) = Wo X (ms e) (KMr X g r Q) := (rfl)
def MqP (X : Xn → En → Prop) (f g : List D → Option S) (ms : En → Ou (List R)) (r : R) (e : En) (Q : R → En → Prop) : Option (Option S) → Prop
  | some (some s) => MqL X f g ms r e Q s.d
  | _ => False
theorem y_mqpp : MqP X f g ms r e Q (some (some s)) = MqL X f g ms r e Q s.d := (rfl)
def KMq (X : Xn → En → Prop) (f g : List D → Option S) (ms : En → Ou (List R)) (Q : R → En → Prop) : R → En → Prop
  | .vl s, e => MqL X f g ms (.vl s) e Q s.d
  | .pl i, e => MqP X f g ms (.pl i) e Q e[i]?
theorem y_mqv : KMq X f g ms Q (.vl s) e = MqL X f g ms (.vl s) e Q s.d := (rfl)
theorem y_mqp : KMq X f g ms Q (.pl i) e = MqP X f g ms (.pl i) e Q e[i]? := (rfl)
theorem y_mq : Wo X (bMq f g mo ms e) Q = Wo X (mo e) (KMq X f g ms Q) := by
  have key : ∀ (r : R) (e1 : En) (s : S), Wo X (match isLT s.d with
      | some b => match ms e1 with
        | .ok rs e2 => pS (if b = true then f else g) (r :: rs) e2
        | .ex x e2 => .ex x e2
        | .no => .no
      | none => .no) Q = MqL X f g ms r e1 Q s.d := fun r e1 s => by
    cases hd : s.d with
    | lst ds =>
      show _ = Wo X (ms e1) (KMr X f r Q)
      show Wo X (match ms e1 with | .ok rs e2 => pS f (r :: rs) e2 | .ex x e2 => .ex x e2 | .no => .no) Q = _
      cases ms e1 <;> rfl
    | tup ds =>
      show _ = Wo X (ms e1) (KMr X g r Q)
      show Wo X (match ms e1 with | .ok rs e2 => pS g (r :: rs) e2 | .ex x e2 => .ex x e2 | .no => .no) Q = _
      cases ms e1 <;> rfl
    | _ => rfl
  unfold bMq
  cases h : mo e with
  | no => rfl
  | ex x e1 => rfl
  | ok r e1 =>
    show Wo X (match pk e1 r with
      | some s => match isLT s.d with
        | some b => match ms e1 with
          | .ok rs e2 => pS (if b = true then f else g) (r :: rs) e2
          | .ex x e2 => .ex x e2
          | .no => .no
        | none => .no
      | none => .no) Q = KMq X f g ms Q r e1
    cases r with
    | vl s => exact key _ _ _
    | pl i =>
      show _ = MqP X f g ms (.pl i) e1 Q e1[i]?
      simp only [pk]
      cases e1[i]? with
      | none => rfl
      | some y => cases y with
        | none => rfl
        | some s => exact key _ _ _
/-! a dict display -/
def DicE (ks : List Key) (Q : R → En → Prop) : List D → En → Prop := fun ds e => (ks.length = ds.length ∧ ks.Nodup ∧ ks.length ≤ 15) ∧ Q (.vl (.od ks ds)) e
theorem y_dice {ks : List Key} : DicE ks Q ds e = ((ks.length = ds.length ∧ ks.Nodup ∧ ks.length ≤ 15) ∧ Q (.vl (.od ks ds)) e) := (rfl)
def KDic (ks : List Key) (Q : R → En → Prop) : List R → En → Prop := fun rs e => FzK (DicE ks Q) [] e rs
theorem y_kdic {ks : List Key} {rs : List R} : KDic ks Q rs e = FzK (DicE ks Q) [] e rs := (rfl)
theorem y_dic {k : Key} {ks0 : List Key} : Wo X (bDic (k :: ks0) ms e) Q = Wo X (ms e) (KDic (k :: ks0) Q) := by
  generalize k :: ks0 = ks
  unfold bDic
  cases ms e with
  | no => rfl
  | ex x e1 => rfl
  | ok rs e1 =>
    show _ = FzK (DicE ks Q) [] e1 rs
    rw [fzK_eq]
    simp only
    cases frzs e1 rs with
    | none => rfl
    | some z =>
      obtain ⟨ds, e2⟩ := z
      simp only [List.nil_append]
      unfold DicE
      by_cases h : ks.length = ds.length ∧ ks.Nodup ∧ ks.length ≤ 15
      · rw [if_pos h]
        exact propext ⟨fun q => ⟨h, q⟩, fun q => q.2⟩
      · rw [if_neg h]
        exact propext ⟨fun q => q.elim, fun q => (h q.1).elim⟩
theorem f_indexT {l : List Int} {k : Int} (h : k ∈ l) : dIndexT [.tup (iL l), .int k] = some (.fr (.int (l.idxOf k : Nat))) := by
  have e : intsD (iL l) = some l := by
    clear h
    induction l with
    | nil => rfl
    | cons a l ih => show (intsD (iL l)).map _ = _; rw [ih]; rfl
  unfold dIndexT
  simp only [e, h, if_true]
theorem f_countT {l : List Int} {k : Int} : dCountT [.tup (iL l), .int k] = some (.fr (.int (l.count k : Nat))) := by
  have e : intsD (iL l) = some l := by
    induction l with
    | nil => rfl
    | cons a l ih => show (intsD (iL l)).map _ = _; rw [ih]; rfl
  unfold dCountT
  simp only [e]
end
end Fv

namespace Fv
open PySem PySem.Spec PyProof.Rows L2
/-! ### xs[::i], i one or minus one -/
noncomputable def dStp : List D → Option S
  | [.lst xs, .int i] => if i = -1 then some (.ol xs.reverse) else if i = 1 then some (.ol xs) else none
  | _ => none
def rStp (K : PySem.W.Frag) : V → V → Hp → VK → Prop := fun x y H Q => ∃ a xs i, x = .ref a ∧ y = .int i ∧ SqL K H a xs ∧ ((i = -1 ∧ ∀ p, H p = none → Q (.ref p) (upd H p (.lst xs.reverse))) ∨ (i = 1 ∧ ∀ p, H p = none → Q (.ref p) (upd H p (.lst xs))))
section
variable {X : Cx} {T : Tb} {W : WX} {e e2 : Expr} {m m2 : En → Ou R} {te te2 : TE}
theorem pick_one (items : Array Value) : slicePick items none none (some 1) = items := by
  have : slicePick items none none (some 1) = slicePick items none none none := rfl
  rw [this, slicePick_all]
theorem pe_stp {p3 pos : Pos} (he : PE X e te) (h2 : PE X e2 te2) : PE X (.Subscript e (.Slice none none (some e2) p3) pos) (fun σ H Q => te σ H fun x H1 => te2 σ H1 fun y H2 => rStp X.K x y H2 Q) := by
  constructor
  intro pins s σ H Q I h
  refine Subscript_ (thn (he.run pins s σ H _ I h) fun v s1 ⟨x, H1, I1, r1, q1⟩ => ?_)
  refine wpAny_Slice ?_
  simp only [evalPart_none]
  refine wpAny_pure (wpAny_pure ?_)
  rw [evalPart_some]
  refine thn (h2.run pins s1 σ H1 _ I1 q1) fun vs s4 ⟨y, H4, I4, r4, a, xs, i, hx, hy, hq, q⟩ => ?_
  cases hx
  cases hy
  cases r1
  obtain ⟨t, rfl⟩ := r4
  have ps : IsPart (.int i t) (some i) := .int i t
  generalize hsh : ({ s4 with heap := s4.heap.push { cls := .type "slice", data := .fields #[.none, .none, .int i t] } } : Shared) = s5
  have I5 : Inv X pins σ H4 s5 := hsh ▸ I4.kept (t' := s4.toks) fun b ob q => Heap.get?_push_of_some _ q
  have S : s5.heap.IsSliceOf s4.heap.objs.size .none .none (.int i t) := hsh ▸ Heap.IsSliceOf.new _ .none .none (.int i t)
  show wpAny (model X.prog X.w) X.A (subscriptTail e (.Slice none none (some e2) p3) (.ref a) (.ref s4.heap.objs.size)) (EP X pins σ Q) X.xe s5
  obtain ⟨its, r, ht, hz⟩ := I5.list hq
  have hlen := r.length
  refine tail_any (ops := [.ref a, .ref s4.heap.objs.size]) ht.isList.typeIs (PySem.slot_list_getitem.lookup) ?_ (by with_unfolding_all rfl)
  rcases q with ⟨rfl, q⟩ | ⟨rfl, q⟩
  · refine wpAny_getItem_list_slice ht.isList S .none .none ps (by decide) ?_ (by rw [List.size_toArray]; omega)
    rw [PySem.W.krv_pick]
    exact ⟨.ref _, _, I5.laid (t' := s5.toks) (o := .lst xs.reverse) (fun b ob q => Heap.get?_push_of_some _ q) (Nat.le_refl _) ⟨by rw [List.length_reverse]; exact hz, _, 0, r.reverse, Heap.get?_push_size _ rfl⟩, rfl, q _ (I5.hok.fresh (Nat.le_refl _))⟩
  · refine wpAny_getItem_list_slice ht.isList S .none .none ps (by decide) ?_ (by rw [List.size_toArray]; omega)
    rw [pick_one]
    exact ⟨.ref _, _, I5.laid (t' := s5.toks) (o := .lst xs) (fun b ob q => Heap.get?_push_of_some _ q) (Nat.le_refl _) ⟨hz, _, 0, r, Heap.get?_push_size _ rfl⟩, rfl, q _ (I5.hok.fresh (Nat.le_refl _))⟩
theorem fo_stp : FunOk T (r2 fun x y H Q => rStp T.K x y H Q) dStp := fun G H vs ss s Q hs r h k => by
  unfold dStp at h
  split at h
  · rename_i xs i heq
    obtain ⟨v, w, s1, s2, rfl, r1, r2, e1, e2⟩ := repOs2 r heq
    obtain ⟨a, as, rfl, q1, k1⟩ := r1.lst hs e1
    obtain rfl := r2.int e2
    split at h
    · rename_i hi
      cases h
      exact ⟨_, _, rfl, a, as, i, rfl, rfl, q1, .inl ⟨hi, fun p hp => done_ol hs k k1.rev hp⟩⟩
    · split at h
      · rename_i hi
        cases h
        exact ⟨_, _, rfl, a, as, i, rfl, rfl, q1, .inr ⟨hi, fun p hp => done_ol hs k k1 hp⟩⟩
      · cases h
  · cases h
theorem pe_stpF {p3 pos : Pos} (hK : T.K = X.K) (ha : PE X e (tE T W m)) (hb : PE X e2 (tE T W m2)) : PE X (.Subscript e (.Slice none none (some e2) p3) pos) (tE T W (b2 (pS dStp) m m2)) :=
  PE.imp (pe_stp ha hb) fun σ H Q h => tE.mono (fun _ _ k => tE.mono (fun _ _ k => by
    obtain ⟨x, y, e, q⟩ := k
    cases e
    rw [hK] at q
    exact q) k) (tE_prim2 (prim_S fo_stp) h)
end
end Fv

namespace L2
open PySem PySem.Spec PyProof.Rows
/-! ### a try whose body raises nothing -/
section
variable {X : Cx} {body : List Stmt} {h₀ : ExceptHandler} {hds : List ExceptHandler} {pos : Pos} {tb : WX → TS}
theorem ps_try_calm
    (hb : ∀ (W : WX) (pn : List (Addr × Obj)) (xe : Value → Shared → Prop), L2N.Takes (X.tr pn xe) W → PassesOwn (model X.prog X.w) X.A X.env xe → PSs (X.tr pn xe) body (tb W)) :
    PS X (.Try body (h₀ :: hds) [] [] pos) (fun D σ H => tb (fun _ _ _ _ => False) D σ H) := by
  refine ⟨fun pins s σ H D I h => ?_⟩
  have ok := I.ok
  refine wpAny_Try_except ?_
  refine wpAny_mono ((hb (fun _ _ _ _ => False) (X.pn ++ pins) (fun e s₁ => wpAny (model X.prog X.w) X.A (noteFrame e X.env) (fun _ s₂ => wpAny (model X.prog X.w) X.A (setFlight e none) (fun _ s₃ =>
    wpAny (model X.prog X.w) X.A (handleBy e X.env (h₀ :: hds)) (SP X pins D) X.xe s₃) X.xe s₂) X.xe s₁) (fun u s' xx => ?_) PassesOwn.looking).run [] s σ H D (I.toTry _) h) (fun f s1 hsp => ?_) (fun e s1 he => he)
  · obtain ⟨a, B, sI, pins', σ', H', cls, d, rfl, J', nb, up, sky, na, os, ag, w⟩ := xx
    exact w.elim
  · cases f with
    | next =>
      obtain ⟨σ', H', J', q⟩ := hsp
      exact wpAny_execs_nil ⟨σ', H', J'.ofTry ok, q⟩
    | brk =>
      obtain ⟨σ', H', J', q⟩ := hsp
      exact ⟨σ', H', J'.ofTry ok, q⟩
    | cont =>
      obtain ⟨σ', H', J', q⟩ := hsp
      exact ⟨σ', H', J'.ofTry ok, q⟩
    | ret u =>
      obtain ⟨v, σ', H', J', r, q⟩ := hsp
      exact ⟨v, σ', H', J'.ofTry ok, r, q⟩
end
/-! ### x == y, x != y by an __eq__ of the text -/
section
variable {prog : Program} {w : World} {A : Around} {E : Value → Shared → Prop} {s : Shared} {K : PySem.W.Frag} {x C L f : Addr} {h₀ : Heap} {m : Str → Option Value} {ox : Obj} {od : Option Obj} {name : Str} {b tb : Value}
open PySem.W in
theorem ifBoundB {M : Model} {args : List Value} {Q : Option Value → Shared → Prop} {B id : String} (X : K.In s.heap) (I : InstAt s.heap x ox C od) (hs : findIn K (.ref C) name = some (some (.builtin id))) (S : Slot B name id)
    (h : wpAny M A (call (.builtin id) (.ref x :: args)) (fun v => Q (some v)) E s) : wpAny M A (callSpecialIfBound? (.ref x) name args) Q E s := by
  simp only [callSpecialIfBound?, bindSpecialIfBound?]
  refine wpAny_holding (wpAny_bind (wpAny_bind (wpAny_bind (I.type.here ((looks_findIn X hs).here ?_)))))
  simp only [S.bind]
  refine wpAny_bind (wpAny_askSetting (wpAny_ite ?_))
  have fin : wpAny M A (call (.builtin id) ([.ref x] ++ args) >>= fun v => pure (some v)) Q E s := wpAny_bind (wpAny_mono h (fun v s' h' => wpAny_pure h') fun _ _ h' => h')
  split
  · exact wpAny_bind (wpAny_pure (wpAny_pure fin))
  · exact wpAny_tryCatch (wpAny_bind (wpAny_pure (wpAny_pure fin)))
open PySem.W in
theorem objNe_K {Q : Fin → Shared → Prop} (X : K.In s.heap) (I : InstAt s.heap x ox C od) (hs : findIn K (.ref C) "__eq__" = some (some (.ref f))) (hf : isFn K (.ref f) = true) (hu : A.units < cLine)
    (hcall : wpAny (model prog w) A (call (.ref f) [.ref x, b]) (fun v s' => ∃ r, v = .bool r ∧ Q (.done (.ret (.bool (!r)))) s') E s) :
    wpAny (model prog w) A (Builtin.«object.__ne__» ⟨[.ref x, b], []⟩) Q E s := by
  unfold Builtin.«object.__ne__»
  repeat (first
    | with_reducible refine wpAny_cRoomFor hu ?_
    | (refine wpAny_bind (m := callSpecialIfBound? (.ref x) (Str.ofString "__eq__") [b])
        (ifBound_K X I hs hf (wpAny_mono hcall (fun r s' hr => by
          obtain ⟨b, rfl, hq⟩ := hr
          repeat (first | exact hq | exact wpAny_pure hq | exact wpAny_truthy_bool hq | (refine wpAny_bind (m := truthy (.bool _)) (wpAny_truthy_bool ?_)) | wp_step)) fun _ _ e => e)))
    | wp_step)
open PySem.W in
theorem ne_own {Q : Value → Shared → Prop} (hu : A.units + 1 < cLine) (F : Fr h₀ L s.heap m) (X₀ : K.In h₀) (I : InstAt s.heap x ox C od) (hb : Looks (model prog w) s.heap (typeOf b) tb) (hn : notFirst K C tb = true)
    (hne : findIn K (.ref C) "__ne__" = some (some (.builtin "object.__ne__"))) (hsb : subIn K (.ref C) (.type "object") = some true) (hs : findIn K (.ref C) "__eq__" = some (some (.ref f))) (hf : isFn K (.ref f) = true)
    (h : wpAny (model prog w) A.in1 (call (.ref f) [.ref x, b]) (fun v s' => ∃ r, v = .bool r ∧ Q (.bool (!r)) s') E s) : wpAny (model prog w) A (richCompare .NotEq (.ref x) b) Q E s := by
  have X := X₀.keeps F.keep
  have hi : Looks (model prog w) s.heap (isInstance (.ref x) (.type "object")) true := I.type.andThen (looks_subIn X hsb)
  have one : wpAny (model prog w) A (tryCompare (.ref x) (cmpInfo .NotEq).2.1 b) (fun r s' => ∃ v, r = some v ∧ Q v s') E s := by
    unfold tryCompare
    refine wpAny_bind (ifBoundB X I hne PySem.F.cmp_object.ne (wpAny_call (codeAny_call_builtin PySem.F.cmp_object.ne.plain PySem.F.cmpEntry_ne
      (check_slot PySem.F.cmpKind_ne PySem.F.cmpSplit_ne hi (PySem.F.cmpArgs_ne _ _) (objNe_K (A := A.in1) X I hs hf (by first | exact hu | (simp; omega)) (wpAny_mono h (fun v s' hv => ?_) fun _ _ e => e))))))
    obtain ⟨r, rfl, hq⟩ := hv
    first | exact ⟨r, rfl, wpAny_pure ⟨_, rfl, hq⟩⟩ | exact ⟨r, rfl, wpAny_pure (wpAny_pure ⟨_, rfl, hq⟩)⟩
  unfold richCompare
  simp only [oneThing_ref]
  refine wpAny_holding (wpAny_bind (wpAny_cRoomFor (Nat.lt_of_succ_lt hu) ?_))
  refine wpAny_bind (I.type.here (wpAny_bind (hb.here ?_)))
  split
  · rename_i q
    have e : subIn K tb (.ref C) = some false := by
      rcases Bool.or_eq_true_iff.mp hn with e | e
      · rw [beq_iff_eq.mp e] at q; simp at q
      · exact beq_iff_eq.mp e
    refine wpAny_bind ((looks_subIn X e).here ?_)
    simp only [Bool.false_eq_true, if_false]
    refine wpAny_bind (wpAny_mono one (fun r s' z => ?_) fun _ _ e => e)
    obtain ⟨v, rfl, hq⟩ := z
    exact wpAny_pure hq
  · refine wpAny_bind (wpAny_pure ?_)
    simp only [Bool.false_eq_true, if_false]
    refine wpAny_bind (wpAny_mono one (fun r s' z => ?_) fun _ _ e => e)
    obtain ⟨v, rfl, hq⟩ := z
    exact wpAny_pure hq
end
end L2
namespace L2
open PySem PySem.Spec PyProof.Rows
def rOwnC (C : Addr) (sp : Sp) (neg : Bool) : R2 := fun x y H Q => ∃ a b dx fs dy gs, x = .ref a ∧ y = .ref b ∧ H a = some (.ins C dx fs) ∧ H b = some (.ins C dy gs) ∧ sp [.ref a, .ref b] H (fun v H' => ∃ r, v = .bl r ∧ Q (.bl (r != neg)) H') (fun _ _ _ => False)
/-- what != asks of a class with an == of its own -/
structure NeOk (K : PySem.W.Frag) (C : Addr) : Prop where
  ne : PySem.W.findIn K (.ref C) "__ne__" = some (some (.builtin "object.__ne__"))
  sb : PySem.W.subIn K (.ref C) (.type "object") = some true
section
variable {X : Cx} {C f : Addr} {fd : FuncData} {ps : List Str} {sp : Sp} {n : Nat}
theorem op_own {neg : Bool} (F : FnOk X.prog X.w X.K X.mg X.base (L2N.CX X.prog X.w) n f fd ps sp) (hM : Meth X.K C "__eq__" f) (hN : neg = true → NeOk X.K C) (hb : L2.Binds X.K fd ps []) (hr : Room (n + 1) X.A) : OpR X (compareOp (if neg then .NotEq else .Eq)) (rOwnC C sp neg) := by
  intro pins s σ H x y v u Q I rx ry hq
  obtain ⟨a, b, dx, fs, dy, gs, rfl, rfl, hA, hB, q⟩ := hq
  cases rx
  cases ry
  obtain ⟨mA, J, _⟩ := ins_get I.hok hA
  obtain ⟨mB, J', _⟩ := ins_get I.hok hB
  obtain ⟨od, J, _⟩ := J.look
  obtain ⟨od', J', _⟩ := J'.look
  obtain ⟨m, hF⟩ := I.fr
  have run : ∀ (A : Around) (hra : Room n A) (hfr : A.frames = X.A.frames), wpAny (model X.prog X.w) A (call (.ref f) [.ref a, .ref b]) (fun v s' => ∃ r, v = .bool r ∧ EP X pins σ Q (.bool (r != neg)) s') X.xe s := by
    intro A hra hfr
    have e0 : Env0 X.prog X.w X.K X.mg X.base A X.stack s H := by
      have e := I.env0
      exact ⟨by rw [hfr]; exact e.frames, e.mod, e.bs, e.bsz, e.funs, e.frf, e.hok, e.bare⟩
    have hl := F.len _ _ _ _ q
    have r2 : Vals [V.ref a, V.ref b] [Value.ref a, Value.ref b] := .cons rfl (.cons rfl .nil)
    refine wpAny_call (codeAny_mono (F.run A X.stack s H ⟨[.ref a, .ref b], []⟩ [.ref a, .ref b] [.ref a, .ref b] _ (fun _ _ _ => False) hra e0 (by
      have := hb s [.ref a, .ref b] I.kIn (by simpa using hl)
      simpa using this) r2 q) fun r s' hq => ?_)
    cases r with
    | error e => exact L2N.passAt (W := fun _ _ _ _ => False) Fv.takes0N σ pins H s e s' I hq
    | ok fl =>
      cases fl with
      | ret w =>
        obtain ⟨z, H', I', rz, r, rfl, ex⟩ := I.after hq
        cases rz
        exact ⟨r, rfl, .bl (r != neg), H', I', rfl, ex⟩
      | next => exact False.elim hq
      | brk => exact False.elim hq
      | cont => exact False.elim hq
  cases neg with
  | false =>
    show wpAny (model X.prog X.w) X.A (richCompare .Eq (.ref a) (.ref b)) (EP X pins σ Q) X.xe s
    refine PySem.W.cmp_K (op := .Eq) (tb := .ref C) hr.units0 hF I.ok.mod.kin J J'.type (by simp [PySem.W.notFirst]) hM.at_ hM.fn ?_
    refine wpAny_mono (run X.A (hr.mono (Nat.le_succ n)) rfl) (fun v s' h => ?_) fun _ _ e => e
    obtain ⟨r, rfl, h⟩ := h
    cases r <;> exact h
  | true =>
    show wpAny (model X.prog X.w) X.A (richCompare .NotEq (.ref a) (.ref b)) (EP X pins σ Q) X.xe s
    have hN := hN rfl
    refine ne_own (tb := .ref C) (by have := hr.in1.units0; simpa using this) hF I.ok.mod.kin J J'.type (by simp [PySem.W.notFirst]) hN.ne hN.sb hM.at_ hM.fn ?_
    refine wpAny_mono (run X.A.in1 hr.in1 rfl) (fun v s' h => ?_) fun _ _ e => e
    obtain ⟨r, rfl, h⟩ := h
    cases r <;> exact ⟨_, rfl, h⟩
end
end L2
namespace Fv
open PySem PySem.Spec PyProof.Rows L2
/-- x == y, x != y of two instances of one class, by its own == -/
def dOwn (c : Nat) (fn : List S → FO) (neg : Bool) : List S → Option S
  | [.fr (.ins c1 ns xs), .fr (.ins c2 ms ys)] => if c1 = c ∧ c2 = c then (match fn [.fr (.ins c1 ns xs), .fr (.ins c2 ms ys)] with
      | .ok (.fr (.bl r)) _ => some (.fr (.bl (r != neg)))
      | _ => none) else none
  | _ => none
theorem f_own {c : Nat} {fn : List S → FO} {neg r : Bool} {ns ms : List Str} {xs ys : List D} {ss : List S} (h : fn [.fr (.ins c ns xs), .fr (.ins c ms ys)] = .ok (.fr (.bl r)) ss) : dOwn c fn neg [.fr (.ins c ns xs), .fr (.ins c ms ys)] = some (.fr (.bl (r != neg))) := by
  unfold dOwn
  simp only [and_self, if_true, h]
section
variable {X : Cx} {T : Tb} {W : WX} {a b : Expr} {ma mb : En → Ou R} {c : Nat} {pos : Pos} {k j : Nat} {ps : List Str} {fn : List S → FO}
theorem prim_own {neg : Bool} : PrimOk T W (fun _ => r2 (rOwnC (T.ca c) (spD T 2 fn) neg)) (pSS (dOwn c fn neg)) := by
  intro G H σ e τ τ1 u u1 rs vs Q md hl hr q
  unfold pSS at q
  cases h1 : pks e rs with
  | none => rw [h1] at q; exact q.elim
  | some ss =>
    rw [h1] at q
    simp only at q
    have pk := hr.peek md hl h1
    cases hd : dOwn c fn neg ss with
    | none => rw [hd] at q; exact q.elim
    | some s =>
      rw [hd] at q
      unfold dOwn at hd
      split at hd
      · rename_i c1 ns xs c2 ms ys
        split at hd
        · rename_i hc
          obtain ⟨h1, h2⟩ := hc
          subst h1
          subst h2
          split at hd
          · rename_i r ss' hfn
            cases hd
            cases pk with
            | cons ro1 pk =>
              cases pk with
              | cons ro2 pk =>
                cases pk
                cases ro1 with
                | fr rf1 =>
                  cases ro2 with
                  | fr rf2 =>
                    cases rf1 with
                    | ins hA hl1 rfs1 =>
                      rename_i a1 dx vx
                      cases rf2 with
                      | ins hB hl2 rfs2 =>
                        rename_i a2 dy vy
                        refine ⟨_, _, rfl, a1, a2, dx, _, dy, _, rfl, rfl, md.sl.sub _ _ hA, md.sl.sub _ _ hB, ?_⟩
                        have md0 := md.dropT hl
                        refine spD_frs (T := T) (W := fun _ _ _ _ => False) (fn := fn) (np := 2) (ds := [.ins _ ns xs, .ins _ ms ys]) (vs := [.ref a1, .ref a2]) rfl md0 (.cons (.ins hA hl1 rfs1) (.cons (.ins hB hl2 rfs2) .nil)) ?_
                        simp only [List.map_cons, List.map_nil, hfn]
                        intro G' H' v τ' u' ev md' hr'
                        cases hr' with
                        | vl hn' =>
                          cases hn'
                          have rv := md'.last hl
                          obtain rfl := rv.bl rfl
                          have md1 : Md T G' H' σ e τ u := md'.dropT hl
                          have md2 : Md T G' H' σ e (τ ++ [.bl (r != neg)]) (u ++ [.fr (.bl (r != neg))]) := md1.push (.fr (.bl _)) (fun b hb => by rw [fp_fr] at hb; simp at hb)
                          have ev2 : Evo T.tbs G H (As σ e (τ ++ τ1) (u ++ u1)) G' H' (As σ e (τ ++ [.bl (r != neg)]) (u ++ [.fr (.bl (r != neg))])) := (ev.wide fun b hb => As_drop md.l1 hl b hb).less fun b hb => by
                            rcases (As_push md1.l1 hl b).mp hb with z | z
                            · exact As_drop md1.l1 hl b z
                            · rw [fp_fr] at z; simp at z
                          exact ⟨r, rfl, q G' H' (.bl (r != neg)) [.bl (r != neg)] [.fr (.bl (r != neg))] ev2 md2 (.vl .nil)⟩
          · cases hd
        · cases hd
      · cases hd
/-- x == y -/
theorem pe_eqOF (F : Fm T X.prog X.w X.K X.mg X.base c "__eq__" ps j fn) (hr : Room k X.A) (hj : j + 1 ≤ k) (hnp : ps.length = 2) (hm : behindInMarks .Eq b = false) (ha : PE X a (tE T W ma)) (hb : PE X b (tE T W mb)) :
    PE X (.Compare a [.Eq] [b] pos) (tE T W (b2 (pSS (dOwn c fn false)) ma mb)) := by
  obtain ⟨f, fd, F, hM, hc, hbd⟩ := F.ex
  rw [hnp] at F
  exact PE.imp (pe_cmpR (op_own (neg := false) F hM (fun z => nomatch z) hbd (hr.mono hj)) ha hb hm) fun σ H Q h => tE.mono (fun _ _ k => tE.mono (fun _ _ k => by
    obtain ⟨x, y, e, q⟩ := k
    cases e
    exact q) k) (tE_prim2 prim_own h)
/-- x != y -/
theorem pe_neOF (F : Fm T X.prog X.w X.K X.mg X.base c "__eq__" ps j fn) (hN : NeOk X.K (T.ca c)) (hr : Room k X.A) (hj : j + 1 ≤ k) (hnp : ps.length = 2) (hm : behindInMarks .NotEq b = false) (ha : PE X a (tE T W ma)) (hb : PE X b (tE T W mb)) :
    PE X (.Compare a [.NotEq] [b] pos) (tE T W (b2 (pSS (dOwn c fn true)) ma mb)) := by
  obtain ⟨f, fd, F, hM, hc, hbd⟩ := F.ex
  rw [hnp] at F
  exact PE.imp (pe_cmpR (op_own (neg := true) F hM (fun _ => hN) hbd (hr.mono hj)) ha hb hm) fun σ H Q h => tE.mono (fun _ _ k => tE.mono (fun _ _ k => by
    obtain ⟨x, y, e, q⟩ := k
    cases e
    exact q) k) (tE_prim2 prim_own h)
/-- a try whose body raises nothing -/
def sCalm (b : En → Fl) : En → Fl := fun e => match b e with
  | .ex _ _ => .no
  | o => o
theorem ps_calmF {p : Nat → Bool} {body : List Stmt} {h₀ : ExceptHandler} {hds : List ExceptHandler} {pos : Pos} {m : En → Fl}
    (hb : ∀ (W' : WX) (pn : List (Addr × Obj)) (xe : Value → Shared → Prop), L2N.Takes (X.tr pn xe) W' → PassesOwn (model X.prog X.w) X.A X.env xe → PSs (X.tr pn xe) body (tS T W' p m)) : PS X (.Try body (h₀ :: hds) [] [] pos) (tS T W p (sCalm m)) := by
  refine PS.imp (ps_try_calm (tb := fun W' => tS T W' p m) hb) fun D σ H ⟨G, e, sl, q⟩ => ⟨G, e, sl, ?_⟩
  unfold sCalm at q
  cases hm : m e with
  | ex x e1 => rw [hm] at q; exact q.elim
  | nx e1 => rw [hm] at q; exact q
  | bk e1 => rw [hm] at q; exact q
  | ct e1 => rw [hm] at q; exact q
  | rt s e1 => rw [hm] at q; exact q
  | no => rw [hm] at q; exact q.elim
theorem y_calm {m : En → Fl} {X : Xn → En → Prop} {N : En → Prop} {Rt : S → En → Prop} {e : En} (h : Wf (fun _ _ => False) (m e) N Rt) : Wf X (sCalm m e) N Rt := by
  unfold sCalm
  cases hm : m e with
  | ex x e1 => rw [hm] at h; exact h.elim
  | nx e1 => rw [hm] at h; exact h
  | bk e1 => rw [hm] at h; exact h
  | ct e1 => rw [hm] at h; exact h
  | rt s e1 => rw [hm] at h; exact h
  | no => rw [hm] at h; exact h.elim
end
end Fv
namespace Fv
open PySem PySem.Spec PyProof.Rows L2
/-! ### isinstance(x, C), C a class of the text -/
def isoT : List String := ["NoneType", "bool", "int", "str", "list", "tuple"]
def isoD (c : Nat) : D → Option Bool
  | .ins c' _ _ => if c' = c then some true else none
  | d => d.tyN.bind fun t => if t ∈ isoT then some false else none
def dIsO (c : Nat) : List D → Option S
  | [d] => (isoD c d).map fun b => .fr (.bl b)
  | _ => none
theorem f_iso {c : Nat} {ns : List Str} {xs : List D} : dIsO c [.ins c ns xs] = some (.fr (.bl true)) := by simp [dIsO, isoD]
structure IsO (K : PySem.W.Frag) (C : Addr) : Prop where
  cl : Cls K C
  ha : PySem.W.findIn K (.ref C) "__class__" = some (some (.builtin "object.__class__"))
  hn : PySem.W.specialIn K (.builtin "object.__class__") "__get__" = some (some (.builtin "getset_descriptor.__get__"))
  htk : PySem.W.takesIn K (.builtin "object.__class__") = some true
  hm : PySem.W.mroIn K C (.type "object") = some true
  one : PySem.W.kitOne K (.ref C) (.ref C) = some true
  no : ∀ t ∈ isoT, PySem.W.kitOne K (.type t) (.ref C) = some false
section
variable {X : Cx} {T : Tb} {W : WX} {a b : Expr} {ma mb : En → Ou R} {c : Nat} {pos : Pos} {k j : Nat} {ps : List Str} {fn : List S → FO}
def rIsO (K : PySem.W.Frag) (C : Addr) : List V → Hp → VK → Prop := fun xs H Q => ∃ (x : V) (t : Value) (b : Bool), xs = [x] ∧ TyX K H x t ∧ PySem.W.kitOne K t (.ref C) = some b ∧ Q (.bl b) H
theorem fo_iso (O : IsO T.K (T.ca c)) : FunOk T (rIsO T.K (T.ca c)) (dIsO c) := fun G H vs ss s Q hs r h k => by
  unfold dIsO at h
  split at h
  · rename_i d heq
    obtain ⟨v, s1, rfl, r1, e1⟩ := repOs1 r heq
    cases hd : isoD c d with
    | none => rw [hd] at h; cases h
    | some b =>
      rw [hd] at h
      cases h
      have done := done_fr (W := True) (Q := Q) hs k (.bl b)
      cases d with
      | ins c' ns xs =>
        by_cases hc : c' = c
        · have e : isoD c (.ins c' ns xs) = some true := if_pos hc
          rw [e] at hd
          cases hd
          subst hc
          obtain ⟨a, dx, xs, rfl, hA, hl, _⟩ := r1.ins hs e1
          exact ⟨_, _, true, rfl, .base (.ins hA O.cl O.ha O.hn O.htk O.hm), O.one, done⟩
        · have e : isoD c (.ins c' ns xs) = none := if_neg hc
          rw [e] at hd
          cases hd
      | _ =>
        unfold isoD at hd
        obtain ⟨t, ht, hd⟩ := Option.bind_eq_some_iff.mp hd
        split at hd
        · rename_i hm
          cases hd
          exact ⟨_, _, false, rfl, r1.tyX hs (by rw [e1]; exact ht), O.no t hm, done⟩
        · cases hd
  · cases h
theorem pe_isO {eo ec : Expr} {mo : En → Ou R} {px : Pos} (hK : T.K = X.K) (O : IsO X.K (T.ca c)) (hg : Gl X "isinstance") (hm : X.mg "isinstance" = none) (ho : PE X eo (tE T W mo)) (hc : PE X ec (tC (.ref (T.ca c))))
    (he : starEach [eo, ec] X.env = (false, eval eo X.env) :: starEach [ec] X.env) (hs : starEach [ec] X.env = (false, eval ec X.env) :: starEach [] X.env) (hpl : (backTo pos (starEach [ec] X.env)).any (·.1) = false) :
    PE X (.Call (.Name "isinstance" px) [eo, ec] [] pos) (tE T W (b1 (pS (dIsO c)) mo)) :=
  PE.imp (pe_callB call_isi hg hm boot_isinstance (pa_cons ho (pa_cons hc pa_nil (hs := hs)) (hs := he)) (by decide) (by decide) he hpl) fun σ H Q h => tE.mono (fun v H1 ⟨x, t, b, e, h1, h2, h3⟩ => by
    cases e
    rw [hK] at h1 h2
    exact ⟨v, .ref (T.ca c), t, .ref (T.ca c), b, rfl, .own _, h1, h2, h3⟩) (tE_prim1 (prim_S (fo_iso (hK ▸ O))) h)
/-- as tests -/
theorem pt_eqOF (F : Fm T X.prog X.w X.K X.mg X.base c "__eq__" ps j fn) (hr : Room k X.A) (hj : j + 1 ≤ k) (hnp : ps.length = 2) (hm : behindInMarks .Eq b = false) (ha : PE X a (tE T W ma)) (hb : PE X b (tE T W mb)) :
    PT X (.Compare a [.Eq] [b] pos) (tB T W (bTb (b2 (pSS (dOwn c fn false)) ma mb))) := by
  obtain ⟨f, fd, F, hM, hc, hbd⟩ := F.ex
  rw [hnp] at F
  exact PT.imp (pt_cmpR (op_own (neg := false) F hM (fun z => nomatch z) hbd (hr.mono hj)) ha hb hm) fun σ H Q h => tE.mono (fun _ _ k => tE.mono (fun _ _ k => by
    obtain ⟨x, y, e, q⟩ := k
    cases e
    exact q) k) (tE_prim2 prim_own (tB_bool h))
theorem pt_neOF (F : Fm T X.prog X.w X.K X.mg X.base c "__eq__" ps j fn) (hN : NeOk X.K (T.ca c)) (hr : Room k X.A) (hj : j + 1 ≤ k) (hnp : ps.length = 2) (hm : behindInMarks .NotEq b = false) (ha : PE X a (tE T W ma)) (hb : PE X b (tE T W mb)) :
    PT X (.Compare a [.NotEq] [b] pos) (tB T W (bTb (b2 (pSS (dOwn c fn true)) ma mb))) := by
  obtain ⟨f, fd, F, hM, hc, hbd⟩ := F.ex
  rw [hnp] at F
  exact PT.imp (pt_cmpR (op_own (neg := true) F hM (fun _ => hN) hbd (hr.mono hj)) ha hb hm) fun σ H Q h => tE.mono (fun _ _ k => tE.mono (fun _ _ k => by
    obtain ⟨x, y, e, q⟩ := k
    cases e
    exact q) k) (tE_prim2 prim_own (tB_bool h))
end
end Fv

namespace Fv
open PySem PySem.Spec PyProof.Rows L2
/-! ### tuple(range(n)) -/
def dTr : List D → Option S
  | [.int n] => if -(2 ^ 62) ≤ n ∧ n ≤ 16777216 then some (.fr (.tup (rngD 0 n.toNat))) else none
  | _ => none
theorem f_tr1 {n : Int} (h : -(2 ^ 62) ≤ n ∧ n ≤ 16777216) : dTr [.int n] = some (.fr (.tup (rngD 0 n.toNat))) := if_pos h
def rTr1 : List V → Hp → VK → Prop := fun vs H Q => ∃ n, vs = [.int n] ∧ RgOk 0 n ∧ NewT Q H (rgV 0 n)
theorem fo_tr1 {T : Tb} : FunOk T rTr1 dTr := fun G H vs ss s Q hs r h k => by
  unfold dTr at h
  split at h
  · rename_i n heq
    split at h
    · rename_i hn
      cases h
      obtain ⟨v, s1, rfl, r1, e1⟩ := repOs1 r heq
      obtain rfl := r1.int e1
      refine ⟨n, rfl, ⟨by omega, by omega, by omega, by omega, by omega⟩, ?_⟩
      have := rg_repF (T := T) (G := G) 0 n
      rw [Int.sub_zero] at this
      exact done_tup hs k this
    · cases h
  · cases h
section
variable {X : Cx} {T : Tb} {W : WX} {a e : Expr} {ma : En → Ou R} {p p2 pos pos2 : Pos} {te : L2.St → Hp → (Int → Int → Hp → Prop) → Prop}
theorem pe_tupRgN {p pos : Pos} (hc : X.calm = true) (hg : Gl X "tuple") (hm : X.mg "tuple" = none) (he : PRg X e te) (na : starEach [e] X.env = (false, eval e X.env) :: starEach [] X.env := by rfl) : PE X (.Call (.Name "tuple" p) [e] [] pos) (fun σ H Q => te σ H fun a b H1 => RgOk a b ∧ NewT Q H1 (rgV a b)) := by
  refine ⟨fun pins s σ H Q I h => ?_⟩
  refine Call_ (ld_blt I hg hm boot_tuple (PyProof.Rows.callWith_type1 (args_cons (thn (he pins s σ H _ I h) fun x s1 ⟨r, a, b, t, u, v, H1, ex, hr, I1, ok, q⟩ => args_nil ?_) na) na))
  subst ex
  obtain ⟨b1, b2, b3, b4, b5⟩ := ok
  refine call_tuple_range (n := (b - a).toNat) (I1.ok.hd hc) hr (small_one b1 b2 b3 b4) (rangeSize_nat a b) b5 fun h' tk acc hk hi => ?_
  have I2 : Inv X pins σ H1 { s1 with heap := h', toks := tk } := I1.kept hk
  refine ⟨.ref h'.objs.size, upd H1 h'.objs.size (tbO acc (rgV a b)), I2.laid (t' := tk) (fun c o e => Heap.get?_push_of_some _ e) (Nat.le_refl _) (show ObjOk X.prog X.w _ _ _ (tbO acc (rgV a b)) from ⟨Heap.get?_push_size _ rfl, ?_, acc.toList, vals_rg hi, ?_⟩), rfl, q _ _ (I2.hok.fresh (Nat.le_refl _))⟩
  · rw [rgV_length, sizeLine_eq]; omega
  · rw [Array.toArray_toList]; exact IsTup.new _ _
theorem pe_tr1 (hc : X.calm = true) (hg : Gl X "tuple") (hm : X.mg "tuple" = none) (hg2 : Gl X "range") (hm2 : X.mg "range" = none) (ha : PE X a (tE T W ma)) (na : starEach [a] X.env = (false, eval a X.env) :: starEach [] X.env)
    (nb : starEach [.Call (.Name "range" p2) [a] [] pos2] X.env = (false, eval (.Call (.Name "range" p2) [a] [] pos2) X.env) :: starEach [] X.env) :
    PE X (.Call (.Name "tuple" p) [.Call (.Name "range" p2) [a] [] pos2] [] pos) (tE T W (b1 (pS dTr) ma)) :=
  PE.imp (pe_tupRgN hc hg hm (prg_1 hg2 hm2 ha na) nb) fun σ H Q h => tE.mono (fun x H1 ⟨n, e, ok, q⟩ => by cases e; exact ⟨n, rfl, ok, q⟩) (tE_prim1 (prim_S fo_tr1) h)
end
end Fv

namespace Fv
open PySem PySem.Spec PyProof.Rows L2
/-! ### x.upper() -/
def dUp : List D → Option S
  | [.str x] => if x.length ≤ 1000 then some (.fr (.str (Txt.upper x))) else none
  | _ => none
def rUp (K : PySem.W.Frag) : List V → Hp → VK → Prop := fun xs H Q => ∃ x, xs = [x] ∧ tyV K "str" x H ∧ ∃ a, x = .str a ∧ ([] : List V) = [] ∧ a.length ≤ 5592405 ∧ Q (.str (Txt.upper a)) H
theorem fo_up {T : Tb} : FunOk T (rUp T.K) dUp := fun G H vs ss s Q hs r h k => by
  unfold dUp at h
  split at h
  · rename_i x heq
    split at h
    · rename_i hn
      cases h
      obtain ⟨v, s1, rfl, r1, e1⟩ := repOs1 r heq
      obtain rfl := r1.str e1
      exact ⟨_, rfl, rfl, x, rfl, rfl, by omega, done_fr (W := True) hs k (.str _)⟩
    · cases h
  · cases h
section
variable {X : Cx} {T : Tb} {W : WX} {o : Expr} {mo : En → Ou R} {apos cpos : Pos}
theorem pe_upF (hK : T.K = X.K) (hv : PE X o (tE T W mo)) (hbase : attributeBase o "upper" X.env (eval o X.env) = eval o X.env) (hline : (apos.endLine == cpos.line) = true) :
    PE X (.Call (.Attribute o "upper" apos) [] [] cpos) (tE T W (b1 (pS dUp) mo)) :=
  PE.imp (pe_bm0 PySem.F.plainAttrs_str PySem.F.slot_str_upper PySem.F.type_str_upper mt_upper hv hbase hline) fun σ H Q h => tE.mono (fun x H1 ⟨y, e, h1, h2⟩ => by
    cases e
    rw [hK] at h1
    exact ⟨h1, h2⟩) (tE_prim1 (prim_S fo_up) h)
end
end Fv

namespace Fv
open PySem PySem.Spec PyProof.Rows L2
/-! ### a def that calls itself: the bottom -/
theorem fn_no {T : Tb} {P : Program} {w : World} {K : PySem.W.Frag} {mg : Str → Option Value} {base : Heap} {CX : CXT} {k np : Nat} {f : Addr} {fd : FuncData} {ps : List Str} : FnOk P w K mg base CX k f fd ps (spD T np fun _ => .no) :=
  ⟨fun vs H Q E h => by obtain ⟨_, _, _, _, h⟩ := h; exact h.elim, fun _ _ _ _ _ _ _ _ _ _ _ _ _ h => by obtain ⟨_, _, _, _, h⟩ := h; exact h.elim⟩
/-! ### a method that changes a list just told -/
def bMtT (f : List D → List D → Option (List D × D)) (mo : En → Ou R) (ms : En → Ou (List R)) : En → Ou R := fun e => match mo e with
  | .ok (.vl (.ol ds)) e1 => match ms e1 with
    | .ok rs e2 => match frzs e2 rs with
      | some (as, e3) => match f ds as with
        | some (_, d) => .ok (.vl (.fr d)) e3
        | none => .no
      | none => .no
    | .ex x e2 => .ex x e2
    | .no => .no
  | .ok _ _ => .no
  | .ex x e1 => .ex x e1
  | .no => .no
theorem tE_mtT {T : Tb} {W : WX} {H : Hp} {σ : SV} {r : V → List V → Hp → VK → Prop} {f : List D → List D → Option (List D × D)} (ho : MtOk r f) {mo : En → Ou R} {ms : En → Ou (List R)} {Q : VK} : tE T W (bMtT f mo ms) σ H Q → tE T W mo σ H fun x H1 => tyV T.K "list" x H1 ∧ tEs T W ms σ H1 fun xs H2 => r x xs H2 Q := by
  rintro ⟨G, e, τ, u, md, q⟩
  refine ⟨G, e, τ, u, md, ?_⟩
  unfold bMtT at q
  cases hm : mo e with
  | no => rw [hm] at q; exact q
  | ex x e1 => rw [hm] at q; exact q
  | ok rr e1 =>
    rw [hm] at q
    cases rr with
    | pl i => exact q.elim
    | vl s => cases s with
      | fr d => exact q.elim
      | od ks xs => exact q.elim
      | oi c ns xs => exact q.elim
      | ol ds =>
        intro G1 H1 v τ1 u1 ev1 md1 hr1
        cases hr1 with
        | vl hn =>
          cases hn
          have ro := md1.last md.l2
          cases ro with
          | @ol a xs0 _ hA0 hg0 rx0 =>
            refine ⟨.inl ⟨rfl, _, .inl (.inl hA0)⟩, G1, e1, τ ++ [.ref a], u ++ [.ol ds], md1, ?_⟩
            cases hms : ms e1 with
            | no => simp only [hms] at q; exact q.elim
            | ex x e2 =>
              simp only [hms] at q
              exact fun G2 H2 c dx ev2 md2 rx => q G2 H2 c dx ((ev1.trans ev2).less (As_drop md2.l1 md.l2)) (md2.dropT md.l2) rx
            | ok rs e2 =>
              simp only [hms] at q
              intro G2 H2 vs τ2 u2 ev2 md2 hr2
              split at q
              · rename_i as e3 hf
                split at q
                · rename_i ds' d hfd
                  obtain ⟨G3, u3, ev3, md3, r3⟩ := hr2.freeze md2 md1.l2 hf
                  have md4 := md3.dropT md1.l2
                  have ro := md4.last md.l2
                  cases ro with
                  | @ol _ xs _ hA hg rxs =>
                    refine ho T G3 H2 a xs vs ds as ds' d Q hA rxs r3 hfd fun xs' v rx' rv => ?_
                    obtain ⟨md5, ev5⟩ := md4.wrT md.l2 (s' := .ol ds') (o' := .lst xs') (by simp [fp]) (.ol upd_same hg rx') (fun b hb => by simpa [fp] using hb)
                    have md6 := md5.dropT md.l2
                    have ev := (((ev1.trans ev2).trans ev3).less (As_drop md3.l1 md1.l2)).trans ev5
                    refine q G3 _ v [v] [.fr d] (ev.less fun b hb => ?_) (md6.push (.fr rv) (by rw [fp_fr]; simp)) (.vl .nil)
                    rcases (As_push md6.l1 md6.l2 b).mp hb with z | z
                    · exact As_drop md5.l1 md.l2 b z
                    · rw [fp_fr] at z; simp at z
                · exact q.elim
              · exact q.elim
section
variable {X : Cx} {T : Tb} {W : WX} {r : V → List V → Hp → VK → Prop} {f : List D → List D → Option (List D × D)} {mo : En → Ou R} {ms : En → Ou (List R)} {o e : Expr} {es : List Expr} {name : Str} {id : String} {apos cpos : Pos}
theorem pe_mtTF (hK : T.K = X.K) (slot : Slot "list" name id) (hty : typeOf (.builtin id) = pure (.type "method_descriptor")) (hm : MtR X id r) (ho : MtOk r f) (hv : PE X o (tE T W mo)) (ha : PA X (e :: es) (tEs T W ms))
    (hbase : attributeBase o name X.env (eval o X.env) = eval o X.env)
    (hfew : ((backTo cpos (starEach (e :: es) X.env)).all (fun x => !x.1) && (backToKw cpos (keywordEach [] X.env)).all (fun x => x.1.isSome)
      && decide ((e :: es).length + ([] : List Keyword).length + (if ([] : List Keyword).isEmpty then 0 else 1) < 30)) = true)
    (hline : (apos.endLine == cpos.line) = true) (hs : starEach (e :: es) X.env = (false, eval e X.env) :: starEach es X.env) (hplain : (backTo cpos (starEach es X.env)).any (·.1) = false) :
    PE X (.Call (.Attribute o name apos) (e :: es) [] cpos) (tE T W (bMtT f mo ms)) :=
  PE.imp (pe_bm PySem.F.plainAttrs_list slot hty hm hv ha hbase hfew hline hs hplain) fun σ H Q h => by
    have h := tE_mtT ho h
    rw [hK] at h
    exact h
theorem pe_mtT0F (hK : T.K = X.K) (slot : Slot "list" name id) (hty : typeOf (.builtin id) = pure (.type "method_descriptor")) (hm : MtR X id r) (ho : MtOk r f) (hv : PE X o (tE T W mo))
    (hbase : attributeBase o name X.env (eval o X.env) = eval o X.env) (hline : (apos.endLine == cpos.line) = true) :
    PE X (.Call (.Attribute o name apos) [] [] cpos) (tE T W (bMtT f mo aNil)) :=
  PE.imp (pe_bm0 PySem.F.plainAttrs_list slot hty hm hv hbase hline) fun σ H Q h => by
    have h := tE_mtT ho h
    rw [hK] at h
    exact tE.mono (fun _ _ k => ⟨k.1, tEs_nil k.2⟩) h
end
section
variable {X : Xn → En → Prop} {e e1 : En} {Q : R → En → Prop} {mo : En → Ou R} {ms : En → Ou (List R)} {f : List D → List D → Option (List D × D)} {rs : List R} {ds ds' as : List D} {d : D}
def MtF (f : List D → List D → Option (List D × D)) (ds : List D) (Q : R → En → Prop) : List D → En → Prop := fun as e => match f ds as with
  | some (_, d) => Q (.vl (.fr d)) e
  | none => False
theorem y_mtf (h : f ds as = some (ds', d)) : MtF f ds Q as e = Q (.vl (.fr d)) e := by unfold MtF; rw [h]
def KMtU (f : List D → List D → Option (List D × D)) (ds : List D) (Q : R → En → Prop) : List R → En → Prop := fun rs e => FzK (MtF f ds Q) [] e rs
theorem y_mtu : KMtU f ds Q rs e = FzK (MtF f ds Q) [] e rs := (rfl)
def KMtT (X : Xn → En → Prop) (f : List D → List D → Option (List D × D)) (ms : En → Ou (List R)) (Q : R → En → Prop) : R → En → Prop
  | .vl (.ol ds), e => Wo X (ms e) (KMtU f ds Q)
  | _, _ => False
theorem y_mttv : KMtT X f ms Q (.vl (.ol ds)) e = Wo X (ms e) (KMtU f ds Q) := (rfl)
theorem y_mtt : Wo X (bMtT f mo ms e) Q = Wo X (mo e) (KMtT X f ms Q) := by
  unfold bMtT
  cases mo e with
  | no => rfl
  | ex x e1 => rfl
  | ok r e1 =>
    cases r with
    | pl i => rfl
    | vl s => cases s with
      | ol ds =>
        show Wo X (match ms e1 with
          | .ok rs e2 => match frzs e2 rs with
            | some (as, e3) => match f ds as with
              | some (_, d) => .ok (.vl (.fr d)) e3
              | none => .no
            | none => .no
          | .ex x e2 => .ex x e2
          | .no => .no) Q = Wo X (ms e1) (KMtU f ds Q)
        cases ms e1 with
        | no => rfl
        | ex x e2 => rfl
        | ok rs e2 =>
          show _ = KMtU f ds Q rs e2
          unfold KMtU
          rw [fzK_eq]
          dsimp only
          cases frzs e2 rs with
          | none => rfl
          | some p =>
            obtain ⟨as, e3⟩ := p
            simp only [List.nil_append, MtF]
            cases f ds as with
            | none => rfl
            | some q => rfl
      | _ => rfl
theorem y_mtfC : MtF fClr ds Q [] e = Q (.vl (.fr .non)) e := (rfl)
theorem y_mtfR : MtF fRev ds Q [] e = Q (.vl (.fr .non)) e := (rfl)
theorem y_mtfA : MtF fApp ds Q [d] e = (ds.length < 16777216 ∧ Q (.vl (.fr .non)) e) := by
  unfold MtF fApp
  by_cases h : ds.length < 16777216
  · simp [h]
  · simp [h]
end
end Fv

namespace L2
open PySem PySem.Spec PyProof.Rows
/-- x == y, x of a class with an == of its own, y a list or a text -/
def rOwnL (K : PySem.W.Frag) (C : Addr) (sp : Sp) (neg : Bool) : R2 := fun x y H Q => ∃ a dx fs, x = .ref a ∧ H a = some (.ins C dx fs) ∧ ((∃ b ys, y = .ref b ∧ SqL K H b ys) ∨ ∃ z, y = .str z) ∧ sp [.ref a, y] H (fun v H' => ∃ r, v = .bl r ∧ Q (.bl (r != neg)) H') (fun _ _ _ => False)
structure OwnL (K : PySem.W.Frag) (C : Addr) : Prop where
  l : PySem.W.subIn K (.type "list") (.ref C) = some false
  s : PySem.W.subIn K (.type "str") (.ref C) = some false
section
variable {X : Cx} {C f : Addr} {fd : FuncData} {ps : List Str} {sp : Sp} {n : Nat}
theorem op_ownL (F : FnOk X.prog X.w X.K X.mg X.base (L2N.CX X.prog X.w) n f fd ps sp) (hM : Meth X.K C "__eq__" f) (hO : OwnL X.K C) (hb : L2.Binds X.K fd ps []) (hr : Room (n + 1) X.A) : OpR X (compareOp .Eq) (rOwnL X.K C sp false) := by
  intro pins s σ H x y v u Q I rx ry hq
  obtain ⟨a, dx, fs, rfl, hA, hy, q⟩ := hq
  cases rx
  obtain ⟨mA, J, _⟩ := ins_get I.hok hA
  obtain ⟨od, J, _⟩ := J.look
  obtain ⟨m, hF⟩ := I.fr
  have run : wpAny (model X.prog X.w) X.A (call (.ref f) [.ref a, u]) (fun v s' => ∃ r, v = .bool r ∧ EP X pins σ Q (.bool (r != false)) s') X.xe s := by
    have e0 : Env0 X.prog X.w X.K X.mg X.base X.A X.stack s H := I.env0
    have hl := F.len _ _ _ _ q
    have r2 : Vals [V.ref a, y] [Value.ref a, u] := .cons rfl (.cons ry .nil)
    refine wpAny_call (codeAny_mono (F.run X.A X.stack s H ⟨[.ref a, u], []⟩ [.ref a, u] [.ref a, y] _ (fun _ _ _ => False) (hr.mono (Nat.le_succ n)) e0 (by
      have := hb s [.ref a, u] I.kIn (by simpa using hl)
      simpa using this) r2 q) fun r s' hq => ?_)
    cases r with
    | error e => exact L2N.passAt (W := fun _ _ _ _ => False) Fv.takes0N σ pins H s e s' I hq
    | ok fl =>
      cases fl with
      | ret w =>
        obtain ⟨z, H', I', rz, r, rfl, ex⟩ := I.after hq
        cases rz
        exact ⟨r, rfl, .bl (r != false), H', I', rfl, ex⟩
      | next => exact False.elim hq
      | brk => exact False.elim hq
      | cont => exact False.elim hq
  have fin : ∀ {tb : Value}, PySem.W.Looks (model X.prog X.w) s.heap (typeOf u) tb → PySem.W.subIn X.K tb (.ref C) = some false → wpAny (model X.prog X.w) X.A (richCompare .Eq (.ref a) u) (EP X pins σ Q) X.xe s := fun {tb} hL hn => by
    refine PySem.W.cmp_K (op := .Eq) (tb := tb) hr.units0 hF I.ok.mod.kin J hL (by simp [PySem.W.notFirst, hn]) hM.at_ hM.fn ?_
    refine wpAny_mono run (fun v s' h => ?_) fun _ _ e => e
    obtain ⟨r, rfl, h⟩ := h
    cases r <;> exact h
  show wpAny (model X.prog X.w) X.A (richCompare .Eq (.ref a) u) (EP X pins σ Q) X.xe s
  rcases hy with ⟨b, ys, rfl, hs⟩ | ⟨z, rfl⟩
  · obtain ⟨its, rv, p, hz⟩ := I.list hs
    cases (show u = Value.ref b from ry)
    obtain ⟨o, ho, hc, _⟩ := p.isList
    exact fin (fun A Q E s k q => wpAny_typeOf_ref (k _ _ ho) (by rw [hc]; exact q)) hO.l
  · obtain ⟨t, rfl⟩ := (show ∃ t, u = Value.str z t from ry)
    exact fin .now hO.s
end
end L2
namespace Fv
open PySem PySem.Spec PyProof.Rows L2
def isLS : D → Bool
  | .lst _ => true
  | .str _ => true
  | _ => false
/-- x == y by its own ==: y of the same class, a list, or a text -/
def dOwnL (c : Nat) (fn : List S → FO) : List S → Option S
  | [.fr (.ins c1 ns xs), .fr d] => if c1 = c ∧ isLS d = true then (match fn [.fr (.ins c1 ns xs), .fr d] with
      | .ok (.fr (.bl r)) _ => some (.fr (.bl (r != false)))
      | _ => none) else none
  | _ => none
theorem f_ownL {c : Nat} {fn : List S → FO} {r : Bool} {ns : List Str} {xs : List D} {d : D} {ss : List S} (hd : isLS d = true) (h : fn [.fr (.ins c ns xs), .fr d] = .ok (.fr (.bl r)) ss) : dOwnL c fn [.fr (.ins c ns xs), .fr d] = some (.fr (.bl r)) := by
  unfold dOwnL
  simp only [hd, and_self, if_true, h, Bool.bne_false]
section
variable {X : Cx} {T : Tb} {W : WX} {a b : Expr} {ma mb : En → Ou R} {c : Nat} {pos : Pos} {k j : Nat} {ps : List Str} {fn : List S → FO}
theorem prim_ownL : PrimOk T W (fun _ => r2 (rOwnL T.K (T.ca c) (spD T 2 fn) false)) (pSS (dOwnL c fn)) := by
  intro G H σ e τ τ1 u u1 rs vs Q md hl hr q
  unfold pSS at q
  cases h1 : pks e rs with
  | none => rw [h1] at q; exact q.elim
  | some ss =>
    rw [h1] at q
    simp only at q
    have pk := hr.peek md hl h1
    cases hd : dOwnL c fn ss with
    | none => rw [hd] at q; exact q.elim
    | some s =>
      rw [hd] at q
      unfold dOwnL at hd
      split at hd
      · rename_i c1 ns xs d
        split at hd
        · rename_i hc
          obtain ⟨h1, h2⟩ := hc
          subst h1
          split at hd
          · rename_i r ss' hfn
            cases hd
            cases pk with
            | cons ro1 pk =>
              cases pk with
              | cons ro2 pk =>
                cases pk
                cases ro1 with
                | fr rf1 =>
                  cases ro2 with
                  | fr rf2 =>
                    rename_i v2
                    cases rf1 with
                    | ins hA hl1 rfs1 =>
                      rename_i a1 dx vx
                      have hy : (∃ b ys, v2 = .ref b ∧ SqL T.K H b ys) ∨ ∃ z, v2 = .str z := by
                        cases rf2 with
                        | lst h _ => exact .inl ⟨_, _, rfl, md.sl.sub.sqL h⟩
                        | str z => exact .inr ⟨_, rfl⟩
                        | _ => cases h2
                      refine ⟨_, _, rfl, a1, dx, _, rfl, md.sl.sub _ _ hA, hy, ?_⟩
                      have md0 := md.dropT hl
                      refine spD_frs (T := T) (W := fun _ _ _ _ => False) (fn := fn) (np := 2) (ds := [.ins _ ns xs, d]) (vs := [.ref a1, v2]) rfl md0 (.cons (.ins hA hl1 rfs1) (.cons rf2 .nil)) ?_
                      simp only [List.map_cons, List.map_nil, hfn]
                      intro G' H' v τ' u' ev md' hr'
                      cases hr' with
                      | vl hn' =>
                        cases hn'
                        have rv := md'.last hl
                        obtain rfl := rv.bl rfl
                        have md1 : Md T G' H' σ e τ u := md'.dropT hl
                        have md2 : Md T G' H' σ e (τ ++ [.bl (r != false)]) (u ++ [.fr (.bl (r != false))]) := md1.push (.fr (.bl _)) (fun b hb => by rw [fp_fr] at hb; simp at hb)
                        have ev2 : Evo T.tbs G H (As σ e (τ ++ τ1) (u ++ u1)) G' H' (As σ e (τ ++ [.bl (r != false)]) (u ++ [.fr (.bl (r != false))])) := (ev.wide fun b hb => As_drop md.l1 hl b hb).less fun b hb => by
                          rcases (As_push md1.l1 hl b).mp hb with z | z
                          · exact As_drop md1.l1 hl b z
                          · rw [fp_fr] at z; simp at z
                        exact ⟨r, rfl, q G' H' (.bl (r != false)) [.bl (r != false)] [.fr (.bl (r != false))] ev2 md2 (.vl .nil)⟩
          · cases hd
        · cases hd
      · cases hd
theorem pe_eqOL (F : Fm T X.prog X.w X.K X.mg X.base c "__eq__" ps j fn) (hK : T.K = X.K) (hO : OwnL X.K (T.ca c)) (hr : Room k X.A) (hj : j + 1 ≤ k) (hnp : ps.length = 2) (hm : behindInMarks .Eq b = false) (ha : PE X a (tE T W ma)) (hb : PE X b (tE T W mb)) :
    PE X (.Compare a [.Eq] [b] pos) (tE T W (b2 (pSS (dOwnL c fn)) ma mb)) := by
  obtain ⟨f, fd, F, hM, hc, hbd⟩ := F.ex
  rw [hnp] at F
  exact PE.imp (pe_cmpR (op_ownL F hM hO hbd (hr.mono hj)) ha hb hm) fun σ H Q h => tE.mono (fun _ _ k => tE.mono (fun _ _ k => by
    obtain ⟨x, y, e, q⟩ := k
    cases e
    rw [hK] at q
    exact q) k) (tE_prim2 prim_ownL h)
theorem pt_eqOL (F : Fm T X.prog X.w X.K X.mg X.base c "__eq__" ps j fn) (hK : T.K = X.K) (hO : OwnL X.K (T.ca c)) (hr : Room k X.A) (hj : j + 1 ≤ k) (hnp : ps.length = 2) (hm : behindInMarks .Eq b = false) (ha : PE X a (tE T W ma)) (hb : PE X b (tE T W mb)) :
    PT X (.Compare a [.Eq] [b] pos) (tB T W (bTb (b2 (pSS (dOwnL c fn)) ma mb))) := by
  obtain ⟨f, fd, F, hM, hc, hbd⟩ := F.ex
  rw [hnp] at F
  exact PT.imp (pt_cmpR (op_ownL F hM hO hbd (hr.mono hj)) ha hb hm) fun σ H Q h => tE.mono (fun _ _ k => tE.mono (fun _ _ k => by
    obtain ⟨x, y, e, q⟩ := k
    cases e
    rw [hK] at q
    exact q) k) (tE_prim2 prim_ownL (tB_bool h))
end
theorem f_isoL {c : Nat} {xs : List D} : dIsO c [.lst xs] = some (.fr (.bl false)) := by simp [dIsO, isoD, D.tyN, isoT]
theorem f_isoS {c : Nat} {x : Str} : dIsO c [.str x] = some (.fr (.bl false)) := by simp [dIsO, isoD, D.tyN, isoT]
end Fv

namespace Fv
open PySem PySem.Spec PyProof.Rows L2
/-! ### y = [.. for .. in x]: x, one's own, stays so -/
section
variable {X : Cx} {T : Tb} {W : WX} {p : Nat → Bool} {own : List (Str × Nat)} {vs : List Nat} {g : S → En → Fl} {t : En → Ou Bool} {m : En → Ou R} {elt tg : Expr} {ifs : List Expr} {scope : Scope} {pos : Pos} {i0 : Nat} {x0 : Str} {p0 : Pos}
theorem ps_setLcOF {i : Nat} {y : Str} {py spos : Pos} (hK : T.K = X.K) (hc : X.calm = true) (hN : X.N.Nodup) (hy : X.N[i]? = some y) (hyl : X.env.scope.names.lookup y = some .local) (hp : p i = false)
    (hsw : swapsWith (.ListComp elt [⟨tg, .Name x0 p0, ifs, 0⟩] scope pos) (some (.Name y py)) spos.line X.env = pure true) (ok : BlkOk X.N X.env.scope scope own) (hv : own.map (·.2) = vs) (nd : vs.Nodup) (gg : GoG g) (hN0 : X.N[i0]? = some x0) (hv0 : Vis X.env.scope x0)
    (hg : ∀ (s : Shared) (H : Hp) (C : Addr) (cl : List (Str × Addr)) (fp : List Addr), PG (X.blk s H scope (compEnvC scope cl C X.env) fp) tg (tG T WF (pC vs) g))
    (ht : ∀ (s : Shared) (H : Hp) (C : Addr) (cl : List (Str × Addr)) (fp : List Addr), PTs (X.blk s H scope (compEnvC scope cl C X.env) fp) ifs (tB T WF t))
    (he : ∀ (s : Shared) (H : Hp) (C : Addr) (cl : List (Str × Addr)) (fp : List Addr), PE (X.blk s H scope (compEnvC scope cl C X.env) fp) elt (tE T WF m)) (hs : ∀ x, foldedSetIterable (.Name x0 p0) X.env x = pure x)
    (hdb : (x0 == ("__debug__" : Str)) = false := by decide) (hcd : (x0 == ("__classdict__" : Str)) = false := by decide) :
    PS X (.Assign [.Name y py] (.ListComp elt [⟨tg, .Name x0 p0, ifs, 0⟩] scope pos) spos) (tS T W p (sAsg (gNm i) (bLcO i0 g t m vs))) := by
  subst hv
  refine PS.imp (ps_setLc hc hN hy hyl hsw (pi_seq (pe_var (hd := hdb) (hcd := hcd) hN0 hv0)) ok hg ht he hs) fun D σ H h => ?_
  rw [← hK]
  exact tE_lcO gg nd (tE.mono (fun v H1 k => tG_name hp k) (tS_asg GoG.nm h))
theorem ps_setLcEF {i : Nat} {y : Str} {py spos : Pos} (hK : T.K = X.K) (hN0 : X.N[i0]? = some x0) (hv0 : Vis X.env.scope x0) (hc : X.calm = true) (hN : X.N.Nodup) (hy : X.N[i]? = some y) (hyl : X.env.scope.names.lookup y = some .local) (hp : p i = false)
    (hsw : swapsWith (.ListComp elt [⟨tg, .Name x0 p0, ifs, 0⟩] scope pos) (some (.Name y py)) spos.line X.env = pure true) (ok : BlkOk X.N X.env.scope scope own) (hv : own.map (·.2) = vs) (nd : vs.Nodup) (gg : GoG g) (hi : PI X tg (.Name x0 p0) (tI T W (mSeq (bVar i0))))
    (hg : ∀ (s : Shared) (H : Hp) (C : Addr) (cl : List (Str × Addr)) (fp : List Addr), PG (X.blk s H scope (compEnvC scope cl C X.env) fp) tg (tG T WF (pC vs) g))
    (ht : ∀ (s : Shared) (H : Hp) (C : Addr) (cl : List (Str × Addr)) (fp : List Addr), PTs (X.blk s H scope (compEnvC scope cl C X.env) fp) ifs (tB T WF t))
    (he : ∀ (s : Shared) (H : Hp) (C : Addr) (cl : List (Str × Addr)) (fp : List Addr), PE (X.blk s H scope (compEnvC scope cl C X.env) fp) elt (tE T WF m)) (hs : ∀ x, foldedSetIterable (.Name x0 p0) X.env x = pure x)
    (hdb : (x0 == ("__debug__" : Str)) = false := by decide) (hcd : (x0 == ("__classdict__" : Str)) = false := by decide) :
    PS X (.Assign [.Name y py] (.ListComp elt [⟨tg, .Name x0 p0, ifs, 0⟩] scope pos) spos) (tS T W p (sAsg (gNm i) (bLcE i0 g t m vs))) := by
  have h1 := ps_setLcOF (W := W) hK hc hN hy hyl hp hsw ok hv nd gg hN0 hv0 hg ht he hs hdb hcd
  have h2 := ps_setLcF (W := W) hc hN hy hyl hp hsw ok hv nd gg hi hg ht he hs
  refine ⟨fun pins s σ H D I q => ?_⟩
  obtain ⟨G, e, sl, q⟩ := q
  by_cases h : ownAt e i0 = true
  · refine h1.run pins s σ H D I ⟨G, e, sl, ?_⟩
    unfold sAsg bLcE at q
    unfold sAsg
    simp only [h, if_true] at q
    exact q
  · refine h2.run pins s σ H D I ⟨G, e, sl, ?_⟩
    unfold sAsg bLcE at q
    unfold sAsg
    simp only [h, if_false] at q
    exact q
end
end Fv

namespace FvSD
open PySem PySem.Spec PyProof.Rows SS FvS
section
variable {κ : Type} [DecidableEq κ]
/-- the unlike ones of a list -/
def un (ks : List κ) : List κ := ks.foldl (fun acc k => if k ∈ acc then acc else acc ++ [k]) []
def dn (ks : List κ) : Nat := (un ks).length
theorem snoc_ind {P : List κ → Prop} (nil : P []) (append_singleton : ∀ ks a, P ks → P (ks ++ [a])) (ks : List κ) : P ks := by
  have h : ∀ r : List κ, P r.reverse := fun r => by
    induction r with
    | nil => exact nil
    | cons a r ih => rw [List.reverse_cons]; exact append_singleton _ a ih
  have := h ks.reverse
  rwa [List.reverse_reverse] at this
theorem un_snoc (ks : List κ) (k : κ) : un (ks ++ [k]) = if k ∈ un ks then un ks else un ks ++ [k] := by
  unfold un; rw [List.foldl_append]; rfl
theorem un_mem (ks : List κ) (k : κ) : k ∈ un ks ↔ k ∈ ks := by
  induction ks using snoc_ind with
  | nil => simp [un]
  | append_singleton ks a ih =>
    rw [un_snoc, List.mem_append, List.mem_singleton]
    split
    · rename_i h
      constructor
      · intro z; exact .inl (ih.mp z)
      · rintro (z | rfl)
        · exact ih.mpr z
        · exact h
    · rw [List.mem_append, List.mem_singleton, ih]
theorem dn_snoc (ks : List κ) (k : κ) : dn (ks ++ [k]) = if k ∈ ks then dn ks else dn ks + 1 := by
  unfold dn
  rw [un_snoc]
  by_cases h : k ∈ ks
  · rw [if_pos ((un_mem ks k).mpr h), if_pos h]
  · rw [if_neg fun z => h ((un_mem ks k).mp z), if_neg h, List.length_append]; rfl
theorem dn_le (ks : List κ) : dn ks ≤ ks.length := by
  induction ks using snoc_ind with
  | nil => exact Nat.le_refl _
  | append_singleton ks a ih =>
    rw [dn_snoc, List.length_append, List.length_singleton]
    split <;> omega
theorem dn_nodup (ks : List κ) (h : ks.Nodup) : dn ks = ks.length := by
  induction ks using snoc_ind with
  | nil => rfl
  | append_singleton ks a ih =>
    obtain ⟨h1, _, h3⟩ := List.nodup_append.mp h
    rw [dn_snoc, if_neg fun z => h3 a z a (by simp) rfl, ih h1, List.length_append]; rfl
theorem dn_lt (ks : List κ) (h : ¬ ks.Nodup) : dn ks < ks.length := by
  induction ks using snoc_ind with
  | nil => exact absurd .nil h
  | append_singleton ks a ih =>
    rw [dn_snoc, List.length_append, List.length_singleton]
    by_cases z : a ∈ ks
    · rw [if_pos z]; have := dn_le ks; omega
    · rw [if_neg z]
      have : ¬ ks.Nodup := fun n => h (List.nodup_append.mpr ⟨n, by simp, fun x hx y hy e => z (by rw [List.mem_singleton.mp hy] at e; rw [← e]; exact hx)⟩)
      have := ih this
      omega
end
/-! ### a set made of a list of keys (of one kind), counted if none is there twice -/
section
variable {prog : Program} {w : World} {κ : Type} [DecidableEq κ] [BEq κ] [LawfulBEq κ] (knd : KeyKind prog w κ)
/-- the set at a holds just the keys of ks; their number, if no two are alike -/
def Holds (h : Heap) (a : Addr) (ks : List κ) : Prop := ∃ n, h.SetOf knd a (fun k => decide (k ∈ ks)) n ∧ n = dn ks
variable {knd}
theorem Holds.at {h h' : Heap} {a : Addr} {ks : List κ} (p : Holds knd h a ks) (e : ∀ o, h.get? a = some o → h'.get? a = some o) : Holds knd h' a ks :=
  let ⟨n, ⟨o, es, ep, t, ho, r⟩, q⟩ := p
  ⟨n, ⟨o, es, ep, t, e o ho, r⟩, q⟩
theorem Holds.put {h' : Heap} {a : Addr} {ks : List κ} {k : κ} {n : Nat} (hn : n = dn ks)
    (q : h'.SetOf knd a (fun k' => decide (k' ∈ ks) || decide (k' = k)) (if decide (k ∈ ks) then n else n + 1)) : Holds knd h' a (ks ++ [k]) := by
  refine ⟨_, SetOf_congr q (fun k' => ?_) rfl, ?_⟩
  · rw [← Bool.decide_or]
    exact decide_eq_decide.mpr (by rw [List.mem_append, List.mem_singleton])
  · rw [dn_snoc, hn]
    by_cases z : k ∈ ks
    · rw [if_pos (by simpa using z), if_pos z]
    · rw [if_neg (by simpa using z), if_neg z]
/-- the loop of set.update, from place i on -/
theorem fill {A : Around} {I : Addr} {fp wr : List Addr} {G : Array GenState → Array GenState → Prop} {n : Nat} {P : Nat → Value → Prop} {St : Nat → Shared → Prop} (W : WalksS prog w A.in1 I fp wr G n P St) {a : Addr} (ha : a ∉ fp)
    {ks : List κ} (hn : ks.length = n) (hb : n + 1 < scanBound) (hk : ∀ i v k, ks[i]? = some k → P i v → knd.is k v = true ∧ v.scannable = true) {R : Result → Shared → Prop} :
    ∀ (d : Nat) {i : Nat} {s : Shared}, d + i = n → St i s → Holds knd s.heap a (ks.take i) → (∀ s', Moved (a :: wr) G s s' → Holds knd s'.heap a ks → R (.ok (.ret .none)) s') →
      codeAny (model prog w) A (.builtin "set.update.loop" ⟨[.ref a, .ref I], []⟩) R s := by
  have hw : a ∉ wr := fun m => ha (W.sub _ m)
  have wide : ∀ {s1 s2 : Shared}, Moved wr G s1 s2 → Moved (a :: wr) G s1 s2 := fun m => m.mono fun _ h => .tail _ h
  intro d
  induction d with
  | zero =>
    intro i s hd st hs hR
    obtain rfl : i = n := by omega
    rw [← hn, List.take_length] at hs
    refine codeAny_builtin PyProof.Rows.F.entry_set_update_loop ?_
    rw [Around.under_plainId PyProof.Rows.F.plain_set_update_loop _]
    exact wpAny_bind (W.done s _ _ st fun s' m => wpAny_pure (hR s' (wide m) (hs.at fun o e => m.heap a o hw e)))
  | succ d ih =>
    intro i s hd st hs hR
    have il : i < ks.length := by omega
    have ek : ks[i]? = some ks[i] := List.getElem?_eq_getElem il
    have et : ks.take (i + 1) = ks.take i ++ [ks[i]] := by rw [List.take_add_one, ek]; rfl
    refine codeAny_builtin PyProof.Rows.F.entry_set_update_loop ?_
    rw [Around.under_plainId PyProof.Rows.F.plain_set_update_loop _]
    refine wpAny_bind (W.item i s _ _ (by omega) st fun v s1 hv st1 m => ?_)
    obtain ⟨k1, k2⟩ := hk i v _ ek hv
    obtain ⟨c, so, cn⟩ := hs.at (h' := s1.heap) fun o e => m.heap a o hw e
    have cl : c + 1 < scanBound := by
      have := dn_le (ks.take i)
      rw [List.length_take] at this
      omega
    show wpAny _ A.in1 (holding [v] (setAdd a v) >>= _) _ _ s1
    unfold setAdd
    refine wpAny_bind (wpAny_holding (wpAny_holding (wpAny_bind (knd.pyHash k1 ?_))))
    refine wpAny_setAddHashed_of (s := { s1 with toks := s1.toks + 1 }) k1 k2 so cl fun h' sb so2 => ?_
    have off : ∀ {b : Addr}, b ≠ a → h'.get? b = s1.heap.get? b := fun {b} ne => sb.2 b ne
    have hp : Holds knd h' a (ks.take (i + 1)) := by
      rw [et]
      exact .put cn so2
    refine wpAny_pure ⟨plainId_quiet PyProof.Rows.F.plain_set_update_loop _, ih (i := i + 1) (by omega) (W.frame _ s1 _ _ st1 (Nat.le_succ _) fun b hb o e => ?_) hp fun s2 m2 hs2 => hR s2 (.trans W.gtrans ((wide m).then_heap (Nat.le_succ _) fun b o nb e => ?_) m2) hs2⟩
    · rw [off fun q => ha (q ▸ hb)]; exact e
    · rw [off fun q => nb (q ▸ .head _)]; exact e
end
section
variable {prog : Program} {w : World} {A : Around} {E : Value → Shared → Prop} {s : Shared}
/-- set(xs) of a list whose values show the keys ks -/
theorem set_list {κ : Type} [DecidableEq κ] [BEq κ] [LawfulBEq κ] {knd : KeyKind prog w κ} {l : Addr} {vs : Array Value} {ks : List κ} {Q : Value → Shared → Prop}
    (hh : A.handled = none) (hl : s.heap.IsList l vs) (hn : ks.length = vs.size) (hb : ks.length + 1 < scanBound) (hk : ∀ (i : Nat) (v : Value) (k : κ), ks[i]? = some k → vs[i]? = some v → knd.is k v = true ∧ v.scannable = true)
    (h : ∀ (h' : Heap) (tk : Nat), Holds knd h' s.heap.objs.size ks → (∀ b o, s.heap.get? b = some o → h'.get? b = some o) → Q (.ref s.heap.objs.size) { s with heap := h', toks := tk }) :
    wpAny (model prog w) A (call (.type "set") [.ref l]) Q E s := by
  refine set_call (T := fun s2 => ∃ h' tk, s2 = { s with heap := h', toks := tk } ∧ Holds knd h' s.heap.objs.size ks ∧ ∀ b o, s.heap.get? b = some o → h'.get? b = some o) (fun led R hR => ?_) fun s2 q => ?_
  · have ⟨o, ho, hc, n, hd⟩ := hl
    cases o with | mk cls dict data slots => ?_
    cases hc
    cases hd
    have f0 : (s.heap.push { cls := .type "set", dict := none, data := .set #[] 0 (.fresh 0 0 led) }).get? s.heap.objs.size = some { cls := .type "set", dict := none, data := .set #[] 0 (.fresh 0 0 led) } := Heap.get?_push_size _ rfl
    have f1 : (s.heap.push { cls := .type "set", dict := none, data := .set #[] 0 (.fresh 0 0 led) }).get? l = some { cls := .type "list", dict := dict, data := .seq vs n, slots := slots } := Heap.get?_push_of_some _ ho
    have f2 : (s.heap.push { cls := .type "set", dict := none, data := .set #[] 0 (.fresh 0 0 led) }).IsList l vs := ⟨_, f1, rfl, n, rfl⟩
    have c1 := PySem.F.sub_list_set
    have c2 := PySem.F.sub_list_frozenset
    have c3 : (Value.type "list" == Value.type "dict") = false := by decide
    unfold Builtin.«set.__init__» noKeywords Builtin.Frozenset.updateFrom
    generalize hPI : pyIter = PI
    wp_walk
    subst hPI
    refine wpAny_pyIter_list f2 (wpAny_bind (wpAny_runValue ?_))
    have z : l < s.heap.objs.size := Heap.lt_size ho
    have zp : (s.heap.push { cls := .type "set", dict := none, data := .set #[] 0 (.fresh 0 0 led) }).objs.size = s.heap.objs.size + 1 := Heap.size_push ..
    have hand : A.in1.in1.in1.handled = none := by simp [hh]
    have W := (Walks.list (prog := prog) (w := w) hand (s.heap.push { cls := .type "set", dict := none, data := .set #[] 0 (.fresh 0 0 led) }).objs.size l (by rw [zp]; exact Nat.ne_of_lt (Nat.lt_succ_of_lt z)) vs).toS
    refine fill W (a := s.heap.objs.size) (ks := ks) (by rw [zp]; simp; exact Nat.ne_of_gt z) hn (by rw [← hn]; exact hb) (fun i v k e1 e2 => hk i v k e1 e2) vs.size (i := 0) rfl ⟨⟨_, Heap.get?_push_size _ rfl, rfl, rfl⟩, f2.push _⟩ ?_ fun s2 m p => ?_
    · have g : ((s.heap.push { cls := .type "set", dict := none, data := .set #[] 0 (.fresh 0 0 led) }).push { cls := .type "list_iterator", data := .fields #[.ref l, .int 0 0] }).get? s.heap.objs.size = some { cls := .type "set", dict := none, data := .set #[] 0 (.fresh 0 0 led) } := Heap.get?_push_of_some _ f0
      exact ⟨0, SetOf_congr ((setObjOf_fresh (knd := knd) led).setOf g (by unfold scanBound; omega)) (fun _ => by simp) rfl, rfl⟩
    · have e1 := m.gens
      have e2 := m.drawn
      have e3 := m.os
      cases s2 with | mk h2 g2 d2 t2 o2 => ?_
      cases e1
      cases e2
      cases e3
      refine wpAny_pure (wpAny_pure (hR _ ⟨h2, t2, rfl, p, fun b o e => m.heap b o ?_ (Heap.get?_push_of_some _ (Heap.get?_push_of_some _ e))⟩))
      have lt := Heap.lt_size e
      rw [zp]
      simp only [List.mem_cons, List.not_mem_nil, or_false, not_or]
      exact ⟨Nat.ne_of_lt lt, Nat.ne_of_lt (Nat.lt_succ_of_lt lt)⟩
  · obtain ⟨h', tk, rfl, q1, q2⟩ := q
    exact h h' tk q1 q2
end
end FvSD
namespace Fv
open PySem PySem.Spec PyProof.Rows L2
/-! ### len(set(xs)), xs a list of texts, some of them perhaps twice -/
def tLenSetND (K : PySem.W.Frag) (ta : TE) : TE := fun σ H Q => ta σ H fun x H1 => ∃ (l : Addr) (xs : List Str), x = .ref l ∧ SqL K H1 l (xs.map V.str) ∧ xs.length ≤ 60 ∧ Q (.int (FvSD.dn xs : Nat)) H1
theorem pe_lenSetND {X : Cx} {a : Expr} {ta : TE} {p p2 q pos : Pos} (hc : X.calm = true) (hg : Gl X "len") (hm : X.mg "len" = none) (hg2 : Gl X "set") (hm2 : X.mg "set" = none) (ha : PE X a ta)
    (na : starEach [a] X.env = (false, eval a X.env) :: starEach [] X.env) : PE X (.Call (.Name "len" p) [.Call (.Name "set" p2) [a] [] q] [] pos) (tLenSetND X.K ta) := by
  refine ⟨fun pins s σ H Q I h => ?_⟩
  refine Call_ (ld_blt I hg hm boot_len ?_)
  refine PyProof.Rows.callWith_builtin1 (PyProof.Rows.args_cons ?_ rfl) rfl rfl
  refine Call_ (ld_blt I hg2 hm2 boot_set ?_)
  refine PyProof.Rows.callWith_type1 (PyProof.Rows.args_cons (thn (ha.run pins s σ H _ I h) fun v s1 ⟨x, H1, I1, r1, q1⟩ => PyProof.Rows.args_nil ?_) na) na rfl
  obtain ⟨l, xs, rfl, hq, h1, q1⟩ := q1
  cases r1
  obtain ⟨its, r, pl, hz⟩ := I1.list hq
  have hl : its.toArray.size = xs.length := by rw [List.size_toArray, ← r.length, List.length_map]
  refine FvSD.set_list (knd := PySem.strKind X.prog X.w) (ks := xs) (I1.ok.hd hc) pl.isList hl.symm (by unfold scanBound; omega) (fun i v k e1 e2 => ?_) fun h' tk ⟨n, hS, hn⟩ hk => ?_
  · have e3 : its[i]? = some v := by simpa using e2
    obtain ⟨t, rfl⟩ := strVals_at r e1 e3
    exact ⟨strKind_is _ _ _ _, rfl⟩
  refine PyProof.Rows.args_nil ?_
  rw [hn] at hS
  have hle := FvSD.dn_le xs
  obtain ⟨o, es, ep, t, ho, hex, hd, _, _, _, hf, hz⟩ := hS
  have I2 : Inv X pins σ H1 { s1 with heap := h', toks := tk } := I1.kept fun b o e => hk b o e
  exact call_len_set ho hex hd hf (by rw [hz] <;> omega) ⟨.int (FvSD.dn xs : Nat), H1, I2.tok _, ⟨_, by rw [hz]⟩, q1⟩
def dLenSetD : List D → Option S
  | [.lst xs] => (strsD xs).bind fun zs => if zs.length ≤ 60 then some (.fr (.int (FvSD.dn zs : Nat))) else none
  | _ => none
def rLenSetND (K : PySem.W.Frag) : List V → Hp → VK → Prop := fun vs H Q => ∃ (l : Addr) (xs : List Str), vs = [.ref l] ∧ SqL K H l (xs.map V.str) ∧ xs.length ≤ 60 ∧ Q (.int (FvSD.dn xs : Nat)) H
theorem fo_lenSetD {T : Tb} : FunOk T (rLenSetND T.K) dLenSetD := fun G H vs ss s Q hs r h k => by
  unfold dLenSetD at h
  split at h
  · rename_i xs heq
    obtain ⟨v, s1, rfl, r1, e1⟩ := repOs1 r heq
    obtain ⟨a, as, rfl, q1, k1⟩ := r1.lst hs e1
    cases hz : strsD xs with
    | none => rw [hz] at h; cases h
    | some zs =>
      rw [hz] at h
      simp only [Option.bind_some] at h
      split at h
      · rename_i hn
        cases h
        obtain rfl := strsD_rep k1 hz
        exact ⟨a, zs, rfl, q1, hn, done_fr (W := True) hs k (.int _)⟩
      · cases h
  · cases h
theorem pe_lenSetFD {X : Cx} {T : Tb} {W : WX} {a : Expr} {m : En → Ou R} {p p2 q pos : Pos} (hK : T.K = X.K) (hc : X.calm = true) (hg : Gl X "len") (hm : X.mg "len" = none) (hg2 : Gl X "set") (hm2 : X.mg "set" = none) (ha : PE X a (tE T W m))
    (na : starEach [a] X.env = (false, eval a X.env) :: starEach [] X.env) : PE X (.Call (.Name "len" p) [.Call (.Name "set" p2) [a] [] q] [] pos) (tE T W (b1 (pS dLenSetD) m)) :=
  PE.imp (pe_lenSetND hc hg hm hg2 hm2 ha na) fun σ H Q h => tE.mono (fun v H1 ⟨l, xs, h1, h2, h4, h5⟩ => by
    cases h1
    rw [hK] at h2
    exact ⟨l, xs, rfl, h2, h4, h5⟩) (tE_prim1 (prim_S fo_lenSetD) h)
end Fv

namespace Fv
open PySem PySem.Spec PyProof.Rows L2
/-! ### a text times a whole number -/
def rMs : R2 := fun x y H Q => ∃ (s : Str) (n : Int), x = .str s ∧ y = .int n ∧ MulOk s n ∧ Q (.str (Txt.mul s n)) H
theorem op_ms {X : Cx} : OpR X (binaryOp .Mult) rMs := by
  intro pins s σ H x y v u Q I rx ry h
  obtain ⟨z, n, rfl, rfl, hm, q⟩ := h
  obtain ⟨t, rfl⟩ := rx
  obtain ⟨t2, rfl⟩ := ry
  exact SB.mul hm fun t' k => ⟨.str (Txt.mul z n), H, I.tok _, ⟨_, rfl⟩, q⟩
theorem mul_ok {x : Str} {k : Int} (h : 1 ≤ k ∧ k ≤ 100 ∧ x.length ≤ 100) : MulOk x k := by
  obtain ⟨h1, h2, h3⟩ := h
  refine ⟨?_, fun _ _ => ?_, fun _ _ => ?_⟩
  · rw [Bool.or_eq_false_iff]
    exact ⟨decide_eq_false (by omega), decide_eq_false (by omega)⟩
  · have : (100 : Int) ≤ (2 ^ 63 - 1) / k := (Int.le_ediv_iff_mul_le (by omega)).mpr (by omega)
    omega
  · unfold Builtin.Str.tooLong
    have : x.length * k.toNat ≤ 100 * 100 := Nat.mul_le_mul h3 (by omega)
    rw [sizeLine_eq]
    exact decide_eq_false (by omega)
def dMulX : List D → Option S
  | [.str x, .int k] => if 1 ≤ k ∧ k ≤ 100 ∧ x.length ≤ 100 then some (.fr (.str (Txt.mul x k))) else none
  | _ => none
section
variable {T : Tb} {W : WX} {X : Cx} {m ma mb : En → Ou R} {a b : Expr} {pos : Pos} {Q : R → En → Prop} {e : En} {XX : Xn → En → Prop}
theorem pr_mulS : FunOk T (r2 rMs) dMulX := fun G H vs ss s Q hs r h k => by
  unfold dMulX at h
  split at h
  · rename_i xs j heq
    split at h
    · rename_i hz
      cases h
      obtain ⟨v, w, s1, s2, rfl, r1, r2, e1, e2⟩ := repOs2 r heq
      obtain rfl := r1.str e1
      obtain rfl := r2.int e2
      exact ⟨_, _, rfl, xs, j, rfl, rfl, mul_ok hz, done_fr (W := True) hs k (.str _)⟩
    · cases h
  · cases h
def bMs (ma mb : En → Ou R) : En → Ou R := b2 (pS dMulX) ma mb
theorem pe_msF (ha : PE X a (tE T W ma)) (hb : PE X b (tE T W mb)) : PE X (.BinOp a .Mult b pos) (tE T W (bMs ma mb)) :=
  pe_b2 (r := rMs) (prim_S pr_mulS) op_ms ha hb
theorem y_ms : Wo XX (bMs ma mb e) Q = Wo XX (b2 (pS dMulX) ma mb e) Q := (rfl)
theorem f_ms {x : Str} {k : Int} (h : 1 ≤ k ∧ k ≤ 100 ∧ x.length ≤ 100) : dMulX [.str x, .int k] = some (.fr (.str (Txt.mul x k))) := if_pos h
end
end Fv

namespace Fv
open PySem PySem.Spec PyProof.Rows L2
/-! ### a dict != a tuple -/
theorem sub_td : isSubtype (.type "tuple") (.type "dict") = pure false := by rfl
theorem sub_dt : isSubtype (.type "dict") (.type "tuple") = pure false := by rfl
theorem dict_ne_tuple (d t : Addr) (od ot : Obj) (hc : od.cls = .type "dict") (ht : ot.cls = .type "tuple") : Meets (Builtin.«dict.__ne__» ⟨[.ref d, .ref t], []⟩) (fun _ R s => s.heap.get? d = some od ∧ s.heap.get? t = some ot ∧ R (.ok (.ret .notImplemented)) s) :=
  .of_wp fun prog w A R s h => by
    obtain ⟨hp, g, dd, tk, os⟩ := s
    obtain ⟨h1, h2, h⟩ := h
    wp_walk
    rw [ht, sub_td]
    wp_walk
    exact ⟨_, rfl, h⟩
theorem tuple_ne_dict (d t : Addr) (od ot : Obj) (hc : od.cls = .type "dict") (ht : ot.cls = .type "tuple") : Meets (Builtin.«tuple.__ne__» ⟨[.ref t, .ref d], []⟩) (fun _ R s => s.heap.get? d = some od ∧ s.heap.get? t = some ot ∧ R (.ok (.ret .notImplemented)) s) :=
  .of_wp fun prog w A R s h => by
    obtain ⟨hp, g, dd, tk, os⟩ := s
    obtain ⟨h1, h2, h⟩ := h
    wp_walk
    rw [hc, sub_dt]
    wp_walk
    exact ⟨_, rfl, h⟩
def rNeDT (K : PySem.W.Frag) : R2 := fun x y H Q => ∃ a b ks xs, x = .ref a ∧ y = .ref b ∧ H a = some (.dK ks) ∧ SqT K H b xs ∧ Q (.bl true) H
theorem op_neDT {X : Cx} (hu : X.A.units + 64 < cLine) : OpR X (compareOp .NotEq) (rNeDT X.K) := by
  intro pins s σ H x y v u Q I rx ry h
  obtain ⟨a, b, ks, xs, rfl, rfl, hA, hB, q⟩ := h
  cases (show v = Value.ref a from rx)
  cases (show u = Value.ref b from ry)
  have ob := I.hok a _ hA
  unfold ObjOk at ob
  obtain ⟨_, _, vs, _, od, es, ep, g1, hex, _⟩ := ob
  obtain ⟨its, rv, p, hz⟩ := I.tuple hB
  have hT : s.heap.IsTuple b its.toArray := p
  obtain ⟨ot, g2, c2, _⟩ := hT
  have c1 : od.cls = .type "dict" := hex.1
  have ne : a ≠ b := fun z => by
    subst z
    rw [g1] at g2; cases g2
    rw [c1] at c2
    exact absurd c2 (by decide)
  have t1 : s.TypeIs (.ref a) "dict" := ⟨od, g1, c1⟩
  have t2 : s.TypeIs (.ref b) "tuple" := ⟨ot, g2, c2⟩
  show wpAny (model X.prog X.w) X.A (richCompare .NotEq (.ref a) (.ref b)) (EP X pins σ Q) X.xe s
  unfold richCompare
  simp only [oneThing_ref]
  refine wpAny_holding (wpAny_bind (wpAny_cRoomFor (by omega) ?_))
  refine wpAny_bind (wpAny_typeOf_ref g1 (wpAny_bind (wpAny_typeOf_ref g2 ?_)))
  rw [c1, c2, if_pos (by decide), sub_td]
  refine wpAny_bind (wpAny_pure ?_)
  simp only [Bool.false_eq_true, if_false]
  refine wpAny_bind (wpAny_tryCompare_declines t1 F.slot_dict_ne (call_meets F.slot_dict_ne t1 F.entry_dict_ne (F.args_dict_ne_2 _ _) (dict_ne_tuple a b od ot c1 c2) ⟨g1, g2, rfl, ?_⟩))
  simp only [Bool.not_false, if_true]
  refine wpAny_bind (wpAny_tryCompare_declines t2 F.slot_tuple_ne (call_meets F.slot_tuple_ne t2 F.entry_tuple_ne (F.args_tuple_ne_2 _ _) (tuple_ne_dict a b od ot c1 c2) ⟨g1, g2, rfl, ?_⟩))
  have hab : (a == b) = false := by simpa using ne
  unfold isSame
  simp only [hab, Bool.false_eq_true, if_false]
  wp_walk
  rw [c1]
  have fin : EP X pins σ Q (.bool true) s := ⟨.bl true, H, I, rfl, q⟩
  split
  · rename_i z _ _ _
    exact absurd z (by decide)
  · exact wpAny_pure (wpAny_pure fin)
section
variable {X : Cx} {T : Tb} {W : WX} {a b : Expr} {ma mb : En → Ou R} {pos : Pos} {Q : R → En → Prop} {e : En} {XX : Xn → En → Prop}
def dNeT : List D → Option S
  | [.dic _ _, .tup _] => some (.fr (.bl true))
  | ds => dNe ds
theorem pr_neT {r : R2} (hr : FunOk T (r2 r) dNe) : FunOk T (r2 fun x y H Q => rNeDT T.K x y H Q ∨ r x y H Q) dNeT := fun G H vs ss s Q hs rr h k => by
  unfold dNeT at h
  split at h
  · rename_i ks ds xs heq
    cases h
    obtain ⟨v, w, s1, s2, rfl, r1, r2', e1, e2⟩ := repOs2 rr heq
    obtain ⟨p, ys, rfl, hA, _, _⟩ := r1.dic hs e1
    obtain ⟨c, cs, rfl, g1, _, _⟩ := r2'.tup hs e2
    exact ⟨_, _, rfl, .inl ⟨p, c, _, cs, rfl, rfl, hA, g1, done_fr (W := True) hs k (.bl _)⟩⟩
  · obtain ⟨x, y, e, q⟩ := hr G H vs ss s Q hs rr h k
    exact ⟨x, y, e, .inr q⟩
def bNeT (ma mb : En → Ou R) : En → Ou R := b2 (pS dNeT) ma mb
theorem pe_neT (hK : T.K = X.K) (hu : X.A.units + 65 < cLine) (hm : behindInMarks .NotEq b = false) (ha : PE X a (tE T W ma)) (hb : PE X b (tE T W mb)) : PE X (.Compare a [.NotEq] [b] pos) (tE T W (bNeT ma mb)) := by
  obtain ⟨r, f, h1, h2, h3⟩ := cmp_ok (T := T) .NotEq hK hu
  have h1' : dNe = f := Option.some.inj h1
  subst h1'
  have op := OpR.or (op_neDT (X := X) (by omega)) h2
  rw [← hK] at op
  exact PE.imp (pe_cmpR op ha hb hm) fun σ H Q h => tE.mono (fun _ _ k => tE.mono (fun _ _ k => by
    obtain ⟨x, y, e, q⟩ := k
    cases e
    exact q) k) (tE_prim2 (prim_S (pr_neT h3)) h)
theorem pt_neT (hK : T.K = X.K) (hu : X.A.units + 65 < cLine) (hm : behindInMarks .NotEq b = false) (ha : PE X a (tE T W ma)) (hb : PE X b (tE T W mb)) : PT X (.Compare a [.NotEq] [b] pos) (tB T W (bTb (bNeT ma mb))) := by
  obtain ⟨r, f, h1, h2, h3⟩ := cmp_ok (T := T) .NotEq hK hu
  have h1' : dNe = f := Option.some.inj h1
  subst h1'
  have op := OpR.or (op_neDT (X := X) (by omega)) h2
  rw [← hK] at op
  exact PT.imp (pt_cmpR op ha hb hm) fun σ H Q h => tE.mono (fun _ _ k => tE.mono (fun _ _ k => by
    obtain ⟨x, y, e, q⟩ := k
    cases e
    exact q) k) (tE_prim2 (prim_S (pr_neT h3)) (tB_bool h))
theorem y_neT : Wo XX (bNeT ma mb e) Q = Wo XX (b2 (pS dNeT) ma mb e) Q := (rfl)
end
end Fv

namespace Fv
open PySem PySem.Spec PyProof.Rows L2
/-! ### a def that is handed the caught exception, called in its suite -/
structure FnE (T : Tb) (P : Program) (w : World) (K : PySem.W.Frag) (mg : Str → Option Value) (base : Heap) (k : Nat) (f : Addr) (fd : FuncData) (ps : List Str) (fn : Xn → List S → FO) : Prop where
  run : ∀ (A : Around) (outer : List Env) (s : Shared) (H : Hp) (args : Args) (us : List Value) (vs : List V) (Q : VK) (E : XK) (a : Addr) (oe : Obj) (x : Xn) (d : Option Addr), L2H.RoomH k A → L2H.Hot1 A (a, oe) → L2H.PinOk outer H s (a, oe) →
    L2N.Zn (.ref (T.ca x.c)) d oe → (∃ fs, oe.data = .fields fs) → Xi T.K (T.ca x.c) → Env0 P w K mg base A outer s H → BindsTo s fd args (ps.zip us) → Vals vs us → spD (T.at a (.ref (T.ca x.c)) d x) ps.length (fn x) vs H Q E →
    codeAny (model P w) A (.call (.ref f) args) (CR (L2N.CX P w) outer P w H s Q E) s
theorem fn_okE {T : Tb} {P : Program} {w : World} {K : PySem.W.Frag} {mg : Str → Option Value} {base : Heap} {x qual : Str} {st : Stmt} {f : Addr} {fd : FuncData} {N ps : List Str} {k : Nat} {nl : Nat} {p : Nat → Bool} {body : Xn → En → Fl}
    (F : Fun K x qual st f fd) (S : FnScope N ps (defScope st)) (hN : N.length = nl)
    (hbody : ∀ (cdv : Value) (A : Around) (outer : List Env) (s : Shared) (H : Hp) (E : XK) (a : Addr) (oe : Obj) (y : Xn) (d : Option Addr), L2H.Hot1 A (a, oe) → L2H.RoomH k (A.deeper (envOfC qual (defScope st) s.heap.objs.size f cdv)) →
      L2N.Zn (.ref (T.ca y.c)) d oe → (∃ fs, oe.data = .fields fs) → Xi T.K (T.ca y.c) →
      PSs (L2H.cxH (L2N.CX P w) P w K mg base N qual (defScope st) f cdv A outer s H E (a, oe)) (defBody st) (tS (T.at a (.ref (T.ca y.c)) d y) (fun c d _ H => E c d H) p (body y))) :
    FnE T P w K mg base (k + 1) f fd ps fun y => fnOf nl p (body y) := by
  obtain ⟨oc, od, kV, doc, pm, an, cdv, ct, osl, rfl, lk, hcd⟩ := F.ex
  refine ⟨fun A outer s H args us vs Q E a oe y d hr hot hpin hz hf hxi e0 hb r hsp => ?_⟩
  have hl := hsp.len
  have KX : K.In s.heap := e0.mod.kin.keeps fun b o e => (e0.bs b o e).1
  have lim : s.heap.NoLimit := e0.mod.nolimit.keeps fun b o e => (e0.bs b o e).1
  have hkind : ∀ y ∈ ps.zip us, (defScope st).names.lookup y.1 = some .local ∨ ((defScope st).names.lookup y.1 = some .cell ∧ ((cellsFrom (s.heap.objs.size + 1) (defScope st).names []).lookup y.1).isSome = true) := fun ⟨n, v⟩ hy => by
    rcases S.par n (List.of_mem_zip hy).1 with q | q
    · exact .inl q
    · exact .inr ⟨q, PySem.W.cellsFrom_some _ _ _ (.inl q)⟩
  refine codeAny_call_function hr.depth (KX _ _ lk) rfl S.co S.gen rfl (PySem.W.codeRec_of KX hcd) (hb _ _ _ _ ?_)
  refine wpAny_newFunctionEnv_cells S.kind hkind fun env he s1 z => ?_
  subst he
  refine ⟨lim.keeps z.toInCall.keep, codeAny_func ?_⟩
  have I := L2H.inv_startH (CX := L2N.CX P w) (E := E) S hpin e0 hl r z
  refine wpAny_mono ((hbody cdv A outer s H E a oe y d hot (hr.deeper _) hz hf hxi).run [] s1 (L2.start N vs) H _ I (fn_body hN hsp)) (fun fl s' hs => ?_) fun e s' hs => hs
  cases fl with
  | ret u =>
    obtain ⟨v, σ', H', J, rv, q⟩ := hs
    exact ⟨v, H', J.os, J.bare, J.base, J.hok, rv, q⟩
  | next =>
    obtain ⟨σ', H', J, q⟩ := hs
    exact ⟨V.non, H', J.os, J.bare, J.base, J.hok, rfl, q⟩
  | brk =>
    obtain ⟨_, _, _, q⟩ := hs
    exact False.elim q
  | cont =>
    obtain ⟨_, _, _, q⟩ := hs
    exact False.elim q
/-- as the suites call it -/
structure Fe (T : Tb) (P : Program) (w : World) (K : PySem.W.Frag) (mg : Str → Option Value) (base : Heap) (x : Str) (ps : List Str) (k : Nat) (fn : Xn → List S → FO) : Prop where
  ex : ∃ (f : Addr) (fd : FuncData), FnE T P w K mg base k f fd ps fn ∧ mg x = some (.ref f) ∧ PySem.W.keepIn K (.ref f) = true ∧ Binds K fd ps []
theorem roomH_mark {k : Nat} {A : Around} {v : Option Value} (hr : Room k A) : L2H.RoomH k (A.mark v) := ⟨hr.dp, hr.un⟩
theorem hu65H {k : Nat} {A : Around} (hr : L2H.RoomH k A) : A.units + 65 < cLine := by have := hr.un; omega
section
variable {X : Cx} {T : Tb} {a : Addr} {oe : Obj} {pn : List (Addr × Obj)} {d : Option Addr} {x : Xn} {k j : Nat} {ps : List Str} {fn : Xn → List S → FO} {n : Str} {p pos : Pos} {e : Expr} {es : List Expr} {ms : En → Ou (List R)}
theorem pe_callE (F : Fe T X.prog X.w X.K X.mg X.base n ps j fn) {np : Nat} (hz : L2N.Zn (.ref (T.ca x.c)) d oe) (hf : ∃ vs, oe.data = .fields vs) (C : Xi T.K (T.ca x.c)) (hr : Room k X.A) (hj : j ≤ k) (hg : Gl X n) (hnp : ps.length = np)
    (ha : PA (X.suite a ((a, oe) :: pn)) (e :: es) (tEs (T.at a (.ref (T.ca x.c)) d x) (fun _ _ _ _ => False) ms)) (hdb : (n == ("__debug__" : Str)) = false)
    (he : starEach (e :: es) X.env = (false, eval e X.env) :: starEach es X.env) (hpl : (backTo pos (starEach es X.env)).any (·.1) = false) :
    PE (X.suite a ((a, oe) :: pn)) (.Call (.Name n p) (e :: es) [] pos) (tE (T.at a (.ref (T.ca x.c)) d x) (fun _ _ _ _ => False) (bP (pCall np (fn x)) ms)) := by
  subst hnp
  obtain ⟨f, fd, F, hm, hk, hb⟩ := F.ex
  refine ⟨fun pins s σ H Q I h => ?_⟩
  have h := tE_prim (prim_call (T := T.at a (.ref (T.ca x.c)) d x) (W := fun _ _ _ _ => False) (np := ps.length) (fn := fn x)) h
  refine wpAny_Call_Name_kw (ld_glob I hg hm ?_ hdb)
  refine PySem.W.callWith_K (h₀ := X.base) I.ok.mod.kin hk (thn (ha.run pos pins s σ H _ I h) fun us s1 ⟨vs, H1, I1, r, q⟩ => ⟨I1.kIn, ?_⟩) he hpl
  have hl : us.length = ps.length := by rw [← r.length]; exact q.len
  have b := hb s1 us I1.kIn (by rw [List.append_nil]; exact hl)
  rw [List.append_nil] at b
  have P1 := I1.pin (a, oe) (List.mem_append_left _ List.mem_cons_self)
  have hpin : L2H.PinOk X.stack H1 s1 (a, oe) := ⟨P1.1, P1.2.1, fun hm => (List.mem_cons.mp (I1.stkSub a hm)).elim P1.2.2.1 P1.2.2.2.1, P1.2.2.2.2⟩
  refine wpAny_call (codeAny_mono (F.run _ X.stack s1 H1 ⟨us, []⟩ us vs Q (fun _ _ _ => False) a oe x d (roomH_mark (hr.mono hj)) ⟨rfl, let ⟨vs, e⟩ := hf; ⟨vs, e, hz.2.2 vs e⟩⟩ hpin hz hf C I1.env0 b r q) fun r s' hq => ?_)
  cases r with
  | error e => 
    obtain ⟨_, _, _, _, _, _, _, _, _, _, _, _, h⟩ := hq
    exact h
  | ok fl =>
    cases fl with
    | ret u => exact I1.after hq
    | next => exact False.elim hq
    | brk => exact False.elim hq
    | cont => exact False.elim hq
end
/-! ### isinstance of it, in such a def -/
section
variable {X : Cx} {T : Tb} {W : WX} {a : Addr} {oe : Obj} {d : Option Addr} {x : Xn}
theorem call_isXp {t : List (Nat × Tk × Bool)} {js : List Tk} (hp : (a, oe) ∈ X.pn) (hK : T.K = X.K) (hz : L2N.Zn (.ref (T.ca x.c)) d oe) (hf : ∃ vs, oe.data = .fields vs) (C : Xi T.K (T.ca x.c)) (O : Xo T.K) (hkt : KtOk T.K T.ca t) :
    CallR X (.builtin "isinstance") (rIsX T.K (T.at a (.ref (T.ca x.c)) d x) x.c t js) := by
  intro pins s σ H xs us Q I r h
  obtain ⟨v, cv, G, b, f, rfl, hsub, rv, hb, hc, q⟩ := h
  cases rv with
  | fn f rx =>
    obtain ⟨u1, u2, rfl, r1, r2⟩ := vals2 r
    cases (show u1 = Value.ref a from r1)
    obtain ⟨hget, _⟩ := I.pin (a, oe) (List.mem_append.mpr (.inl hp))
    obtain ⟨vs, hv⟩ := hf
    have J : ∃ od, PySem.W.InstAt s.heap a oe (T.ca x.c) od := by
      obtain ⟨h1, h2, _⟩ := hz
      rcases rx.2 with ⟨_, _, hd⟩ | ⟨dd, ws, hd, hG, _, _⟩
      · refine ⟨none, hget, h1, by unfold PySem.W.notCls; rw [hv] <;> rfl, ?_⟩
        rw [h2, hd]; trivial
      · obtain ⟨mA, hns, hr⟩ := (show ObjOk X.prog X.w H s.heap dd (.xd (x.ns.zip ws)) from I.hok dd _ (hsub _ _ hG))
        obtain ⟨od, ho, hl⟩ := lookIn_ns hns
        refine ⟨some od, hget, h1, by unfold PySem.W.notCls; rw [hv] <;> rfl, ?_⟩
        rw [h2, hd]; exact ho
    obtain ⟨od, J⟩ := J
    have kin : T.K.In s.heap := by rw [hK]; exact I.kIn
    obtain ⟨cdD, hcD, _⟩ := PySem.W.any_some C.hd
    have Z := PySem.W.kitx_exc (x := a) (ox := oe) (od := od) (by rw [hcD]; rfl) C.hg C.hk C.hs C.ha O.hn O.ht C.hm
    rcases hc with ⟨j, rfl, rfl⟩ | ⟨tp, rfl, hT⟩
    · have e : ksub t x.c j = some b := by
        unfold kany at hb
        cases q : ksub t x.c j with
        | none => rw [q] at hb; cases hb
        | some k => rw [q] at hb; cases k <;> exact hb
      have e2 : u2 = tkV T.ca j := by
        have := tkVals (ca := T.ca) (js := [j]) (us := [u2]) (.cons r2 .nil)
        simpa using this
      subst e2
      exact PySem.W.kia_one Z kin J (hkt.at e) (fun z => nomatch z) fun tk => ⟨.bl b, H, I.tok tk, rfl, q⟩
    · cases (show u2 = Value.ref tp from r2)
      obtain ⟨_, its, rv, o, h1, h2, n, h3⟩ := (show ObjOk X.prog X.w H s.heap tp (.tup (js.map (tkP T.ca))) from I.hok tp _ hT)
      have e3 := tkVals rv
      subst e3
      obtain ⟨oc, od, dt, sl⟩ := o
      simp only at h2 h3
      subst h2 h3
      exact PySem.W.kia_tup Z kin J h1 (hkt.any hb) (fun z => nomatch z) fun tk => ⟨.bl b, H, I.tok tk, rfl, q⟩
theorem pe_exIp {t : List (Nat × Tk × Bool)} {j : Tk} {mo : En → Ou R} {eo ec : Expr} {px pos : Pos} (hp : (a, oe) ∈ X.pn) (hK : T.K = X.K) (hz : L2N.Zn (.ref (T.ca x.c)) d oe) (hf : ∃ vs, oe.data = .fields vs) (C : Xi T.K (T.ca x.c)) (O : Xo T.K) (hkt : KtOk T.K T.ca t)
    (hg : Gl X "isinstance") (hm : X.mg "isinstance" = none) (ho : PE X eo (tE (T.at a (.ref (T.ca x.c)) d x) W mo)) (hc : PE X ec (tC (tkP T.ca j)))
    (he : starEach [eo, ec] X.env = (false, eval eo X.env) :: starEach [ec] X.env) (hs : starEach [ec] X.env = (false, eval ec X.env) :: starEach [] X.env) (hpl : (backTo pos (starEach [ec] X.env)).any (·.1) = false) :
    PE X (.Call (.Name "isinstance" px) [eo, ec] [] pos) (tE (T.at a (.ref (T.ca x.c)) d x) W (bExI t x.c [j] mo)) :=
  PE.imp (pe_callB (call_isXp (js := [j]) hp hK hz hf C O hkt) hg hm boot_isinstance (pa_cons ho (pa_cons hc pa_nil (hs := hs)) (hs := he)) (by decide) (by decide) he hpl) fun σ H Q h => tE.mono (fun v H1 ⟨G1, f, b, h1, h2, h3, h4, h5⟩ => ⟨v, _, G1, b, f, rfl, h1, h2, h3, .inl ⟨j, rfl, rfl⟩, h4⟩) (tE_exI h)
end
end Fv

/-! ### a list walked by a comprehension while an exception is handled (its context is None) -/
namespace HotX
open PySem PySem.Spec PyProof.Rows
section
variable {prog : Program} {w : World} {A : Around} {E : Value → Shared → Prop} {s : Shared}
theorem pyNext_list_end_hot {it l x1 : Addr} {i : Nat} {items} {Q : Option Value → Shared → Prop} (hot : HotAt A x1 s.heap) (hne : x1 ≠ it) (hit : s.heap.IsListIter it l i) (hl : s.heap.IsList l items) (hx : items[i]? = none)
    (hQ : ∀ h', (∀ b o, b ≠ it → s.heap.get? b = some o → h'.get? b = some o) → Q none { s with heap := h' }) : wpAny (model prog w) A (pyNext (.ref it)) Q E s := by
  obtain ⟨o, ho, hc, hd⟩ := id hit
  obtain ⟨ol, hol, _, nl, hdl⟩ := hl
  obtain ⟨hh, o1, vs1, h1, d1, c1⟩ := hot
  unfold pyNext
  refine wpAny_bind (wpAny_attempt (wpAny_callSpecial?_slot (name := Str.ofString "__next__") hit.typeIs slot_listiter_next
    (wpAny_call_entry slot_listiter_next hit.typeIs entry_listiter_next ?_ (args_listiter_next _))))
  show wpAny _ _ (field (.ref it) 0 >>= _) _ _ s
  refine wpAny_bind (wpAny_field ho hd (x := .ref l) rfl ?_)
  show wpAny _ _ (if (Value.ref l == Value.none) = true then _ else _) _ _ s
  rw [if_neg (show ¬ ((Value.ref l == Value.none) = true) from Bool.false_ne_true)]
  show wpAny _ _ (field (.ref it) 1 >>= _) _ _ s
  refine wpAny_bind (wpAny_field ho hd (x := .int i 0) rfl ?_)
  show wpAny _ _ (seqItems? (.ref l) >>= _) _ _ s
  refine wpAny_bind (wpAny_seqItems hol hdl ?_)
  simp only [Int.toNat_natCast, hx]
  refine wpAny_bind (wpAny_rule (wpAny_bind (wpAny_setField ho hd (by simp) ?_)))
  have k1 : ∀ b u, b ≠ it → s.heap.get? b = some u → (s.heap.update it (Obj.mapFields (·.setIfInBounds 0 .none))).get? b = some u := fun b u hb e => by
    rw [Heap.get?_update_other _ _ (fun z => hb z.symm)]; exact e
  have h1' := k1 _ _ hne h1
  show wpAny _ _ (newExc (.type "StopIteration") [] >>= _) _ _ _
  refine wpAny_bind ?_
  simp only [newExc, newTuple]
  refine wpAny_bind (wpAny_newObj_type ?_ (by size_fits))
  refine wpAny_bind (m := firstArgMember _ _) (wpAny_of_eq (a := Value.none) (by first | rfl | (simp only [firstArgMember]; rfl)) ?_)
  refine wpAny_newObj_type ?_ (by size_fits)
  refine raiseNew_hot ⟨hh, o1, vs1, Heap.get?_push_of_some _ (Heap.get?_push_of_some _ h1'), d1, c1⟩ (Nat.ne_of_lt (Heap.lt_size (Heap.get?_push_of_some _ h1'))) (Heap.get?_push_size _ rfl) rfl (by first | (simp; done) | (simp; omega) | (simp only [Array.size_append]; simp; omega)) ?_
  refine wpAny_bind (wpAny_isInstance (T := "StopIteration") (b := true) ⟨_, Heap.get?_update_self _ (Heap.get?_push_size _ rfl) rfl, rfl⟩ isSubtype_stop ?_)
  refine wpAny_pure (hQ _ fun b u hb e => ?_)
  rw [Heap.get?_update_other _ _ (Nat.ne_of_gt (Heap.lt_size (Heap.get?_push_of_some _ (k1 _ _ hb e))))]
  exact Heap.get?_push_of_some _ (Heap.get?_push_of_some _ (k1 _ _ hb e))
end
end HotX
namespace Fv
open PySem PySem.Spec PyProof.Rows L2
/-- a row's iterator, walked where an exception is handled -/
structure TurnQ (P : Program) (w : World) (K : PySem.W.Frag) (tg : Expr) (J : It) (fp : List Addr) (it : Addr) (tn : Nat → Heap → Prop) : Prop where
  mem : it ∈ fp
  obj : ∀ i h, tn i h → ∀ b ∈ fp, ∃ o, h.get? b = some o ∧ ∀ v, o.data ≠ .cell v
  keep : ∀ i h h', tn i h → (∀ b ∈ fp, ∀ o, h.get? b = some o → h'.get? b = some o) → tn i h'
  item : ∀ (X : Cx), X.prog = P → X.w = w → X.K = K → ∀ (i : Nat) (pins : List (Addr × Obj)) (s : Shared) (σ : L2.St) (H : Hp) (E : Value → Shared → Prop), Inv X pins σ H s → (∀ b ∈ fp, FpOk X pins H b) → tn i s.heap → J.go i H →
    wpAny (model P w) X.A (pyNext (.ref it)) (fun r s1 => ∃ u, r = some u ∧
      wpAny (model P w) X.A (letOwnedTupleGo tg (.ref it) u) (fun _ s2 => ∃ x H', Inv X pins σ H' s2 ∧ RelV x u ∧ J.yld i H x H' ∧ tn (i + 1) s2.heap ∧ ∀ b ∈ fp, H' b = none) E s1) E s
  done : ∀ (X : Cx), X.prog = P → X.w = w → X.K = K → ∀ (i : Nat) (pins : List (Addr × Obj)) (s : Shared) (σ : L2.St) (H : Hp) (E : Value → Shared → Prop), (∃ p ∈ X.pn ++ pins, L2H.Hot1 X.A p) → Inv X pins σ H s → (∀ b ∈ fp, FpOk X pins H b) → tn i s.heap → J.stop i H →
    wpAny (model P w) X.A (pyNext (.ref it)) (fun r s1 => r = none ∧ Inv X pins σ H s1) E s
  self : ∀ (A : Around) (i : Nat) (s : Shared) (Q : Value → Shared → Prop) (E : Value → Shared → Prop), tn i s.heap → Q (.ref it) s → wpAny (model P w) A (pyIter (.ref it)) Q E s
theorem turnQ_list {P : Program} {w : World} {K : PySem.W.Frag} {tg : Expr} (a it : Addr) : TurnQ P w K tg (Itl K a) [it] it (fun i h => h.IsListIter it a i) where
  mem := by simp
  obj := (turn_list (P := P) (w := w) (K := K) (tg := tg) a it).obj
  keep := (turn_list (P := P) (w := w) (K := K) (tg := tg) a it).keep
  self := (turn_list (P := P) (w := w) (K := K) (tg := tg) a it).self
  item := by
    intro X hP hw hK i pins s σ H E I hf st hg
    subst hP hw hK
    obtain ⟨xs, x, hq, hx⟩ := hg
    obtain ⟨its, rv, p, hz⟩ := I.list hq
    obtain ⟨u, hu, ru⟩ := rv.get hx
    obtain ⟨f0, f1, f2, f3, f4, f5⟩ := hf it (by simp)
    refine wpAny_pyNext_list_item st p.isList (x := u) (by simpa using hu) fun h' st' sb => ?_
    have I1 : Inv X pins σ H { s with heap := h' } := I.turned (t' := s.toks) (fun b o hb e => (sb.2 b hb).trans e) f0 f1 f3 f4 f5
    obtain ⟨o, e, c, d⟩ := id st'
    exact ⟨u, rfl, go_of (s := { s with heap := h' }) e c d (by decide) ⟨x, H, I1, ru, ⟨rfl, fun ys hy => by rw [I.list_inj hy hq]; exact hx⟩, st', fun b hb => (hf b hb).1⟩⟩
  done := by
    intro X hP hw hK i pins s σ H E hot I hf st hg
    subst hP hw hK
    obtain ⟨xs, hq, hx⟩ := hg
    obtain ⟨its, rv, p, hz⟩ := I.list hq
    obtain ⟨f0, f1, f2, f3, f4, f5⟩ := hf it (by simp)
    have hl := rv.length
    obtain ⟨q, hq1, hh, v1, e1, c1⟩ := hot
    exact HotX.pyNext_list_end_hot (x1 := q.1) ⟨hh, q.2, v1, (I.pin q hq1).1, e1, c1⟩ (f5 q hq1) st p.isList (by simp; omega) fun h' eb => ⟨rfl, I.turned (t' := s.toks) (fun b o hb e => eb b o hb e) f0 f1 f3 f4 f5⟩
structure PIQ (X : Cx) (tg iter : Expr) (wi : TI) : Prop where
  run : ∀ (pins : List (Addr × Obj)) (s : Shared) (σ : L2.St) (H : Hp) (R : It → Hp → Prop), Inv X pins σ H s → wi σ H R →
    wpAny (model X.prog X.w) X.A (eval iter X.env) (fun v s1 => wpAny (model X.prog X.w) X.A (pyIter v) (fun itv s2 => ∃ (it : Addr) (fp : List Addr) (tn : Nat → Heap → Prop) (J : It) (H' : Hp), itv = .ref it ∧ Inv X pins σ H' s2 ∧ TurnQ X.prog X.w X.K tg J fp it tn ∧ tn 0 s2.heap ∧ (∀ b ∈ fp, FpOk X pins H' b) ∧ R J H') X.xe s1) X.xe s
theorem PIQ.imp {X : Cx} {tg iter : Expr} {t t' : TI} (h : PIQ X tg iter t) (k : ∀ σ H R, t' σ H R → t σ H R) : PIQ X tg iter t' := ⟨fun pins s σ H R I q => h.run pins s σ H R I (k σ H R q)⟩
theorem piq_list {X : Cx} {tg l : Expr} {tl : TE} (hl : PE X l tl) : PIQ X tg l (iList X.K tl) := by
  refine ⟨fun pins s σ H R I h => ?_⟩
  refine thn (hl.run pins s σ H _ I h) fun v s1 ⟨x, H1, I1, r1, q1⟩ => ?_
  obtain ⟨a, e, ⟨xs, hq⟩, q⟩ := q1
  subst e
  cases r1
  obtain ⟨its, rv, p, hz⟩ := I1.list hq
  refine wpAny_pyIter_list p.isList ?_
  refine ⟨s1.heap.objs.size, [s1.heap.objs.size], _, _, H1, rfl, I1.kept (t' := s1.toks) fun b o e => Heap.get?_push_of_some _ e, turnQ_list a _, ⟨_, Heap.get?_push_size _ rfl, rfl, rfl⟩, fun b hb => ?_, q⟩
  have e : b = s1.heap.objs.size := by simpa using hb
  subst e
  exact I1.fpOk (Nat.le_refl _) (I1.hok.fresh (Nat.le_refl _))
/-- a list alone -/
def mSeqL (m : En → Ou R) : En → Ou (List D) := fun e =>
  match m e with
  | .ok r e1 => match frz1 e1 r with
    | some (.lst ds, e2) => .ok ds e2
    | _ => .no
  | .ex x e1 => .ex x e1
  | .no => .no
theorem piq_seqF {X : Cx} {T : Tb} {W : WX} {tg l : Expr} {ml : En → Ou R} (hK : T.K = X.K) (hl : PE X l (tE T W ml)) : PIQ X tg l (tI T W (mSeqL ml)) := PIQ.imp (piq_list hl) fun σ H R h => by
  obtain ⟨G, e, τ, u, md, q⟩ := h
  refine ⟨G, e, τ, u, md, ?_⟩
  unfold mSeqL at q
  cases hm : ml e with
  | no => rw [hm] at q; exact q
  | ex x e1 => rw [hm] at q; exact q
  | ok r e1 =>
    rw [hm] at q
    intro G1 H1 v τ1 u1 ev1 md1 hr1
    simp only at q
    cases hf : frz1 e1 r with
    | none => rw [hf] at q; exact q.elim
    | some z =>
      obtain ⟨d, e2⟩ := z
      rw [hf] at q
      obtain ⟨G2, ev2, md2, rd⟩ := frz1_ok md1 md.l2 hr1 hf
      cases rd with
      | lst h1 k1 =>
        have q' := fun J => q G2 H1 J (ev1.trans ev2) md2
        rw [← hK]
        exact ⟨_, rfl, ⟨_, md2.sl.sub.sqL h1⟩, q' _ (.list h1 k1)⟩
      | _ => exact q.elim
section
variable {X : Cx}
theorem lc_coreQ {pins : List (Addr × Obj)} {s : Shared} {σ : L2.St} {H : Hp} {Q : VK} {elt tg iter : Expr} {ifs : List Expr} {scope : Scope} {own : List (Str × Nat)} {pos pos' : Pos} {wi : TI} {g : TG} {tt : TT} {te : TE} {Qf : Value → Shared → Prop}
    (hot : L2H.HotC X) (hN : X.N.Nodup) (I : Inv X pins σ H s) (hi : PIQ X tg iter wi) (ok : BlkOk X.N X.env.scope scope own)
    (hg : ∀ (s : Shared) (H : Hp) (C : Addr) (cl : List (Str × Addr)) (fp : List Addr), PG (X.blk s H scope (compEnvC scope cl C X.env) fp) tg g) (ht : ∀ (s : Shared) (H : Hp) (C : Addr) (cl : List (Str × Addr)) (fp : List Addr), PTs (X.blk s H scope (compEnvC scope cl C X.env) fp) ifs tt)
    (he : ∀ (s : Shared) (H : Hp) (C : Addr) (cl : List (Str × Addr)) (fp : List Addr), PE (X.blk s H scope (compEnvC scope cl C X.env) fp) elt te) (hs : ∀ x, foldedSetIterable iter X.env x = pure x)
    (h : tLc wi g tt te (own.map (·.2)) σ H Q)
    (hRR : ∀ D C s' m H', Inv X pins σ H' s' → Q (.ref D) H' → s'.heap.Ns C m → FpOk X pins H' C → compPost (model X.prog X.w) X.A X.xe none Qf (.ref D) C (.ok .next) s') :
    wpAny (model X.prog X.w) X.A (comprehension (.ListComp elt [⟨tg, iter, ifs, 0⟩] scope pos) scope X.env pos' (newList []) false (eval iter X.env) none) Qf X.xe s := by
  have hfree : ∀ y ∈ scope.names, y.2 = .free → ∃ c, X.env.cells.lookup y.1 = some c := fun y hy e => by
    rcases ok.free y hy e with k | k
    · exact I.ok.has _ (.inl k)
    · exact I.ok.has _ (.inr k)
  refine wpAny_comprehension_free (use := none) rfl hs (closure_ok hfree) ok.kind (fun y hy e => by rw [ok.uniq y hy, e])
    (thn (hi.run pins s σ H _ I h) fun xv s1 hx => thn hx fun itv s2 h2 => ?_)
  obtain ⟨it, fp, tn, J, H2, e, I2, T, st2, f2, q⟩ := h2
  subst e
  refine wpAny_newObj_type (newEnv_comp ?_) (by show 0 ≤ sizeLine; decide)
  generalize hD : s2.heap.objs.size = D
  have hDn : H2 D = none := I2.hok.fresh (Nat.le_of_eq hD)
  obtain ⟨W, ⟨m0, w0⟩, turn⟩ := q D hDn
  generalize hs3 : ({ s2 with heap := s2.heap.push { cls := .type "list", data := .seq ([] : List Value).toArray } } : Shared) = s3
  have I3 : Inv X pins σ (upd H2 D (.lst [])) s3 := by
    rw [← hs3]
    refine I2.laid (t' := s2.toks) (fun b o e => Heap.get?_push_of_some _ e) (Nat.le_of_eq hD) ⟨Nat.zero_le _, [], 0, .nil, ?_⟩
    rw [← hD]
    exact Heap.get?_push_size _ rfl
  have h3 : s3.heap = s2.heap.push { cls := .type "list", data := .seq ([] : List Value).toArray } := by rw [← hs3]
  have sz : ∀ b ∈ fp, b < s2.heap.objs.size := fun b hb => by
    obtain ⟨o, e, _⟩ := T.obj _ _ st2 b hb
    exact Heap.lt_size e
  have f3 : ∀ b ∈ fp, FpOk X pins (upd H2 D (.lst [])) b ∧ b < s3.heap.objs.size := fun b hb => by
    have hlt := sz b hb
    refine ⟨⟨?_, (f2 b hb).2⟩, by rw [h3, Heap.size_push]; exact Nat.lt_succ_of_lt hlt⟩
    rw [upd_ne (by rw [← hD]; exact Nat.ne_of_lt hlt)]
    exact (f2 b hb).1
  have st3 : tn 0 s3.heap := T.keep _ _ _ st2 fun b _ o e => by rw [h3]; exact Heap.get?_push_of_some _ e
  have I4 := block_start I3 ok hN f3
  obtain ⟨hp, hot1, hpm⟩ := hot
  have P3 := I3.pin hp (List.mem_append_left _ hpm)
  have pg := hg s3 (upd H2 D (.lst [])) s3.heap.objs.size (cellsFrom (s3.heap.objs.size + 1) scope.names (cloFrom X.env.cells scope.names [])) fp
  have pt := ht s3 (upd H2 D (.lst [])) s3.heap.objs.size (cellsFrom (s3.heap.objs.size + 1) scope.names (cloFrom X.env.cells scope.names [])) fp
  have pe := he s3 (upd H2 D (.lst [])) s3.heap.objs.size (cellsFrom (s3.heap.objs.size + 1) scope.names (cloFrom X.env.cells scope.names [])) fp
  show codeAny _ _ (.compStart (.ListComp elt [⟨tg, iter, ifs, 0⟩] scope pos) 0 (.ref it) (.ref D) (compEnvC scope (cellsFrom (s3.heap.objs.size + 1) scope.names (cloFrom X.env.cells scope.names [])) s3.heap.objs.size X.env)) (compPost (model X.prog X.w) X.A X.xe none Qf (.ref D) s3.heap.objs.size) { s3 with heap := pushCells (s3.heap.push { cls := .type "dict", data := .dict #[] }) scope.names }
  have nfp : ∀ b ∈ fp, (upd H2 D (.lst [])) b = none := fun b hb => (f3 b hb).1.1
  generalize hce : compEnvC scope (cellsFrom (s3.heap.objs.size + 1) scope.names (cloFrom X.env.cells scope.names [])) s3.heap.objs.size X.env = ce at I4 pg pt pe ⊢
  have cL : ce.locals = s3.heap.objs.size := by subst hce; rfl
  generalize hH3 : upd H2 D (.lst []) = H3 at I3 I4 pg pt pe w0 nfp f3 P3
  generalize hs4 : ({ s3 with heap := pushCells (s3.heap.push { cls := .type "dict", data := .dict #[] }) scope.names } : Shared) = s4 at I4 ⊢
  have st4 : tn 0 s4.heap := T.keep _ _ _ st3 fun b _ o e => by rw [← hs4]; exact pushCells_keeps _ _ _ _ (Heap.get?_push_of_some _ e)
  have I4 : Inv (X.blk s3 H3 scope ce fp) [hp] (wipe σ (own.map (·.2))) H3 s4 := I4.pins_of fun z hz => by
    obtain rfl : z = hp := by simpa using hz
    refine ⟨by rw [← hs4]; exact pushCells_keeps _ _ _ _ (Heap.get?_push_of_some _ P3.1), P3.2.1, by show z.1 ≠ ce.locals; rw [cL]; exact Nat.ne_of_lt (Heap.lt_size P3.1), fun hm => (List.mem_cons.mp (I3.stkSub z.1 hm)).elim P3.2.2.1 P3.2.2.2.1, P3.2.2.2.2⟩
  have stat : ∀ {σ' : L2.St} {H' : Hp} {s' : Shared}, Inv (X.blk s3 H3 scope ce fp) [hp] σ' H' s' → (∀ b ∈ fp, H' b = none) → ∀ b ∈ fp, FpOk (X.blk s3 H3 scope ce fp) [hp] H' b := fun {σ' H' s'} I' hn b hb =>
    ⟨hn b hb, (I'.ok.exf b hb).1, I'.ok.exfs b hb, .inl hb, fun x c e => (I'.ok.exf b hb).2 x c e, fun p hq => by
      obtain rfl : p = hp := by simpa using (show p ∈ ([] : List (Addr × Obj)) ++ [hp] from hq)
      exact (f3 b hb).1.2.2.2.2.2 p (List.mem_append_left _ hpm)⟩
  have loop : codeAny (model X.prog X.w) X.A (.compLoop (.ListComp elt [⟨tg, iter, ifs, 0⟩] scope pos) 0 (.ref it) (.ref D) ce) (compPost (model X.prog X.w) X.A X.xe none Qf (.ref D) s3.heap.objs.size) s4 := by
    refine compLoop_any (fun n s' => ∃ i H', Inv (X.blk s3 H3 scope ce fp) [hp] (wipe σ (own.map (·.2))) H' s' ∧ tn i s'.heap ∧ (∀ b ∈ fp, H' b = none) ∧ W i n H') ?_ m0 ⟨0, H3, I4, st4, nfp, w0⟩
    rintro n s5 ⟨i, H5, I5, st5, n5, w5⟩
    rcases turn i n H5 w5 with ⟨stop, qq⟩ | ⟨go, Nx, hNx, step⟩
    · have td := T.done (X.blk s3 H3 scope ce fp) rfl rfl rfl i [hp] s5 _ H5 (fun _ _ => False) ⟨hp, List.mem_append_right _ (List.mem_cons_self ..), hot1⟩ I5 (stat I5 n5) st5 stop
      refine thnF td fun r s6 ⟨hr, I6⟩ => ?_
      subst hr
      have I7 : Inv X pins σ H5 s6 := I3.call' (ch := fp) I6.os I6.base I6.hok I6.bare fun b hb => ⟨(f3 b hb).1.2.2.2.1, (f3 b hb).1.2.1, (f3 b hb).1.2.2.2.2.1, (f3 b hb).1.2.2.2.2.2⟩
      have nC : H5 s3.heap.objs.size = none := by
        have z : H5 ce.locals = none := I6.free
        rw [cL] at z
        exact z
      obtain ⟨m, hn, _⟩ := I6.loc
      have hn : s6.heap.Ns ce.locals m := hn
      rw [cL] at hn
      exact hRR D s3.heap.objs.size s6 m H5 I7 qq hn (I3.fpOk (Nat.le_refl _) nC)
    · have ti := T.item (X.blk s3 H3 scope ce fp) rfl rfl rfl i [hp] s5 _ H5 (fun _ _ => False) I5 (stat I5 n5) st5 go
      refine thnF ti fun r s6 ⟨u, hr, h6⟩ => ?_
      subst hr
      refine thnF h6 fun _ s7 ⟨x, H7, I7, r7, y7, st7, n7⟩ => ?_
      have I7' := I7.pinned (stat I7 n7) (T.obj _ _ st7)
      refine thnF (pg.run _ s7 _ H7 x u _ I7' r7 (step x H7 y7)) fun _ s8 ⟨σ8, H8, I8, hw8, q8⟩ => ?_
      refine thnF (pt.run _ s8 σ8 H8 _ I8 q8) fun b s9 ⟨H9, I9, q9⟩ => ?_
      have fin : ∀ {s' : Shared} {H' : Hp}, Inv (X.blk s3 H3 scope ce fp) ([hp] ++ pinsAt fp s7.heap) σ8 H' s' → Nx H' → ∃ m, m < n ∧ ∃ i H', Inv (X.blk s3 H3 scope ce fp) [hp] (wipe σ (own.map (·.2))) H' s' ∧ tn i s'.heap ∧ (∀ b ∈ fp, H' b = none) ∧ W i m H' := fun {s' H'} I' nx => by
        obtain ⟨m', hm, w'⟩ := hNx H' nx
        have pin' : ∀ b ∈ fp, ∀ o, s7.heap.get? b = some o → s'.heap.get? b = some o ∧ H' b = none := fun b hb o e =>
          let z := I'.pin (b, o) (List.mem_append_right _ (List.mem_append_right _ (mem_pinsAt hb e)))
          ⟨z.1, z.2.1⟩
        have hl : (wipe σ (own.map (·.2))).length = σ8.length := by rw [← hw8, wipe_length]
        refine ⟨m', hm, i + 1, H', (I'.unpinned (pins := [hp])).weak hl (fun j v e => ?_), T.keep _ _ _ st7 fun b hb o e => (pin' b hb o e).1, fun b hb => ?_, w'⟩
        · rw [← hw8] at e
          exact (wipe_some e).1
        · obtain ⟨o, e, _⟩ := T.obj _ _ st7 b hb
          exact (pin' b hb o e).2
      cases b with
      | false =>
        simp only [Bool.false_eq_true, if_false] at q9 ⊢
        exact fin I9 q9
      | true =>
        simp only [if_true] at q9 ⊢
        refine thnF (pe.run _ s9 σ8 H9 _ I9 q9) fun z s10 ⟨yv, H10, I10, r10, acc, hD10, hz10, nx⟩ => ?_
        exact app_ok (X := X.blk s3 H3 scope ce fp) I10 hD10 hz10 r10 fun s11 I11 => fin I11 nx
  exact codeAny_compStart_list loop (T.self X.A 0 _ _ _ st4 loop)
variable {T : Tb} {W : WX} {elt tg iter : Expr} {ifs : List Expr} {scope : Scope} {own : List (Str × Nat)} {pos : Pos} {it : En → Ou (List D)} {g : S → En → Fl} {t : En → Ou Bool} {m : En → Ou R} {vs : List Nat}
theorem pe_lcQF (hot : L2H.HotC X) (hN : X.N.Nodup) (ok : BlkOk X.N X.env.scope scope own) (hv : own.map (·.2) = vs) (nd : vs.Nodup) (gg : GoG g) (hi : PIQ X tg iter (tI T W it))
    (hg : ∀ (s : Shared) (H : Hp) (C : Addr) (cl : List (Str × Addr)) (fp : List Addr), PG (X.blk s H scope (compEnvC scope cl C X.env) fp) tg (tG T WF (pC vs) g))
    (ht : ∀ (s : Shared) (H : Hp) (C : Addr) (cl : List (Str × Addr)) (fp : List Addr), PTs (X.blk s H scope (compEnvC scope cl C X.env) fp) ifs (tB T WF t))
    (he : ∀ (s : Shared) (H : Hp) (C : Addr) (cl : List (Str × Addr)) (fp : List Addr), PE (X.blk s H scope (compEnvC scope cl C X.env) fp) elt (tE T WF m)) (hs : ∀ x, foldedSetIterable iter X.env x = pure x) :
    PE X (.ListComp elt [⟨tg, iter, ifs, 0⟩] scope pos) (tE T W (bLc it g t m vs)) := by
  subst hv
  have h0 : PE X (.ListComp elt [⟨tg, iter, ifs, 0⟩] scope pos) (tLc (tI T W it) (tG T WF (pC (own.map (·.2))) g) (tB T WF t) (tE T WF m) (own.map (·.2))) := by
    refine ⟨fun pins s σ H Q I h => ?_⟩
    rw [eval_ListComp]
    refine lc_coreQ hot hN I hi ok hg ht he hs h fun D C s' m H' I' q hn f => ⟨m, hn, fun h'' sb => ?_⟩
    obtain ⟨f0, f1, f2, f3, f4, f5⟩ := f
    exact ⟨.ref D, H', I'.turned (t' := s'.toks) (fun b o hb e => (sb.2 b hb).trans e) f0 f1 f3 f4 f5, rfl, q⟩
  exact PE.imp h0 fun σ H Q h => tE_lc gg nd h
end
/-! running it -/
section
variable {X : Xn → En → Prop} {e : En} {m : En → Ou R}
def SeqKL (Q : List D → En → Prop) : D → En → Prop
  | .lst ds, e => Q ds e
  | _, _ => False
def KSqL (Q : List D → En → Prop) : R → En → Prop := fun r e => FzK (fun ds e => match ds with | [d] => SeqKL Q d e | _ => False) [] e [r]
theorem y_seqL {Q : List D → En → Prop} : Wo X (mSeqL m e) Q = Wo X (m e) (KSqL Q) := by
  unfold mSeqL
  cases h : m e with
  | no => rfl
  | ex x e1 => rfl
  | ok r e1 =>
    show _ = KSqL Q r e1
    unfold KSqL
    rw [fzK_eq]
    dsimp only
    simp only [frzs]
    cases frz1 e1 r with
    | none => rfl
    | some p =>
      obtain ⟨d, e2⟩ := p
      simp only [List.nil_append]
      cases d <;> rfl
theorem y_sqvL {Q : List D → En → Prop} {s : S} : KSqL Q (.vl s) e = SeqKL Q s.d e := by unfold KSqL; simp only [z_vl, z_nil, List.nil_append]
def SqPL (Q : List D → En → Prop) (i : Nat) (e : En) : Option (Option S) → Prop
  | some (some s) => SeqKL Q s.d (e.set i (some (.fr s.d)))
  | _ => False
theorem y_sqpL {Q : List D → En → Prop} {i : Nat} : KSqL Q (.pl i) e = SqPL Q i e e[i]? := by
  unfold KSqL; rw [z_pl]; unfold FzP SqPL
  cases e[i]? with
  | none => rfl
  | some y => cases y with
    | none => rfl
    | some s => simp only [z_nil, List.nil_append]
theorem y_sqppL {Q : List D → En → Prop} {i : Nat} {s : S} : SqPL Q i e (some (some s)) = SeqKL Q s.d (e.set i (some (.fr s.d))) := (rfl)
theorem y_sqLL {Q : List D → En → Prop} {ds : List D} : SeqKL Q (.lst ds) e = Q ds e := (rfl)
end
end Fv

namespace Fv
open PySem PySem.Spec PyProof.Rows L2
/-! ### a tuple, perhaps without things, times a number -/
def rTm0 (K : PySem.W.Frag) : R2 := fun x y H Q => rTm K x y H Q ∨ ∃ l k, x = .ref l ∧ y = .int k ∧ SqT K H l [] ∧ 0 ≤ k ∧ k ≤ 5000 ∧ Q (.ref l) H
theorem op_tm0 {X : Cx} : OpR X (binaryOp .Mult) (rTm0 X.K) := by
  intro pins s σ H x y v u Q I rx ry h
  rcases h with h | ⟨l, k, rfl, rfl, hT, h0, h1, q⟩
  · exact op_tm pins s σ H x y v u Q I rx ry h
  cases rx
  obtain ⟨t, rfl⟩ := ry
  obtain ⟨vs, r, ⟨⟨_, dd, _, sl⟩, ho, hc, n, hd⟩, hs⟩ := I.tuple hT
  simp only at hc hd
  subst hc hd
  cases r
  have b0 : (decide (k < -(2 ^ 63)) || decide (k ≥ 2 ^ 63)) = false := by simp; omega
  refine wpAny_binaryOp_repeat_ref (T := "tuple") (U := "int") (by decide) ⟨_, ho, rfl⟩
    (fun z => typeIs_int z k t) noFill_tuple_mul F.fills_int_mul F.slot_int_rmul repeat_tuple F.slot_int_index.lookup
    (call_meets F.slot_int_rmul (typeIs_int s k t) F.entry_int_rmul (F.args_int_rmul_2 _ _) (int_rmul_tuple k t l ([] : List Value).toArray n dd sl) ⟨ho, rfl, ⟨_, ho, rfl⟩, ?_⟩)
  refine call_meets F.slot_tuple_mul ⟨_, ho, rfl⟩ F.entry_tuple_mul (F.args_tuple_mul_2 _ _) (tm_one b0 (by simp)) ⟨ho, ?_⟩
  exact ⟨.ref l, H, I, rfl, q⟩
def dMulT0 : List D → Option S
  | [.tup xs, .int k] => if 0 ≤ k ∧ k ≤ 5000 ∧ xs.length ≤ 1000 then some (.fr (.tup (List.replicate k.toNat xs).flatten)) else none
  | _ => none
section
variable {T : Tb} {W : WX} {X : Cx} {m ma mb : En → Ou R} {a b : Expr} {pos : Pos} {Q : R → En → Prop} {e : En} {XX : Xn → En → Prop}
theorem flat_nil {α : Type} (n : Nat) : (List.replicate n ([] : List α)).flatten = [] := by simp
theorem pr_mulT0 : FunOk T (r2 (rTm0 T.K)) dMulT0 := fun G H vs ss s Q hs r h k => by
  unfold dMulT0 at h
  split at h
  · rename_i xs j heq
    split at h
    · rename_i hz
      by_cases hx : xs = []
      · subst hx
        cases h
        obtain ⟨v, w, s1, s2, rfl, r1, r2, e1, e2⟩ := repOs2 r heq
        obtain ⟨c, cs, rfl, g1, t1, k1⟩ := r1.tup hs e1
        obtain rfl := r2.int e2
        cases k1
        refine ⟨_, _, rfl, .inr ⟨c, j, rfl, rfl, g1, hz.1, hz.2.1, ?_⟩⟩
        rw [flat_nil] at k
        exact done_fr (W := True) hs k (.tup t1 .nil)
      · obtain ⟨v, w, e1, q⟩ := pr_mulT G H vs ss s Q hs r (by
          rw [heq]
          show (if xs ≠ [] ∧ 0 ≤ j ∧ j ≤ 5000 ∧ xs.length ≤ 1000 then _ else _) = _
          rw [if_pos ⟨hx, hz⟩]; exact h) k
        exact ⟨v, w, e1, .inl q⟩
    · cases h
  · cases h
def bTm0 (ma mb : En → Ou R) : En → Ou R := b2 (pS dMulT0) ma mb
theorem pe_tm0F (hK : T.K = X.K) (ha : PE X a (tE T W ma)) (hb : PE X b (tE T W mb)) : PE X (.BinOp a .Mult b pos) (tE T W (bTm0 ma mb)) :=
  pe_b2 (r := rTm0 X.K) (by rw [← hK]; exact prim_S pr_mulT0) op_tm0 ha hb
theorem y_tm0 : Wo XX (bTm0 ma mb e) Q = Wo XX (b2 (pS dMulT0) ma mb e) Q := (rfl)
theorem f_tm0 {xs : List D} {k : Int} (h : 0 ≤ k ∧ k ≤ 5000 ∧ xs.length ≤ 1000) : dMulT0 [.tup xs, .int k] = some (.fr (.tup (List.replicate k.toNat xs).flatten)) := if_pos h
end
end Fv

set_option maxHeartbeats 0
namespace K81
open PySem PySem.Spec PyProof.Rows L2 Fv
def topS (i : Nat) : Stmt := PySem.Challenge.pw_boughswap_k81_powers_of_racks.main.body.getD i (.Pass ⟨0, 0, 0, 0⟩)
def xtab : List (Nat × Nat × Bool) := [(0, 0, true), (0, 1, false), (0, 2, false), (0, 4, false), (0, 3, true), (2, 0, false), (2, 1, false), (2, 2, true), (2, 4, false), (2, 3, true), (1, 0, false), (1, 1, true), (1, 2, false), (1, 4, false), (1, 3, true)]
def ktab : List (Nat × Tk × Bool) := [(0, .inl 0, true), (0, .inl 1, false), (0, .inl 2, false), (0, .inl 4, false), (0, .inr "ValueError", true), (2, .inl 0, false), (2, .inl 1, false), (2, .inl 2, true), (2, .inl 4, false), (2, .inr "ValueError", true), (1, .inl 0, false), (1, .inl 1, true), (1, .inl 2, false), (1, .inl 4, false), (1, .inr "ValueError", true)]
abbrev s_Lwell : Stmt := topS 21
theorem sc_Lwell : FnScope ["_law_cell"] ["_law_cell"] (defScope s_Lwell) := ⟨rfl, rfl, rfl, by decide +kernel, rfl, by decide +kernel, by decide +kernel⟩
noncomputable def b_Lwell : En → Fl :=
  (sCons (sRet 1 (bLst (aCons (bBin .Mult (bVar 0) (bP (pS dInt) (aCons (bCmp .GtE (bVar 0) (bBin .Pow (bCon (.int 10)) (bCon (.int 18)))) aNil))) (aCons (bBin .Mod (bVar 0) (bCon (.int 2147483647))) (aCons (bCon (.int 0)) aNil)))))
  sNil)
noncomputable def d_Lwell : List S → FO := fnOf 1 (fun i => i == 0) b_Lwell
abbrev s_Ldraw : Stmt := topS 22
theorem sc_Ldraw : FnScope ["_law_well_here", "_law_so_many", "_law_one", "_law_found"] ["_law_well_here", "_law_so_many"] (defScope s_Ldraw) := ⟨rfl, rfl, rfl, by decide +kernel, rfl, by decide +kernel, by decide +kernel⟩
noncomputable def b_Ldraw : En → Fl :=
  (sCons (sIf (bTb (bCmp .Gt (bIx (bVar 0) (bCon (.int 0))) (bCon (.int 0))))
  (sCons (sAsg (gTupF [(gIx 0 (bCon (.int 0))), (gNm 3)]) (bP (pS dDivmod) (aCons (bIx (bVar 0) (bCon (.int 0))) (aCons (bVar 1) aNil))))
  (sCons (sRet 2 (bVar 3))
  sNil))
  sNil)
  (sCons (sAsg (gIx 0 (bCon (.int 2))) (bBin .Add (bIx (bVar 0) (bCon (.int 2))) (bCon (.int 1))))
  (sCons (sAsg (gNm 2) (bBin .Mod (bBin .Add (bBin .Add (bBin .Mult (bIx (bVar 0) (bCon (.int 1))) (bBin .Add (bBin .Mult (bCon (.int 2)) (bIx (bVar 0) (bCon (.int 2)))) (bCon (.int 1)))) (bBin .Mult (bCon (.int 104729)) (bIx (bVar 0) (bCon (.int 2))))) (bCon (.int 17))) (bCon (.int 2147483629))))
  (sCons (sAsg (gNm 2) (bBin .Mod (bBin .Pow (bVar 2) (bCon (.int 5))) (bCon (.int 2147483587))))
  (sCons (sAsg (gNm 2) (bBin .Mod (bBin .Mult (bVar 2) (bBin .Add (bBin .FloorDiv (bVar 2) (bCon (.int 1301))) (bCon (.int 50021)))) (bCon (.int 2147483647))))
  (sCons (sRet 2 (bBin .Mod (bBin .FloorDiv (bVar 2) (bCon (.int 7))) (bVar 1)))
  sNil))))))
noncomputable def d_Ldraw : List S → FO := fnOf 4 (fun i => i == 0 || i == 1) b_Ldraw
abbrev s_Lrack : Stmt := topS 23
theorem sc_Lrack : FnScope ["_law_well_here", "_law_few", "_law_high", "_law_k"] ["_law_well_here", "_law_few", "_law_high"] (defScope s_Lrack) := ⟨rfl, rfl, rfl, by decide +kernel, rfl, by decide +kernel, by decide +kernel⟩
noncomputable def m_Lrack_1 : En → Ou R :=
  (bP (pCall 2 d_Ldraw) (aCons (bVar 0) (aCons (bBin .Add (bVar 2) (bCon (.int 1))) aNil)))
noncomputable def b_Lrack : En → Fl :=
  (sCons (sRet 3 (bP (pS dTuple) (aCons (bLc (mPs (fun ds => if ds.length = 1 then rngOf ds else none) (aCons (bP (pCall 2 d_Ldraw) (aCons (bVar 0) (aCons (bBin .Add (bVar 1) (bCon (.int 1))) aNil))) aNil)) (gNm 3) bYes m_Lrack_1 [3]) aNil)))
  sNil)
noncomputable def d_Lrack : List S → FO := fnOf 4 (fun i => i == 0 || i == 1 || i == 2) b_Lrack
abbrev s_is_whole : Stmt := topS 7
theorem sc_is_whole : FnScope ["thing", "low", "high"] ["thing", "low", "high"] (defScope s_is_whole) := ⟨rfl, rfl, rfl, by decide +kernel, rfl, by decide +kernel, by decide +kernel⟩
noncomputable def b_is_whole : En → Fl :=
  (sCons (sIf (bOr (bNot (bTr (bP (pS dIsi) (aCons (bVar 0) (aCons (bCon (.ty "int")) aNil))))) (bTr (bP (pS dIsi) (aCons (bVar 0) (aCons (bCon (.ty "bool")) aNil)))))
  (sCons (sRet 3 (bCon (.bl false)))
  sNil)
  sNil)
  (sCons (sIf (bAnd (bTb (bCmp .IsNot (bVar 1) (bCon .non))) (bTb (bCmp .Lt (bVar 0) (bVar 1))))
  (sCons (sRet 3 (bCon (.bl false)))
  sNil)
  sNil)
  (sCons (sRet 3 (bOrV (bCmp .Is (bVar 2) (bCon .non)) (bCmp .LtE (bVar 0) (bVar 2))))
  sNil)))
noncomputable def d_is_whole : List S → FO := fnOf 3 (fun i => i == 0 || i == 1 || i == 2) b_is_whole
abbrev s_is_rack : Stmt := topS 11
theorem sc_is_rack : FnScope ["thing", "form"] ["thing"] (defScope s_is_rack) := ⟨rfl, rfl, rfl, by decide +kernel, rfl, by decide +kernel, by decide +kernel⟩
noncomputable def m_is_rack_1 : En → Ou R :=
  (bP (pCall 3 d_is_whole) (aCons (bVar 1) (aCons (bCon (.int 0)) (aCons (bCon (.int 200)) aNil))))
noncomputable def b_is_rack : En → Fl :=
  (sCons (sIf (bOr (bNot (bTr (bP (pS dIsi) (aCons (bVar 0) (aCons (bCon (.ty "tuple")) aNil))))) (bTb (bCmp .Gt (bP (pS dLen) (aCons (bVar 0) aNil)) (bCon (.int 4000)))))
  (sCons (sRet 1 (bCon (.bl false)))
  sNil)
  sNil)
  (sCons (sRet 1 (bP (pS dAll) (aCons (bLc (mSeq (bVar 0)) (gNm 1) bYes m_is_rack_1 [1]) aNil)))
  sNil))
noncomputable def d_is_rack : List S → FO := fnOf 2 (fun i => i == 0) b_is_rack
abbrev s_rack_unless : Stmt := topS 16
theorem sc_rack_unless : FnScope ["rack"] ["rack"] (defScope s_rack_unless) := ⟨rfl, rfl, rfl, by decide +kernel, rfl, by decide +kernel, by decide +kernel⟩
noncomputable def b_rack_unless : En → Fl :=
  (sCons (sIf (bNot (bTr (bP (pCall 1 d_is_rack) (aCons (bVar 0) aNil))))
  (sCons (sRai 0)
  sNil)
  sNil)
  sNil)
noncomputable def d_rack_unless : List S → FO := fnOf 1 (fun i => i == 0) b_rack_unless
abbrev s_sure_rack : Stmt := topS 12
theorem sc_sure_rack : FnScope ["thing"] ["thing"] (defScope s_sure_rack) := ⟨rfl, rfl, rfl, by decide +kernel, rfl, by decide +kernel, by decide +kernel⟩
noncomputable def b_sure_rack : En → Fl :=
  (sCons (sIf (bNot (bTr (bP (pCall 1 d_is_rack) (aCons (bVar 0) aNil))))
  (sCons (sRai 0)
  sNil)
  sNil)
  sNil)
noncomputable def d_sure_rack : List S → FO := fnOf 1 (fun i => i == 0) b_sure_rack
abbrev s_sure_small : Stmt := topS 13
theorem sc_sure_small : FnScope ["rack"] ["rack"] (defScope s_sure_small) := ⟨rfl, rfl, rfl, by decide +kernel, rfl, by decide +kernel, by decide +kernel⟩
noncomputable def b_sure_small : En → Fl :=
  (sCons (sIf (bNot (bTr (bP (pCall 1 d_is_rack) (aCons (bVar 0) aNil))))
  (sCons (sRai 2)
  sNil)
  sNil)
  sNil)
noncomputable def d_sure_small : List S → FO := fnOf 1 (fun i => i == 0) b_sure_small
abbrev s_put_times : Stmt := topS 14
theorem sc_put_times : FnScope ["one", "two", "found", "form", "other"] ["one", "two"] (defScope s_put_times) := ⟨rfl, rfl, rfl, by decide +kernel, rfl, by decide +kernel, by decide +kernel⟩
noncomputable def m_put_times_1 : En → Ou R :=
  (bBin .Add (bVar 3) (bVar 4))
noncomputable def b_put_times_2 : En → Fl :=
  (sCons (sExpr (bExt 2 (bLc (mSeq (bVar 1)) (gNm 4) bYes m_put_times_1 [4])))
  sNil)
noncomputable def b_put_times : En → Fl :=
  (sCons (sExpr (bP (pCall 1 d_sure_rack) (aCons (bVar 0) aNil)))
  (sCons (sExpr (bP (pCall 1 d_sure_rack) (aCons (bVar 1) aNil)))
  (sCons (sIf (bTb (bCmp .Gt (bBin .Mult (bP (pS dLen) (aCons (bVar 0) aNil)) (bP (pS dLen) (aCons (bVar 1) aNil))) (bCon (.int 4000))))
  (sCons (sRai 2)
  sNil)
  sNil)
  (sCons (sAsg (gNm 2) (bLst aNil))
  (sCons (sFor (mSeq (bVar 0)) (gNm 3)
  b_put_times_2)
  (sCons (sExpr (bP (pCall 1 d_sure_small) (aCons (bP (pS dTuple) (aCons (bVar 2) aNil)) aNil)))
  (sCons (sRet 2 (bP (pS dTuple) (aCons (bVar 2) aNil)))
  sNil)))))))
noncomputable def d_put_times : List S → FO := fnOf 5 (fun i => i == 0 || i == 1) b_put_times
abbrev s_power_of : Stmt := topS 19
theorem sc_power_of : FnScope ["rack", "many", "found", "k"] ["rack", "many"] (defScope s_power_of) := ⟨rfl, rfl, rfl, by decide +kernel, rfl, by decide +kernel, by decide +kernel⟩
noncomputable def b_power_of_1 : En → Fl :=
  (sCons (sAsg (gNm 2) (bP (pCall 2 d_put_times) (aCons (bVar 2) (aCons (bVar 0) aNil))))
  sNil)
noncomputable def b_power_of : En → Fl :=
  (sCons (sExpr (bP (pCall 1 d_rack_unless) (aCons (bVar 0) aNil)))
  (sCons (sIf (bNot (bTr (bP (pCall 3 d_is_whole) (aCons (bVar 1) (aCons (bCon (.int 1)) (aCons (bCon (.int 12)) aNil))))))
  (sCons (sRai 1)
  sNil)
  sNil)
  (sCons (sAsg (gNm 2) (bVar 0))
  (sCons (sFor (mPs (fun ds => if ds.length = 1 then rngOf ds else none) (aCons (bBin .Sub (bVar 1) (bCon (.int 1))) aNil)) (gNm 3)
  b_power_of_1)
  (sCons (sRet 2 (bVar 2))
  sNil)))))
noncomputable def d_power_of : List S → FO := fnOf 4 (fun i => i == 0 || i == 1) b_power_of
abbrev s_Lclass : Stmt := topS 24
theorem sc_Lclass : FnScope ["_law_e", "_law_some", "_law_one"] ["_law_e"] (defScope s_Lclass) := ⟨rfl, rfl, rfl, by decide +kernel, rfl, by decide +kernel, by decide +kernel⟩
noncomputable def u_Lclass_1 : En → Ou Bool :=
  (bTr (bVar 2))
noncomputable def m_Lclass_2 : En → Ou R :=
  (bVar 2)
noncomputable def b_Lclass (x : Xn) : En → Fl :=
  (sCons (sAsg (gNm 1) (bLst (aCons (bExI ktab x.c [.inl 0] (bVar 0)) (aCons (bExI ktab x.c [.inl 1] (bVar 0)) (aCons (bExI ktab x.c [.inl 2] (bVar 0)) (aCons (bExI ktab x.c [.inl 4] (bVar 0)) aNil))))))
  (sCons (sIf (bOr (bNot (bTr (bExI ktab x.c [.inr "ValueError"] (bVar 0)))) (bTb (bCmp .NotEq (bP (pS dLen) (aCons (bLc (mSeqL (bVar 1)) (gNm 2) u_Lclass_1 m_Lclass_2 [2]) aNil)) (bCon (.int 1)))))
  (sCons (sRet 1 (bTup (aCons (bCon (.str "other")) aNil)))
  sNil)
  sNil)
  (sCons (sRet 1 (bTup (aCons (bIx (bLst (aCons (bCon (.str "rack")) (aCons (bCon (.str "number")) (aCons (bCon (.str "much")) (aCons (bCon (.str "other")) aNil))))) (bMq dIndex dIndexT (bVar 1) (aCons (bCon (.bl true)) aNil))) aNil)))
  sNil)))
noncomputable def d_Lclass (x : Xn) : List S → FO := fnOf 3 (fun i => i == 0) (b_Lclass x)
abbrev s_Ltold : Stmt := topS 25
theorem sc_Ltold : FnScope ["_law_shelf", "_law_so_many", "_law_found", "_law_e"] ["_law_shelf", "_law_so_many"] (defScope s_Ltold) := ⟨rfl, rfl, rfl, by decide +kernel, rfl, by decide +kernel, by decide +kernel⟩
noncomputable def b_Ltold : En → Fl :=
  (sCons (sTry xtab [⟨3, some 3, fun x => (sCons (sAsg (gNm 2) (bP (pCall 1 (d_Lclass x)) (aCons (bVar 3) aNil)))
  sNil)⟩]
  (sCons (sAsg (gNm 2) (bTup (aCons (bCon (.str "told")) (aCons (bP (pCall 2 d_power_of) (aCons (bVar 0) (aCons (bVar 1) aNil))) aNil))))
  sNil))
  (sCons (sRet 2 (bVar 2))
  sNil))
noncomputable def d_Ltold : List S → FO := fnOf 4 (fun i => i == 0 || i == 1) b_Ltold
abbrev s_Ldue : Stmt := topS 26
theorem sc_Ldue : FnScope ["_law_shelf", "_law_so_many", "_law_size", "_law_k", "_law_found", "_law_longer", "_law_form", "_law_more"] ["_law_shelf", "_law_so_many"] (defScope s_Ldue) := ⟨rfl, rfl, rfl, by decide +kernel, rfl, by decide +kernel, by decide +kernel⟩
noncomputable def b_Ldue_1 : En → Fl :=
  (sCons (sAsg (gNm 2) (bBin .Mult (bVar 2) (bP (pS dLen) (aCons (bVar 0) aNil))))
  sNil)
noncomputable def m_Ldue_2 : En → Ou R :=
  (bBin .Add (bVar 6) (bVar 7))
noncomputable def b_Ldue_3 : En → Fl :=
  (sCons (sExpr (bExt 5 (bLc (mSeq (bVar 0)) (gNm 7) bYes m_Ldue_2 [7])))
  sNil)
noncomputable def b_Ldue_4 : En → Fl :=
  (sCons (sAsg (gNm 5) (bLst aNil))
  (sCons (sFor (mSeq (bVar 4)) (gNm 6)
  b_Ldue_3)
  (sCons (sAsg (gNm 4) (bVar 5))
  sNil)))
noncomputable def b_Ldue : En → Fl :=
  (sCons (sAsg (gNm 2) (bCon (.int 1)))
  (sCons (sFor (mPs (fun ds => if ds.length = 1 then rngOf ds else none) (aCons (bVar 1) aNil)) (gNm 3)
  b_Ldue_1)
  (sCons (sIf (bOr (bTb (bCmp .Gt (bVar 2) (bCon (.int 4000)))) (bAnd (bTb (bCmp .NotEq (bVar 0) (bTup aNil))) (bTb (bCmp .Gt (bBin .Mult (bP (pS dMaxB) (aCons (bVar 0) aNil)) (bVar 1)) (bCon (.int 200))))))
  (sCons (sRet 2 (bTup (aCons (bCon (.str "much")) aNil)))
  sNil)
  sNil)
  (sCons (sAsg (gNm 4) (bLst (aCons (bCon (.int 0)) aNil)))
  (sCons (sFor (mPs (fun ds => if ds.length = 1 then rngOf ds else none) (aCons (bVar 1) aNil)) (gNm 3)
  b_Ldue_4)
  (sCons (sRet 2 (bTup (aCons (bCon (.str "told")) (aCons (bP (pS dTuple) (aCons (bVar 4) aNil)) aNil))))
  sNil))))))
noncomputable def d_Ldue : List S → FO := fnOf 8 (fun i => i == 0 || i == 1) b_Ldue
abbrev s_Lrefusals_right : Stmt := topS 27
theorem sc_Lrefusals_right : FnScope ["_law_well_here", "_law_shelf", "_law_odd", "_law_bad", "_law_found"] ["_law_well_here", "_law_shelf"] (defScope s_Lrefusals_right) := ⟨rfl, rfl, rfl, by decide +kernel, rfl, by decide +kernel, by decide +kernel⟩
noncomputable def b_Lrefusals_right : En → Fl :=
  (sCons (sAsg (gNm 2) (bIx (bLst (aCons (bLst (aCons (bCon (.int 1)) aNil)) (aCons (bTup (aCons (bCon (.int 1)) (aCons (b1 (pS dNeg) (bCon (.int 1))) aNil))) (aCons (bTup (aCons (bCon (.int 201)) aNil)) (aCons (bTup (aCons (bCon (.bl true)) aNil)) (aCons (bCon .non) (aCons (bCon (.str "1")) (aCons (bTup (aCons (bCon (.int 1)) (aCons (bCon .non) aNil))) (aCons (bTup (aCons (bTup (aCons (bCon (.int 1)) aNil)) aNil)) aNil))))))))) (bP (pCall 2 d_Ldraw) (aCons (bVar 0) (aCons (bCon (.int 8)) aNil)))))
  (sCons (sAsg (gNm 3) (bIx (bLst (aCons (bCon (.int 0)) (aCons (bCon (.int 13)) (aCons (b1 (pS dNeg) (bCon (.int 1))) (aCons (bCon (.bl true)) (aCons (bCon .non) (aCons (bCon (.str "2")) (aCons (bTup (aCons (bCon (.int 1)) aNil)) (aCons (bBin .Pow (bCon (.int 10)) (bCon (.int 50))) aNil))))))))) (bP (pCall 2 d_Ldraw) (aCons (bVar 0) (aCons (bCon (.int 8)) aNil)))))
  (sCons (sAsg (gNm 4) (bLst (aCons (bP (pCall 2 d_Ltold) (aCons (bVar 2) (aCons (bCon (.int 2)) aNil))) (aCons (bP (pCall 2 d_Ltold) (aCons (bVar 2) (aCons (bVar 3) aNil))) (aCons (bP (pCall 2 d_Ltold) (aCons (bVar 1) (aCons (bVar 3) aNil))) (aCons (bP (pCall 2 d_Ltold) (aCons (bTup (aCons (bCon (.int 200)) (aCons (bCon (.int 200)) aNil))) (aCons (bVar 3) aNil))) aNil))))))
  (sCons (sRet 2 (bCmp .Eq (bVar 4) (bLst (aCons (bTup (aCons (bCon (.str "rack")) aNil)) (aCons (bTup (aCons (bCon (.str "rack")) aNil)) (aCons (bTup (aCons (bCon (.str "number")) aNil)) (aCons (bTup (aCons (bCon (.str "number")) aNil)) aNil)))))))
  sNil))))
noncomputable def d_Lrefusals_right : List S → FO := fnOf 5 (fun i => i == 0 || i == 1) b_Lrefusals_right
abbrev s_law : Stmt := topS 28
theorem sc_law : FnScope ["_law_script", "_law_cell", "_law_well_here", "_law_shelf", "_law_so_many", "_law_edge", "_law_some", "_law_found"] ["_law_script"] (defScope s_law) := ⟨rfl, rfl, rfl, by decide +kernel, rfl, by decide +kernel, by decide +kernel⟩
noncomputable def b_law_1 : En → Fl :=
  (sCons (sAsg (gNm 7) (bP (pCall 2 d_Ltold) (aCons (bVar 6) (aCons (bVar 4) aNil))))
  (sCons (sIf (bOr (bTb (bCmp .NotEq (bVar 7) (bP (pCall 2 d_Ldue) (aCons (bVar 6) (aCons (bVar 4) aNil))))) (bAnd (bTb (bCmp .Eq (bIx (bVar 7) (bCon (.int 0))) (bCon (.str "told")))) (bNot (bTr (bP (pS dIsi) (aCons (bIx (bVar 7) (bCon (.int 1))) (aCons (bCon (.ty "tuple")) aNil)))))))
  (sCons (sRet 1 (bCon (.bl false)))
  sNil)
  sNil)
  sNil))
noncomputable def b_law_2 : En → Fl :=
  (sCons (sAsg (gNm 2) (bP (pCall 1 d_Lwell) (aCons (bVar 1) aNil)))
  (sCons (sAsg (gNm 3) (bP (pCall 3 d_Lrack) (aCons (bVar 2) (aCons (bCon (.int 4)) (aCons (bIx (bLst (aCons (bCon (.int 3)) (aCons (bCon (.int 9)) (aCons (bCon (.int 30)) aNil)))) (bP (pCall 2 d_Ldraw) (aCons (bVar 2) (aCons (bCon (.int 3)) aNil)))) aNil)))))
  (sCons (sAsg (gNm 4) (bIx (bLst (aCons (bBin .Add (bCon (.int 1)) (bP (pCall 2 d_Ldraw) (aCons (bVar 2) (aCons (bCon (.int 4)) aNil)))) (aCons (bBin .Add (bCon (.int 1)) (bP (pCall 2 d_Ldraw) (aCons (bVar 2) (aCons (bCon (.int 12)) aNil)))) aNil))) (bP (pCall 2 d_Ldraw) (aCons (bVar 2) (aCons (bCon (.int 2)) aNil)))))
  (sCons (sAsg (gNm 5) (bP (pS dMin) (aCons (bCon (.int 200)) (aCons (bBin .Add (bBin .FloorDiv (bCon (.int 200)) (bVar 4)) (bP (pCall 2 d_Ldraw) (aCons (bVar 2) (aCons (bCon (.int 2)) aNil)))) aNil))))
  (sCons (sFor (mSeq (bLst (aCons (bVar 3) (aCons (bTup (aCons (bVar 5) aNil)) (aCons (bTup (aCons (bCon (.int 0)) (aCons (bVar 5) aNil))) (aCons (bTm0 (bSl (bVar 3) none (some (bCon (.int 1)))) (bCon (.int 2))) (aCons (bTup aNil) aNil))))))) (gNm 6)
  b_law_1)
  (sCons (sIf (bOr (bNot (bTr (bP (pCall 2 d_Lrefusals_right) (aCons (bVar 2) (aCons (bVar 3) aNil))))) (bTb (bCmp .NotEq (bP (pCall 2 d_power_of) (aCons (bVar 3) (aCons (bCon (.int 1)) aNil))) (bVar 3))))
  (sCons (sRet 1 (bCon (.bl false)))
  sNil)
  sNil)
  (sCons (sIf (bOr (bTb (bCmp .NotEq (bP (pCallZ ["many", "rack"] ["rack", "many"] d_power_of) (aCons (bCon (.int 2)) (aCons (bVar 3) aNil))) (bP (pCall 2 d_put_times) (aCons (bVar 3) (aCons (bVar 3) aNil))))) (bTb (bCmp .NotEq (bP (pCall 2 d_power_of) (aCons (bVar 3) (aCons (bCon (.int 2)) aNil))) (bIx (bP (pCall 2 d_Ldue) (aCons (bVar 3) (aCons (bCon (.int 2)) aNil))) (bCon (.int 1))))))
  (sCons (sRet 1 (bCon (.bl false)))
  sNil)
  sNil)
  (sCons (sIf (bTb (bCmp .NotEq (bP (pCall 2 d_power_of) (aCons (bVar 3) (aCons (bCon (.int 3)) aNil))) (bP (pCall 2 d_put_times) (aCons (bP (pCall 2 d_put_times) (aCons (bVar 3) (aCons (bVar 3) aNil))) (aCons (bVar 3) aNil)))))
  (sCons (sRet 1 (bCon (.bl false)))
  sNil)
  sNil)
  sNil))))))))
noncomputable def b_law : En → Fl :=
  (sCons (sFor (mSeq (bSl (bBin .Add (bVar 0) (bLst (aCons (bCon (.int 0)) aNil))) none (some (bCon (.int 6))))) (gNm 1)
  b_law_2)
  (sCons (sRet 1 (bCon (.bl true)))
  sNil))
noncomputable def d_law : List S → FO := fnOf 8 (fun i => i == 0) b_law
theorem xs_0_0 : xsub xtab 0 0 = some true := by decide +kernel
theorem xs_0_1 : xsub xtab 0 1 = some false := by decide +kernel
theorem xs_0_2 : xsub xtab 0 2 = some false := by decide +kernel
theorem xs_0_4 : xsub xtab 0 4 = some false := by decide +kernel
theorem xs_0_3 : xsub xtab 0 3 = some true := by decide +kernel
theorem xs_2_0 : xsub xtab 2 0 = some false := by decide +kernel
theorem xs_2_1 : xsub xtab 2 1 = some false := by decide +kernel
theorem xs_2_2 : xsub xtab 2 2 = some true := by decide +kernel
theorem xs_2_4 : xsub xtab 2 4 = some false := by decide +kernel
theorem xs_2_3 : xsub xtab 2 3 = some true := by decide +kernel
theorem xs_1_0 : xsub xtab 1 0 = some false := by decide +kernel
theorem xs_1_1 : xsub xtab 1 1 = some true := by decide +kernel
theorem xs_1_2 : xsub xtab 1 2 = some false := by decide +kernel
theorem xs_1_4 : xsub xtab 1 4 = some false := by decide +kernel
theorem xs_1_3 : xsub xtab 1 3 = some true := by decide +kernel
theorem ka_0_0 : kany ktab 0 [.inl 0] = some true := by decide +kernel
theorem ka_0_1 : kany ktab 0 [.inl 1] = some false := by decide +kernel
theorem ka_0_2 : kany ktab 0 [.inl 2] = some false := by decide +kernel
theorem ka_0_3 : kany ktab 0 [.inl 4] = some false := by decide +kernel
theorem ka_0_4 : kany ktab 0 [.inr "ValueError"] = some true := by decide +kernel
theorem ka_2_0 : kany ktab 2 [.inl 0] = some false := by decide +kernel
theorem ka_2_1 : kany ktab 2 [.inl 1] = some false := by decide +kernel
theorem ka_2_2 : kany ktab 2 [.inl 2] = some true := by decide +kernel
theorem ka_2_3 : kany ktab 2 [.inl 4] = some false := by decide +kernel
theorem ka_2_4 : kany ktab 2 [.inr "ValueError"] = some true := by decide +kernel
theorem ka_1_0 : kany ktab 1 [.inl 0] = some false := by decide +kernel
theorem ka_1_1 : kany ktab 1 [.inl 1] = some true := by decide +kernel
theorem ka_1_2 : kany ktab 1 [.inl 2] = some false := by decide +kernel
theorem ka_1_3 : kany ktab 1 [.inl 4] = some false := by decide +kernel
theorem ka_1_4 : kany ktab 1 [.inr "ValueError"] = some true := by decide +kernel
section
variable {P : Program} {w : World} {K : PySem.W.Frag} {mg : Str → Option Value} {base : Heap} {ca fa : Nat → Addr}
theorem ok_Lwell {f : Addr} {fd : FuncData} (F : Fun K "_law_well" "_law_well" s_Lwell f fd) (hm : mg "_law_well" = some (.ref f)) (m_int : mg "int" = none) :
    Fd (tb K ca fa) P w K mg base "_law_well" ["_law_cell"] [] 1 d_Lwell := by
  refine ⟨f, fd, fn_okF (k := 0) F sc_Lwell rfl (fun cdv A outer s H E hr => ?_), hm, F.kp, F.binds (fun _ _ _ _ _ _ us hl => match us, hl with | [_], _ => rfl), kw_nil⟩
  have S := sc_Lwell
  unfold b_Lwell
  exact (pss_consF (ps_retF (pe_lstF (pa_consF (pe_bin rfl (pe_varF (i := 0) rfl (.inl rfl) rfl rfl) (pe_ty call_int1 fo_int rfl m_int PyProof.Rows.boot_int (pa_consF (pe_cmpF rfl (hu65 hr) rfl (pe_varF (i := 0) rfl (.inl rfl) rfl rfl) (pe_bin rfl (pe_conF pe_int (fun _ => .int _)) (pe_conF pe_int (fun _ => .int _)))) pa_nilF rfl) (by decide) rfl rfl rfl)) (pa_consF (pe_bin rfl (pe_varF (i := 0) rfl (.inl rfl) rfl rfl) (pe_conF pe_int (fun _ => .int _))) (pa_consF (pe_conF pe_int (fun _ => .int _)) pa_nilF rfl) rfl) rfl)))
  pss_nilF)
theorem ok_Ldraw {f : Addr} {fd : FuncData} (F : Fun K "_law_draw" "_law_draw" s_Ldraw f fd) (hm : mg "_law_draw" = some (.ref f)) (m_divmod : mg "divmod" = none) :
    Fd (tb K ca fa) P w K mg base "_law_draw" ["_law_well_here", "_law_so_many"] [] 1 d_Ldraw := by
  refine ⟨f, fd, fn_okF (k := 0) F sc_Ldraw rfl (fun cdv A outer s H E hr => ?_), hm, F.kp, F.binds (fun _ _ _ _ _ _ us hl => match us, hl with | [_, _], _ => rfl), kw_nil⟩
  have S := sc_Ldraw
  unfold b_Ldraw
  exact (pss_consF (ps_ifF (pt_cmpF rfl (hu65 hr) rfl (pe_ixF rfl (pe_varF (i := 0) rfl (.inl rfl) rfl rfl) (pe_conF pe_int (fun _ => .int _)) (fun _ _ => rfl)) (pe_conF pe_int (fun _ => .int _)))
  (pss_consF (ps_asgF (pe_bi call_divmodG fo_divmod rfl m_divmod PyProof.Rows.boot_divmod (pa_consF (pe_ixF rfl (pe_varF (i := 0) rfl (.inl rfl) rfl rfl) (pe_conF pe_int (fun _ => .int _)) (fun _ _ => rfl)) (pa_consF (pe_varF (i := 1) rfl (.inl rfl) rfl rfl) pa_nilF rfl) rfl) (by decide) rfl rfl rfl) (pg_tupF rfl rfl (pgs_consF GoG.ix (pg_ixF (pe_varF (i := 0) rfl (.inl rfl) rfl rfl) (pe_conF pe_int (fun _ => .int _)) (fun _ => rfl)) (pgs_consF GoG.nm (pg_nameF (i := 3) S.nd rfl (.inl rfl) rfl (.inl rfl)) pgs_nilF rfl) rfl) rfl rfl rfl) (GoG.tup (allg_cons GoG.ix (allg_cons GoG.nm allg_nil))) rfl rfl rfl)
  (pss_consF (ps_retF (pe_varF (i := 3) rfl (.inl rfl) rfl rfl))
  pss_nilF))
  pss_nilF)
  (pss_consF (ps_asgF (pe_bin rfl (pe_ixF rfl (pe_varF (i := 0) rfl (.inl rfl) rfl rfl) (pe_conF pe_int (fun _ => .int _)) (fun _ _ => rfl)) (pe_conF pe_int (fun _ => .int _))) (pg_ixF (pe_varF (i := 0) rfl (.inl rfl) rfl rfl) (pe_conF pe_int (fun _ => .int _)) (fun _ => rfl)) GoG.ix rfl rfl rfl)
  (pss_consF (ps_setF (i := 2) S.nd rfl (.inl rfl) rfl (pe_bin rfl (pe_bin rfl (pe_bin rfl (pe_bin rfl (pe_ixF rfl (pe_varF (i := 0) rfl (.inl rfl) rfl rfl) (pe_conF pe_int (fun _ => .int _)) (fun _ _ => rfl)) (pe_bin rfl (pe_bin rfl (pe_conF pe_int (fun _ => .int _)) (pe_ixF rfl (pe_varF (i := 0) rfl (.inl rfl) rfl rfl) (pe_conF pe_int (fun _ => .int _)) (fun _ _ => rfl))) (pe_conF pe_int (fun _ => .int _)))) (pe_bin rfl (pe_conF pe_int (fun _ => .int _)) (pe_ixF rfl (pe_varF (i := 0) rfl (.inl rfl) rfl rfl) (pe_conF pe_int (fun _ => .int _)) (fun _ _ => rfl)))) (pe_conF pe_int (fun _ => .int _))) (pe_conF pe_int (fun _ => .int _))) rfl (.inl rfl))
  (pss_consF (ps_setF (i := 2) S.nd rfl (.inl rfl) rfl (pe_bin rfl (pe_bin rfl (pe_varF (i := 2) rfl (.inl rfl) rfl rfl) (pe_conF pe_int (fun _ => .int _))) (pe_conF pe_int (fun _ => .int _))) rfl (.inl rfl))
  (pss_consF (ps_setF (i := 2) S.nd rfl (.inl rfl) rfl (pe_bin rfl (pe_bin rfl (pe_varF (i := 2) rfl (.inl rfl) rfl rfl) (pe_bin rfl (pe_bin rfl (pe_varF (i := 2) rfl (.inl rfl) rfl rfl) (pe_conF pe_int (fun _ => .int _))) (pe_conF pe_int (fun _ => .int _)))) (pe_conF pe_int (fun _ => .int _))) rfl (.inl rfl))
  (pss_consF (ps_retF (pe_bin rfl (pe_bin rfl (pe_varF (i := 2) rfl (.inl rfl) rfl rfl) (pe_conF pe_int (fun _ => .int _))) (pe_varF (i := 1) rfl (.inl rfl) rfl rfl)))
  pss_nilF))))))
theorem ok_Lrack {f : Addr} {fd : FuncData} (F : Fun K "_law_rack" "_law_rack" s_Lrack f fd) (hm : mg "_law_rack" = some (.ref f)) (m_range : mg "range" = none) (m_tuple : mg "tuple" = none) (F_Ldraw : Fd (tb K ca fa) P w K mg base "_law_draw" ["_law_well_here", "_law_so_many"] [] 1 d_Ldraw) :
    Fd (tb K ca fa) P w K mg base "_law_rack" ["_law_well_here", "_law_few", "_law_high"] [] 2 d_Lrack := by
  refine ⟨f, fd, fn_okF (k := 1) F sc_Lrack rfl (fun cdv A outer s H E hr => ?_), hm, F.kp, F.binds (fun _ _ _ _ _ _ us hl => match us, hl with | [_, _, _], _ => rfl), kw_nil⟩
  have S := sc_Lrack
  unfold b_Lrack
  exact (pss_consF (ps_retF (pe_ty call_tupB (fo_tuple _ rfl) rfl m_tuple PyProof.Rows.boot_tuple (pa_consF (pe_lcF rfl S.nd (own := [("_law_k", 3)]) (blk_of (by rfl)) rfl (by decide) GoG.nm (pi_rng1F rfl m_range (pa_consF (pe_callF F_Ldraw hr (by decide) rfl (L2N.takes_of rfl rfl rfl rfl) rfl (pa_consF (pe_varF (i := 0) rfl (.inr (.inl rfl)) rfl rfl) (pa_consF (pe_bin rfl (pe_varF (i := 1) rfl (.inl rfl) rfl rfl) (pe_conF pe_int (fun _ => .int _))) pa_nilF rfl) rfl) rfl rfl rfl) pa_nilF rfl) rfl) (fun _ _ _ _ _ => (pg_nameF (i := 3) S.nd rfl (.inl rfl) rfl (.inr rfl))) (fun _ _ _ _ _ => pts_nilF) (fun _ _ _ _ _ => (pe_callF F_Ldraw hr (by decide) rfl Fv.takes0N rfl (pa_consF (pe_varF (i := 0) rfl (.inr (.inl rfl)) rfl rfl) (pa_consF (pe_bin rfl (pe_varF (i := 2) rfl (.inr (.inl rfl)) rfl rfl) (pe_conF pe_int (fun _ => .int _))) pa_nilF rfl) rfl) rfl rfl rfl)) (fun _ => rfl)) pa_nilF rfl) (by decide) rfl rfl rfl))
  pss_nilF)
theorem ok_is_whole {f : Addr} {fd : FuncData} (F : Fun K "is_whole" "is_whole" s_is_whole f fd) (hm : mg "is_whole" = some (.ref f)) (m_int : mg "int" = none) (m_isinstance : mg "isinstance" = none) (m_bool : mg "bool" = none) :
    Fd (tb K ca fa) P w K mg base "is_whole" ["thing", "low", "high"] [] 1 d_is_whole := by
  refine ⟨f, fd, fn_okF (k := 0) F sc_is_whole rfl (fun cdv A outer s H E hr => ?_), hm, F.kp, F.binds (fun _ _ _ _ _ _ us hl => match us, hl with | [_, _, _], _ => rfl), kw_nil⟩
  have S := sc_is_whole
  unfold b_is_whole
  exact (pss_consF (ps_ifF (PW.pt (pw_orF (pt_notF (pt_truthF rfl (pe_bi call_isiA fo_isi rfl m_isinstance PyProof.Rows.boot_isinstance (pa_consF (pe_varF (i := 0) rfl (.inl rfl) rfl rfl) (pa_consF (pe_conF (pe_bltn (v := .ty "int") rfl m_int PyProof.Rows.boot_int rfl) (fun _ => .ty _)) pa_nilF rfl) rfl) (by decide) rfl rfl rfl) (fun _ => rfl))) (pw_or1 (pt_truthF rfl (pe_bi call_isiA fo_isi rfl m_isinstance PyProof.Rows.boot_isinstance (pa_consF (pe_varF (i := 0) rfl (.inl rfl) rfl rfl) (pa_consF (pe_conF (pe_bltn (v := .ty "bool") rfl m_bool PyProof.Rows.boot_bool rfl) (fun _ => .ty _)) pa_nilF rfl) rfl) (by decide) rfl rfl rfl) (fun _ => rfl)))))
  (pss_consF (ps_retF (pe_conF pe_bl (fun _ => .bl _)))
  pss_nilF)
  pss_nilF)
  (pss_consF (ps_ifF (PW.pt (pw_andF (pt_cmpF rfl (hu65 hr) rfl (pe_varF (i := 1) rfl (.inl rfl) rfl rfl) (pe_conF pe_non (fun _ => .non))) (pw_and1 (pt_cmpF rfl (hu65 hr) rfl (pe_varF (i := 0) rfl (.inl rfl) rfl rfl) (pe_varF (i := 1) rfl (.inl rfl) rfl rfl)))))
  (pss_consF (ps_retF (pe_conF pe_bl (fun _ => .bl _)))
  pss_nilF)
  pss_nilF)
  (pss_consF (ps_retF (pe_orF (pe_cmpF rfl (hu65 hr) rfl (pe_varF (i := 2) rfl (.inl rfl) rfl rfl) (pe_conF pe_non (fun _ => .non))) (pe_one (pe_cmpF rfl (hu65 hr) rfl (pe_varF (i := 0) rfl (.inl rfl) rfl rfl) (pe_varF (i := 2) rfl (.inl rfl) rfl rfl)))))
  pss_nilF)))
theorem ok_is_rack {f : Addr} {fd : FuncData} (F : Fun K "is_rack" "is_rack" s_is_rack f fd) (hm : mg "is_rack" = some (.ref f)) (m_tuple : mg "tuple" = none) (m_isinstance : mg "isinstance" = none) (m_len : mg "len" = none) (m_all : mg "all" = none) {tk_MOST_FORMS : Tok} (g_MOST_FORMS : mg "MOST_FORMS" = some (.int 4000 tk_MOST_FORMS)) {tk_MOST_TREES : Tok} (g_MOST_TREES : mg "MOST_TREES" = some (.int 200 tk_MOST_TREES)) (F_is_whole : Fd (tb K ca fa) P w K mg base "is_whole" ["thing", "low", "high"] [] 1 d_is_whole) :
    Fd (tb K ca fa) P w K mg base "is_rack" ["thing"] [] 2 d_is_rack := by
  refine ⟨f, fd, fn_okF (k := 1) F sc_is_rack rfl (fun cdv A outer s H E hr => ?_), hm, F.kp, F.binds (fun _ _ _ _ _ _ us hl => match us, hl with | [_], _ => rfl), kw_nil⟩
  have S := sc_is_rack
  unfold b_is_rack
  exact (pss_consF (ps_ifF (PW.pt (pw_orF (pt_notF (pt_truthF rfl (pe_bi call_isiA fo_isi rfl m_isinstance PyProof.Rows.boot_isinstance (pa_consF (pe_varF (i := 0) rfl (.inl rfl) rfl rfl) (pa_consF (pe_conF (pe_bltn (v := .ty "tuple") rfl m_tuple PyProof.Rows.boot_tuple rfl) (fun _ => .ty _)) pa_nilF rfl) rfl) (by decide) rfl rfl rfl) (fun _ => rfl))) (pw_or1 (pt_cmpF rfl (hu65 hr) rfl (pe_bi call_len (fo_len _ rfl) rfl m_len boot_len (pa_consF (pe_varF (i := 0) rfl (.inl rfl) rfl rfl) pa_nilF rfl) (by decide) rfl rfl rfl) (pe_conF (pe_glob (v := .int 4000) rfl g_MOST_FORMS ⟨_, rfl⟩) (fun _ => .int _))))))
  (pss_consF (ps_retF (pe_conF pe_bl (fun _ => .bl _)))
  pss_nilF)
  pss_nilF)
  (pss_consF (ps_retF (pe_bi (cr_all rfl) fo_all rfl m_all PyProof.Rows.boot_all (pa_consF (pe_lcF rfl S.nd (own := [("form", 1)]) (blk_of (by rfl)) rfl (by decide) GoG.nm (pi_seqF rfl (pe_varF (i := 0) rfl (.inl rfl) rfl rfl)) (fun _ _ _ _ _ => (pg_nameF (i := 1) S.nd rfl (.inl rfl) rfl (.inr rfl))) (fun _ _ _ _ _ => pts_nilF) (fun _ _ _ _ _ => (pe_callF F_is_whole hr (by decide) rfl Fv.takes0N rfl (pa_consF (pe_varF (i := 1) rfl (.inl rfl) rfl rfl) (pa_consF (pe_conF pe_int (fun _ => .int _)) (pa_consF (pe_conF (pe_glob (v := .int 200) rfl g_MOST_TREES ⟨_, rfl⟩) (fun _ => .int _)) pa_nilF rfl) rfl) rfl) rfl rfl rfl)) (fun _ => rfl)) pa_nilF rfl) (by decide) rfl rfl rfl))
  pss_nilF))
theorem ok_rack_unless {f : Addr} {fd : FuncData} (F : Fun K "rack_unless" "rack_unless" s_rack_unless f fd) (hm : mg "rack_unless" = some (.ref f)) (XC_NoRack : Xc K (ca 0)) (gX_NoRack : mg "NoRack" = some (.ref (ca 0))) (F_is_rack : Fd (tb K ca fa) P w K mg base "is_rack" ["thing"] [] 2 d_is_rack) :
    Fd (tb K ca fa) P w K mg base "rack_unless" ["rack"] [] 3 d_rack_unless := by
  refine ⟨f, fd, fn_okF (k := 2) F sc_rack_unless rfl (fun cdv A outer s H E hr => ?_), hm, F.kp, F.binds (fun _ _ _ _ _ _ us hl => match us, hl with | [_], _ => rfl), kw_nil⟩
  have S := sc_rack_unless
  unfold b_rack_unless
  exact (pss_consF (ps_ifF (pt_notF (pt_truthF rfl (pe_callF F_is_rack hr (by decide) rfl (L2N.takes_of rfl rfl rfl rfl) rfl (pa_consF (pe_varF (i := 0) rfl (.inl rfl) rfl rfl) pa_nilF rfl) rfl rfl rfl) (fun _ => rfl)))
  (pss_consF (ps_raiF rfl (L2N.takes_of rfl rfl rfl rfl) XC_NoRack gX_NoRack rfl)
  pss_nilF)
  pss_nilF)
  pss_nilF)
theorem ok_sure_rack {f : Addr} {fd : FuncData} (F : Fun K "sure_rack" "sure_rack" s_sure_rack f fd) (hm : mg "sure_rack" = some (.ref f)) (XC_NoRack : Xc K (ca 0)) (gX_NoRack : mg "NoRack" = some (.ref (ca 0))) (F_is_rack : Fd (tb K ca fa) P w K mg base "is_rack" ["thing"] [] 2 d_is_rack) :
    Fd (tb K ca fa) P w K mg base "sure_rack" ["thing"] [] 3 d_sure_rack := by
  refine ⟨f, fd, fn_okF (k := 2) F sc_sure_rack rfl (fun cdv A outer s H E hr => ?_), hm, F.kp, F.binds (fun _ _ _ _ _ _ us hl => match us, hl with | [_], _ => rfl), kw_nil⟩
  have S := sc_sure_rack
  unfold b_sure_rack
  exact (pss_consF (ps_ifF (pt_notF (pt_truthF rfl (pe_callF F_is_rack hr (by decide) rfl (L2N.takes_of rfl rfl rfl rfl) rfl (pa_consF (pe_varF (i := 0) rfl (.inl rfl) rfl rfl) pa_nilF rfl) rfl rfl rfl) (fun _ => rfl)))
  (pss_consF (ps_raiF rfl (L2N.takes_of rfl rfl rfl rfl) XC_NoRack gX_NoRack rfl)
  pss_nilF)
  pss_nilF)
  pss_nilF)
theorem ok_sure_small {f : Addr} {fd : FuncData} (F : Fun K "sure_small" "sure_small" s_sure_small f fd) (hm : mg "sure_small" = some (.ref f)) (XC_TooMuch : Xc K (ca 2)) (gX_TooMuch : mg "TooMuch" = some (.ref (ca 2))) (F_is_rack : Fd (tb K ca fa) P w K mg base "is_rack" ["thing"] [] 2 d_is_rack) :
    Fd (tb K ca fa) P w K mg base "sure_small" ["rack"] [] 3 d_sure_small := by
  refine ⟨f, fd, fn_okF (k := 2) F sc_sure_small rfl (fun cdv A outer s H E hr => ?_), hm, F.kp, F.binds (fun _ _ _ _ _ _ us hl => match us, hl with | [_], _ => rfl), kw_nil⟩
  have S := sc_sure_small
  unfold b_sure_small
  exact (pss_consF (ps_ifF (pt_notF (pt_truthF rfl (pe_callF F_is_rack hr (by decide) rfl (L2N.takes_of rfl rfl rfl rfl) rfl (pa_consF (pe_varF (i := 0) rfl (.inl rfl) rfl rfl) pa_nilF rfl) rfl rfl rfl) (fun _ => rfl)))
  (pss_consF (ps_raiF rfl (L2N.takes_of rfl rfl rfl rfl) XC_TooMuch gX_TooMuch rfl)
  pss_nilF)
  pss_nilF)
  pss_nilF)
theorem ok_put_times {f : Addr} {fd : FuncData} (F : Fun K "put_times" "put_times" s_put_times f fd) (hm : mg "put_times" = some (.ref f)) (m_len : mg "len" = none) (m_tuple : mg "tuple" = none) {tk_MOST_FORMS : Tok} (g_MOST_FORMS : mg "MOST_FORMS" = some (.int 4000 tk_MOST_FORMS)) (XC_TooMuch : Xc K (ca 2)) (gX_TooMuch : mg "TooMuch" = some (.ref (ca 2))) (F_sure_rack : Fd (tb K ca fa) P w K mg base "sure_rack" ["thing"] [] 3 d_sure_rack) (F_sure_small : Fd (tb K ca fa) P w K mg base "sure_small" ["rack"] [] 3 d_sure_small) :
    Fd (tb K ca fa) P w K mg base "put_times" ["one", "two"] [] 4 d_put_times := by
  refine ⟨f, fd, fn_okF (k := 3) F sc_put_times rfl (fun cdv A outer s H E hr => ?_), hm, F.kp, F.binds (fun _ _ _ _ _ _ us hl => match us, hl with | [_, _], _ => rfl), kw_nil⟩
  have S := sc_put_times
  unfold b_put_times
  exact (pss_consF (ps_exprF (pe_callF F_sure_rack hr (by decide) rfl (L2N.takes_of rfl rfl rfl rfl) rfl (pa_consF (pe_varF (i := 0) rfl (.inl rfl) rfl rfl) pa_nilF rfl) rfl rfl rfl) rfl)
  (pss_consF (ps_exprF (pe_callF F_sure_rack hr (by decide) rfl (L2N.takes_of rfl rfl rfl rfl) rfl (pa_consF (pe_varF (i := 1) rfl (.inl rfl) rfl rfl) pa_nilF rfl) rfl rfl rfl) rfl)
  (pss_consF (ps_ifF (pt_cmpF rfl (hu65 hr) rfl (pe_bin rfl (pe_bi call_len (fo_len _ rfl) rfl m_len boot_len (pa_consF (pe_varF (i := 0) rfl (.inl rfl) rfl rfl) pa_nilF rfl) (by decide) rfl rfl rfl) (pe_bi call_len (fo_len _ rfl) rfl m_len boot_len (pa_consF (pe_varF (i := 1) rfl (.inl rfl) rfl rfl) pa_nilF rfl) (by decide) rfl rfl rfl)) (pe_conF (pe_glob (v := .int 4000) rfl g_MOST_FORMS ⟨_, rfl⟩) (fun _ => .int _)))
  (pss_consF (ps_raiF rfl (L2N.takes_of rfl rfl rfl rfl) XC_TooMuch gX_TooMuch rfl)
  pss_nilF)
  pss_nilF)
  (pss_consF (ps_setF (i := 2) S.nd rfl (.inl rfl) rfl (pe_lstF pa_nilF) rfl (.inl rfl))
  (pss_consF (ps_forF (passes_of rfl) rfl (pi_seqF rfl (pe_varF (i := 0) rfl (.inl rfl) rfl rfl)) (pg_nameF (i := 3) S.nd rfl (.inr rfl) rfl (.inl rfl)) GoG.nm
  (pss_consF (ps_exprF (pe_extF rfl (pe_varF (i := 2) rfl (.inl rfl) rfl rfl) (pe_lcF rfl S.nd (own := [("other", 4)]) (blk_of (by rfl)) rfl (by decide) GoG.nm (pi_seqF rfl (pe_varF (i := 1) rfl (.inl rfl) rfl rfl)) (fun _ _ _ _ _ => (pg_nameF (i := 4) S.nd rfl (.inl rfl) rfl (.inr rfl))) (fun _ _ _ _ _ => pts_nilF) (fun _ _ _ _ _ => (pe_bin rfl (pe_varF (i := 3) rfl (.inr (.inl rfl)) rfl rfl) (pe_varF (i := 4) rfl (.inl rfl) rfl rfl))) (fun _ => rfl)) rfl rfl rfl rfl rfl) rfl)
  pss_nilF) (fun _ => rfl))
  (pss_consF (ps_exprF (pe_callF F_sure_small hr (by decide) rfl (L2N.takes_of rfl rfl rfl rfl) rfl (pa_consF (pe_ty call_tupB (fo_tuple _ rfl) rfl m_tuple PyProof.Rows.boot_tuple (pa_consF (pe_varF (i := 2) rfl (.inl rfl) rfl rfl) pa_nilF rfl) (by decide) rfl rfl rfl) pa_nilF rfl) rfl rfl rfl) rfl)
  (pss_consF (ps_retF (pe_ty call_tupB (fo_tuple _ rfl) rfl m_tuple PyProof.Rows.boot_tuple (pa_consF (pe_varF (i := 2) rfl (.inl rfl) rfl rfl) pa_nilF rfl) (by decide) rfl rfl rfl))
  pss_nilF)))))))
theorem ok_power_of {f : Addr} {fd : FuncData} (F : Fun K "power_of" "power_of" s_power_of f fd) (hm : mg "power_of" = some (.ref f)) (m_range : mg "range" = none) {tk_MOST_POWER : Tok} (g_MOST_POWER : mg "MOST_POWER" = some (.int 12 tk_MOST_POWER)) (XC_NoNumber : Xc K (ca 1)) (gX_NoNumber : mg "NoNumber" = some (.ref (ca 1))) (F_rack_unless : Fd (tb K ca fa) P w K mg base "rack_unless" ["rack"] [] 3 d_rack_unless) (F_is_whole : Fd (tb K ca fa) P w K mg base "is_whole" ["thing", "low", "high"] [] 1 d_is_whole) (F_put_times : Fd (tb K ca fa) P w K mg base "put_times" ["one", "two"] [] 4 d_put_times) :
    Fd (tb K ca fa) P w K mg base "power_of" ["rack", "many"] [["many", "rack"]] 5 d_power_of := by
  refine ⟨f, fd, fn_okF (k := 4) F sc_power_of rfl (fun cdv A outer s H E hr => ?_), hm, F.kp, F.binds (fun _ _ _ _ _ _ us hl => match us, hl with | [_, _], _ => rfl), (kw_cons (kwb_of F fun _ _ _ _ _ _ us zs hl hz => match us, hl, hz with | [_, _], _, hz => by cases hz; rfl) kw_nil)⟩
  have S := sc_power_of
  unfold b_power_of
  exact (pss_consF (ps_exprF (pe_callF F_rack_unless hr (by decide) rfl (L2N.takes_of rfl rfl rfl rfl) rfl (pa_consF (pe_varF (i := 0) rfl (.inl rfl) rfl rfl) pa_nilF rfl) rfl rfl rfl) rfl)
  (pss_consF (ps_ifF (pt_notF (pt_truthF rfl (pe_callF F_is_whole hr (by decide) rfl (L2N.takes_of rfl rfl rfl rfl) rfl (pa_consF (pe_varF (i := 1) rfl (.inl rfl) rfl rfl) (pa_consF (pe_conF pe_int (fun _ => .int _)) (pa_consF (pe_conF (pe_glob (v := .int 12) rfl g_MOST_POWER ⟨_, rfl⟩) (fun _ => .int _)) pa_nilF rfl) rfl) rfl) rfl rfl rfl) (fun _ => rfl)))
  (pss_consF (ps_raiF rfl (L2N.takes_of rfl rfl rfl rfl) XC_NoNumber gX_NoNumber rfl)
  pss_nilF)
  pss_nilF)
  (pss_consF (ps_setF (i := 2) S.nd rfl (.inl rfl) rfl (pe_varF (i := 0) rfl (.inl rfl) rfl rfl) rfl (.inl rfl))
  (pss_consF (ps_forF (passes_of rfl) rfl (pi_rng1F rfl m_range (pa_consF (pe_bin rfl (pe_varF (i := 1) rfl (.inl rfl) rfl rfl) (pe_conF pe_int (fun _ => .int _))) pa_nilF rfl) rfl) (pg_nameF (i := 3) S.nd rfl (.inl rfl) rfl (.inl rfl)) GoG.nm
  (pss_consF (ps_setF (i := 2) S.nd rfl (.inl rfl) rfl (pe_callF F_put_times hr (by decide) rfl (L2N.takes_of rfl rfl rfl rfl) rfl (pa_consF (pe_varF (i := 2) rfl (.inl rfl) rfl rfl) (pa_consF (pe_varF (i := 0) rfl (.inl rfl) rfl rfl) pa_nilF rfl) rfl) rfl rfl rfl) rfl (.inl rfl))
  pss_nilF) (fun _ => rfl))
  (pss_consF (ps_retF (pe_varF (i := 2) rfl (.inl rfl) rfl rfl))
  pss_nilF)))))
theorem ok_Lclass {f : Addr} {fd : FuncData} (F : Fun K "_law_class" "_law_class" s_Lclass f fd) (hm : mg "_law_class" = some (.ref f)) (m_isinstance : mg "isinstance" = none) (m_ValueError : mg "ValueError" = none) (m_len : mg "len" = none) (gX_NoRack : mg "NoRack" = some (.ref (ca 0))) (gX_NoNumber : mg "NoNumber" = some (.ref (ca 1))) (gX_TooMuch : mg "TooMuch" = some (.ref (ca 2))) (gX_NoTrees : mg "NoTrees" = some (.ref (ca 4))) (XT : XtOk K ca xtab) (XI : XiOk K ca xtab) (XO : Xo K) (KT : KtOk K ca ktab) :
    Fe (tb K ca fa) P w K mg base "_law_class" ["_law_e"] 1 d_Lclass := by
  refine ⟨f, fd, fn_okE (k := 0) F sc_Lclass rfl (fun cdv A outer s H E a oe x d ho hr hz hf hxi => ?_), hm, F.kp, F.binds (fun _ _ _ _ _ _ us hl => match us, hl with | [_], _ => rfl)⟩
  have S := sc_Lclass
  unfold b_Lclass
  exact (pss_consF (ps_setF (i := 1) S.nd rfl (.inl rfl) rfl (pe_lstF (pa_consF (pe_exIp (.head _) rfl hz hf hxi XO KT rfl m_isinstance (pe_varF (i := 0) rfl (.inl rfl) rfl rfl) (pe_glob (v := tkP ca (.inl 0)) rfl gX_NoRack rfl) rfl rfl rfl) (pa_consF (pe_exIp (.head _) rfl hz hf hxi XO KT rfl m_isinstance (pe_varF (i := 0) rfl (.inl rfl) rfl rfl) (pe_glob (v := tkP ca (.inl 1)) rfl gX_NoNumber rfl) rfl rfl rfl) (pa_consF (pe_exIp (.head _) rfl hz hf hxi XO KT rfl m_isinstance (pe_varF (i := 0) rfl (.inl rfl) rfl rfl) (pe_glob (v := tkP ca (.inl 2)) rfl gX_TooMuch rfl) rfl rfl rfl) (pa_consF (pe_exIp (.head _) rfl hz hf hxi XO KT rfl m_isinstance (pe_varF (i := 0) rfl (.inl rfl) rfl rfl) (pe_glob (v := tkP ca (.inl 4)) rfl gX_NoTrees rfl) rfl rfl rfl) pa_nilF rfl) rfl) rfl) rfl)) rfl (.inl rfl))
  (pss_consF (ps_ifF (PW.pt (pw_orF (pt_notF (pt_truthF rfl (pe_exIp (.head _) rfl hz hf hxi XO KT rfl m_isinstance (pe_varF (i := 0) rfl (.inl rfl) rfl rfl) (pe_bltn (v := .ty "ValueError") rfl m_ValueError (by decide +kernel) rfl) rfl rfl rfl) (fun _ => rfl))) (pw_or1 (pt_cmpF rfl (hu65H hr) rfl (pe_bi call_len (fo_len _ rfl) rfl m_len boot_len (pa_consF (pe_lcQF ⟨_, ho, .head _⟩ S.nd (own := [("_law_one", 2)]) (blk_of (by rfl)) rfl (by decide) GoG.nm (piq_seqF rfl (pe_varF (i := 1) rfl (.inl rfl) rfl rfl)) (fun _ _ _ _ _ => (pg_nameF (i := 2) S.nd rfl (.inl rfl) rfl (.inr rfl))) (fun _ _ _ _ _ => (pts_oneF (pt_truthF rfl (pe_varF (i := 2) rfl (.inl rfl) rfl rfl) (fun _ => rfl)))) (fun _ _ _ _ _ => (pe_varF (i := 2) rfl (.inl rfl) rfl rfl)) (fun _ => rfl)) pa_nilF rfl) (by decide) rfl rfl rfl) (pe_conF pe_int (fun _ => .int _))))))
  (pss_consF (ps_retF (pe_tupF (pa_consF (pe_conF pe_str (fun _ => .str _)) pa_nilF rfl)))
  pss_nilF)
  pss_nilF)
  (pss_consF (ps_retF (pe_tupF (pa_consF (pe_ixF rfl (pe_lstF (pa_consF (pe_conF pe_str (fun _ => .str _)) (pa_consF (pe_conF pe_str (fun _ => .str _)) (pa_consF (pe_conF pe_str (fun _ => .str _)) (pa_consF (pe_conF pe_str (fun _ => .str _)) pa_nilF rfl) rfl) rfl) rfl)) (pe_mqF rfl PySem.F.slot_list_index PySem.F.type_list_index (mt_indexD (hu65H hr)) mp_index PySem.F.slot_tuple_index PySem.F.type_tuple_index mt_indexT mp_indexT (pe_varF (i := 1) rfl (.inl rfl) rfl rfl) (pa_consF (pe_conF pe_bl (fun _ => .bl _)) pa_nilF rfl) rfl rfl rfl rfl rfl) (fun _ _ => rfl)) pa_nilF rfl)))
  pss_nilF)))
theorem ok_Ltold {f : Addr} {fd : FuncData} (F : Fun K "_law_told" "_law_told" s_Ltold f fd) (hm : mg "_law_told" = some (.ref f)) (gX_SwapError : mg "SwapError" = some (.ref (ca 3))) (XT : XtOk K ca xtab) (XI : XiOk K ca xtab) (XO : Xo K) (KT : KtOk K ca ktab) (F_power_of : Fd (tb K ca fa) P w K mg base "power_of" ["rack", "many"] [["many", "rack"]] 5 d_power_of) (F_Lclass : Fe (tb K ca fa) P w K mg base "_law_class" ["_law_e"] 1 d_Lclass) :
    Fd (tb K ca fa) P w K mg base "_law_told" ["_law_shelf", "_law_so_many"] [] 6 d_Ltold := by
  refine ⟨f, fd, fn_okF (k := 5) F sc_Ltold rfl (fun cdv A outer s H E hr => ?_), hm, F.kp, F.binds (fun _ _ _ _ _ _ us hl => match us, hl with | [_, _], _ => rfl), kw_nil⟩
  have S := sc_Ltold
  unfold b_Ltold
  exact (pss_consF (ps_tryF rfl rfl rfl S.nd (L2N.takes_of rfl rfl rfl rfl) XT (fun _ pn xe tk po =>
  (pss_consF (ps_setF (i := 2) S.nd rfl (.inl rfl) rfl (pe_tupF (pa_consF (pe_conF pe_str (fun _ => .str _)) (pa_consF (pe_callF F_power_of hr (by decide) rfl tk rfl (pa_consF (pe_varF (i := 0) rfl (.inl rfl) rfl rfl) (pa_consF (pe_varF (i := 1) rfl (.inl rfl) rfl rfl) pa_nilF rfl) rfl) rfl rfl rfl) pa_nilF rfl) rfl)) rfl (.inl rfl))
  pss_nilF))
  (.consAs (i := 3) ⟨rfl, by decide, .inl gX_SwapError⟩ rfl rfl rfl (fun a oe x d pn hx hz hf =>
  (pss_consF (ps_setF (i := 2) S.nd rfl (.inl rfl) rfl (pe_callE F_Lclass hz hf (XI _ _ _ hx) hr (by decide) rfl rfl (pa_consF (pe_varF (i := 3) rfl (.inl rfl) rfl rfl) pa_nilF rfl) rfl rfl rfl) rfl (.inl rfl))
  pss_nilF)) .nil))
  (pss_consF (ps_retF (pe_varF (i := 2) rfl (.inl rfl) rfl rfl))
  pss_nilF))
theorem ok_Ldue {f : Addr} {fd : FuncData} (F : Fun K "_law_due" "_law_due" s_Ldue f fd) (hm : mg "_law_due" = some (.ref f)) (m_range : mg "range" = none) (m_len : mg "len" = none) (m_max : mg "max" = none) (m_tuple : mg "tuple" = none) :
    Fd (tb K ca fa) P w K mg base "_law_due" ["_law_shelf", "_law_so_many"] [] 1 d_Ldue := by
  refine ⟨f, fd, fn_okF (k := 0) F sc_Ldue rfl (fun cdv A outer s H E hr => ?_), hm, F.kp, F.binds (fun _ _ _ _ _ _ us hl => match us, hl with | [_, _], _ => rfl), kw_nil⟩
  have S := sc_Ldue
  unfold b_Ldue
  exact (pss_consF (ps_setF (i := 2) S.nd rfl (.inl rfl) rfl (pe_conF pe_int (fun _ => .int _)) rfl (.inl rfl))
  (pss_consF (ps_forF (passes_of rfl) rfl (pi_rng1F rfl m_range (pa_consF (pe_varF (i := 1) rfl (.inl rfl) rfl rfl) pa_nilF rfl) rfl) (pg_nameF (i := 3) S.nd rfl (.inl rfl) rfl (.inl rfl)) GoG.nm
  (pss_consF (ps_setF (i := 2) S.nd rfl (.inl rfl) rfl (pe_bin rfl (pe_varF (i := 2) rfl (.inl rfl) rfl rfl) (pe_bi call_len (fo_len _ rfl) rfl m_len boot_len (pa_consF (pe_varF (i := 0) rfl (.inl rfl) rfl rfl) pa_nilF rfl) (by decide) rfl rfl rfl)) rfl (.inl rfl))
  pss_nilF) (fun _ => rfl))
  (pss_consF (ps_ifF (PW.pt (pw_orF (pt_cmpF rfl (hu65 hr) rfl (pe_varF (i := 2) rfl (.inl rfl) rfl rfl) (pe_conF pe_int (fun _ => .int _))) (pw_or1 (PW.pt (pw_andF (pt_cmpF rfl (hu65 hr) rfl (pe_varF (i := 0) rfl (.inl rfl) rfl rfl) (pe_tupF pa_nilF)) (pw_and1 (pt_cmpF rfl (hu65 hr) rfl (pe_bin rfl (pe_bi (call_maxB rfl (hu65 hr)) fo_maxB rfl m_max PyProof.Rows.boot_max (pa_consF (pe_varF (i := 0) rfl (.inl rfl) rfl rfl) pa_nilF rfl) (by decide) rfl rfl rfl) (pe_varF (i := 1) rfl (.inl rfl) rfl rfl)) (pe_conF pe_int (fun _ => .int _)))))))))
  (pss_consF (ps_retF (pe_tupF (pa_consF (pe_conF pe_str (fun _ => .str _)) pa_nilF rfl)))
  pss_nilF)
  pss_nilF)
  (pss_consF (ps_setF (i := 4) S.nd rfl (.inl rfl) rfl (pe_lstF (pa_consF (pe_conF pe_int (fun _ => .int _)) pa_nilF rfl)) rfl (.inl rfl))
  (pss_consF (ps_forF (passes_of rfl) rfl (pi_rng1F rfl m_range (pa_consF (pe_varF (i := 1) rfl (.inl rfl) rfl rfl) pa_nilF rfl) rfl) (pg_nameF (i := 3) S.nd rfl (.inl rfl) rfl (.inl rfl)) GoG.nm
  (pss_consF (ps_setF (i := 5) S.nd rfl (.inl rfl) rfl (pe_lstF pa_nilF) rfl (.inl rfl))
  (pss_consF (ps_forF (passes_of rfl) rfl (pi_seqF rfl (pe_varF (i := 4) rfl (.inl rfl) rfl rfl)) (pg_nameF (i := 6) S.nd rfl (.inr rfl) rfl (.inl rfl)) GoG.nm
  (pss_consF (ps_exprF (pe_extF rfl (pe_varF (i := 5) rfl (.inl rfl) rfl rfl) (pe_lcF rfl S.nd (own := [("_law_more", 7)]) (blk_of (by rfl)) rfl (by decide) GoG.nm (pi_seqF rfl (pe_varF (i := 0) rfl (.inl rfl) rfl rfl)) (fun _ _ _ _ _ => (pg_nameF (i := 7) S.nd rfl (.inl rfl) rfl (.inr rfl))) (fun _ _ _ _ _ => pts_nilF) (fun _ _ _ _ _ => (pe_bin rfl (pe_varF (i := 6) rfl (.inr (.inl rfl)) rfl rfl) (pe_varF (i := 7) rfl (.inl rfl) rfl rfl))) (fun _ => rfl)) rfl rfl rfl rfl rfl) rfl)
  pss_nilF) (fun _ => rfl))
  (pss_consF (ps_setF (i := 4) S.nd rfl (.inl rfl) rfl (pe_varF (i := 5) rfl (.inl rfl) rfl rfl) rfl (.inl rfl))
  pss_nilF))) (fun _ => rfl))
  (pss_consF (ps_retF (pe_tupF (pa_consF (pe_conF pe_str (fun _ => .str _)) (pa_consF (pe_ty call_tupB (fo_tuple _ rfl) rfl m_tuple PyProof.Rows.boot_tuple (pa_consF (pe_varF (i := 4) rfl (.inl rfl) rfl rfl) pa_nilF rfl) (by decide) rfl rfl rfl) pa_nilF rfl) rfl)))
  pss_nilF))))))
theorem ok_Lrefusals_right {f : Addr} {fd : FuncData} (F : Fun K "_law_refusals_right" "_law_refusals_right" s_Lrefusals_right f fd) (hm : mg "_law_refusals_right" = some (.ref f)) (F_Ldraw : Fd (tb K ca fa) P w K mg base "_law_draw" ["_law_well_here", "_law_so_many"] [] 1 d_Ldraw) (F_Ltold : Fd (tb K ca fa) P w K mg base "_law_told" ["_law_shelf", "_law_so_many"] [] 6 d_Ltold) :
    Fd (tb K ca fa) P w K mg base "_law_refusals_right" ["_law_well_here", "_law_shelf"] [] 7 d_Lrefusals_right := by
  refine ⟨f, fd, fn_okF (k := 6) F sc_Lrefusals_right rfl (fun cdv A outer s H E hr => ?_), hm, F.kp, F.binds (fun _ _ _ _ _ _ us hl => match us, hl with | [_, _], _ => rfl), kw_nil⟩
  have S := sc_Lrefusals_right
  unfold b_Lrefusals_right
  exact (pss_consF (ps_setF (i := 2) S.nd rfl (.inl rfl) rfl (pe_ixF rfl (pe_lstF (pa_consF (pe_lstF (pa_consF (pe_conF pe_int (fun _ => .int _)) pa_nilF rfl)) (pa_consF (pe_tupF (pa_consF (pe_conF pe_int (fun _ => .int _)) (pa_consF (pe_neg (pe_conF pe_int (fun _ => .int _))) pa_nilF rfl) rfl)) (pa_consF (pe_tupF (pa_consF (pe_conF pe_int (fun _ => .int _)) pa_nilF rfl)) (pa_consF (pe_tupF (pa_consF (pe_conF pe_bl (fun _ => .bl _)) pa_nilF rfl)) (pa_consF (pe_conF pe_non (fun _ => .non)) (pa_consF (pe_conF pe_str (fun _ => .str _)) (pa_consF (pe_tupF (pa_consF (pe_conF pe_int (fun _ => .int _)) (pa_consF (pe_conF pe_non (fun _ => .non)) pa_nilF rfl) rfl)) (pa_consF (pe_tupF (pa_consF (pe_tupF (pa_consF (pe_conF pe_int (fun _ => .int _)) pa_nilF rfl)) pa_nilF rfl)) pa_nilF rfl) rfl) rfl) rfl) rfl) rfl) rfl) rfl)) (pe_callF F_Ldraw hr (by decide) rfl (L2N.takes_of rfl rfl rfl rfl) rfl (pa_consF (pe_varF (i := 0) rfl (.inl rfl) rfl rfl) (pa_consF (pe_conF pe_int (fun _ => .int _)) pa_nilF rfl) rfl) rfl rfl rfl) (fun _ _ => rfl)) rfl (.inl rfl))
  (pss_consF (ps_setF (i := 3) S.nd rfl (.inl rfl) rfl (pe_ixF rfl (pe_lstF (pa_consF (pe_conF pe_int (fun _ => .int _)) (pa_consF (pe_conF pe_int (fun _ => .int _)) (pa_consF (pe_neg (pe_conF pe_int (fun _ => .int _))) (pa_consF (pe_conF pe_bl (fun _ => .bl _)) (pa_consF (pe_conF pe_non (fun _ => .non)) (pa_consF (pe_conF pe_str (fun _ => .str _)) (pa_consF (pe_tupF (pa_consF (pe_conF pe_int (fun _ => .int _)) pa_nilF rfl)) (pa_consF (pe_bin rfl (pe_conF pe_int (fun _ => .int _)) (pe_conF pe_int (fun _ => .int _))) pa_nilF rfl) rfl) rfl) rfl) rfl) rfl) rfl) rfl)) (pe_callF F_Ldraw hr (by decide) rfl (L2N.takes_of rfl rfl rfl rfl) rfl (pa_consF (pe_varF (i := 0) rfl (.inl rfl) rfl rfl) (pa_consF (pe_conF pe_int (fun _ => .int _)) pa_nilF rfl) rfl) rfl rfl rfl) (fun _ _ => rfl)) rfl (.inl rfl))
  (pss_consF (ps_setF (i := 4) S.nd rfl (.inl rfl) rfl (pe_lstF (pa_consF (pe_callF F_Ltold hr (by decide) rfl (L2N.takes_of rfl rfl rfl rfl) rfl (pa_consF (pe_varF (i := 2) rfl (.inl rfl) rfl rfl) (pa_consF (pe_conF pe_int (fun _ => .int _)) pa_nilF rfl) rfl) rfl rfl rfl) (pa_consF (pe_callF F_Ltold hr (by decide) rfl (L2N.takes_of rfl rfl rfl rfl) rfl (pa_consF (pe_varF (i := 2) rfl (.inl rfl) rfl rfl) (pa_consF (pe_varF (i := 3) rfl (.inl rfl) rfl rfl) pa_nilF rfl) rfl) rfl rfl rfl) (pa_consF (pe_callF F_Ltold hr (by decide) rfl (L2N.takes_of rfl rfl rfl rfl) rfl (pa_consF (pe_varF (i := 1) rfl (.inl rfl) rfl rfl) (pa_consF (pe_varF (i := 3) rfl (.inl rfl) rfl rfl) pa_nilF rfl) rfl) rfl rfl rfl) (pa_consF (pe_callF F_Ltold hr (by decide) rfl (L2N.takes_of rfl rfl rfl rfl) rfl (pa_consF (pe_tupF (pa_consF (pe_conF pe_int (fun _ => .int _)) (pa_consF (pe_conF pe_int (fun _ => .int _)) pa_nilF rfl) rfl)) (pa_consF (pe_varF (i := 3) rfl (.inl rfl) rfl rfl) pa_nilF rfl) rfl) rfl rfl rfl) pa_nilF rfl) rfl) rfl) rfl)) rfl (.inl rfl))
  (pss_consF (ps_retF (pe_cmpF rfl (hu65 hr) rfl (pe_varF (i := 4) rfl (.inl rfl) rfl rfl) (pe_lstF (pa_consF (pe_tupF (pa_consF (pe_conF pe_str (fun _ => .str _)) pa_nilF rfl)) (pa_consF (pe_tupF (pa_consF (pe_conF pe_str (fun _ => .str _)) pa_nilF rfl)) (pa_consF (pe_tupF (pa_consF (pe_conF pe_str (fun _ => .str _)) pa_nilF rfl)) (pa_consF (pe_tupF (pa_consF (pe_conF pe_str (fun _ => .str _)) pa_nilF rfl)) pa_nilF rfl) rfl) rfl) rfl))))
  pss_nilF))))
theorem ok_law {f : Addr} {fd : FuncData} (F : Fun K "law" "law" s_law f fd) (m_min : mg "min" = none) (m_tuple : mg "tuple" = none) (m_isinstance : mg "isinstance" = none) (F_Lwell : Fd (tb K ca fa) P w K mg base "_law_well" ["_law_cell"] [] 1 d_Lwell) (F_Lrack : Fd (tb K ca fa) P w K mg base "_law_rack" ["_law_well_here", "_law_few", "_law_high"] [] 2 d_Lrack) (F_Ldraw : Fd (tb K ca fa) P w K mg base "_law_draw" ["_law_well_here", "_law_so_many"] [] 1 d_Ldraw) (F_Ltold : Fd (tb K ca fa) P w K mg base "_law_told" ["_law_shelf", "_law_so_many"] [] 6 d_Ltold) (F_Ldue : Fd (tb K ca fa) P w K mg base "_law_due" ["_law_shelf", "_law_so_many"] [] 1 d_Ldue) (F_Lrefusals_right : Fd (tb K ca fa) P w K mg base "_law_refusals_right" ["_law_well_here", "_law_shelf"] [] 7 d_Lrefusals_right) (F_power_of : Fd (tb K ca fa) P w K mg base "power_of" ["rack", "many"] [["many", "rack"]] 5 d_power_of) (F_put_times : Fd (tb K ca fa) P w K mg base "put_times" ["one", "two"] [] 4 d_put_times) :
    FnOk P w K mg base (L2N.CX P w) 8 f fd ["_law_script"] (spD (tb K ca fa) 1 d_law) := by
  refine fn_okF (k := 7) F sc_law rfl (fun cdv A outer s H E hr => ?_)
  have S := sc_law
  unfold b_law
  exact (pss_consF (ps_forF (passes_of rfl) rfl (pi_seqF rfl (pe_sliceF rfl (pe_bin rfl (pe_varF (i := 0) rfl (.inl rfl) rfl rfl) (pe_lstF (pa_consF (pe_conF pe_int (fun _ => .int _)) pa_nilF rfl))) (po_F (.inl ⟨rfl, rfl⟩)) (po_F (.inr ⟨_, _, rfl, rfl, (pe_conF pe_int (fun _ => .int _))⟩)))) (pg_nameF (i := 1) S.nd rfl (.inl rfl) rfl (.inl rfl)) GoG.nm
  (pss_consF (ps_setF (i := 2) S.nd rfl (.inl rfl) rfl (pe_callF F_Lwell hr (by decide) rfl (L2N.takes_of rfl rfl rfl rfl) rfl (pa_consF (pe_varF (i := 1) rfl (.inl rfl) rfl rfl) pa_nilF rfl) rfl rfl rfl) rfl (.inl rfl))
  (pss_consF (ps_setF (i := 3) S.nd rfl (.inl rfl) rfl (pe_callF F_Lrack hr (by decide) rfl (L2N.takes_of rfl rfl rfl rfl) rfl (pa_consF (pe_varF (i := 2) rfl (.inl rfl) rfl rfl) (pa_consF (pe_conF pe_int (fun _ => .int _)) (pa_consF (pe_ixF rfl (pe_lstF (pa_consF (pe_conF pe_int (fun _ => .int _)) (pa_consF (pe_conF pe_int (fun _ => .int _)) (pa_consF (pe_conF pe_int (fun _ => .int _)) pa_nilF rfl) rfl) rfl)) (pe_callF F_Ldraw hr (by decide) rfl (L2N.takes_of rfl rfl rfl rfl) rfl (pa_consF (pe_varF (i := 2) rfl (.inl rfl) rfl rfl) (pa_consF (pe_conF pe_int (fun _ => .int _)) pa_nilF rfl) rfl) rfl rfl rfl) (fun _ _ => rfl)) pa_nilF rfl) rfl) rfl) rfl rfl rfl) rfl (.inl rfl))
  (pss_consF (ps_setF (i := 4) S.nd rfl (.inl rfl) rfl (pe_ixF rfl (pe_lstF (pa_consF (pe_bin rfl (pe_conF pe_int (fun _ => .int _)) (pe_callF F_Ldraw hr (by decide) rfl (L2N.takes_of rfl rfl rfl rfl) rfl (pa_consF (pe_varF (i := 2) rfl (.inl rfl) rfl rfl) (pa_consF (pe_conF pe_int (fun _ => .int _)) pa_nilF rfl) rfl) rfl rfl rfl)) (pa_consF (pe_bin rfl (pe_conF pe_int (fun _ => .int _)) (pe_callF F_Ldraw hr (by decide) rfl (L2N.takes_of rfl rfl rfl rfl) rfl (pa_consF (pe_varF (i := 2) rfl (.inl rfl) rfl rfl) (pa_consF (pe_conF pe_int (fun _ => .int _)) pa_nilF rfl) rfl) rfl rfl rfl)) pa_nilF rfl) rfl)) (pe_callF F_Ldraw hr (by decide) rfl (L2N.takes_of rfl rfl rfl rfl) rfl (pa_consF (pe_varF (i := 2) rfl (.inl rfl) rfl rfl) (pa_consF (pe_conF pe_int (fun _ => .int _)) pa_nilF rfl) rfl) rfl rfl rfl) (fun _ _ => rfl)) rfl (.inl rfl))
  (pss_consF (ps_setF (i := 5) S.nd rfl (.inl rfl) rfl (pe_bi (call_minA rfl) fo_min rfl m_min PyProof.Rows.boot_min (pa_consF (pe_conF pe_int (fun _ => .int _)) (pa_consF (pe_bin rfl (pe_bin rfl (pe_conF pe_int (fun _ => .int _)) (pe_varF (i := 4) rfl (.inl rfl) rfl rfl)) (pe_callF F_Ldraw hr (by decide) rfl (L2N.takes_of rfl rfl rfl rfl) rfl (pa_consF (pe_varF (i := 2) rfl (.inl rfl) rfl rfl) (pa_consF (pe_conF pe_int (fun _ => .int _)) pa_nilF rfl) rfl) rfl rfl rfl)) pa_nilF rfl) rfl) (by decide) rfl rfl rfl) rfl (.inl rfl))
  (pss_consF (ps_forF (passes_of rfl) rfl (pi_seqF rfl (pe_lstF (pa_consF (pe_varF (i := 3) rfl (.inl rfl) rfl rfl) (pa_consF (pe_tupF (pa_consF (pe_varF (i := 5) rfl (.inl rfl) rfl rfl) pa_nilF rfl)) (pa_consF (pe_tupF (pa_consF (pe_conF pe_int (fun _ => .int _)) (pa_consF (pe_varF (i := 5) rfl (.inl rfl) rfl rfl) pa_nilF rfl) rfl)) (pa_consF (pe_tm0F rfl (pe_sliceF rfl (pe_varF (i := 3) rfl (.inl rfl) rfl rfl) (po_F (.inl ⟨rfl, rfl⟩)) (po_F (.inr ⟨_, _, rfl, rfl, (pe_conF pe_int (fun _ => .int _))⟩))) (pe_conF pe_int (fun _ => .int _))) (pa_consF (pe_tupF pa_nilF) pa_nilF rfl) rfl) rfl) rfl) rfl))) (pg_nameF (i := 6) S.nd rfl (.inl rfl) rfl (.inl rfl)) GoG.nm
  (pss_consF (ps_setF (i := 7) S.nd rfl (.inl rfl) rfl (pe_callF F_Ltold hr (by decide) rfl (L2N.takes_of rfl rfl rfl rfl) rfl (pa_consF (pe_varF (i := 6) rfl (.inl rfl) rfl rfl) (pa_consF (pe_varF (i := 4) rfl (.inl rfl) rfl rfl) pa_nilF rfl) rfl) rfl rfl rfl) rfl (.inl rfl))
  (pss_consF (ps_ifF (PW.pt (pw_orF (pt_cmpF rfl (hu65 hr) rfl (pe_varF (i := 7) rfl (.inl rfl) rfl rfl) (pe_callF F_Ldue hr (by decide) rfl (L2N.takes_of rfl rfl rfl rfl) rfl (pa_consF (pe_varF (i := 6) rfl (.inl rfl) rfl rfl) (pa_consF (pe_varF (i := 4) rfl (.inl rfl) rfl rfl) pa_nilF rfl) rfl) rfl rfl rfl)) (pw_or1 (PW.pt (pw_andF (pt_cmpF rfl (hu65 hr) rfl (pe_ixF rfl (pe_varF (i := 7) rfl (.inl rfl) rfl rfl) (pe_conF pe_int (fun _ => .int _)) (fun _ _ => rfl)) (pe_conF pe_str (fun _ => .str _))) (pw_and1 (pt_notF (pt_truthF rfl (pe_bi call_isiA fo_isi rfl m_isinstance PyProof.Rows.boot_isinstance (pa_consF (pe_ixF rfl (pe_varF (i := 7) rfl (.inl rfl) rfl rfl) (pe_conF pe_int (fun _ => .int _)) (fun _ _ => rfl)) (pa_consF (pe_conF (pe_bltn (v := .ty "tuple") rfl m_tuple PyProof.Rows.boot_tuple rfl) (fun _ => .ty _)) pa_nilF rfl) rfl) (by decide) rfl rfl rfl) (fun _ => rfl)))))))))
  (pss_consF (ps_retF (pe_conF pe_bl (fun _ => .bl _)))
  pss_nilF)
  pss_nilF)
  pss_nilF)) (fun _ => rfl))
  (pss_consF (ps_ifF (PW.pt (pw_orF (pt_notF (pt_truthF rfl (pe_callF F_Lrefusals_right hr (by decide) rfl (L2N.takes_of rfl rfl rfl rfl) rfl (pa_consF (pe_varF (i := 2) rfl (.inl rfl) rfl rfl) (pa_consF (pe_varF (i := 3) rfl (.inl rfl) rfl rfl) pa_nilF rfl) rfl) rfl rfl rfl) (fun _ => rfl))) (pw_or1 (pt_cmpF rfl (hu65 hr) rfl (pe_callF F_power_of hr (by decide) rfl (L2N.takes_of rfl rfl rfl rfl) rfl (pa_consF (pe_varF (i := 3) rfl (.inl rfl) rfl rfl) (pa_consF (pe_conF pe_int (fun _ => .int _)) pa_nilF rfl) rfl) rfl rfl rfl) (pe_varF (i := 3) rfl (.inl rfl) rfl rfl)))))
  (pss_consF (ps_retF (pe_conF pe_bl (fun _ => .bl _)))
  pss_nilF)
  pss_nilF)
  (pss_consF (ps_ifF (PW.pt (pw_orF (pt_cmpF rfl (hu65 hr) rfl (pe_callKF (ks := ["many", "rack"]) F_power_of hr (by decide) rfl (L2N.takes_of rfl rfl rfl rfl) (.head _) (pk_consF (pe_conF pe_int (fun _ => .int _)) (pk_consF (pe_varF (i := 3) rfl (.inl rfl) rfl rfl) pk_nilF)) rfl rfl rfl rfl) (pe_callF F_put_times hr (by decide) rfl (L2N.takes_of rfl rfl rfl rfl) rfl (pa_consF (pe_varF (i := 3) rfl (.inl rfl) rfl rfl) (pa_consF (pe_varF (i := 3) rfl (.inl rfl) rfl rfl) pa_nilF rfl) rfl) rfl rfl rfl)) (pw_or1 (pt_cmpF rfl (hu65 hr) rfl (pe_callF F_power_of hr (by decide) rfl (L2N.takes_of rfl rfl rfl rfl) rfl (pa_consF (pe_varF (i := 3) rfl (.inl rfl) rfl rfl) (pa_consF (pe_conF pe_int (fun _ => .int _)) pa_nilF rfl) rfl) rfl rfl rfl) (pe_ixF rfl (pe_callF F_Ldue hr (by decide) rfl (L2N.takes_of rfl rfl rfl rfl) rfl (pa_consF (pe_varF (i := 3) rfl (.inl rfl) rfl rfl) (pa_consF (pe_conF pe_int (fun _ => .int _)) pa_nilF rfl) rfl) rfl rfl rfl) (pe_conF pe_int (fun _ => .int _)) (fun _ _ => rfl))))))
  (pss_consF (ps_retF (pe_conF pe_bl (fun _ => .bl _)))
  pss_nilF)
  pss_nilF)
  (pss_consF (ps_ifF (pt_cmpF rfl (hu65 hr) rfl (pe_callF F_power_of hr (by decide) rfl (L2N.takes_of rfl rfl rfl rfl) rfl (pa_consF (pe_varF (i := 3) rfl (.inl rfl) rfl rfl) (pa_consF (pe_conF pe_int (fun _ => .int _)) pa_nilF rfl) rfl) rfl rfl rfl) (pe_callF F_put_times hr (by decide) rfl (L2N.takes_of rfl rfl rfl rfl) rfl (pa_consF (pe_callF F_put_times hr (by decide) rfl (L2N.takes_of rfl rfl rfl rfl) rfl (pa_consF (pe_varF (i := 3) rfl (.inl rfl) rfl rfl) (pa_consF (pe_varF (i := 3) rfl (.inl rfl) rfl rfl) pa_nilF rfl) rfl) rfl rfl rfl) (pa_consF (pe_varF (i := 3) rfl (.inl rfl) rfl rfl) pa_nilF rfl) rfl) rfl rfl rfl))
  (pss_consF (ps_retF (pe_conF pe_bl (fun _ => .bl _)))
  pss_nilF)
  pss_nilF)
  pss_nilF)))))))) (fun _ => rfl))
  (pss_consF (ps_retF (pe_conF pe_bl (fun _ => .bl _)))
  pss_nilF))
end
theorem all_mk {l : PySem.W.OpenLaw} {w : World} {K : PySem.W.Frag} {h : Heap} {mg : Str → Option Value} {fa0 : Addr} (X : K.In h) (G : h.Ns mainGlobals mg) (hfa : mg "law" = some (.ref fa0))
    {C0 : Addr}
    (aC0 : PySem.W.nsIn K mainGlobals "NoRack" = some (some (.ref C0)))
    (xq0 : PySem.W.excIn K C0 [.type "ValueError", .type "Exception", .type "BaseException", .type "object"] "ValueError.__new__" = true)
    (xk0 : PySem.W.keepIn K (.ref C0) = true)
    (xb0 : PySem.W.subIn K (.ref C0) (.type "BaseException") = some true)
    (xt0 : PySem.W.typeIn K (.ref C0) = some (.type "type"))
    (xg0 : PySem.W.findIn K (.ref C0) "__getattribute__" = some (some (.builtin "BaseException.__getattribute__")))
    (xa0 : PySem.W.findIn K (.ref C0) "__getattr__" = some none)
    (xd0 : PySem.W.hasDictIn K C0 = true)
    (xo0 : PySem.W.findIn K (.ref C0) "__class__" = some (some (.builtin "object.__class__")))
    (xm0 : PySem.W.mroIn K C0 (.type "object") = some true)
    {C1 : Addr}
    (aC1 : PySem.W.nsIn K mainGlobals "NoNumber" = some (some (.ref C1)))
    (xq1 : PySem.W.excIn K C1 [.type "ValueError", .type "Exception", .type "BaseException", .type "object"] "ValueError.__new__" = true)
    (xk1 : PySem.W.keepIn K (.ref C1) = true)
    (xb1 : PySem.W.subIn K (.ref C1) (.type "BaseException") = some true)
    (xt1 : PySem.W.typeIn K (.ref C1) = some (.type "type"))
    (xg1 : PySem.W.findIn K (.ref C1) "__getattribute__" = some (some (.builtin "BaseException.__getattribute__")))
    (xa1 : PySem.W.findIn K (.ref C1) "__getattr__" = some none)
    (xd1 : PySem.W.hasDictIn K C1 = true)
    (xo1 : PySem.W.findIn K (.ref C1) "__class__" = some (some (.builtin "object.__class__")))
    (xm1 : PySem.W.mroIn K C1 (.type "object") = some true)
    {C2 : Addr}
    (aC2 : PySem.W.nsIn K mainGlobals "TooMuch" = some (some (.ref C2)))
    (xq2 : PySem.W.excIn K C2 [.type "ValueError", .type "Exception", .type "BaseException", .type "object"] "ValueError.__new__" = true)
    (xk2 : PySem.W.keepIn K (.ref C2) = true)
    (xb2 : PySem.W.subIn K (.ref C2) (.type "BaseException") = some true)
    (xt2 : PySem.W.typeIn K (.ref C2) = some (.type "type"))
    (xg2 : PySem.W.findIn K (.ref C2) "__getattribute__" = some (some (.builtin "BaseException.__getattribute__")))
    (xa2 : PySem.W.findIn K (.ref C2) "__getattr__" = some none)
    (xd2 : PySem.W.hasDictIn K C2 = true)
    (xo2 : PySem.W.findIn K (.ref C2) "__class__" = some (some (.builtin "object.__class__")))
    (xm2 : PySem.W.mroIn K C2 (.type "object") = some true)
    {C3 : Addr}
    (aC3 : PySem.W.nsIn K mainGlobals "SwapError" = some (some (.ref C3)))
    {C4 : Addr}
    (aC4 : PySem.W.nsIn K mainGlobals "NoTrees" = some (some (.ref C4)))
    (ex_0_0 : PySem.W.exmOne K (.ref C0) (.ref C0) = some true)
    (ex_0_1 : PySem.W.exmOne K (.ref C0) (.ref C1) = some false)
    (ex_0_2 : PySem.W.exmOne K (.ref C0) (.ref C2) = some false)
    (ex_0_4 : PySem.W.exmOne K (.ref C0) (.ref C4) = some false)
    (ex_0_3 : PySem.W.exmOne K (.ref C0) (.ref C3) = some true)
    (ex_2_0 : PySem.W.exmOne K (.ref C2) (.ref C0) = some false)
    (ex_2_1 : PySem.W.exmOne K (.ref C2) (.ref C1) = some false)
    (ex_2_2 : PySem.W.exmOne K (.ref C2) (.ref C2) = some true)
    (ex_2_4 : PySem.W.exmOne K (.ref C2) (.ref C4) = some false)
    (ex_2_3 : PySem.W.exmOne K (.ref C2) (.ref C3) = some true)
    (ex_1_0 : PySem.W.exmOne K (.ref C1) (.ref C0) = some false)
    (ex_1_1 : PySem.W.exmOne K (.ref C1) (.ref C1) = some true)
    (ex_1_2 : PySem.W.exmOne K (.ref C1) (.ref C2) = some false)
    (ex_1_4 : PySem.W.exmOne K (.ref C1) (.ref C4) = some false)
    (ex_1_3 : PySem.W.exmOne K (.ref C1) (.ref C3) = some true)
    (kx_0 : PySem.W.kitOne K (.ref C0) (.ref C0) = some true)
    (kx_1 : PySem.W.kitOne K (.ref C0) (.ref C1) = some false)
    (kx_2 : PySem.W.kitOne K (.ref C0) (.ref C2) = some false)
    (kx_3 : PySem.W.kitOne K (.ref C0) (.ref C4) = some false)
    (kx_4 : PySem.W.kitOne K (.ref C0) (.type "ValueError") = some true)
    (kx_5 : PySem.W.kitOne K (.ref C2) (.ref C0) = some false)
    (kx_6 : PySem.W.kitOne K (.ref C2) (.ref C1) = some false)
    (kx_7 : PySem.W.kitOne K (.ref C2) (.ref C2) = some true)
    (kx_8 : PySem.W.kitOne K (.ref C2) (.ref C4) = some false)
    (kx_9 : PySem.W.kitOne K (.ref C2) (.type "ValueError") = some true)
    (kx_10 : PySem.W.kitOne K (.ref C1) (.ref C0) = some false)
    (kx_11 : PySem.W.kitOne K (.ref C1) (.ref C1) = some true)
    (kx_12 : PySem.W.kitOne K (.ref C1) (.ref C2) = some false)
    (kx_13 : PySem.W.kitOne K (.ref C1) (.ref C4) = some false)
    (kx_14 : PySem.W.kitOne K (.ref C1) (.type "ValueError") = some true)
    (xoN : PySem.W.specialIn K (.builtin "object.__class__") "__get__" = some (some (.builtin "getset_descriptor.__get__")))
    (xoT : PySem.W.takesIn K (.builtin "object.__class__") = some true)
    {od0 an0 : Option Addr} {sl0 : Array (Option Value)} {oc0 kV0 dc0 pm0 cd0 ct0 : Value} {f0 : Addr}
    (a0 : PySem.W.nsIn K mainGlobals "_law_well" = some (some (.ref f0)))
    (l0 : K.lookup f0 = some ⟨oc0, od0, .func (PySem.W.fnOf "_law_well" "_law_well" (defArgs s_Lwell) (defBody s_Lwell) (defScope s_Lwell) .none kV0 dc0 pm0 an0 cd0 ct0), sl0⟩)
    (c0 : PySem.W.codeIn K cd0 "_law_well" = true)
    (k0 : PySem.W.keepIn K (.ref f0) = true)
    {od1 an1 : Option Addr} {sl1 : Array (Option Value)} {oc1 kV1 dc1 pm1 cd1 ct1 : Value} {f1 : Addr}
    (a1 : PySem.W.nsIn K mainGlobals "_law_draw" = some (some (.ref f1)))
    (l1 : K.lookup f1 = some ⟨oc1, od1, .func (PySem.W.fnOf "_law_draw" "_law_draw" (defArgs s_Ldraw) (defBody s_Ldraw) (defScope s_Ldraw) .none kV1 dc1 pm1 an1 cd1 ct1), sl1⟩)
    (c1 : PySem.W.codeIn K cd1 "_law_draw" = true)
    (k1 : PySem.W.keepIn K (.ref f1) = true)
    {od2 an2 : Option Addr} {sl2 : Array (Option Value)} {oc2 kV2 dc2 pm2 cd2 ct2 : Value} {f2 : Addr}
    (a2 : PySem.W.nsIn K mainGlobals "_law_rack" = some (some (.ref f2)))
    (l2 : K.lookup f2 = some ⟨oc2, od2, .func (PySem.W.fnOf "_law_rack" "_law_rack" (defArgs s_Lrack) (defBody s_Lrack) (defScope s_Lrack) .none kV2 dc2 pm2 an2 cd2 ct2), sl2⟩)
    (c2 : PySem.W.codeIn K cd2 "_law_rack" = true)
    (k2 : PySem.W.keepIn K (.ref f2) = true)
    {od3 an3 : Option Addr} {sl3 : Array (Option Value)} {oc3 kV3 dc3 pm3 cd3 ct3 : Value} {f3 : Addr}
    (a3 : PySem.W.nsIn K mainGlobals "is_whole" = some (some (.ref f3)))
    (l3 : K.lookup f3 = some ⟨oc3, od3, .func (PySem.W.fnOf "is_whole" "is_whole" (defArgs s_is_whole) (defBody s_is_whole) (defScope s_is_whole) .none kV3 dc3 pm3 an3 cd3 ct3), sl3⟩)
    (c3 : PySem.W.codeIn K cd3 "is_whole" = true)
    (k3 : PySem.W.keepIn K (.ref f3) = true)
    {od4 an4 : Option Addr} {sl4 : Array (Option Value)} {oc4 kV4 dc4 pm4 cd4 ct4 : Value} {f4 : Addr}
    (a4 : PySem.W.nsIn K mainGlobals "is_rack" = some (some (.ref f4)))
    (l4 : K.lookup f4 = some ⟨oc4, od4, .func (PySem.W.fnOf "is_rack" "is_rack" (defArgs s_is_rack) (defBody s_is_rack) (defScope s_is_rack) .none kV4 dc4 pm4 an4 cd4 ct4), sl4⟩)
    (c4 : PySem.W.codeIn K cd4 "is_rack" = true)
    (k4 : PySem.W.keepIn K (.ref f4) = true)
    {od5 an5 : Option Addr} {sl5 : Array (Option Value)} {oc5 kV5 dc5 pm5 cd5 ct5 : Value} {f5 : Addr}
    (a5 : PySem.W.nsIn K mainGlobals "rack_unless" = some (some (.ref f5)))
    (l5 : K.lookup f5 = some ⟨oc5, od5, .func (PySem.W.fnOf "rack_unless" "rack_unless" (defArgs s_rack_unless) (defBody s_rack_unless) (defScope s_rack_unless) .none kV5 dc5 pm5 an5 cd5 ct5), sl5⟩)
    (c5 : PySem.W.codeIn K cd5 "rack_unless" = true)
    (k5 : PySem.W.keepIn K (.ref f5) = true)
    {od6 an6 : Option Addr} {sl6 : Array (Option Value)} {oc6 kV6 dc6 pm6 cd6 ct6 : Value} {f6 : Addr}
    (a6 : PySem.W.nsIn K mainGlobals "sure_rack" = some (some (.ref f6)))
    (l6 : K.lookup f6 = some ⟨oc6, od6, .func (PySem.W.fnOf "sure_rack" "sure_rack" (defArgs s_sure_rack) (defBody s_sure_rack) (defScope s_sure_rack) .none kV6 dc6 pm6 an6 cd6 ct6), sl6⟩)
    (c6 : PySem.W.codeIn K cd6 "sure_rack" = true)
    (k6 : PySem.W.keepIn K (.ref f6) = true)
    {od7 an7 : Option Addr} {sl7 : Array (Option Value)} {oc7 kV7 dc7 pm7 cd7 ct7 : Value} {f7 : Addr}
    (a7 : PySem.W.nsIn K mainGlobals "sure_small" = some (some (.ref f7)))
    (l7 : K.lookup f7 = some ⟨oc7, od7, .func (PySem.W.fnOf "sure_small" "sure_small" (defArgs s_sure_small) (defBody s_sure_small) (defScope s_sure_small) .none kV7 dc7 pm7 an7 cd7 ct7), sl7⟩)
    (c7 : PySem.W.codeIn K cd7 "sure_small" = true)
    (k7 : PySem.W.keepIn K (.ref f7) = true)
    {od8 an8 : Option Addr} {sl8 : Array (Option Value)} {oc8 kV8 dc8 pm8 cd8 ct8 : Value} {f8 : Addr}
    (a8 : PySem.W.nsIn K mainGlobals "put_times" = some (some (.ref f8)))
    (l8 : K.lookup f8 = some ⟨oc8, od8, .func (PySem.W.fnOf "put_times" "put_times" (defArgs s_put_times) (defBody s_put_times) (defScope s_put_times) .none kV8 dc8 pm8 an8 cd8 ct8), sl8⟩)
    (c8 : PySem.W.codeIn K cd8 "put_times" = true)
    (k8 : PySem.W.keepIn K (.ref f8) = true)
    {od9 an9 : Option Addr} {sl9 : Array (Option Value)} {oc9 kV9 dc9 pm9 cd9 ct9 : Value} {f9 : Addr}
    (a9 : PySem.W.nsIn K mainGlobals "power_of" = some (some (.ref f9)))
    (l9 : K.lookup f9 = some ⟨oc9, od9, .func (PySem.W.fnOf "power_of" "power_of" (defArgs s_power_of) (defBody s_power_of) (defScope s_power_of) .none kV9 dc9 pm9 an9 cd9 ct9), sl9⟩)
    (c9 : PySem.W.codeIn K cd9 "power_of" = true)
    (k9 : PySem.W.keepIn K (.ref f9) = true)
    {od10 an10 : Option Addr} {sl10 : Array (Option Value)} {oc10 kV10 dc10 pm10 cd10 ct10 : Value} {f10 : Addr}
    (a10 : PySem.W.nsIn K mainGlobals "_law_class" = some (some (.ref f10)))
    (l10 : K.lookup f10 = some ⟨oc10, od10, .func (PySem.W.fnOf "_law_class" "_law_class" (defArgs s_Lclass) (defBody s_Lclass) (defScope s_Lclass) .none kV10 dc10 pm10 an10 cd10 ct10), sl10⟩)
    (c10 : PySem.W.codeIn K cd10 "_law_class" = true)
    (k10 : PySem.W.keepIn K (.ref f10) = true)
    {od11 an11 : Option Addr} {sl11 : Array (Option Value)} {oc11 kV11 dc11 pm11 cd11 ct11 : Value} {f11 : Addr}
    (a11 : PySem.W.nsIn K mainGlobals "_law_told" = some (some (.ref f11)))
    (l11 : K.lookup f11 = some ⟨oc11, od11, .func (PySem.W.fnOf "_law_told" "_law_told" (defArgs s_Ltold) (defBody s_Ltold) (defScope s_Ltold) .none kV11 dc11 pm11 an11 cd11 ct11), sl11⟩)
    (c11 : PySem.W.codeIn K cd11 "_law_told" = true)
    (k11 : PySem.W.keepIn K (.ref f11) = true)
    {od12 an12 : Option Addr} {sl12 : Array (Option Value)} {oc12 kV12 dc12 pm12 cd12 ct12 : Value} {f12 : Addr}
    (a12 : PySem.W.nsIn K mainGlobals "_law_due" = some (some (.ref f12)))
    (l12 : K.lookup f12 = some ⟨oc12, od12, .func (PySem.W.fnOf "_law_due" "_law_due" (defArgs s_Ldue) (defBody s_Ldue) (defScope s_Ldue) .none kV12 dc12 pm12 an12 cd12 ct12), sl12⟩)
    (c12 : PySem.W.codeIn K cd12 "_law_due" = true)
    (k12 : PySem.W.keepIn K (.ref f12) = true)
    {od13 an13 : Option Addr} {sl13 : Array (Option Value)} {oc13 kV13 dc13 pm13 cd13 ct13 : Value} {f13 : Addr}
    (a13 : PySem.W.nsIn K mainGlobals "_law_refusals_right" = some (some (.ref f13)))
    (l13 : K.lookup f13 = some ⟨oc13, od13, .func (PySem.W.fnOf "_law_refusals_right" "_law_refusals_right" (defArgs s_Lrefusals_right) (defBody s_Lrefusals_right) (defScope s_Lrefusals_right) .none kV13 dc13 pm13 an13 cd13 ct13), sl13⟩)
    (c13 : PySem.W.codeIn K cd13 "_law_refusals_right" = true)
    (k13 : PySem.W.keepIn K (.ref f13) = true)
    {od14 an14 : Option Addr} {sl14 : Array (Option Value)} {oc14 kV14 dc14 pm14 cd14 ct14 : Value} {f14 : Addr}
    (a14 : PySem.W.nsIn K mainGlobals "law" = some (some (.ref f14)))
    (l14 : K.lookup f14 = some ⟨oc14, od14, .func (PySem.W.fnOf "law" "law" (defArgs s_law) (defBody s_law) (defScope s_law) .none kV14 dc14 pm14 an14 cd14 ct14), sl14⟩)
    (c14 : PySem.W.codeIn K cd14 "law" = true)
    (k14 : PySem.W.keepIn K (.ref f14) = true)
    (z_int : PySem.W.nsIn K mainGlobals "int" = some none)
    (z_divmod : PySem.W.nsIn K mainGlobals "divmod" = some none)
    (z_range : PySem.W.nsIn K mainGlobals "range" = some none)
    (z_tuple : PySem.W.nsIn K mainGlobals "tuple" = some none)
    (z_isinstance : PySem.W.nsIn K mainGlobals "isinstance" = some none)
    (z_bool : PySem.W.nsIn K mainGlobals "bool" = some none)
    (z_len : PySem.W.nsIn K mainGlobals "len" = some none)
    (z_all : PySem.W.nsIn K mainGlobals "all" = some none)
    (z_ValueError : PySem.W.nsIn K mainGlobals "ValueError" = some none)
    (z_max : PySem.W.nsIn K mainGlobals "max" = some none)
    (z_min : PySem.W.nsIn K mainGlobals "min" = some none)
    {tk_MOST_FORMS : Tok}
    (y_MOST_FORMS : PySem.W.nsIn K mainGlobals "MOST_FORMS" = some (some (.int 4000 tk_MOST_FORMS)))
    {tk_MOST_TREES : Tok}
    (y_MOST_TREES : PySem.W.nsIn K mainGlobals "MOST_TREES" = some (some (.int 200 tk_MOST_TREES)))
    {tk_MOST_POWER : Tok}
    (y_MOST_POWER : PySem.W.nsIn K mainGlobals "MOST_POWER" = some (some (.int 12 tk_MOST_POWER))) :
    ∃ fd : FuncData, (∀ (s : Shared) (v : Value), BindsTo s fd ⟨[v], []⟩ [("_law_script", v)]) ∧ ∀ base : Heap, K.In base → base.Ns mainGlobals mg → FnOk l.prog w K mg base (L2N.CX l.prog w) 8 fa0 fd ["_law_script"] (fun vs H Q E => ∀ ca, spD (tb K ca (fun _ => 0)) 1 d_law vs H Q E) := by
  have e := hfa.symm.trans (PySem.W.mg_of X G a14)
  cases e
  refine ⟨PySem.W.fnOf "law" "law" (defArgs s_law) (defBody s_law) (defScope s_law) .none kV14 dc14 pm14 an14 cd14 ct14, fun s v => .of_eq rfl, fun base _ _ => ?_⟩
  obtain ⟨ca, hca⟩ : ∃ ca : Nat → Addr, ca = (fun n => [C0, C1, C2, C3, C4].getD n 0) := ⟨_, rfl⟩
  have m_int := PySem.W.mg_none_of X G z_int
  have m_divmod := PySem.W.mg_none_of X G z_divmod
  have m_range := PySem.W.mg_none_of X G z_range
  have m_tuple := PySem.W.mg_none_of X G z_tuple
  have m_isinstance := PySem.W.mg_none_of X G z_isinstance
  have m_bool := PySem.W.mg_none_of X G z_bool
  have m_len := PySem.W.mg_none_of X G z_len
  have m_all := PySem.W.mg_none_of X G z_all
  have m_ValueError := PySem.W.mg_none_of X G z_ValueError
  have m_max := PySem.W.mg_none_of X G z_max
  have m_min := PySem.W.mg_none_of X G z_min
  have g_MOST_FORMS := PySem.W.mg_of X G y_MOST_FORMS
  have g_MOST_TREES := PySem.W.mg_of X G y_MOST_TREES
  have g_MOST_POWER := PySem.W.mg_of X G y_MOST_POWER
  have eC0 : ca 0 = C0 := by rw [hca]; rfl
  have gX_NoRack : mg "NoRack" = some (.ref (ca 0)) := by rw [eC0]; exact PySem.W.mg_of X G aC0
  have XC_NoRack : Xc K (ca 0) := by rw [eC0]; exact ⟨xq0, xk0, xb0, xt0⟩
  have Xi0 : Xi K (ca 0) := by rw [eC0]; exact ⟨xg0, xa0, xb0, xd0, xo0, xm0⟩
  have eC1 : ca 1 = C1 := by rw [hca]; rfl
  have gX_NoNumber : mg "NoNumber" = some (.ref (ca 1)) := by rw [eC1]; exact PySem.W.mg_of X G aC1
  have XC_NoNumber : Xc K (ca 1) := by rw [eC1]; exact ⟨xq1, xk1, xb1, xt1⟩
  have Xi1 : Xi K (ca 1) := by rw [eC1]; exact ⟨xg1, xa1, xb1, xd1, xo1, xm1⟩
  have eC2 : ca 2 = C2 := by rw [hca]; rfl
  have gX_TooMuch : mg "TooMuch" = some (.ref (ca 2)) := by rw [eC2]; exact PySem.W.mg_of X G aC2
  have XC_TooMuch : Xc K (ca 2) := by rw [eC2]; exact ⟨xq2, xk2, xb2, xt2⟩
  have Xi2 : Xi K (ca 2) := by rw [eC2]; exact ⟨xg2, xa2, xb2, xd2, xo2, xm2⟩
  have eC3 : ca 3 = C3 := by rw [hca]; rfl
  have gX_SwapError : mg "SwapError" = some (.ref (ca 3)) := by rw [eC3]; exact PySem.W.mg_of X G aC3
  have eC4 : ca 4 = C4 := by rw [hca]; rfl
  have gX_NoTrees : mg "NoTrees" = some (.ref (ca 4)) := by rw [eC4]; exact PySem.W.mg_of X G aC4
  have XT : XtOk K ca xtab := by unfold xtab; exact (xt_cons (by rw [eC0]; exact ex_0_0) (xt_cons (by rw [eC0, eC1]; exact ex_0_1) (xt_cons (by rw [eC0, eC2]; exact ex_0_2) (xt_cons (by rw [eC0, eC4]; exact ex_0_4) (xt_cons (by rw [eC0, eC3]; exact ex_0_3) (xt_cons (by rw [eC2, eC0]; exact ex_2_0) (xt_cons (by rw [eC2, eC1]; exact ex_2_1) (xt_cons (by rw [eC2]; exact ex_2_2) (xt_cons (by rw [eC2, eC4]; exact ex_2_4) (xt_cons (by rw [eC2, eC3]; exact ex_2_3) (xt_cons (by rw [eC1, eC0]; exact ex_1_0) (xt_cons (by rw [eC1]; exact ex_1_1) (xt_cons (by rw [eC1, eC2]; exact ex_1_2) (xt_cons (by rw [eC1, eC4]; exact ex_1_4) (xt_cons (by rw [eC1, eC3]; exact ex_1_3) xt_nil)))))))))))))))
  have XO : Xo K := ⟨xoN, xoT⟩
  have KT : KtOk K ca ktab := by unfold ktab; exact (kt_cons (by show PySem.W.kitOne K (.ref (ca 0)) (.ref (ca 0)) = _; rw [eC0]; exact kx_0) (kt_cons (by show PySem.W.kitOne K (.ref (ca 0)) (.ref (ca 1)) = _; rw [eC0, eC1]; exact kx_1) (kt_cons (by show PySem.W.kitOne K (.ref (ca 0)) (.ref (ca 2)) = _; rw [eC0, eC2]; exact kx_2) (kt_cons (by show PySem.W.kitOne K (.ref (ca 0)) (.ref (ca 4)) = _; rw [eC0, eC4]; exact kx_3) (kt_cons (by show PySem.W.kitOne K (.ref (ca 0)) (.type "ValueError") = _; rw [eC0]; exact kx_4) (kt_cons (by show PySem.W.kitOne K (.ref (ca 2)) (.ref (ca 0)) = _; rw [eC2, eC0]; exact kx_5) (kt_cons (by show PySem.W.kitOne K (.ref (ca 2)) (.ref (ca 1)) = _; rw [eC2, eC1]; exact kx_6) (kt_cons (by show PySem.W.kitOne K (.ref (ca 2)) (.ref (ca 2)) = _; rw [eC2]; exact kx_7) (kt_cons (by show PySem.W.kitOne K (.ref (ca 2)) (.ref (ca 4)) = _; rw [eC2, eC4]; exact kx_8) (kt_cons (by show PySem.W.kitOne K (.ref (ca 2)) (.type "ValueError") = _; rw [eC2]; exact kx_9) (kt_cons (by show PySem.W.kitOne K (.ref (ca 1)) (.ref (ca 0)) = _; rw [eC1, eC0]; exact kx_10) (kt_cons (by show PySem.W.kitOne K (.ref (ca 1)) (.ref (ca 1)) = _; rw [eC1]; exact kx_11) (kt_cons (by show PySem.W.kitOne K (.ref (ca 1)) (.ref (ca 2)) = _; rw [eC1, eC2]; exact kx_12) (kt_cons (by show PySem.W.kitOne K (.ref (ca 1)) (.ref (ca 4)) = _; rw [eC1, eC4]; exact kx_13) (kt_cons (by show PySem.W.kitOne K (.ref (ca 1)) (.type "ValueError") = _; rw [eC1]; exact kx_14) kt_nil)))))))))))))))
  have XI : XiOk K ca xtab := xi_of [0, 2, 1] (List.forall_mem_cons.mpr ⟨Xi0, List.forall_mem_cons.mpr ⟨Xi2, List.forall_mem_cons.mpr ⟨Xi1, fun _ h => nomatch h⟩⟩⟩) (by decide +kernel)
  have F_Lwell := ok_Lwell (P := l.prog) (w := w) (base := base) (ca := ca) (fa := fun _ => 0) (fun_mk (st := s_Lwell) l0 c0 k0) (PySem.W.mg_of X G a0) m_int
  have F_Ldraw := ok_Ldraw (P := l.prog) (w := w) (base := base) (ca := ca) (fa := fun _ => 0) (fun_mk (st := s_Ldraw) l1 c1 k1) (PySem.W.mg_of X G a1) m_divmod
  have F_Lrack := ok_Lrack (P := l.prog) (w := w) (base := base) (ca := ca) (fa := fun _ => 0) (fun_mk (st := s_Lrack) l2 c2 k2) (PySem.W.mg_of X G a2) m_range m_tuple F_Ldraw
  have F_is_whole := ok_is_whole (P := l.prog) (w := w) (base := base) (ca := ca) (fa := fun _ => 0) (fun_mk (st := s_is_whole) l3 c3 k3) (PySem.W.mg_of X G a3) m_int m_isinstance m_bool
  have F_is_rack := ok_is_rack (P := l.prog) (w := w) (base := base) (ca := ca) (fa := fun _ => 0) (fun_mk (st := s_is_rack) l4 c4 k4) (PySem.W.mg_of X G a4) m_tuple m_isinstance m_len m_all g_MOST_FORMS g_MOST_TREES F_is_whole
  have F_rack_unless := ok_rack_unless (P := l.prog) (w := w) (base := base) (ca := ca) (fa := fun _ => 0) (fun_mk (st := s_rack_unless) l5 c5 k5) (PySem.W.mg_of X G a5) XC_NoRack gX_NoRack F_is_rack
  have F_sure_rack := ok_sure_rack (P := l.prog) (w := w) (base := base) (ca := ca) (fa := fun _ => 0) (fun_mk (st := s_sure_rack) l6 c6 k6) (PySem.W.mg_of X G a6) XC_NoRack gX_NoRack F_is_rack
  have F_sure_small := ok_sure_small (P := l.prog) (w := w) (base := base) (ca := ca) (fa := fun _ => 0) (fun_mk (st := s_sure_small) l7 c7 k7) (PySem.W.mg_of X G a7) XC_TooMuch gX_TooMuch F_is_rack
  have F_put_times := ok_put_times (P := l.prog) (w := w) (base := base) (ca := ca) (fa := fun _ => 0) (fun_mk (st := s_put_times) l8 c8 k8) (PySem.W.mg_of X G a8) m_len m_tuple g_MOST_FORMS XC_TooMuch gX_TooMuch F_sure_rack F_sure_small
  have F_power_of := ok_power_of (P := l.prog) (w := w) (base := base) (ca := ca) (fa := fun _ => 0) (fun_mk (st := s_power_of) l9 c9 k9) (PySem.W.mg_of X G a9) m_range g_MOST_POWER XC_NoNumber gX_NoNumber F_rack_unless F_is_whole F_put_times
  have F_Lclass := ok_Lclass (P := l.prog) (w := w) (base := base) (ca := ca) (fa := fun _ => 0) (fun_mk (st := s_Lclass) l10 c10 k10) (PySem.W.mg_of X G a10) m_isinstance m_ValueError m_len gX_NoRack gX_NoNumber gX_TooMuch gX_NoTrees XT XI XO KT
  have F_Ltold := ok_Ltold (P := l.prog) (w := w) (base := base) (ca := ca) (fa := fun _ => 0) (fun_mk (st := s_Ltold) l11 c11 k11) (PySem.W.mg_of X G a11) gX_SwapError XT XI XO KT F_power_of F_Lclass
  have F_Ldue := ok_Ldue (P := l.prog) (w := w) (base := base) (ca := ca) (fa := fun _ => 0) (fun_mk (st := s_Ldue) l12 c12 k12) (PySem.W.mg_of X G a12) m_range m_len m_max m_tuple
  have F_Lrefusals_right := ok_Lrefusals_right (P := l.prog) (w := w) (base := base) (ca := ca) (fa := fun _ => 0) (fun_mk (st := s_Lrefusals_right) l13 c13 k13) (PySem.W.mg_of X G a13) F_Ldraw F_Ltold
  exact (ok_law (P := l.prog) (w := w) (base := base) (ca := ca) (fa := fun _ => 0) (fun_mk (st := s_law) l14 c14 k14) m_min m_tuple m_isinstance F_Lwell F_Lrack F_Ldraw F_Ltold F_Ldue F_Lrefusals_right F_power_of F_put_times).imp fun vs H Q E h => h ca
end K81

-- CLASS 81
-- PsCons, sIf, sAsg, sRet, sRetN, sNil, sNo, sExpr, sPar, bTb, bTr, bAnd, bOr, bNot, bAndV, bOrV, bNotV, bIfE, bChain, truthD, bCmp, dCmp, dGt, dLt, dLe, dGe, dEq, dNe, dIs, D.isNon, eqv_int, eqv_tup2, Fv.b1, Fv.b2, bP, aCons, aNil, bIx, bVar, bCon, bTup, bLst, dTupN, dLstN, bDic, bSl, bPart, bInt, Ou.bnd, dSl, pS, pSS, pZ, frz1, frzs, pks, pk, dIx, atI, ixN, gTupF, gIx, gNm, gAll, dDivmod, dInt, dAbs, dLen, dIsi, D.tyN, Fv.own1, fRet, finS_nil, finS_t, finS_f, S.d, bBin, dAdd, dSub, dMulS, dMod, dDiv, dPow, dNeg, pCall, pCallZ, movs, mov1, puts, put1, sFor, mPs, mSeq, seqDE
set_option maxHeartbeats 0
namespace K81
open PySem PySem.Spec PyProof.Rows L2 Fv
local macro_rules | `(tactic| simp_arith only [$es,*]) => `(tactic| simp (disch := first | assumption | omega | (simp <;> omega) | fail) only [y_ok, y_ex, y_no, y_nx, y_rt, y_fex, y_fno, y_cok, y_cex, y_var, y_vfr, y_vol, y_vod, y_voi, y_vno, y_con, y_nil, y_cons, y_c1, y_c2, y_P, y_p, y_b2, y_b1, y_add, y_sub, y_mul, y_fdiv, y_mod, y_pow, y_eq, y_ne, y_lt, y_le, y_gt, y_ge, y_is, y_isn, y_in, y_nin, y_ix, y_tup, y_lst, y_pS, k_nil, k_vl, k_pl, k_pp, sd_fr, sd_ol, sd_od, sd_oi, y_pSS, s_nil, s_vl, s_pl, s_pp, z_nil, z_vl, z_pl, z_pp, y_ope, y_pZ, v_nil, v_vl, v_pl, v_pp, y_calle, y_call, y_kcall, y_kcallX, p_nil, p_vl, p_pl, y_callZ, y_calld, y_callD, y_kcallF, y_kcallFX, y_Tb, y_tb, y_Tr, y_trr, y_trp, y_trpp, y_Not, y_knot, y_And, y_Or, y_AndV, y_OrV, y_knotV, y_NotV, y_IfE, y_bot, y_bof, y_bod, y_bon, y_bnd, y_bndk, y_sl, y_sl1, y_sl2, y_sl3, y_part0, y_part1, y_int, y_S, y_s, y_sNil, y_asg, y_asgv, y_asgp, y_asgpp, y_gNm, y_expr, y_kexpr, y_ret, y_retv, y_retp, y_retpp, y_retN, y_if, y_ift, y_iff, y_ifd, y_ifn, y_pare, y_park, y_par, y_gall0, y_gall1, y_gk, y_gtup, y_glst, y_ixv, y_mtk, y_for, y_seq, y_sqv, y_sqp, y_sqpp, y_sqL, y_sqT, y_sqS, y_psl, y_ps, y_lc, y_fin, y_finN, y_finX, n_nil, n_keep, n_fr, x_op, x_os, x_opm, x_tr, x_trm, x_ps, x_psm, x_z, x_zm, x_aug, x_augp, x_augv, x_augm, x_gix, x_gixp, x_ix2, x_ixm, x_mt, x_mtp, x_mte, x_mtq, x_mtm, x_asp, x_ask, x_asq, x_asr, x_ka, x_ka3, x_ka4, y_kli, y_klp, y_klpp, w_nil, w_cons, y_yes, y_kts, y_ktf, y_ktd, y_ktn, y_kfor, f_backL, f_backT, f_add, f_sub, f_neg, f_eqI, f_neI, f_lt, f_le, f_gt, f_ge, f_isN, f_isnN, f_isB, f_isnB, f_slL, f_slT, f_lenL, f_lenT, f_abs, f_max, f_min, f_intI, f_intB, f_listL, f_listT, f_tupL, f_tupT, enumL, enumT, zipL, zipT, aug_add, aug_sub, tr_bl, tr_int, tr_lst, tr_tup, D.isNon, f_tup, f_lst, f_mod, f_divS, f_divmodS, f_div, f_divmod, f_mulI, f_mulJ, f_mul, f_mul0, f_pow, f_addL, f_addT, f_addS, f_lenS, g_app, rngA, rngB, aug_mulI, aug_mulJ, aug_mul, kit_ii, kit_ib, kit_bi, kit_bb, List.getElem?_cons_zero, List.getElem?_cons_succ, List.set_cons_zero, List.set_cons_succ, List.length_cons, List.length_nil, List.nil_append, List.cons_append, List.map_cons, List.map_nil, List.length_append, List.length_map, List.length_replicate, Nat.zero_add, true_and, and_true, decide_true, decide_false, Bool.not_true, Bool.not_false, Bool.true_or, Bool.or_true, Bool.false_or, Bool.or_false, Bool.true_and, Bool.and_true, Bool.false_and, Bool.and_false, beq_self_eq_true, if_true, if_false, ite_true, ite_false, Bool.false_eq_true, reduceIte, true_implies, not_true_eq_false, not_false_eq_true, false_implies, implies_true, List.replicate_succ, List.replicate_zero, Nat.reduceAdd, Nat.reduceSub, Nat.reduceMul, Nat.reduceLT, Nat.reduceEqDiff, Nat.reduceBEq, Nat.reduceLeDiff, Int.cast_ofNat_Int, Int.reduceLT, Int.reduceLE, Int.reduceEq, Int.reduceNe, Int.reduceNeg, Int.reduceAdd, Int.reduceSub, Int.reduceMul, Int.reduceToNat, Int.reducePow, Nat.reducePow, y_ms, y_neT, y_tm, f_tm, eq_bb, ne_bb, y_lce, y_lce1, y_lce2, y_klo, y_rai, y_ktry, y_try, y_hand0, y_hand1, y_hndt, y_hndf, y_go, y_goA, y_kun, y_kur, y_exb, y_kex, y_exi, nf_nil, nf_cons, nf_none, nf_some, nf_fr, nf_ol, nf_od, nf_oi, nf_non, nf_bl, nf_int, nf_str, nf_tup, nf_lst, nf_dic, nf_ins, nfs_nil, nfs_cons, nfs_iL, nfs_sL, nfs_app, y_kmr, y_mpl, y_mppp, y_mpv, y_mpp, y_mp, y_extm, y_kextpp, y_kextv, y_kextp, y_extp, y_ext, f_index, f_count, f_lr1, f_lr2, revL, revT, y_med, y_kma, y_mepp, y_mev, y_mep, y_meth, y_kmk, y_make, y_pmake, y_kfr, y_fz, y_flt, y_fle, y_kfl, y_sfld, y_plen, f_lenA, f_lenB, f_lenC, y_wht, y_whf, y_whd, y_whn, y_hg, y_ht, y_hr, y_hrt, y_hrf, y_hb, y_ha, y_chain1, y_chain2, y_chain3, y_chain4, f_maxA, f_maxLB, eq_tupI, ne_tupI, eq_lstI, ne_lstI, isi_non_int, isi_non_bool, isi_non_str, isi_non_list, isi_non_tuple, isi_non_dict, isi_bl_int, isi_bl_bool, isi_bl_str, isi_bl_list, isi_bl_tuple, isi_bl_dict, isi_int_int, isi_int_bool, isi_int_str, isi_int_list, isi_int_tuple, isi_int_dict, isi_str_int, isi_str_bool, isi_str_str, isi_str_list, isi_str_tuple, isi_str_dict, isi_tup_int, isi_tup_bool, isi_tup_str, isi_tup_list, isi_tup_tuple, isi_tup_dict, isi_lst_int, isi_lst_bool, isi_lst_str, isi_lst_list, isi_lst_tuple, isi_lst_dict, isi_dic_int, isi_dic_bool, isi_dic_str, isi_dic_list, isi_dic_tuple, isi_dic_dict, isi_non_lt, isi_bl_lt, isi_int_lt, isi_str_lt, isi_tup_lt, isi_lst_lt, isi_dic_lt, ixL10, ixT10, ixN10, ixL20, ixT20, ixN20, ixL21, ixT21, ixN21, ixL30, ixT30, ixN30, ixL31, ixT31, ixN31, ixL32, ixT32, ixN32, ixL40, ixT40, ixN40, ixL41, ixT41, ixN41, ixL42, ixT42, ixN42, ixL43, ixT43, ixN43, ixL50, ixT50, ixN50, ixL51, ixT51, ixN51, ixL52, ixT52, ixN52, ixL53, ixT53, ixN53, ixL54, ixT54, ixN54, y_dic0, x_gdk, x_gdkp, y_dkv, x_dk2, f_inK, f_dxI, f_dxS, y_mq, y_mqv, y_mqp, y_mqpp, y_mql, y_mqt, f_indexT, f_countT, y_dic, y_kdic, y_dice, y_mtt, y_mttv, y_mtu, y_mtfC, y_mtfR, y_mtfA, List.map_cons, List.map_nil, List.replicate_succ, List.replicate_zero, xs_0_0, xs_0_1, xs_0_2, xs_0_4, xs_0_3, xs_2_0, xs_2_1, xs_2_2, xs_2_4, xs_2_3, xs_1_0, xs_1_1, xs_1_2, xs_1_4, xs_1_3, ka_0_0, ka_0_1, ka_0_2, ka_0_3, ka_0_4, ka_2_0, ka_2_1, ka_2_2, ka_2_3, ka_2_4, ka_1_0, ka_1_1, ka_1_2, ka_1_3, ka_1_4, y_tm0, f_tm0, y_seqL, y_sqvL, y_sqpL, y_sqppL, y_sqLL, $es,*])
/-! the law's draws: w has been asked at most N times -/
def Wl (N : Nat) (w : List D) : Prop := ∃ a b c : Int, w = [.int a, .int b, .int c] ∧ 0 ≤ b ∧ b < 2147483648 ∧ 0 ≤ c ∧ c ≤ N
theorem Wl.mono {N M : Nat} {w : List D} (h : Wl N w) (k : N ≤ M) : Wl M w := let ⟨a, b, c, e, h1, h2, h3, h4⟩ := h; ⟨a, b, c, e, h1, h2, h3, by omega⟩
theorem draw_w {N : Nat} {w : List D} {m : Int} {Q : S → List S → Prop} {X : Xn → List S → Prop} (h : Wl N w) (hN : N < 1000000000) (hm : 0 < m ∧ m < 1000000000) (q : ∀ r w', Wl (N + 1) w' → 0 ≤ r ∧ r < m → Q (.fr (.int r)) [.ol w', .fr (.int m)]) : Wc (d_Ldraw [.ol w, .fr (.int m)]) Q X := by
  obtain ⟨a, b, c, rfl, h1, h2, h3, h4⟩ := h
  unfold d_Ldraw
  rw [y_fn]
  unfold b_Ldraw
  (repeat' (first | (with_reducible apply W_forC) | (with_reducible apply W_forN) | (with_reducible apply x_augs) | (with_reducible refine And.intro (fun hbr => ?_) (fun hbr => ?_) <;> (first | (exfalso; omega) | skip)) | (with_reducible intro hbr; exfalso; omega) | simp_arith only [true_and]))
  · exact q _ _ ⟨_, _, _, rfl, h1, h2, h3, by omega⟩ ⟨Int.emod_nonneg _ (by omega), Int.emod_lt_of_pos _ (by omega)⟩
  · have g0 := Int.emod_nonneg (b * (2 * (c + 1) + 1) + 104729 * (c + 1) + 17) (show (2147483629 : Int) ≠ 0 by omega)
    have g1 := Int.emod_lt_of_pos (b * (2 * (c + 1) + 1) + 104729 * (c + 1) + 17) (show (0 : Int) < 2147483629 by omega)
    generalize (b * (2 * (c + 1) + 1) + 104729 * (c + 1) + 17) % 2147483629 = f at *
    have g2 := Int.emod_nonneg (f ^ 5) (show (2147483587 : Int) ≠ 0 by omega)
    have g3 := Int.emod_lt_of_pos (f ^ 5) (show (0 : Int) < 2147483587 by omega)
    (repeat' (first | (with_reducible apply W_forC) | (with_reducible apply W_forN) | (with_reducible apply x_augs) | (with_reducible refine And.intro (fun hbr => ?_) (fun hbr => ?_) <;> (first | (exfalso; omega) | skip)) | (with_reducible intro hbr; exfalso; omega) | simp_arith only [true_and]))
    generalize f ^ 5 % 2147483587 = f2 at *
    (repeat' (first | (with_reducible apply W_forC) | (with_reducible apply W_forN) | (with_reducible apply x_augs) | (with_reducible refine And.intro (fun hbr => ?_) (fun hbr => ?_) <;> (first | (exfalso; omega) | skip)) | (with_reducible intro hbr; exfalso; omega) | simp_arith only [true_and]))
    exact q _ _ ⟨_, _, _, rfl, h1, h2, by omega, by omega⟩ ⟨Int.emod_nonneg _ (by omega), Int.emod_lt_of_pos _ (by omega)⟩
theorem well_w {z : Int} {Q : S → List S → Prop} {X : Xn → List S → Prop} (q : ∀ w, Wl 0 w → Q (.ol w) [.fr (.int z)]) : Wc (d_Lwell [.fr (.int z)]) Q X := by
  unfold d_Lwell
  rw [y_fn]
  unfold b_Lwell
  (repeat' (first | (with_reducible apply W_forC) | (with_reducible apply W_forN) | (with_reducible apply x_augs) | (with_reducible refine And.intro (fun hbr => ?_) (fun hbr => ?_) <;> (first | (exfalso; omega) | skip)) | (with_reducible intro hbr; exfalso; omega) | simp_arith only [true_and]))
  exact q _ ⟨_, _, _, rfl, by omega, by omega, by omega, by omega⟩

/-! racks: what the program asks of them -/
theorem whole_w (x lo hi : Int) : d_is_whole [.fr (.int x), .fr (.int lo), .fr (.int hi)] = .ok (.fr (.bl (decide (lo ≤ x) && decide (x ≤ hi)))) [.fr (.int x), .fr (.int lo), .fr (.int hi)] := by
  suffices h : Wc (d_is_whole [.fr (.int x), .fr (.int lo), .fr (.int hi)]) (fun s ss => s = .fr (.bl (decide (lo ≤ x) && decide (x ≤ hi))) ∧ ss = [.fr (.int x), .fr (.int lo), .fr (.int hi)]) noC by exact of_Wc h
  unfold d_is_whole
  rw [y_fn]
  unfold b_is_whole
  (repeat' (first | (with_reducible apply W_forC) | (with_reducible apply W_forN) | (with_reducible apply x_augs) | (with_reducible refine And.intro (fun hbr => ?_) (fun hbr => ?_) <;> (first | (exfalso; omega) | skip)) | (with_reducible intro hbr; exfalso; omega) | simp_arith only [true_and]))
  · simp; omega
  · have : lo ≤ x := by omega
    simp [this]
def Rr (r : List Int) : Prop := r.length ≤ 4000 ∧ ∀ a ∈ r, 0 ≤ a ∧ a ≤ 200
theorem is_rack_ok {r : List Int} (h : Rr r) : d_is_rack [.fr (.tup (iL r))] = .ok (.fr (.bl true)) [.fr (.tup (iL r))] := by
  have hl := h.1
  have al := all_yes r
  suffices h : Wc (d_is_rack [.fr (.tup (iL r))]) (fun s ss => s = .fr (.bl true) ∧ ss = [.fr (.tup (iL r))]) noC by exact of_Wc h
  unfold d_is_rack
  rw [y_fn]
  unfold b_is_rack
  (repeat' (first | (with_reducible apply W_forC) | (with_reducible apply W_forN) | (with_reducible apply x_augs) | (with_reducible refine And.intro (fun hbr => ?_) (fun hbr => ?_) <;> (first | (exfalso; omega) | skip)) | (with_reducible intro hbr; exfalso; omega) | simp_arith only [true_and]))
  refine K_mapA (F := fun _ => .bl true) (by omega) (by simp) (fun a ha I ds' acc hI => ?_) ?_
  · have w := whole_w a 0 200
    have k := h.2 a ha
    rw [decide_eq_true (show (0 : Int) ≤ a by omega), decide_eq_true (show a ≤ 200 by omega)] at w
    unfold m_is_rack_1
    (repeat' (first | (with_reducible apply W_forC) | (with_reducible apply W_forN) | (with_reducible apply x_augs) | (with_reducible refine And.intro (fun hbr => ?_) (fun hbr => ?_) <;> (first | (exfalso; omega) | skip)) | (with_reducible intro hbr; exfalso; omega) | simp_arith only [w]))
    exact hI
  · (repeat' (first | (with_reducible apply W_forC) | (with_reducible apply W_forN) | (with_reducible apply x_augs) | (with_reducible refine And.intro (fun hbr => ?_) (fun hbr => ?_) <;> (first | (exfalso; omega) | skip)) | (with_reducible intro hbr; exfalso; omega) | simp_arith only [al]))
theorem sure_ok {r : List Int} (h : Rr r) : d_sure_rack [.fr (.tup (iL r))] = .ok (.fr .non) [.fr (.tup (iL r))] := by
  have a := is_rack_ok h
  suffices h : Wc (d_sure_rack [.fr (.tup (iL r))]) (fun s ss => s = .fr .non ∧ ss = [.fr (.tup (iL r))]) noC by exact of_Wc h
  unfold d_sure_rack
  rw [y_fn]
  unfold b_sure_rack
  (repeat' (first | (with_reducible apply W_forC) | (with_reducible apply W_forN) | (with_reducible apply x_augs) | (with_reducible refine And.intro (fun hbr => ?_) (fun hbr => ?_) <;> (first | (exfalso; omega) | skip)) | (with_reducible intro hbr; exfalso; omega) | simp_arith only [a]))

/-! racks drawn; the unit -/
def Rk (few high : Int) (r : List Int) : Prop := (r.length : Int) ≤ few ∧ ∀ a ∈ r, 0 ≤ a ∧ a ≤ high
theorem rack_w {N : Nat} {w : List D} {few high : Int} {Q : S → List S → Prop} {X : Xn → List S → Prop} (h : Wl N w) (hN : N < 100000000) (hf : 0 ≤ few ∧ few ≤ 40) (hm : 0 ≤ high ∧ high ≤ 1000) (q : ∀ r w', Wl (N + 50) w' → Rk few high r → Q (.fr (.tup (iL r))) [.ol w', .fr (.int few), .fr (.int high)]) : Wc (d_Lrack [.ol w, .fr (.int few), .fr (.int high)]) Q X := by
  unfold d_Lrack
  rw [y_fn]
  unfold b_Lrack
  (repeat' (first | ((with_reducible apply draw_w); (focus assumption); (focus omega); (focus (constructor <;> omega)); intro r w hw hr) | (with_reducible apply W_forC) | (with_reducible apply W_forN) | (with_reducible apply x_augs) | (with_reducible refine And.intro (fun hbr => ?_) (fun hbr => ?_) <;> (first | (exfalso; omega) | skip)) | (with_reducible intro hbr; exfalso; omega) | simp_arith only [true_and]))
  refine K_map (fun ds acc e => ∃ w l, Wl (N + 1 + l.length) w ∧ e = [some (.ol w), some (.fr (.int few)), some (.fr (.int high)), none] ∧ acc = iL l ∧ l.length + ds.length = r.toNat ∧ ∀ a ∈ l, 0 ≤ a ∧ a ≤ high) (by simp [rngD]; omega) (by simp) ⟨_, [], hw, rfl, rfl, by simp [rngD], by simp⟩ ?_ ?_
  · rintro d ds acc e ⟨w, l, hw, rfl, rfl, hl, hb⟩
    simp at hl
    unfold m_Lrack_1
    (repeat' (first | ((with_reducible apply draw_w); (focus assumption); (focus omega); (focus (constructor <;> omega)); intro r w hw hr) | (with_reducible apply W_forC) | (with_reducible apply W_forN) | (with_reducible apply x_augs) | (with_reducible refine And.intro (fun hbr => ?_) (fun hbr => ?_) <;> (first | (exfalso; omega) | skip)) | (with_reducible intro hbr; exfalso; omega) | simp_arith only [true_and]))
    exact ⟨_, l ++ [r], hw.mono (by rw [List.length_append, List.length_singleton]; omega), rfl, by simp, by simp; omega, by simp; intro a h; rcases h with h | rfl; exact hb _ h; omega⟩
  · rintro acc e ⟨w, l, hw, rfl, rfl, hl, hb⟩
    refine ⟨by simp, ?_⟩
    (repeat' (first | (with_reducible apply W_forC) | (with_reducible apply W_forN) | (with_reducible apply x_augs) | (with_reducible refine And.intro (fun hbr => ?_) (fun hbr => ?_) <;> (first | (exfalso; omega) | skip)) | (with_reducible intro hbr; exfalso; omega) | simp_arith only [true_and]))
    simp at hl
    exact q _ _ (hw.mono (by omega)) ⟨by omega, hb⟩

/-! what is a rack, of whatever data -/
def whB (lo hi : Int) : D → Bool
  | .int i => decide (lo ≤ i) && decide (i ≤ hi)
  | _ => false
def OkD : D → Bool
  | .non => true
  | .bl _ => true
  | .int _ => true
  | .str _ => true
  | .tup _ => true
  | .lst _ => true
  | _ => false
theorem whole_any {d : D} (h : OkD d = true) (lo hi : Int) : d_is_whole [.fr d, .fr (.int lo), .fr (.int hi)] = .ok (.fr (.bl (whB lo hi d))) [.fr d, .fr (.int lo), .fr (.int hi)] := by
  cases d with
  | int i => exact whole_w i lo hi
  | non =>
    suffices h : Wc (d_is_whole [.fr .non, .fr (.int lo), .fr (.int hi)]) (fun s ss => s = .fr (.bl false) ∧ ss = [.fr .non, .fr (.int lo), .fr (.int hi)]) noC by exact of_Wc h
    unfold d_is_whole
    rw [y_fn]
    unfold b_is_whole
    (repeat' (first | (with_reducible apply W_forC) | (with_reducible apply W_forN) | (with_reducible apply x_augs) | (with_reducible refine And.intro (fun hbr => ?_) (fun hbr => ?_) <;> (first | (exfalso; omega) | skip)) | (with_reducible intro hbr; exfalso; omega) | simp_arith only [true_and]))
  | bl b =>
    suffices h : Wc (d_is_whole [.fr (.bl b), .fr (.int lo), .fr (.int hi)]) (fun s ss => s = .fr (.bl false) ∧ ss = [.fr (.bl b), .fr (.int lo), .fr (.int hi)]) noC by exact of_Wc h
    unfold d_is_whole
    rw [y_fn]
    unfold b_is_whole
    (repeat' (first | (with_reducible apply W_forC) | (with_reducible apply W_forN) | (with_reducible apply x_augs) | (with_reducible refine And.intro (fun hbr => ?_) (fun hbr => ?_) <;> (first | (exfalso; omega) | skip)) | (with_reducible intro hbr; exfalso; omega) | simp_arith only [true_and]))
  | str b =>
    suffices h : Wc (d_is_whole [.fr (.str b), .fr (.int lo), .fr (.int hi)]) (fun s ss => s = .fr (.bl false) ∧ ss = [.fr (.str b), .fr (.int lo), .fr (.int hi)]) noC by exact of_Wc h
    unfold d_is_whole
    rw [y_fn]
    unfold b_is_whole
    (repeat' (first | (with_reducible apply W_forC) | (with_reducible apply W_forN) | (with_reducible apply x_augs) | (with_reducible refine And.intro (fun hbr => ?_) (fun hbr => ?_) <;> (first | (exfalso; omega) | skip)) | (with_reducible intro hbr; exfalso; omega) | simp_arith only [true_and]))
  | tup b =>
    suffices h : Wc (d_is_whole [.fr (.tup b), .fr (.int lo), .fr (.int hi)]) (fun s ss => s = .fr (.bl false) ∧ ss = [.fr (.tup b), .fr (.int lo), .fr (.int hi)]) noC by exact of_Wc h
    unfold d_is_whole
    rw [y_fn]
    unfold b_is_whole
    (repeat' (first | (with_reducible apply W_forC) | (with_reducible apply W_forN) | (with_reducible apply x_augs) | (with_reducible refine And.intro (fun hbr => ?_) (fun hbr => ?_) <;> (first | (exfalso; omega) | skip)) | (with_reducible intro hbr; exfalso; omega) | simp_arith only [true_and]))
  | lst b =>
    suffices h : Wc (d_is_whole [.fr (.lst b), .fr (.int lo), .fr (.int hi)]) (fun s ss => s = .fr (.bl false) ∧ ss = [.fr (.lst b), .fr (.int lo), .fr (.int hi)]) noC by exact of_Wc h
    unfold d_is_whole
    rw [y_fn]
    unfold b_is_whole
    (repeat' (first | (with_reducible apply W_forC) | (with_reducible apply W_forN) | (with_reducible apply x_augs) | (with_reducible refine And.intro (fun hbr => ?_) (fun hbr => ?_) <;> (first | (exfalso; omega) | skip)) | (with_reducible intro hbr; exfalso; omega) | simp_arith only [true_and]))
  | _ => cases h
theorem bools_bl (bs : List Bool) : boolsD (bs.map D.bl) = some bs := by
  induction bs with
  | nil => rfl
  | cons b bs ih => show (boolsD (bs.map D.bl)).map _ = _; rw [ih]; rfl
theorem all_bl (bs : List Bool) : dAll [.lst (bs.map D.bl)] = some (.fr (.bl (bs.all id))) := f_all (bools_bl bs)
theorem is_rack_any {ds : List D} (h : ∀ d ∈ ds, OkD d = true) (hl : ds.length < 16000000) : d_is_rack [.fr (.tup ds)] = .ok (.fr (.bl (decide (ds.length ≤ 4000) && ds.all (whB 0 200)))) [.fr (.tup ds)] := by
  have al := all_bl (ds.map (whB 0 200))
  rw [List.map_map] at al
  suffices h : Wc (d_is_rack [.fr (.tup ds)]) (fun s ss => s = .fr (.bl (decide (ds.length ≤ 4000) && ds.all (whB 0 200))) ∧ ss = [.fr (.tup ds)]) noC by exact of_Wc h
  unfold d_is_rack
  rw [y_fn]
  unfold b_is_rack
  (repeat' (first | (with_reducible apply W_forC) | (with_reducible apply W_forN) | (with_reducible apply x_augs) | (with_reducible refine And.intro (fun hbr => ?_) (fun hbr => ?_) <;> (first | (exfalso; omega) | skip)) | (with_reducible intro hbr; exfalso; omega) | simp_arith only [true_and]))
  · rw [decide_eq_false (show ¬ ds.length ≤ 4000 by omega)]; rfl
  · have e : ds = ds.map id := by simp
    rw [e]
    refine K_mapA (P := id) (F := fun d => .bl (whB 0 200 d)) (by omega) (by simp) (fun a ha I ds' acc hI => ?_) ?_
    · have w := whole_any (h a ha) 0 200
      unfold m_is_rack_1
      (repeat' (first | (with_reducible apply W_forC) | (with_reducible apply W_forN) | (with_reducible apply x_augs) | (with_reducible refine And.intro (fun hbr => ?_) (fun hbr => ?_) <;> (first | (exfalso; omega) | skip)) | (with_reducible intro hbr; exfalso; omega) | simp_arith only [w, id]))
      exact hI
    · rw [List.map_id]
      rw [show (D.bl ∘ whB 0 200) = fun d => D.bl (whB 0 200 d) from rfl] at al
      (repeat' (first | (with_reducible apply W_forC) | (with_reducible apply W_forN) | (with_reducible apply x_augs) | (with_reducible refine And.intro (fun hbr => ?_) (fun hbr => ?_) <;> (first | (exfalso; omega) | skip)) | (with_reducible intro hbr; exfalso; omega) | simp_arith only [al]))
      rw [decide_eq_true (show ds.length ≤ 4000 by omega)]
      simp [List.all_map]
def NoR (d : D) : Prop := d_is_rack [.fr d] = .ok (.fr (.bl false)) [.fr d]
theorem nor_else {d : D} (h : dIsi [d, .ty "tuple"] = some (.fr (.bl false))) : NoR d := by
  suffices h : Wc (d_is_rack [.fr d]) (fun s ss => s = .fr (.bl false) ∧ ss = [.fr d]) noC by exact of_Wc h
  unfold d_is_rack
  rw [y_fn]
  unfold b_is_rack
  (repeat' (first | (with_reducible apply W_forC) | (with_reducible apply W_forN) | (with_reducible apply x_augs) | (with_reducible refine And.intro (fun hbr => ?_) (fun hbr => ?_) <;> (first | (exfalso; omega) | skip)) | (with_reducible intro hbr; exfalso; omega) | simp_arith only [h]))
theorem nor_tup {ds : List D} (h : ∀ d ∈ ds, OkD d = true) (hl : ds.length < 16000000) (hb : 4000 < ds.length ∨ ∃ d ∈ ds, whB 0 200 d = false) : NoR (.tup ds) := by
  have := is_rack_any h hl
  rw [show (decide (ds.length ≤ 4000) && ds.all (whB 0 200)) = false from ?_] at this
  · exact this
  · rcases hb with hb | ⟨d, hd, hw⟩
    · rw [decide_eq_false (by omega)]; rfl
    · rw [show ds.all (whB 0 200) = false from List.all_eq_false.mpr ⟨d, hd, by rw [hw]; decide⟩, Bool.and_false]
theorem sure_no {d : D} (h : NoR d) : d_sure_rack [.fr d] = .ex ⟨0, [], []⟩ [.fr d] := by
  unfold NoR at h
  suffices h : Wc (d_sure_rack [.fr d]) (fun _ _ => False) (fun x ss => x = ⟨0, [], []⟩ ∧ ss = [.fr d]) by exact of_WcX h
  unfold d_sure_rack
  rw [y_fn]
  unfold b_sure_rack
  (repeat' (first | (with_reducible apply W_forC) | (with_reducible apply W_forN) | (with_reducible apply x_augs) | (with_reducible refine And.intro (fun hbr => ?_) (fun hbr => ?_) <;> (first | (exfalso; omega) | skip)) | (with_reducible intro hbr; exfalso; omega) | simp_arith only [h]))
end K81

-- CLASS 81
-- PsCons, sIf, sAsg, sRet, sRetN, sNil, sNo, sExpr, sPar, bTb, bTr, bAnd, bOr, bNot, bAndV, bOrV, bNotV, bIfE, bChain, truthD, bCmp, dCmp, dGt, dLt, dLe, dGe, dEq, dNe, dIs, D.isNon, eqv_int, eqv_tup2, Fv.b1, Fv.b2, bP, aCons, aNil, bIx, bVar, bCon, bTup, bLst, dTupN, dLstN, bDic, bSl, bPart, bInt, Ou.bnd, dSl, pS, pSS, pZ, frz1, frzs, pks, pk, dIx, atI, ixN, gTupF, gIx, gNm, gAll, dDivmod, dInt, dAbs, dLen, dIsi, D.tyN, Fv.own1, fRet, finS_nil, finS_t, finS_f, S.d, bBin, dAdd, dSub, dMulS, dMod, dDiv, dPow, dNeg, pCall, pCallZ, movs, mov1, puts, put1, sFor, mPs, mSeq, seqDE
set_option maxHeartbeats 0
namespace K81
open PySem PySem.Spec PyProof.Rows L2 Fv
local macro_rules | `(tactic| simp_arith only [$es,*]) => `(tactic| simp (disch := first | assumption | omega | (simp <;> omega) | fail) only [y_ok, y_ex, y_no, y_nx, y_rt, y_fex, y_fno, y_cok, y_cex, y_var, y_vfr, y_vol, y_vod, y_voi, y_vno, y_con, y_nil, y_cons, y_c1, y_c2, y_P, y_p, y_b2, y_b1, y_add, y_sub, y_mul, y_fdiv, y_mod, y_pow, y_eq, y_ne, y_lt, y_le, y_gt, y_ge, y_is, y_isn, y_in, y_nin, y_ix, y_tup, y_lst, y_pS, k_nil, k_vl, k_pl, k_pp, sd_fr, sd_ol, sd_od, sd_oi, y_pSS, s_nil, s_vl, s_pl, s_pp, z_nil, z_vl, z_pl, z_pp, y_ope, y_pZ, v_nil, v_vl, v_pl, v_pp, y_calle, y_call, y_kcall, y_kcallX, p_nil, p_vl, p_pl, y_callZ, y_calld, y_callD, y_kcallF, y_kcallFX, y_Tb, y_tb, y_Tr, y_trr, y_trp, y_trpp, y_Not, y_knot, y_And, y_Or, y_AndV, y_OrV, y_knotV, y_NotV, y_IfE, y_bot, y_bof, y_bod, y_bon, y_bnd, y_bndk, y_sl, y_sl1, y_sl2, y_sl3, y_part0, y_part1, y_int, y_S, y_s, y_sNil, y_asg, y_asgv, y_asgp, y_asgpp, y_gNm, y_expr, y_kexpr, y_ret, y_retv, y_retp, y_retpp, y_retN, y_if, y_ift, y_iff, y_ifd, y_ifn, y_pare, y_park, y_par, y_gall0, y_gall1, y_gk, y_gtup, y_glst, y_ixv, y_mtk, y_for, y_seq, y_sqv, y_sqp, y_sqpp, y_sqL, y_sqT, y_sqS, y_psl, y_ps, y_lc, y_fin, y_finN, y_finX, n_nil, n_keep, n_fr, x_op, x_os, x_opm, x_tr, x_trm, x_ps, x_psm, x_z, x_zm, x_aug, x_augp, x_augv, x_augm, x_gix, x_gixp, x_ix2, x_ixm, x_mt, x_mtp, x_mte, x_mtq, x_mtm, x_asp, x_ask, x_asq, x_asr, x_ka, x_ka3, x_ka4, y_kli, y_klp, y_klpp, w_nil, w_cons, y_yes, y_kts, y_ktf, y_ktd, y_ktn, y_kfor, f_backL, f_backT, f_add, f_sub, f_neg, f_eqI, f_neI, f_lt, f_le, f_gt, f_ge, f_isN, f_isnN, f_isB, f_isnB, f_slL, f_slT, f_lenL, f_lenT, f_abs, f_max, f_min, f_intI, f_intB, f_listL, f_listT, f_tupL, f_tupT, enumL, enumT, zipL, zipT, aug_add, aug_sub, tr_bl, tr_int, tr_lst, tr_tup, D.isNon, f_tup, f_lst, f_mod, f_divS, f_divmodS, f_div, f_divmod, f_mulI, f_mulJ, f_mul, f_mul0, f_pow, f_addL, f_addT, f_addS, f_lenS, g_app, rngA, rngB, aug_mulI, aug_mulJ, aug_mul, kit_ii, kit_ib, kit_bi, kit_bb, List.getElem?_cons_zero, List.getElem?_cons_succ, List.set_cons_zero, List.set_cons_succ, List.length_cons, List.length_nil, List.nil_append, List.cons_append, List.map_cons, List.map_nil, List.length_append, List.length_map, List.length_replicate, Nat.zero_add, true_and, and_true, decide_true, decide_false, Bool.not_true, Bool.not_false, Bool.true_or, Bool.or_true, Bool.false_or, Bool.or_false, Bool.true_and, Bool.and_true, Bool.false_and, Bool.and_false, beq_self_eq_true, if_true, if_false, ite_true, ite_false, Bool.false_eq_true, reduceIte, true_implies, not_true_eq_false, not_false_eq_true, false_implies, implies_true, List.replicate_succ, List.replicate_zero, Nat.reduceAdd, Nat.reduceSub, Nat.reduceMul, Nat.reduceLT, Nat.reduceEqDiff, Nat.reduceBEq, Nat.reduceLeDiff, Int.cast_ofNat_Int, Int.reduceLT, Int.reduceLE, Int.reduceEq, Int.reduceNe, Int.reduceNeg, Int.reduceAdd, Int.reduceSub, Int.reduceMul, Int.reduceToNat, Int.reducePow, Nat.reducePow, y_ms, y_neT, y_tm, f_tm, eq_bb, ne_bb, y_lce, y_lce1, y_lce2, y_klo, y_rai, y_ktry, y_try, y_hand0, y_hand1, y_hndt, y_hndf, y_go, y_goA, y_kun, y_kur, y_exb, y_kex, y_exi, nf_nil, nf_cons, nf_none, nf_some, nf_fr, nf_ol, nf_od, nf_oi, nf_non, nf_bl, nf_int, nf_str, nf_tup, nf_lst, nf_dic, nf_ins, nfs_nil, nfs_cons, nfs_iL, nfs_sL, nfs_app, y_kmr, y_mpl, y_mppp, y_mpv, y_mpp, y_mp, y_extm, y_kextpp, y_kextv, y_kextp, y_extp, y_ext, f_index, f_count, f_lr1, f_lr2, revL, revT, y_med, y_kma, y_mepp, y_mev, y_mep, y_meth, y_kmk, y_make, y_pmake, y_kfr, y_fz, y_flt, y_fle, y_kfl, y_sfld, y_plen, f_lenA, f_lenB, f_lenC, y_wht, y_whf, y_whd, y_whn, y_hg, y_ht, y_hr, y_hrt, y_hrf, y_hb, y_ha, y_chain1, y_chain2, y_chain3, y_chain4, f_maxA, f_maxLB, eq_tupI, ne_tupI, eq_lstI, ne_lstI, isi_non_int, isi_non_bool, isi_non_str, isi_non_list, isi_non_tuple, isi_non_dict, isi_bl_int, isi_bl_bool, isi_bl_str, isi_bl_list, isi_bl_tuple, isi_bl_dict, isi_int_int, isi_int_bool, isi_int_str, isi_int_list, isi_int_tuple, isi_int_dict, isi_str_int, isi_str_bool, isi_str_str, isi_str_list, isi_str_tuple, isi_str_dict, isi_tup_int, isi_tup_bool, isi_tup_str, isi_tup_list, isi_tup_tuple, isi_tup_dict, isi_lst_int, isi_lst_bool, isi_lst_str, isi_lst_list, isi_lst_tuple, isi_lst_dict, isi_dic_int, isi_dic_bool, isi_dic_str, isi_dic_list, isi_dic_tuple, isi_dic_dict, isi_non_lt, isi_bl_lt, isi_int_lt, isi_str_lt, isi_tup_lt, isi_lst_lt, isi_dic_lt, ixL10, ixT10, ixN10, ixL20, ixT20, ixN20, ixL21, ixT21, ixN21, ixL30, ixT30, ixN30, ixL31, ixT31, ixN31, ixL32, ixT32, ixN32, ixL40, ixT40, ixN40, ixL41, ixT41, ixN41, ixL42, ixT42, ixN42, ixL43, ixT43, ixN43, ixL50, ixT50, ixN50, ixL51, ixT51, ixN51, ixL52, ixT52, ixN52, ixL53, ixT53, ixN53, ixL54, ixT54, ixN54, y_dic0, x_gdk, x_gdkp, y_dkv, x_dk2, f_inK, f_dxI, f_dxS, y_mq, y_mqv, y_mqp, y_mqpp, y_mql, y_mqt, f_indexT, f_countT, y_dic, y_kdic, y_dice, y_mtt, y_mttv, y_mtu, y_mtfC, y_mtfR, y_mtfA, List.map_cons, List.map_nil, List.replicate_succ, List.replicate_zero, xs_0_0, xs_0_1, xs_0_2, xs_0_4, xs_0_3, xs_2_0, xs_2_1, xs_2_2, xs_2_4, xs_2_3, xs_1_0, xs_1_1, xs_1_2, xs_1_4, xs_1_3, ka_0_0, ka_0_1, ka_0_2, ka_0_3, ka_0_4, ka_2_0, ka_2_1, ka_2_2, ka_2_3, ka_2_4, ka_1_0, ka_1_1, ka_1_2, ka_1_3, ka_1_4, y_tm0, f_tm0, y_seqL, y_sqvL, y_sqpL, y_sqppL, y_sqLL, $es,*])
/-! k81: racks times, as rows -/
def prL (l m : List Int) : List Int := l.flatMap fun a => m.map (a + ·)
theorem prL_len (l m : List Int) : (prL l m).length = l.length * m.length := by
  unfold prL
  induction l with
  | nil => simp
  | cons a l ih => rw [List.flatMap_cons, List.length_append, ih, List.length_map, List.length_cons, Nat.succ_mul]; omega
theorem prL_mem {l m : List Int} {x : Int} (h : x ∈ prL l m) : ∃ a ∈ l, ∃ b ∈ m, x = a + b := by
  unfold prL at h
  obtain ⟨a, ha, hx⟩ := List.mem_flatMap.mp h
  obtain ⟨b, hb, rfl⟩ := List.mem_map.mp hx
  exact ⟨a, ha, b, hb, rfl⟩
theorem mem_prL {l m : List Int} {a b : Int} (ha : a ∈ l) (hb : b ∈ m) : a + b ∈ prL l m := List.mem_flatMap.mpr ⟨a, ha, List.mem_map.mpr ⟨b, hb, rfl⟩⟩
theorem iLapp {l m : List Int} : iL l ++ iL m = iL (l ++ m) := List.map_append.symm
theorem maxL_mem : ∀ {l : List Int} {m : Int}, maxL l = some m → m ∈ l ∧ ∀ a ∈ l, a ≤ m := by
  have f : ∀ (l : List Int) (i : Int), (l.foldl max i = i ∨ l.foldl max i ∈ l) ∧ i ≤ l.foldl max i ∧ ∀ a ∈ l, a ≤ l.foldl max i := by
    intro l
    induction l with
    | nil => intro i; exact ⟨.inl rfl, Int.le_refl _, by simp⟩
    | cons b l ih =>
      intro i
      obtain ⟨h1, h2, h3⟩ := ih (max i b)
      rw [List.foldl_cons]
      refine ⟨?_, by omega, fun a ha => ?_⟩
      · rcases h1 with h1 | h1
        · rw [h1]
          by_cases z : b ≤ i
          · left; omega
          · right; rw [show max i b = b by omega]; simp
        · right; simp [h1]
      · rcases List.mem_cons.mp ha with rfl | ha
        · omega
        · exact h3 a ha
  intro l m h
  cases l with
  | nil => cases h
  | cons i l =>
    have h : some (l.foldl max i) = some m := h
    cases h
    obtain ⟨h1, h2, h3⟩ := f l i
    refine ⟨by rcases h1 with h1 | h1 <;> simp [h1], fun a ha => ?_⟩
    rcases List.mem_cons.mp ha with rfl | ha
    · exact h2
    · exact h3 a ha
theorem maxL_ne {l : List Int} (h : l ≠ []) : ∃ m, maxL l = some m := by
  cases l with
  | nil => exact absurd rfl h
  | cons i l => exact ⟨_, rfl⟩
theorem ok_iL {r : List Int} : ∀ d ∈ iL r, OkD d = true := fun d hd => by
  obtain ⟨a, _, rfl⟩ := List.mem_map.mp hd
  rfl
/-- an odd part of a rack -/
theorem small_ok {r : List Int} (h : Rr r) : d_sure_small [.fr (.tup (iL r))] = .ok (.fr .non) [.fr (.tup (iL r))] := by
  have a := is_rack_ok h
  suffices h : Wc (d_sure_small [.fr (.tup (iL r))]) (fun s ss => s = .fr .non ∧ ss = [.fr (.tup (iL r))]) noC by exact of_Wc h
  unfold d_sure_small
  rw [y_fn]
  unfold b_sure_small
  (repeat' (first | (with_reducible apply W_forC) | (with_reducible apply W_forN) | (with_reducible apply x_augs) | (with_reducible refine And.intro (fun hbr => ?_) (fun hbr => ?_) <;> (first | (exfalso; omega) | skip)) | (with_reducible intro hbr; exfalso; omega) | simp_arith only [a]))
theorem small_no {d : D} (h : NoR d) : d_sure_small [.fr d] = .ex ⟨2, [], []⟩ [.fr d] := by
  unfold NoR at h
  suffices h : Wc (d_sure_small [.fr d]) (fun _ _ => False) (fun x ss => x = ⟨2, [], []⟩ ∧ ss = [.fr d]) by exact of_WcX h
  unfold d_sure_small
  rw [y_fn]
  unfold b_sure_small
  (repeat' (first | (with_reducible apply W_forC) | (with_reducible apply W_forN) | (with_reducible apply x_augs) | (with_reducible refine And.intro (fun hbr => ?_) (fun hbr => ?_) <;> (first | (exfalso; omega) | skip)) | (with_reducible intro hbr; exfalso; omega) | simp_arith only [h]))
theorem unless_ok {r : List Int} (h : Rr r) : d_rack_unless [.fr (.tup (iL r))] = .ok (.fr .non) [.fr (.tup (iL r))] := by
  have a := is_rack_ok h
  suffices h : Wc (d_rack_unless [.fr (.tup (iL r))]) (fun s ss => s = .fr .non ∧ ss = [.fr (.tup (iL r))]) noC by exact of_Wc h
  unfold d_rack_unless
  rw [y_fn]
  unfold b_rack_unless
  (repeat' (first | (with_reducible apply W_forC) | (with_reducible apply W_forN) | (with_reducible apply x_augs) | (with_reducible refine And.intro (fun hbr => ?_) (fun hbr => ?_) <;> (first | (exfalso; omega) | skip)) | (with_reducible intro hbr; exfalso; omega) | simp_arith only [a]))
theorem rack_unless_no {d : D} (h : NoR d) : d_rack_unless [.fr d] = .ex ⟨0, [], []⟩ [.fr d] := by
  unfold NoR at h
  suffices h : Wc (d_rack_unless [.fr d]) (fun _ _ => False) (fun x ss => x = ⟨0, [], []⟩ ∧ ss = [.fr d]) by exact of_WcX h
  unfold d_rack_unless
  rw [y_fn]
  unfold b_rack_unless
  (repeat' (first | (with_reducible apply W_forC) | (with_reducible apply W_forN) | (with_reducible apply x_augs) | (with_reducible refine And.intro (fun hbr => ?_) (fun hbr => ?_) <;> (first | (exfalso; omega) | skip)) | (with_reducible intro hbr; exfalso; omega) | simp_arith only [h]))
theorem prL_snoc (l m : List Int) (x : Int) : prL (l ++ [x]) m = prL l m ++ m.map (x + ·) := by
  unfold prL; rw [List.flatMap_append, List.flatMap_singleton]
theorem times_ok {a b : List Int} (ha : Rr a) (hb : Rr b) (h : Rr (prL a b)) : d_put_times [.fr (.tup (iL a)), .fr (.tup (iL b))] = .ok (.fr (.tup (iL (prL a b)))) [.fr (.tup (iL a)), .fr (.tup (iL b))] := by
  have h1 := sure_ok ha
  have h2 := sure_ok hb
  have h3 := small_ok h
  have l1 := ha.1
  have l2 := hb.1
  have l3 := h.1
  rw [prL_len] at l3
  have l4 : (a.length : Int) * (b.length : Int) ≤ 4000 := by rw [← Int.natCast_mul]; omega
  suffices h : Wc (d_put_times [.fr (.tup (iL a)), .fr (.tup (iL b))]) (fun s ss => s = .fr (.tup (iL (prL a b))) ∧ ss = [.fr (.tup (iL a)), .fr (.tup (iL b))]) noC by exact of_Wc h
  unfold d_put_times
  rw [y_fn]
  unfold b_put_times
  (repeat' (first | (with_reducible apply W_forC) | (with_reducible apply W_forN) | (with_reducible apply x_augs) | (with_reducible refine And.intro (fun hbr => ?_) (fun hbr => ?_) <;> (first | (exfalso; omega) | skip)) | (with_reducible intro hbr; exfalso; omega) | simp_arith only [h1, h2]))
  refine W_forA (p := a) (P := D.int) (fun l e => ∃ y, e = [some (.fr (.tup (iL a))), some (.fr (.tup (iL b))), some (.ol (iL (prL l b))), y, none]) ⟨_, rfl⟩ ?_ ?_
  · rintro l x r e he ⟨y, rfl⟩
    have hl : l.length ≤ a.length := by rw [he]; simp
    have hll := Nat.mul_le_mul_right b.length hl
    unfold b_put_times_2
    simp_arith only [true_and]
    refine K_mapA (F := fun z => .int (x + z)) (by omega) (by simp) (fun z hz I ds' acc hI => ?_) ?_
    · unfold m_put_times_1
      (repeat' (first | (with_reducible apply W_forC) | (with_reducible apply W_forN) | (with_reducible apply x_augs) | (with_reducible refine And.intro (fun hbr => ?_) (fun hbr => ?_) <;> (first | (exfalso; omega) | skip)) | (with_reducible intro hbr; exfalso; omega) | simp_arith only [true_and]))
      exact hI
    · rw [show b.map (fun z => D.int (x + z)) = iL (b.map (x + ·)) by show _ = List.map D.int (List.map _ _); rw [List.map_map]; rfl]
      simp_arith only [true_and]
      refine ⟨by rw [prL_len]; omega, some (.fr (.int x)), ?_⟩
      rw [prL_snoc, iLapp]
  · rintro e ⟨y, rfl⟩
    (repeat' (first | (with_reducible apply W_forC) | (with_reducible apply W_forN) | (with_reducible apply x_augs) | (with_reducible refine And.intro (fun hbr => ?_) (fun hbr => ?_) <;> (first | (exfalso; omega) | skip)) | (with_reducible intro hbr; exfalso; omega) | simp_arith only [h3]))
theorem times_X1 {d : D} (h : NoR d) (e : D) : d_put_times [.fr d, .fr e] = .ex ⟨0, [], []⟩ [.fr d, .fr e] := by
  have h := sure_no h
  suffices h : Wc (d_put_times [.fr d, .fr e]) (fun _ _ => False) (fun x ss => x = ⟨0, [], []⟩ ∧ ss = [.fr d, .fr e]) by
    generalize d_put_times [.fr d, .fr e] = x at h ⊢
    exact of_WcX h
  unfold d_put_times
  rw [y_fn]
  unfold b_put_times
  simp_arith only [h]
theorem times_X3 {a b : List Int} (ha : Rr a) (hb : Rr b) (hl : 4000 < a.length * b.length) : d_put_times [.fr (.tup (iL a)), .fr (.tup (iL b))] = .ex ⟨2, [], []⟩ [.fr (.tup (iL a)), .fr (.tup (iL b))] := by
  have u := sure_ok ha
  have v := sure_ok hb
  have l1 := ha.1
  have l2 := hb.1
  have g : (4000 : Int) < (a.length : Int) * (b.length : Int) := by rw [← Int.natCast_mul]; omega
  suffices h : Wc (d_put_times [.fr (.tup (iL a)), .fr (.tup (iL b))]) (fun _ _ => False) (fun x ss => x = ⟨2, [], []⟩ ∧ ss = [.fr (.tup (iL a)), .fr (.tup (iL b))]) by
    generalize d_put_times [.fr (.tup (iL a)), .fr (.tup (iL b))] = x at h ⊢
    exact of_WcX h
  unfold d_put_times
  rw [y_fn]
  unfold b_put_times
  (repeat' (first | (with_reducible apply W_forC) | (with_reducible apply W_forN) | (with_reducible apply x_augs) | (with_reducible refine And.intro (fun hbr => ?_) (fun hbr => ?_) <;> (first | (exfalso; omega) | skip)) | (with_reducible intro hbr; exfalso; omega) | simp_arith only [u, v]))
theorem times_X4 {a b : List Int} (ha : Rr a) (hb : Rr b) (hl : a.length * b.length ≤ 4000) (h2 : ∃ x ∈ prL a b, 200 < x) : d_put_times [.fr (.tup (iL a)), .fr (.tup (iL b))] = .ex ⟨2, [], []⟩ [.fr (.tup (iL a)), .fr (.tup (iL b))] := by
  have h1 := sure_ok ha
  have h2' := sure_ok hb
  have l1 := ha.1
  have l2 := hb.1
  have l3 := prL_len a b
  have l4 : (a.length : Int) * (b.length : Int) ≤ 4000 := by rw [← Int.natCast_mul]; omega
  obtain ⟨x0, hx0, hx1⟩ := h2
  have h3 := small_no (d := .tup (iL (prL a b))) (nor_tup ok_iL (by rw [len_iL]; omega) (.inr ⟨.int x0, List.mem_map_of_mem hx0, by simp [whB]; omega⟩))
  suffices h : Wc (d_put_times [.fr (.tup (iL a)), .fr (.tup (iL b))]) (fun _ _ => False) (fun x ss => x = ⟨2, [], []⟩ ∧ ss = [.fr (.tup (iL a)), .fr (.tup (iL b))]) by
    generalize d_put_times [.fr (.tup (iL a)), .fr (.tup (iL b))] = x at h ⊢
    exact of_WcX h
  unfold d_put_times
  rw [y_fn]
  unfold b_put_times
  (repeat' (first | (with_reducible apply W_forC) | (with_reducible apply W_forN) | (with_reducible apply x_augs) | (with_reducible refine And.intro (fun hbr => ?_) (fun hbr => ?_) <;> (first | (exfalso; omega) | skip)) | (with_reducible intro hbr; exfalso; omega) | simp_arith only [h1, h2']))
  intro hbr
  refine W_forA (p := a) (P := D.int) (fun l e => ∃ y, e = [some (.fr (.tup (iL a))), some (.fr (.tup (iL b))), some (.ol (iL (prL l b))), y, none]) ⟨_, rfl⟩ ?_ ?_
  · rintro l x r e he ⟨y, rfl⟩
    have hl : l.length ≤ a.length := by rw [he]; simp
    have hll := Nat.mul_le_mul_right b.length hl
    unfold b_put_times_2
    simp_arith only [true_and]
    refine K_mapA (F := fun z => .int (x + z)) (by omega) (by simp) (fun z hz I ds' acc hI => ?_) ?_
    · unfold m_put_times_1
      (repeat' (first | (with_reducible apply W_forC) | (with_reducible apply W_forN) | (with_reducible apply x_augs) | (with_reducible refine And.intro (fun hbr => ?_) (fun hbr => ?_) <;> (first | (exfalso; omega) | skip)) | (with_reducible intro hbr; exfalso; omega) | simp_arith only [true_and]))
      exact hI
    · rw [show b.map (fun z => D.int (x + z)) = iL (b.map (x + ·)) by show _ = List.map D.int (List.map _ _); rw [List.map_map]; rfl]
      simp_arith only [true_and]
      refine ⟨by rw [prL_len]; omega, some (.fr (.int x)), ?_⟩
      rw [prL_snoc, iLapp]
  · rintro e ⟨y, rfl⟩
    (repeat' (first | (with_reducible apply W_forC) | (with_reducible apply W_forN) | (with_reducible apply x_augs) | (with_reducible refine And.intro (fun hbr => ?_) (fun hbr => ?_) <;> (first | (exfalso; omega) | skip)) | (with_reducible intro hbr; exfalso; omega) | simp_arith only [h3]))
/-- a rack with itself, so many times -/
def pw (r : List Int) : Nat → List Int
  | 0 => [0]
  | k + 1 => prL (pw r k) r
theorem pw_one (r : List Int) : pw r 1 = r := by
  show ([0] : List Int).flatMap (fun a => r.map (a + ·)) = r
  rw [List.flatMap_singleton]
  conv => rhs; rw [← List.map_id r]
  exact List.map_congr_left fun a _ => Int.zero_add a
theorem pw_len (r : List Int) (k : Nat) : (pw r k).length = r.length ^ k := by
  induction k with
  | zero => rfl
  | succ k ih => show (prL (pw r k) r).length = _; rw [prL_len, ih, Nat.pow_succ]
theorem pw_le {r : List Int} {m : Int} (h : ∀ a ∈ r, 0 ≤ a ∧ a ≤ m) (k : Nat) : ∀ a ∈ pw r k, 0 ≤ a ∧ a ≤ m * k := by
  induction k with
  | zero => intro a ha; have : a = 0 := by simpa [pw] using ha
            subst this; simp
  | succ k ih =>
    intro a ha
    obtain ⟨x, hx, y, hy, rfl⟩ := prL_mem ha
    have h1 := ih x hx
    have h2 := h y hy
    have e : m * ((k + 1 : Nat) : Int) = m * k + m := by rw [Int.natCast_add, Int.mul_add]; simp
    omega
theorem pw_top {r : List Int} {m : Int} (h : m ∈ r) (k : Nat) : m * k ∈ pw r k := by
  induction k with
  | zero => simp [pw]
  | succ k ih =>
    have e : m * ((k + 1 : Nat) : Int) = m * k + m := by rw [Int.natCast_add, Int.mul_add]; simp
    rw [e]; exact mem_prL ih h
/-- the power is a rack -/
def Gd (r : List Int) (k : Nat) : Prop := r.length ^ k ≤ 4000 ∧ (∀ m, maxL r = some m → m * k ≤ 200)
theorem Gd.rr {r : List Int} {k : Nat} (hr : Rr r) (h : Gd r k) : Rr (pw r k) := by
  refine ⟨by rw [pw_len]; exact h.1, fun a ha => ?_⟩
  by_cases z : r = []
  · subst z
    cases k with
    | zero => have : a = 0 := by simpa [pw] using ha
              omega
    | succ k =>
      obtain ⟨x, hx, y, hy, rfl⟩ := prL_mem ha
      cases hy
  · obtain ⟨m, hm⟩ := maxL_ne z
    have q := (maxL_mem hm).2
    have := pw_le (m := m) (fun a ha => ⟨(hr.2 a ha).1, q a ha⟩) k a ha
    have := h.2 m hm
    omega
theorem Gd.less {r : List Int} {j k : Nat} (hr : Rr r) (hj : 1 ≤ j) (hk : j ≤ k) (h : Gd r k) : Gd r j := by
  refine ⟨?_, fun m hm => ?_⟩
  · by_cases z : r.length = 0
    · rw [z, Nat.zero_pow (by omega)]; omega
    · exact Nat.le_trans (Nat.pow_le_pow_right (by omega) hk) h.1
  · have h1 := h.2 m hm
    have h2 := (hr.2 m (maxL_mem hm).1).1
    have h3 : m * (j : Int) ≤ m * k := Int.mul_le_mul_of_nonneg_left (by omega) h2
    omega
theorem Gd.one {r : List Int} (hr : Rr r) : Gd r 1 := ⟨by have := hr.1; simpa using this, fun m hm => by have := hr.2 m (maxL_mem hm).1; simp; omega⟩
theorem times_w {r : List Int} {k : Nat} {Q : S → List S → Prop} {X : Xn → List S → Prop} (hr : Rr r) (h : Gd r k) (q : Gd r (k + 1) → Q (.fr (.tup (iL (pw r (k + 1))))) [.fr (.tup (iL (pw r k))), .fr (.tup (iL r))])
    (x : ¬ Gd r (k + 1) → X ⟨2, [], []⟩ [.fr (.tup (iL (pw r k))), .fr (.tup (iL r))]) : Wc (d_put_times [.fr (.tup (iL (pw r k))), .fr (.tup (iL r))]) Q X := by
  have h0 := h.rr hr
  by_cases z : Gd r (k + 1)
  · have e := times_ok h0 hr (z.rr hr)
    generalize d_put_times [.fr (.tup (iL (pw r k))), .fr (.tup (iL r))] = y at e ⊢
    subst e
    exact q z
  · have e : d_put_times [.fr (.tup (iL (pw r k))), .fr (.tup (iL r))] = .ex ⟨2, [], []⟩ [.fr (.tup (iL (pw r k))), .fr (.tup (iL r))] := by
      by_cases hl : (pw r k).length * r.length ≤ 4000
      · refine times_X4 h0 hr hl ?_
        rw [pw_len, ← Nat.pow_succ] at hl
        have : ∃ m, maxL r = some m ∧ ¬ m * ((k + 1 : Nat) : Int) ≤ 200 := by
          refine Classical.byContradiction fun w => z ⟨hl, fun m hm => Classical.byContradiction fun w2 => w ⟨m, hm, w2⟩⟩
        obtain ⟨m, hm, hn⟩ := this
        exact ⟨_, pw_top (maxL_mem hm).1 (k + 1), by omega⟩
      · exact times_X3 h0 hr (by omega)
    generalize d_put_times [.fr (.tup (iL (pw r k))), .fr (.tup (iL r))] = y at e ⊢
    subst e
    exact x z
theorem range_at {n : Nat} {l r : List Nat} {a : Nat} (h : List.range n = l ++ a :: r) : a = l.length ∧ l.length < n := by
  have e := congrArg (fun x => x[l.length]?) h
  simp only [List.getElem?_append_right (Nat.le_refl _), Nat.sub_self, List.getElem?_cons_zero] at e
  have hl := congrArg List.length h
  simp at hl
  rw [List.getElem?_range (by omega)] at e
  exact ⟨(Option.some.inj e).symm, by omega⟩
/-- power_of of a rack and a number from 1 to 12 -/
theorem power_w {r : List Int} {k : Nat} {Q : S → List S → Prop} {X : Xn → List S → Prop} (hr : Rr r) (hk : 1 ≤ k ∧ k ≤ 12) (q : Gd r k → Q (.fr (.tup (iL (pw r k)))) [.fr (.tup (iL r)), .fr (.int (k : Int))])
    (x : ¬ Gd r k → X ⟨2, [], []⟩ [.fr (.tup (iL r)), .fr (.int (k : Int))]) : Wc (d_power_of [.fr (.tup (iL r)), .fr (.int (k : Int))]) Q X := by
  have h1 := unless_ok hr
  have h2 := whole_w k 1 12
  rw [decide_eq_true (show (1 : Int) ≤ (k : Int) by omega), decide_eq_true (show (k : Int) ≤ 12 by omega)] at h2
  unfold d_power_of
  rw [y_fn]
  unfold b_power_of
  (repeat' (first | (with_reducible apply W_forC) | (with_reducible apply W_forN) | (with_reducible apply x_augs) | (with_reducible refine And.intro (fun hbr => ?_) (fun hbr => ?_) <;> (first | (exfalso; omega) | skip)) | (with_reducible intro hbr; exfalso; omega) | simp_arith only [h1, h2]))
  have e : rngD 0 ((k : Int) - 1).toNat = (List.range (k - 1)).map fun i : Nat => D.int i := by
    rw [show ((k : Int) - 1).toNat = k - 1 by omega]; exact rngD0 _
  rw [e]
  refine W_forA (p := List.range (k - 1)) (P := fun i : Nat => D.int i) (fun l e => ∃ y, Gd r (l.length + 1) ∧ e = [some (.fr (.tup (iL r))), some (.fr (.int (k : Int))), some (.fr (.tup (iL (pw r (l.length + 1))))), y]) ⟨_, Gd.one hr, by rw [List.length_nil, Nat.zero_add, pw_one]⟩ ?_ ?_
  · rintro l i r9 e he ⟨y, g, rfl⟩
    have hi := range_at he
    unfold b_power_of_1
    (repeat' (first | (with_reducible apply W_forC) | (with_reducible apply W_forN) | (with_reducible apply x_augs) | (with_reducible refine And.intro (fun hbr => ?_) (fun hbr => ?_) <;> (first | (exfalso; omega) | skip)) | (with_reducible intro hbr; exfalso; omega) | simp_arith only [true_and]))
    refine times_w hr g (fun g2 => ?_) fun g2 => ?_
    · (repeat' (first | (with_reducible apply W_forC) | (with_reducible apply W_forN) | (with_reducible apply x_augs) | (with_reducible refine And.intro (fun hbr => ?_) (fun hbr => ?_) <;> (first | (exfalso; omega) | skip)) | (with_reducible intro hbr; exfalso; omega) | simp_arith only [true_and]))
      exact ⟨_, g2, rfl⟩
    · (repeat' (first | (with_reducible apply W_forC) | (with_reducible apply W_forN) | (with_reducible apply x_augs) | (with_reducible refine And.intro (fun hbr => ?_) (fun hbr => ?_) <;> (first | (exfalso; omega) | skip)) | (with_reducible intro hbr; exfalso; omega) | simp_arith only [true_and]))
      exact x fun g3 => g2 (g3.less hr (by omega) (by omega))
  · rintro e ⟨y, g, rfl⟩
    rw [List.length_range, show k - 1 + 1 = k by omega] at g ⊢
    (repeat' (first | (with_reducible apply W_forC) | (with_reducible apply W_forN) | (with_reducible apply x_augs) | (with_reducible refine And.intro (fun hbr => ?_) (fun hbr => ?_) <;> (first | (exfalso; omega) | skip)) | (with_reducible intro hbr; exfalso; omega) | simp_arith only [true_and]))
    exact q g

end K81

-- CLASS 81
-- PsCons, sIf, sAsg, sRet, sRetN, sNil, sNo, sExpr, sPar, bTb, bTr, bAnd, bOr, bNot, bAndV, bOrV, bNotV, bIfE, bChain, truthD, bCmp, dCmp, dGt, dLt, dLe, dGe, dEq, dNe, dIs, D.isNon, eqv_int, eqv_tup2, Fv.b1, Fv.b2, bP, aCons, aNil, bIx, bVar, bCon, bTup, bLst, dTupN, dLstN, bDic, bSl, bPart, bInt, Ou.bnd, dSl, pS, pSS, pZ, frz1, frzs, pks, pk, dIx, atI, ixN, gTupF, gIx, gNm, gAll, dDivmod, dInt, dAbs, dLen, dIsi, D.tyN, Fv.own1, fRet, finS_nil, finS_t, finS_f, S.d, bBin, dAdd, dSub, dMulS, dMod, dDiv, dPow, dNeg, pCall, pCallZ, movs, mov1, puts, put1, sFor, mPs, mSeq, seqDE
set_option maxHeartbeats 0
namespace K81
open PySem PySem.Spec PyProof.Rows L2 Fv
local macro_rules | `(tactic| simp_arith only [$es,*]) => `(tactic| simp (disch := first | assumption | omega | (simp <;> omega) | fail) only [y_ok, y_ex, y_no, y_nx, y_rt, y_fex, y_fno, y_cok, y_cex, y_var, y_vfr, y_vol, y_vod, y_voi, y_vno, y_con, y_nil, y_cons, y_c1, y_c2, y_P, y_p, y_b2, y_b1, y_add, y_sub, y_mul, y_fdiv, y_mod, y_pow, y_eq, y_ne, y_lt, y_le, y_gt, y_ge, y_is, y_isn, y_in, y_nin, y_ix, y_tup, y_lst, y_pS, k_nil, k_vl, k_pl, k_pp, sd_fr, sd_ol, sd_od, sd_oi, y_pSS, s_nil, s_vl, s_pl, s_pp, z_nil, z_vl, z_pl, z_pp, y_ope, y_pZ, v_nil, v_vl, v_pl, v_pp, y_calle, y_call, y_kcall, y_kcallX, p_nil, p_vl, p_pl, y_callZ, y_calld, y_callD, y_kcallF, y_kcallFX, y_Tb, y_tb, y_Tr, y_trr, y_trp, y_trpp, y_Not, y_knot, y_And, y_Or, y_AndV, y_OrV, y_knotV, y_NotV, y_IfE, y_bot, y_bof, y_bod, y_bon, y_bnd, y_bndk, y_sl, y_sl1, y_sl2, y_sl3, y_part0, y_part1, y_int, y_S, y_s, y_sNil, y_asg, y_asgv, y_asgp, y_asgpp, y_gNm, y_expr, y_kexpr, y_ret, y_retv, y_retp, y_retpp, y_retN, y_if, y_ift, y_iff, y_ifd, y_ifn, y_pare, y_park, y_par, y_gall0, y_gall1, y_gk, y_gtup, y_glst, y_ixv, y_mtk, y_for, y_seq, y_sqv, y_sqp, y_sqpp, y_sqL, y_sqT, y_sqS, y_psl, y_ps, y_lc, y_fin, y_finN, y_finX, n_nil, n_keep, n_fr, x_op, x_os, x_opm, x_tr, x_trm, x_ps, x_psm, x_z, x_zm, x_aug, x_augp, x_augv, x_augm, x_gix, x_gixp, x_ix2, x_ixm, x_mt, x_mtp, x_mte, x_mtq, x_mtm, x_asp, x_ask, x_asq, x_asr, x_ka, x_ka3, x_ka4, y_kli, y_klp, y_klpp, w_nil, w_cons, y_yes, y_kts, y_ktf, y_ktd, y_ktn, y_kfor, f_backL, f_backT, f_add, f_sub, f_neg, f_eqI, f_neI, f_lt, f_le, f_gt, f_ge, f_isN, f_isnN, f_isB, f_isnB, f_slL, f_slT, f_lenL, f_lenT, f_abs, f_max, f_min, f_intI, f_intB, f_listL, f_listT, f_tupL, f_tupT, enumL, enumT, zipL, zipT, aug_add, aug_sub, tr_bl, tr_int, tr_lst, tr_tup, D.isNon, f_tup, f_lst, f_mod, f_divS, f_divmodS, f_div, f_divmod, f_mulI, f_mulJ, f_mul, f_mul0, f_pow, f_addL, f_addT, f_addS, f_lenS, g_app, rngA, rngB, aug_mulI, aug_mulJ, aug_mul, kit_ii, kit_ib, kit_bi, kit_bb, List.getElem?_cons_zero, List.getElem?_cons_succ, List.set_cons_zero, List.set_cons_succ, List.length_cons, List.length_nil, List.nil_append, List.cons_append, List.map_cons, List.map_nil, List.length_append, List.length_map, List.length_replicate, Nat.zero_add, true_and, and_true, decide_true, decide_false, Bool.not_true, Bool.not_false, Bool.true_or, Bool.or_true, Bool.false_or, Bool.or_false, Bool.true_and, Bool.and_true, Bool.false_and, Bool.and_false, beq_self_eq_true, if_true, if_false, ite_true, ite_false, Bool.false_eq_true, reduceIte, true_implies, not_true_eq_false, not_false_eq_true, false_implies, implies_true, List.replicate_succ, List.replicate_zero, Nat.reduceAdd, Nat.reduceSub, Nat.reduceMul, Nat.reduceLT, Nat.reduceEqDiff, Nat.reduceBEq, Nat.reduceLeDiff, Int.cast_ofNat_Int, Int.reduceLT, Int.reduceLE, Int.reduceEq, Int.reduceNe, Int.reduceNeg, Int.reduceAdd, Int.reduceSub, Int.reduceMul, Int.reduceToNat, Int.reducePow, Nat.reducePow, y_ms, y_neT, y_tm, f_tm, eq_bb, ne_bb, y_lce, y_lce1, y_lce2, y_klo, y_rai, y_ktry, y_try, y_hand0, y_hand1, y_hndt, y_hndf, y_go, y_goA, y_kun, y_kur, y_exb, y_kex, y_exi, nf_nil, nf_cons, nf_none, nf_some, nf_fr, nf_ol, nf_od, nf_oi, nf_non, nf_bl, nf_int, nf_str, nf_tup, nf_lst, nf_dic, nf_ins, nfs_nil, nfs_cons, nfs_iL, nfs_sL, nfs_app, y_kmr, y_mpl, y_mppp, y_mpv, y_mpp, y_mp, y_extm, y_kextpp, y_kextv, y_kextp, y_extp, y_ext, f_index, f_count, f_lr1, f_lr2, revL, revT, y_med, y_kma, y_mepp, y_mev, y_mep, y_meth, y_kmk, y_make, y_pmake, y_kfr, y_fz, y_flt, y_fle, y_kfl, y_sfld, y_plen, f_lenA, f_lenB, f_lenC, y_wht, y_whf, y_whd, y_whn, y_hg, y_ht, y_hr, y_hrt, y_hrf, y_hb, y_ha, y_chain1, y_chain2, y_chain3, y_chain4, f_maxA, f_maxLB, eq_tupI, ne_tupI, eq_lstI, ne_lstI, isi_non_int, isi_non_bool, isi_non_str, isi_non_list, isi_non_tuple, isi_non_dict, isi_bl_int, isi_bl_bool, isi_bl_str, isi_bl_list, isi_bl_tuple, isi_bl_dict, isi_int_int, isi_int_bool, isi_int_str, isi_int_list, isi_int_tuple, isi_int_dict, isi_str_int, isi_str_bool, isi_str_str, isi_str_list, isi_str_tuple, isi_str_dict, isi_tup_int, isi_tup_bool, isi_tup_str, isi_tup_list, isi_tup_tuple, isi_tup_dict, isi_lst_int, isi_lst_bool, isi_lst_str, isi_lst_list, isi_lst_tuple, isi_lst_dict, isi_dic_int, isi_dic_bool, isi_dic_str, isi_dic_list, isi_dic_tuple, isi_dic_dict, isi_non_lt, isi_bl_lt, isi_int_lt, isi_str_lt, isi_tup_lt, isi_lst_lt, isi_dic_lt, ixL10, ixT10, ixN10, ixL20, ixT20, ixN20, ixL21, ixT21, ixN21, ixL30, ixT30, ixN30, ixL31, ixT31, ixN31, ixL32, ixT32, ixN32, ixL40, ixT40, ixN40, ixL41, ixT41, ixN41, ixL42, ixT42, ixN42, ixL43, ixT43, ixN43, ixL50, ixT50, ixN50, ixL51, ixT51, ixN51, ixL52, ixT52, ixN52, ixL53, ixT53, ixN53, ixL54, ixT54, ixN54, y_dic0, x_gdk, x_gdkp, y_dkv, x_dk2, f_inK, f_dxI, f_dxS, y_mq, y_mqv, y_mqp, y_mqpp, y_mql, y_mqt, f_indexT, f_countT, y_dic, y_kdic, y_dice, y_mtt, y_mttv, y_mtu, y_mtfC, y_mtfR, y_mtfA, List.map_cons, List.map_nil, List.replicate_succ, List.replicate_zero, xs_0_0, xs_0_1, xs_0_2, xs_0_4, xs_0_3, xs_2_0, xs_2_1, xs_2_2, xs_2_4, xs_2_3, xs_1_0, xs_1_1, xs_1_2, xs_1_4, xs_1_3, ka_0_0, ka_0_1, ka_0_2, ka_0_3, ka_0_4, ka_2_0, ka_2_1, ka_2_2, ka_2_3, ka_2_4, ka_1_0, ka_1_1, ka_1_2, ka_1_3, ka_1_4, y_tm0, f_tm0, y_seqL, y_sqvL, y_sqpL, y_sqppL, y_sqLL, $es,*])
/-! k81: the law's own words -/
theorem pick_bl {bs : List Bool} {Q : R → En → Prop} {a b : S} (hl : bs.length < 1000) (q : Q (.vl (.ol ((bs.filter id).map D.bl))) [some a, some b, none]) : KLc (gNm 2) u_Lclass_1 m_Lclass_2 [2] Q (bs.map D.bl) [some a, some b, none] := by
  refine K_filterA (p := bs) (P := D.bl) (F := D.bl) (Tp := id) (by omega) (by simp) (fun x hx I ds' acc h1 h2 => ?_) q
  unfold u_Lclass_1 m_Lclass_2
  cases x with
  | true => (repeat' (first | (with_reducible apply W_forC) | (with_reducible apply W_forN) | (with_reducible apply x_augs) | (with_reducible refine And.intro (fun hbr => ?_) (fun hbr => ?_) <;> (first | (exfalso; omega) | skip)) | (with_reducible intro hbr; exfalso; omega) | simp_arith only [true_and])); exact h1 rfl
  | false => (repeat' (first | (with_reducible apply W_forC) | (with_reducible apply W_forN) | (with_reducible apply x_augs) | (with_reducible refine And.intro (fun hbr => ?_) (fun hbr => ?_) <;> (first | (exfalso; omega) | skip)) | (with_reducible intro hbr; exfalso; omega) | simp_arith only [true_and])); exact h2 rfl
theorem ix_0 : dIndex [.lst [.bl true, .bl false, .bl false, .bl false], .bl true] = some (.fr (.int 0)) := by rfl
theorem ix_1 : dIndex [.lst [.bl false, .bl true, .bl false, .bl false], .bl true] = some (.fr (.int 1)) := by rfl
theorem ix_2 : dIndex [.lst [.bl false, .bl false, .bl true, .bl false], .bl true] = some (.fr (.int 2)) := by rfl
theorem class_rk : d_Lclass ⟨0, [], []⟩ [.fr (.fn 0)] = .ok (.fr (.tup [.str "rack"])) [.fr (.fn 0)] := by
  suffices h : Wc (d_Lclass ⟨0, [], []⟩ [.fr (.fn 0)]) (fun s ss => s = .fr (.tup [.str "rack"]) ∧ ss = [.fr (.fn 0)]) noC by
    generalize d_Lclass ⟨0, [], []⟩ [.fr (.fn 0)] = x at h ⊢
    exact of_Wc h
  unfold d_Lclass
  rw [y_fn]
  unfold b_Lclass
  (repeat' (first | (with_reducible apply W_forC) | (with_reducible apply W_forN) | (with_reducible apply x_augs) | (with_reducible refine And.intro (fun hbr => ?_) (fun hbr => ?_) <;> (first | (exfalso; omega) | skip)) | (with_reducible intro hbr; exfalso; omega) | simp_arith only [true_and]))
  refine pick_bl (bs := [true, false, false, false]) (by simp) ?_
  rw [show (([true, false, false, false] : List Bool).filter id).map D.bl = [D.bl true] from rfl]
  (repeat' (first | (with_reducible apply W_forC) | (with_reducible apply W_forN) | (with_reducible apply x_augs) | (with_reducible refine And.intro (fun hbr => ?_) (fun hbr => ?_) <;> (first | (exfalso; omega) | skip)) | (with_reducible intro hbr; exfalso; omega) | simp_arith only [ix_0]))
theorem class_nu : d_Lclass ⟨1, [], []⟩ [.fr (.fn 0)] = .ok (.fr (.tup [.str "number"])) [.fr (.fn 0)] := by
  suffices h : Wc (d_Lclass ⟨1, [], []⟩ [.fr (.fn 0)]) (fun s ss => s = .fr (.tup [.str "number"]) ∧ ss = [.fr (.fn 0)]) noC by
    generalize d_Lclass ⟨1, [], []⟩ [.fr (.fn 0)] = x at h ⊢
    exact of_Wc h
  unfold d_Lclass
  rw [y_fn]
  unfold b_Lclass
  (repeat' (first | (with_reducible apply W_forC) | (with_reducible apply W_forN) | (with_reducible apply x_augs) | (with_reducible refine And.intro (fun hbr => ?_) (fun hbr => ?_) <;> (first | (exfalso; omega) | skip)) | (with_reducible intro hbr; exfalso; omega) | simp_arith only [true_and]))
  refine pick_bl (bs := [false, true, false, false]) (by simp) ?_
  rw [show (([false, true, false, false] : List Bool).filter id).map D.bl = [D.bl true] from rfl]
  (repeat' (first | (with_reducible apply W_forC) | (with_reducible apply W_forN) | (with_reducible apply x_augs) | (with_reducible refine And.intro (fun hbr => ?_) (fun hbr => ?_) <;> (first | (exfalso; omega) | skip)) | (with_reducible intro hbr; exfalso; omega) | simp_arith only [ix_1]))
theorem class_mc : d_Lclass ⟨2, [], []⟩ [.fr (.fn 0)] = .ok (.fr (.tup [.str "much"])) [.fr (.fn 0)] := by
  suffices h : Wc (d_Lclass ⟨2, [], []⟩ [.fr (.fn 0)]) (fun s ss => s = .fr (.tup [.str "much"]) ∧ ss = [.fr (.fn 0)]) noC by
    generalize d_Lclass ⟨2, [], []⟩ [.fr (.fn 0)] = x at h ⊢
    exact of_Wc h
  unfold d_Lclass
  rw [y_fn]
  unfold b_Lclass
  (repeat' (first | (with_reducible apply W_forC) | (with_reducible apply W_forN) | (with_reducible apply x_augs) | (with_reducible refine And.intro (fun hbr => ?_) (fun hbr => ?_) <;> (first | (exfalso; omega) | skip)) | (with_reducible intro hbr; exfalso; omega) | simp_arith only [true_and]))
  refine pick_bl (bs := [false, false, true, false]) (by simp) ?_
  rw [show (([false, false, true, false] : List Bool).filter id).map D.bl = [D.bl true] from rfl]
  (repeat' (first | (with_reducible apply W_forC) | (with_reducible apply W_forN) | (with_reducible apply x_augs) | (with_reducible refine And.intro (fun hbr => ?_) (fun hbr => ?_) <;> (first | (exfalso; omega) | skip)) | (with_reducible intro hbr; exfalso; omega) | simp_arith only [ix_2]))
theorem told_ok {r : List Int} {k : Nat} (hr : Rr r) (hk : 1 ≤ k ∧ k ≤ 12) (h : Gd r k) : d_Ltold [.fr (.tup (iL r)), .fr (.int (k : Int))] = .ok (.fr (.tup [.str "told", .tup (iL (pw r k))])) [.fr (.tup (iL r)), .fr (.int (k : Int))] := by
  suffices h : Wc (d_Ltold [.fr (.tup (iL r)), .fr (.int (k : Int))]) (fun s ss => s = .fr (.tup [.str "told", .tup (iL (pw r k))]) ∧ ss = [.fr (.tup (iL r)), .fr (.int (k : Int))]) noC by
    generalize d_Ltold [.fr (.tup (iL r)), .fr (.int (k : Int))] = x at h ⊢
    exact of_Wc h
  unfold d_Ltold
  rw [y_fn]
  unfold b_Ltold
  (repeat' (first | (with_reducible apply W_forC) | (with_reducible apply W_forN) | (with_reducible apply x_augs) | (with_reducible refine And.intro (fun hbr => ?_) (fun hbr => ?_) <;> (first | (exfalso; omega) | skip)) | (with_reducible intro hbr; exfalso; omega) | simp_arith only [true_and]))
  refine power_w hr hk (fun _ => ?_) fun n => absurd h n
  (repeat' (first | (with_reducible apply W_forC) | (with_reducible apply W_forN) | (with_reducible apply x_augs) | (with_reducible refine And.intro (fun hbr => ?_) (fun hbr => ?_) <;> (first | (exfalso; omega) | skip)) | (with_reducible intro hbr; exfalso; omega) | simp_arith only [true_and]))
theorem told_X {s t : D} {n : Nat} {x : D} (nf : s.nf = true ∧ t.nf = true) (hn : n = 0 ∧ x = .tup [.str "rack"] ∨ n = 1 ∧ x = .tup [.str "number"] ∨ n = 2 ∧ x = .tup [.str "much"])
    (h : Wc (d_power_of [.fr s, .fr t]) (fun _ _ => False) (fun x ss => x = ⟨n, [], []⟩ ∧ ss = [.fr s, .fr t])) : d_Ltold [.fr s, .fr t] = .ok (.fr x) [.fr s, .fr t] := by
  have h := of_WcX h
  have c1 := class_rk
  have c2 := class_nu
  have c3 := class_mc
  suffices h : Wc (d_Ltold [.fr s, .fr t]) (fun s' ss => s' = .fr x ∧ ss = [.fr s, .fr t]) noC by
    generalize d_Ltold [.fr s, .fr t] = x at h ⊢
    exact of_Wc h
  have nf1 := nf.1
  have nf2 := nf.2
  unfold d_Ltold
  rw [y_fn]
  unfold b_Ltold
  rcases hn with ⟨rfl, rfl⟩ | ⟨rfl, rfl⟩ | ⟨rfl, rfl⟩
  · simp_arith only [h, c1, nfE, nfO, nfS, nf1, nf2, D.nf, D.nfs]
  · simp_arith only [h, c2, nfE, nfO, nfS, nf1, nf2, D.nf, D.nfs]
  · simp_arith only [h, c3, nfE, nfO, nfS, nf1, nf2, D.nf, D.nfs]

end K81

-- CLASS 81
-- PsCons, sIf, sAsg, sRet, sRetN, sNil, sNo, sExpr, sPar, bTb, bTr, bAnd, bOr, bNot, bAndV, bOrV, bNotV, bIfE, bChain, truthD, bCmp, dCmp, dGt, dLt, dLe, dGe, dEq, dNe, dIs, D.isNon, eqv_int, eqv_tup2, Fv.b1, Fv.b2, bP, aCons, aNil, bIx, bVar, bCon, bTup, bLst, dTupN, dLstN, bDic, bSl, bPart, bInt, Ou.bnd, dSl, pS, pSS, pZ, frz1, frzs, pks, pk, dIx, atI, ixN, gTupF, gIx, gNm, gAll, dDivmod, dInt, dAbs, dLen, dIsi, D.tyN, Fv.own1, fRet, finS_nil, finS_t, finS_f, S.d, bBin, dAdd, dSub, dMulS, dMod, dDiv, dPow, dNeg, pCall, pCallZ, movs, mov1, puts, put1, sFor, mPs, mSeq, seqDE
set_option maxHeartbeats 0
namespace K81
open PySem PySem.Spec PyProof.Rows L2 Fv
local macro_rules | `(tactic| simp_arith only [$es,*]) => `(tactic| simp (disch := first | assumption | omega | (simp <;> omega) | fail) only [y_ok, y_ex, y_no, y_nx, y_rt, y_fex, y_fno, y_cok, y_cex, y_var, y_vfr, y_vol, y_vod, y_voi, y_vno, y_con, y_nil, y_cons, y_c1, y_c2, y_P, y_p, y_b2, y_b1, y_add, y_sub, y_mul, y_fdiv, y_mod, y_pow, y_eq, y_ne, y_lt, y_le, y_gt, y_ge, y_is, y_isn, y_in, y_nin, y_ix, y_tup, y_lst, y_pS, k_nil, k_vl, k_pl, k_pp, sd_fr, sd_ol, sd_od, sd_oi, y_pSS, s_nil, s_vl, s_pl, s_pp, z_nil, z_vl, z_pl, z_pp, y_ope, y_pZ, v_nil, v_vl, v_pl, v_pp, y_calle, y_call, y_kcall, y_kcallX, p_nil, p_vl, p_pl, y_callZ, y_calld, y_callD, y_kcallF, y_kcallFX, y_Tb, y_tb, y_Tr, y_trr, y_trp, y_trpp, y_Not, y_knot, y_And, y_Or, y_AndV, y_OrV, y_knotV, y_NotV, y_IfE, y_bot, y_bof, y_bod, y_bon, y_bnd, y_bndk, y_sl, y_sl1, y_sl2, y_sl3, y_part0, y_part1, y_int, y_S, y_s, y_sNil, y_asg, y_asgv, y_asgp, y_asgpp, y_gNm, y_expr, y_kexpr, y_ret, y_retv, y_retp, y_retpp, y_retN, y_if, y_ift, y_iff, y_ifd, y_ifn, y_pare, y_park, y_par, y_gall0, y_gall1, y_gk, y_gtup, y_glst, y_ixv, y_mtk, y_for, y_seq, y_sqv, y_sqp, y_sqpp, y_sqL, y_sqT, y_sqS, y_psl, y_ps, y_lc, y_fin, y_finN, y_finX, n_nil, n_keep, n_fr, x_op, x_os, x_opm, x_tr, x_trm, x_ps, x_psm, x_z, x_zm, x_aug, x_augp, x_augv, x_augm, x_gix, x_gixp, x_ix2, x_ixm, x_mt, x_mtp, x_mte, x_mtq, x_mtm, x_asp, x_ask, x_asq, x_asr, x_ka, x_ka3, x_ka4, y_kli, y_klp, y_klpp, w_nil, w_cons, y_yes, y_kts, y_ktf, y_ktd, y_ktn, y_kfor, f_backL, f_backT, f_add, f_sub, f_neg, f_eqI, f_neI, f_lt, f_le, f_gt, f_ge, f_isN, f_isnN, f_isB, f_isnB, f_slL, f_slT, f_lenL, f_lenT, f_abs, f_max, f_min, f_intI, f_intB, f_listL, f_listT, f_tupL, f_tupT, enumL, enumT, zipL, zipT, aug_add, aug_sub, tr_bl, tr_int, tr_lst, tr_tup, D.isNon, f_tup, f_lst, f_mod, f_divS, f_divmodS, f_div, f_divmod, f_mulI, f_mulJ, f_mul, f_mul0, f_pow, f_addL, f_addT, f_addS, f_lenS, g_app, rngA, rngB, aug_mulI, aug_mulJ, aug_mul, kit_ii, kit_ib, kit_bi, kit_bb, List.getElem?_cons_zero, List.getElem?_cons_succ, List.set_cons_zero, List.set_cons_succ, List.length_cons, List.length_nil, List.nil_append, List.cons_append, List.map_cons, List.map_nil, List.length_append, List.length_map, List.length_replicate, Nat.zero_add, true_and, and_true, decide_true, decide_false, Bool.not_true, Bool.not_false, Bool.true_or, Bool.or_true, Bool.false_or, Bool.or_false, Bool.true_and, Bool.and_true, Bool.false_and, Bool.and_false, beq_self_eq_true, if_true, if_false, ite_true, ite_false, Bool.false_eq_true, reduceIte, true_implies, not_true_eq_false, not_false_eq_true, false_implies, implies_true, List.replicate_succ, List.replicate_zero, Nat.reduceAdd, Nat.reduceSub, Nat.reduceMul, Nat.reduceLT, Nat.reduceEqDiff, Nat.reduceBEq, Nat.reduceLeDiff, Int.cast_ofNat_Int, Int.reduceLT, Int.reduceLE, Int.reduceEq, Int.reduceNe, Int.reduceNeg, Int.reduceAdd, Int.reduceSub, Int.reduceMul, Int.reduceToNat, Int.reducePow, Nat.reducePow, y_ms, y_neT, y_tm, f_tm, eq_bb, ne_bb, y_lce, y_lce1, y_lce2, y_klo, y_rai, y_ktry, y_try, y_hand0, y_hand1, y_hndt, y_hndf, y_go, y_goA, y_kun, y_kur, y_exb, y_kex, y_exi, nf_nil, nf_cons, nf_none, nf_some, nf_fr, nf_ol, nf_od, nf_oi, nf_non, nf_bl, nf_int, nf_str, nf_tup, nf_lst, nf_dic, nf_ins, nfs_nil, nfs_cons, nfs_iL, nfs_sL, nfs_app, y_kmr, y_mpl, y_mppp, y_mpv, y_mpp, y_mp, y_extm, y_kextpp, y_kextv, y_kextp, y_extp, y_ext, f_index, f_count, f_lr1, f_lr2, revL, revT, y_med, y_kma, y_mepp, y_mev, y_mep, y_meth, y_kmk, y_make, y_pmake, y_kfr, y_fz, y_flt, y_fle, y_kfl, y_sfld, y_plen, f_lenA, f_lenB, f_lenC, y_wht, y_whf, y_whd, y_whn, y_hg, y_ht, y_hr, y_hrt, y_hrf, y_hb, y_ha, y_chain1, y_chain2, y_chain3, y_chain4, f_maxA, f_maxLB, eq_tupI, ne_tupI, eq_lstI, ne_lstI, isi_non_int, isi_non_bool, isi_non_str, isi_non_list, isi_non_tuple, isi_non_dict, isi_bl_int, isi_bl_bool, isi_bl_str, isi_bl_list, isi_bl_tuple, isi_bl_dict, isi_int_int, isi_int_bool, isi_int_str, isi_int_list, isi_int_tuple, isi_int_dict, isi_str_int, isi_str_bool, isi_str_str, isi_str_list, isi_str_tuple, isi_str_dict, isi_tup_int, isi_tup_bool, isi_tup_str, isi_tup_list, isi_tup_tuple, isi_tup_dict, isi_lst_int, isi_lst_bool, isi_lst_str, isi_lst_list, isi_lst_tuple, isi_lst_dict, isi_dic_int, isi_dic_bool, isi_dic_str, isi_dic_list, isi_dic_tuple, isi_dic_dict, isi_non_lt, isi_bl_lt, isi_int_lt, isi_str_lt, isi_tup_lt, isi_lst_lt, isi_dic_lt, ixL10, ixT10, ixN10, ixL20, ixT20, ixN20, ixL21, ixT21, ixN21, ixL30, ixT30, ixN30, ixL31, ixT31, ixN31, ixL32, ixT32, ixN32, ixL40, ixT40, ixN40, ixL41, ixT41, ixN41, ixL42, ixT42, ixN42, ixL43, ixT43, ixN43, ixL50, ixT50, ixN50, ixL51, ixT51, ixN51, ixL52, ixT52, ixN52, ixL53, ixT53, ixN53, ixL54, ixT54, ixN54, y_dic0, x_gdk, x_gdkp, y_dkv, x_dk2, f_inK, f_dxI, f_dxS, y_mq, y_mqv, y_mqp, y_mqpp, y_mql, y_mqt, f_indexT, f_countT, y_dic, y_kdic, y_dice, y_mtt, y_mttv, y_mtu, y_mtfC, y_mtfR, y_mtfA, List.map_cons, List.map_nil, List.replicate_succ, List.replicate_zero, xs_0_0, xs_0_1, xs_0_2, xs_0_4, xs_0_3, xs_2_0, xs_2_1, xs_2_2, xs_2_4, xs_2_3, xs_1_0, xs_1_1, xs_1_2, xs_1_4, xs_1_3, ka_0_0, ka_0_1, ka_0_2, ka_0_3, ka_0_4, ka_2_0, ka_2_1, ka_2_2, ka_2_3, ka_2_4, ka_1_0, ka_1_1, ka_1_2, ka_1_3, ka_1_4, y_tm0, f_tm0, y_seqL, y_sqvL, y_sqpL, y_sqppL, y_sqLL, $es,*])
/-! k81: the law's own power -/
theorem ne_nil (r : List Int) : dNe [.tup (iL r), .tup []] = some (.fr (.bl (!decide (r = [])))) := ne_tupI r []
theorem pw_small {r : List Int} {j k : Nat} (hr : Rr r) (hj : j ≤ k) (h : Gd r k) (hk : 1 ≤ k) : (pw r j).length ≤ 4000 := by
  cases j with
  | zero => simp [pw]
  | succ j => exact (Gd.rr hr (h.less hr (by omega) hj)).1
theorem prL_snoc2 (l m : List Int) (x : Int) : prL (l ++ [x]) m = prL l m ++ m.map (x + ·) := prL_snoc l m x
/-- one more time the shelf -/
theorem due_in {r f : List Int} {k : Int} {s : Int} {y3 y6 : Option S} {X : Xn → En → Prop} {N : En → Prop} {Rt : S → En → Prop} (hf : f.length * r.length ≤ 4000) (hr : r.length ≤ 4000) (hf2 : f.length ≤ 4000)
    (q : ∀ y6, N [some (.fr (.tup (iL r))), some (.fr (.int k)), some (.fr (.int s)), y3, some (.fr (.lst (iL f))), some (.ol (iL (prL f r))), y6, none]) :
    Wf X (forL (gNm 6) b_Ldue_3 (iL f) [some (.fr (.tup (iL r))), some (.fr (.int k)), some (.fr (.int s)), y3, some (.fr (.lst (iL f))), some (.ol []), y6, none]) N Rt := by
  refine W_forA (p := f) (P := D.int) (fun l e => ∃ y6, e = [some (.fr (.tup (iL r))), some (.fr (.int k)), some (.fr (.int s)), y3, some (.fr (.lst (iL f))), some (.ol (iL (prL l r))), y6, none]) ⟨_, rfl⟩ ?_ ?_
  · rintro l x r9 e he ⟨y6, rfl⟩
    have hl : l.length ≤ f.length := by rw [he]; simp
    have hll := Nat.mul_le_mul_right r.length hl
    unfold b_Ldue_3
    simp_arith only [true_and]
    refine K_mapA (F := fun z => .int (x + z)) (by omega) (by simp) (fun z hz I ds' acc hI => ?_) ?_
    · unfold m_Ldue_2
      (repeat' (first | (with_reducible apply W_forC) | (with_reducible apply W_forN) | (with_reducible apply x_augs) | (with_reducible refine And.intro (fun hbr => ?_) (fun hbr => ?_) <;> (first | (exfalso; omega) | skip)) | (with_reducible intro hbr; exfalso; omega) | simp_arith only [true_and]))
      exact hI
    · rw [show r.map (fun z => D.int (x + z)) = iL (r.map (x + ·)) by show _ = List.map D.int (List.map _ _); rw [List.map_map]; rfl]
      simp_arith only [true_and]
      refine ⟨by rw [prL_len]; omega, some (.fr (.int x)), ?_⟩
      rw [prL_snoc, iLapp]
  · rintro e ⟨y6, rfl⟩
    exact q y6
theorem pw_next {r : List Int} {j k : Nat} (hr : Rr r) (hj : j + 1 ≤ k) (h : Gd r k) (hk : 1 ≤ k) : (pw r j).length * r.length ≤ 4000 := by
  have := pw_small hr hj h hk
  rw [← prL_len]; exact this
theorem size_le {r : List Int} (h : r.length ≤ 10) (j : Nat) (hj : j ≤ 12) : ((r.length ^ j : Nat) : Int) ≤ 1000000000000 := by
  have h1 : r.length ^ j ≤ 10 ^ j := Nat.pow_le_pow_left h j
  have h2 : 10 ^ j ≤ 10 ^ 12 := Nat.pow_le_pow_right (by omega) hj
  have h3 : (10 : Nat) ^ 12 = 1000000000000 := by decide
  omega
theorem due_w {r : List Int} {k : Nat} {Q : S → List S → Prop} {X : Xn → List S → Prop} (hr : Rr r) (h4 : r.length ≤ 10) (hk : 1 ≤ k ∧ k ≤ 12) (q : Gd r k → Q (.fr (.tup [.str "told", .tup (iL (pw r k))])) [.fr (.tup (iL r)), .fr (.int (k : Int))])
    (x : ¬ Gd r k → Q (.fr (.tup [.str "much"])) [.fr (.tup (iL r)), .fr (.int (k : Int))]) : Wc (d_Ldue [.fr (.tup (iL r)), .fr (.int (k : Int))]) Q X := by
  have n0 := ne_nil r
  have rk : rngD 0 (k : Int).toNat = (List.range k).map fun i : Nat => D.int i := by rw [Int.toNat_natCast]; exact rngD0 _
  have main : ∀ (y3 : Option S) (s : Int) (Q2 : En → Prop) (Rt : S → En → Prop), Gd r k → (∀ s4 y3 y5 y6, (s4 = .ol (iL (pw r k)) ∨ s4 = .fr (.lst (iL (pw r k)))) → Q2 [some (.fr (.tup (iL r))), some (.fr (.int (k : Int))), some (.fr (.int s)), y3, some s4, y5, y6, none]) →
      Wf (KFinX (fun i => i == 0 || i == 1) [.fr (.tup (iL r)), .fr (.int (k : Int))] X) (forL (gNm 3) b_Ldue_4 ((List.range k).map fun i : Nat => D.int i) [some (.fr (.tup (iL r))), some (.fr (.int (k : Int))), some (.fr (.int s)), y3, some (.ol [.int 0]), none, none, none]) Q2 Rt := by
    intro y3 s Q2 Rt g hQ
    refine W_forA (p := List.range k) (P := fun i : Nat => D.int i) (fun l e => ∃ s4 y3 y5 y6, (s4 = .ol (iL (pw r l.length)) ∨ s4 = .fr (.lst (iL (pw r l.length)))) ∧ e = [some (.fr (.tup (iL r))), some (.fr (.int (k : Int))), some (.fr (.int s)), y3, some s4, y5, y6, none]) ⟨_, _, _, _, .inl rfl, rfl⟩ ?_ ?_
    · rintro l i r9 e he ⟨s4, y3, y5, y6, h4, rfl⟩
      have hi := range_at he
      have hs := pw_small (j := l.length) hr (by omega) g hk.1
      have hs2 := pw_next (j := l.length) hr (by omega) g hk.1
      unfold b_Ldue_4
      rcases h4 with rfl | rfl
      · simp_arith only [true_and]
        refine due_in hs2 (by omega) hs fun y6 => ?_
        simp_arith only [true_and]
        exact ⟨_, _, _, _, .inr rfl, rfl⟩
      · simp_arith only [true_and]
        refine due_in hs2 (by omega) hs fun y6 => ?_
        simp_arith only [true_and]
        exact ⟨_, _, _, _, .inr rfl, rfl⟩
    · rintro e ⟨s4, y3, y5, y6, h4, rfl⟩
      rw [List.length_range] at h4
      exact hQ s4 y3 y5 y6 h4
  unfold d_Ldue
  rw [y_fn]
  unfold b_Ldue
  simp_arith only [rk]
  refine W_forA (p := List.range k) (P := fun i : Nat => D.int i) (fun l e => ∃ y3, e = [some (.fr (.tup (iL r))), some (.fr (.int (k : Int))), some (.fr (.int ((r.length ^ l.length : Nat) : Int))), y3, none, none, none, none]) ⟨_, rfl⟩ ?_ ?_
  · rintro l i r9 e he ⟨y3, rfl⟩
    have hi := range_at he
    have hs := size_le (r := r) h4 l.length (by omega)
    have hp : ((r.length ^ l.length : Nat) : Int) * (r.length : Int) = ((r.length ^ (l.length + 1) : Nat) : Int) := by rw [Nat.pow_succ, Int.natCast_mul]
    generalize hz : ((r.length ^ l.length : Nat) : Int) = z at *
    unfold b_Ldue_1
    simp_arith only [hp]
    exact ⟨_, rfl⟩
  · rintro e ⟨y3, rfl⟩
    rw [List.length_range]
    have hs := size_le (r := r) h4 k hk.2
    generalize hz : ((r.length ^ k : Nat) : Int) = z at *
    by_cases h0 : r = []
    · have z0 : z = 0 := by rw [← hz, h0]; show ((0 ^ k : Nat) : Int) = 0; rw [Nat.zero_pow (by omega)]; rfl
      have g : Gd r k := ⟨by rw [h0]; show 0 ^ k ≤ 4000; rw [Nat.zero_pow (by omega)]; omega, fun m hm => by rw [h0] at hm; cases hm⟩
      subst z0
      rw [decide_eq_true h0] at n0
      simp_arith only [n0, rk]
      refine main _ _ _ _ g fun s4 y3 y5 y6 h4 => ?_
      rcases h4 with rfl | rfl
      · simp_arith only [true_and]
        exact q g
      · simp_arith only [true_and]
        exact q g
    · obtain ⟨m, hm⟩ := maxL_ne h0
      have hm2 := hr.2 m (maxL_mem hm).1
      have mx : dMaxB [.tup (iL r)] = some (.fr (.int m)) := f_maxTB (ints_of _) hm
      rw [decide_eq_false h0] at n0
      simp_arith only [n0, mx, rk]
      refine ⟨fun b1 => x fun g => ?_, fun b1 => ⟨fun b2 => x fun g => ?_, fun b2 => ?_⟩⟩
      · have := g.1
        omega
      · have := g.2 m hm
        omega
      · have g : Gd r k := ⟨by omega, fun m2 hm2 => by rw [hm] at hm2; cases hm2; omega⟩
        refine main _ _ _ _ g fun s4 y3 y5 y6 h4 => ?_
        rcases h4 with rfl | rfl
        · simp_arith only [true_and]
          exact q g
        · simp_arith only [true_and]
          exact q g

end K81

-- CLASS 81
-- PsCons, sIf, sAsg, sRet, sRetN, sNil, sNo, sExpr, sPar, bTb, bTr, bAnd, bOr, bNot, bAndV, bOrV, bNotV, bIfE, bChain, truthD, bCmp, dCmp, dGt, dLt, dLe, dGe, dEq, dNe, dIs, D.isNon, eqv_int, eqv_tup2, Fv.b1, Fv.b2, bP, aCons, aNil, bIx, bVar, bCon, bTup, bLst, dTupN, dLstN, bDic, bSl, bPart, bInt, Ou.bnd, dSl, pS, pSS, pZ, frz1, frzs, pks, pk, dIx, atI, ixN, gTupF, gIx, gNm, gAll, dDivmod, dInt, dAbs, dLen, dIsi, D.tyN, Fv.own1, fRet, finS_nil, finS_t, finS_f, S.d, bBin, dAdd, dSub, dMulS, dMod, dDiv, dPow, dNeg, pCall, pCallZ, movs, mov1, puts, put1, sFor, mPs, mSeq, seqDE
set_option maxHeartbeats 0
namespace K81
open PySem PySem.Spec PyProof.Rows L2 Fv
local macro_rules | `(tactic| simp_arith only [$es,*]) => `(tactic| simp (disch := first | assumption | omega | (simp <;> omega) | fail) only [y_ok, y_ex, y_no, y_nx, y_rt, y_fex, y_fno, y_cok, y_cex, y_var, y_vfr, y_vol, y_vod, y_voi, y_vno, y_con, y_nil, y_cons, y_c1, y_c2, y_P, y_p, y_b2, y_b1, y_add, y_sub, y_mul, y_fdiv, y_mod, y_pow, y_eq, y_ne, y_lt, y_le, y_gt, y_ge, y_is, y_isn, y_in, y_nin, y_ix, y_tup, y_lst, y_pS, k_nil, k_vl, k_pl, k_pp, sd_fr, sd_ol, sd_od, sd_oi, y_pSS, s_nil, s_vl, s_pl, s_pp, z_nil, z_vl, z_pl, z_pp, y_ope, y_pZ, v_nil, v_vl, v_pl, v_pp, y_calle, y_call, y_kcall, y_kcallX, p_nil, p_vl, p_pl, y_callZ, y_calld, y_callD, y_kcallF, y_kcallFX, y_Tb, y_tb, y_Tr, y_trr, y_trp, y_trpp, y_Not, y_knot, y_And, y_Or, y_AndV, y_OrV, y_knotV, y_NotV, y_IfE, y_bot, y_bof, y_bod, y_bon, y_bnd, y_bndk, y_sl, y_sl1, y_sl2, y_sl3, y_part0, y_part1, y_int, y_S, y_s, y_sNil, y_asg, y_asgv, y_asgp, y_asgpp, y_gNm, y_expr, y_kexpr, y_ret, y_retv, y_retp, y_retpp, y_retN, y_if, y_ift, y_iff, y_ifd, y_ifn, y_pare, y_park, y_par, y_gall0, y_gall1, y_gk, y_gtup, y_glst, y_ixv, y_mtk, y_for, y_seq, y_sqv, y_sqp, y_sqpp, y_sqL, y_sqT, y_sqS, y_psl, y_ps, y_lc, y_fin, y_finN, y_finX, n_nil, n_keep, n_fr, x_op, x_os, x_opm, x_tr, x_trm, x_ps, x_psm, x_z, x_zm, x_aug, x_augp, x_augv, x_augm, x_gix, x_gixp, x_ix2, x_ixm, x_mt, x_mtp, x_mte, x_mtq, x_mtm, x_asp, x_ask, x_asq, x_asr, x_ka, x_ka3, x_ka4, y_kli, y_klp, y_klpp, w_nil, w_cons, y_yes, y_kts, y_ktf, y_ktd, y_ktn, y_kfor, f_backL, f_backT, f_add, f_sub, f_neg, f_eqI, f_neI, f_lt, f_le, f_gt, f_ge, f_isN, f_isnN, f_isB, f_isnB, f_slL, f_slT, f_lenL, f_lenT, f_abs, f_max, f_min, f_intI, f_intB, f_listL, f_listT, f_tupL, f_tupT, enumL, enumT, zipL, zipT, aug_add, aug_sub, tr_bl, tr_int, tr_lst, tr_tup, D.isNon, f_tup, f_lst, f_mod, f_divS, f_divmodS, f_div, f_divmod, f_mulI, f_mulJ, f_mul, f_mul0, f_pow, f_addL, f_addT, f_addS, f_lenS, g_app, rngA, rngB, aug_mulI, aug_mulJ, aug_mul, kit_ii, kit_ib, kit_bi, kit_bb, List.getElem?_cons_zero, List.getElem?_cons_succ, List.set_cons_zero, List.set_cons_succ, List.length_cons, List.length_nil, List.nil_append, List.cons_append, List.map_cons, List.map_nil, List.length_append, List.length_map, List.length_replicate, Nat.zero_add, true_and, and_true, decide_true, decide_false, Bool.not_true, Bool.not_false, Bool.true_or, Bool.or_true, Bool.false_or, Bool.or_false, Bool.true_and, Bool.and_true, Bool.false_and, Bool.and_false, beq_self_eq_true, if_true, if_false, ite_true, ite_false, Bool.false_eq_true, reduceIte, true_implies, not_true_eq_false, not_false_eq_true, false_implies, implies_true, List.replicate_succ, List.replicate_zero, Nat.reduceAdd, Nat.reduceSub, Nat.reduceMul, Nat.reduceLT, Nat.reduceEqDiff, Nat.reduceBEq, Nat.reduceLeDiff, Int.cast_ofNat_Int, Int.reduceLT, Int.reduceLE, Int.reduceEq, Int.reduceNe, Int.reduceNeg, Int.reduceAdd, Int.reduceSub, Int.reduceMul, Int.reduceToNat, Int.reducePow, Nat.reducePow, y_ms, y_neT, y_tm, f_tm, eq_bb, ne_bb, y_lce, y_lce1, y_lce2, y_klo, y_rai, y_ktry, y_try, y_hand0, y_hand1, y_hndt, y_hndf, y_go, y_goA, y_kun, y_kur, y_exb, y_kex, y_exi, nf_nil, nf_cons, nf_none, nf_some, nf_fr, nf_ol, nf_od, nf_oi, nf_non, nf_bl, nf_int, nf_str, nf_tup, nf_lst, nf_dic, nf_ins, nfs_nil, nfs_cons, nfs_iL, nfs_sL, nfs_app, y_kmr, y_mpl, y_mppp, y_mpv, y_mpp, y_mp, y_extm, y_kextpp, y_kextv, y_kextp, y_extp, y_ext, f_index, f_count, f_lr1, f_lr2, revL, revT, y_med, y_kma, y_mepp, y_mev, y_mep, y_meth, y_kmk, y_make, y_pmake, y_kfr, y_fz, y_flt, y_fle, y_kfl, y_sfld, y_plen, f_lenA, f_lenB, f_lenC, y_wht, y_whf, y_whd, y_whn, y_hg, y_ht, y_hr, y_hrt, y_hrf, y_hb, y_ha, y_chain1, y_chain2, y_chain3, y_chain4, f_maxA, f_maxLB, eq_tupI, ne_tupI, eq_lstI, ne_lstI, isi_non_int, isi_non_bool, isi_non_str, isi_non_list, isi_non_tuple, isi_non_dict, isi_bl_int, isi_bl_bool, isi_bl_str, isi_bl_list, isi_bl_tuple, isi_bl_dict, isi_int_int, isi_int_bool, isi_int_str, isi_int_list, isi_int_tuple, isi_int_dict, isi_str_int, isi_str_bool, isi_str_str, isi_str_list, isi_str_tuple, isi_str_dict, isi_tup_int, isi_tup_bool, isi_tup_str, isi_tup_list, isi_tup_tuple, isi_tup_dict, isi_lst_int, isi_lst_bool, isi_lst_str, isi_lst_list, isi_lst_tuple, isi_lst_dict, isi_dic_int, isi_dic_bool, isi_dic_str, isi_dic_list, isi_dic_tuple, isi_dic_dict, isi_non_lt, isi_bl_lt, isi_int_lt, isi_str_lt, isi_tup_lt, isi_lst_lt, isi_dic_lt, ixL10, ixT10, ixN10, ixL20, ixT20, ixN20, ixL21, ixT21, ixN21, ixL30, ixT30, ixN30, ixL31, ixT31, ixN31, ixL32, ixT32, ixN32, ixL40, ixT40, ixN40, ixL41, ixT41, ixN41, ixL42, ixT42, ixN42, ixL43, ixT43, ixN43, ixL50, ixT50, ixN50, ixL51, ixT51, ixN51, ixL52, ixT52, ixN52, ixL53, ixT53, ixN53, ixL54, ixT54, ixN54, y_dic0, x_gdk, x_gdkp, y_dkv, x_dk2, f_inK, f_dxI, f_dxS, y_mq, y_mqv, y_mqp, y_mqpp, y_mql, y_mqt, f_indexT, f_countT, y_dic, y_kdic, y_dice, y_mtt, y_mttv, y_mtu, y_mtfC, y_mtfR, y_mtfA, List.map_cons, List.map_nil, List.replicate_succ, List.replicate_zero, xs_0_0, xs_0_1, xs_0_2, xs_0_4, xs_0_3, xs_2_0, xs_2_1, xs_2_2, xs_2_4, xs_2_3, xs_1_0, xs_1_1, xs_1_2, xs_1_4, xs_1_3, ka_0_0, ka_0_1, ka_0_2, ka_0_3, ka_0_4, ka_2_0, ka_2_1, ka_2_2, ka_2_3, ka_2_4, ka_1_0, ka_1_1, ka_1_2, ka_1_3, ka_1_4, y_tm0, f_tm0, y_seqL, y_sqvL, y_sqpL, y_sqppL, y_sqLL, $es,*])
/-! k81: a turn -/
theorem told_due {r : List Int} {k : Nat} (hr : Rr r) (h4 : r.length ≤ 10) (hk : 1 ≤ k ∧ k ≤ 12) : ∃ x : D, d_Ltold [.fr (.tup (iL r)), .fr (.int (k : Int))] = .ok (.fr x) [.fr (.tup (iL r)), .fr (.int (k : Int))] ∧ d_Ldue [.fr (.tup (iL r)), .fr (.int (k : Int))] = .ok (.fr x) [.fr (.tup (iL r)), .fr (.int (k : Int))] ∧
    (x = .tup [.str "much"] ∨ x = .tup [.str "told", .tup (iL (pw r k))]) := by
  by_cases g : Gd r k
  · refine ⟨_, told_ok hr hk g, ?_, .inr rfl⟩
    refine of_Wc ?_
    exact due_w hr h4 hk (fun _ => ⟨rfl, rfl⟩) fun n => absurd g n
  · refine ⟨_, told_X (n := 2) (x := .tup [.str "much"]) ⟨by simp [D.nf, nfs_iL], rfl⟩ (.inr (.inr ⟨rfl, rfl⟩)) (power_w hr hk (fun n => absurd n g) fun _ => ⟨rfl, rfl⟩), ?_, .inl rfl⟩
    refine of_Wc ?_
    exact due_w hr h4 hk (fun n => absurd n g) fun _ => ⟨rfl, rfl⟩
theorem power_n {s t : D} (h : NoR s) : Wc (d_power_of [.fr s, .fr t]) (fun _ _ => False) (fun x ss => x = ⟨0, [], []⟩ ∧ ss = [.fr s, .fr t]) := by
  have u := rack_unless_no h
  unfold d_power_of
  rw [y_fn]
  unfold b_power_of
  simp_arith only [u]
theorem power_m {r : List Int} {t : D} (hr : Rr r) (ht : OkD t = true) (hn : whB 1 12 t = false) : Wc (d_power_of [.fr (.tup (iL r)), .fr t]) (fun _ _ => False) (fun x ss => x = ⟨1, [], []⟩ ∧ ss = [.fr (.tup (iL r)), .fr t]) := by
  have u := unless_ok hr
  have w := whole_any ht 1 12
  rw [hn] at w
  unfold d_power_of
  rw [y_fn]
  unfold b_power_of
  simp_arith only [u, w]
theorem power_ok {r : List Int} {k : Nat} (hr : Rr r) (hk : 1 ≤ k ∧ k ≤ 12) (h : Gd r k) : d_power_of [.fr (.tup (iL r)), .fr (.int (k : Int))] = .ok (.fr (.tup (iL (pw r k)))) [.fr (.tup (iL r)), .fr (.int (k : Int))] := by
  refine of_Wc ?_
  exact power_w hr hk (fun _ => ⟨rfl, rfl⟩) fun n => absurd h n
theorem refusals_w {N : Nat} {w : List D} {r : List Int} {Q : S → List S → Prop} {X : Xn → List S → Prop} (h : Wl N w) (hN : N < 100000000) (hr : Rr r) (q : ∀ w', Wl (N + 2) w' → Q (.fr (.bl true)) [.ol w', .fr (.tup (iL r))]) : Wc (d_Lrefusals_right [.ol w, .fr (.tup (iL r))]) Q X := by
  unfold d_Lrefusals_right
  rw [y_fn]
  unfold b_Lrefusals_right
  simp_arith only [true_and]
  refine draw_w h (by omega) (by omega) fun p w hw hp => ?_
  simp_arith only [true_and]
  refine pickL ⟨by omega, by simp; omega⟩ fun odd hodd _ => ?_
  refine draw_w hw (by omega) (by omega) fun p2 w hw hp2 => ?_
  simp_arith only [true_and]
  refine pickL ⟨by omega, by simp; omega⟩ fun bad hbad _ => ?_
  have no : NoR odd ∧ odd.nf = true := by
    simp only [List.mem_cons, List.not_mem_nil, or_false] at hodd
    rcases hodd with rfl | rfl | rfl | rfl | rfl | rfl | rfl | rfl
    · exact ⟨nor_else isi_lst_tuple, rfl⟩
    · exact ⟨nor_tup (by simp [OkD]) (by simp) (.inr ⟨.int (-1), by simp, by decide⟩), rfl⟩
    · exact ⟨nor_tup (by simp [OkD]) (by simp) (.inr ⟨.int 201, by simp, by decide⟩), rfl⟩
    · exact ⟨nor_tup (by simp [OkD]) (by simp) (.inr ⟨.bl true, by simp, by decide⟩), rfl⟩
    · exact ⟨nor_else isi_non_tuple, rfl⟩
    · exact ⟨nor_else isi_str_tuple, rfl⟩
    · exact ⟨nor_tup (by simp [OkD]) (by simp) (.inr ⟨.non, by simp, by decide⟩), rfl⟩
    · exact ⟨nor_tup (by simp [OkD]) (by simp) (.inr ⟨.tup [.int 1], by simp, by decide⟩), rfl⟩
  have nb : OkD bad = true ∧ whB 1 12 bad = false ∧ bad.nf = true := by
    simp only [List.mem_cons, List.not_mem_nil, or_false] at hbad
    rcases hbad with rfl | rfl | rfl | rfl | rfl | rfl | rfl | rfl <;> exact ⟨rfl, by decide, rfl⟩
  have t1 := told_X (t := .int 2) ⟨no.2, rfl⟩ (.inl ⟨rfl, rfl⟩) (power_n no.1)
  have t2 := told_X (t := bad) ⟨no.2, nb.2.2⟩ (.inl ⟨rfl, rfl⟩) (power_n no.1)
  have t3 := told_X (s := .tup (iL r)) (t := bad) ⟨by simp [D.nf, nfs_iL], nb.2.2⟩ (.inr (.inl ⟨rfl, rfl⟩)) (power_m hr nb.1 nb.2.1)
  have t4 := told_X (s := .tup (iL [200, 200])) (t := bad) ⟨rfl, nb.2.2⟩ (.inr (.inl ⟨rfl, rfl⟩)) (power_m (r := [200, 200]) ⟨by simp, by simp⟩ nb.1 nb.2.1)
  have t4 : d_Ltold [.fr (.tup [.int 200, .int 200]), .fr bad] = .ok (.fr (.tup [.str "number"])) [.fr (.tup [.int 200, .int 200]), .fr bad] := t4
  have e : dEq [.lst [.tup [.str "rack"], .tup [.str "rack"], .tup [.str "number"], .tup [.str "number"]], .lst [.tup [.str "rack"], .tup [.str "rack"], .tup [.str "number"], .tup [.str "number"]]] = some (.fr (.bl true)) := eq_Pt (by decide +kernel) rfl
  simp_arith only [t1, t2, t3, t4, e]
  exact q _ hw

end K81

-- CLASS 81
-- PsCons, sIf, sAsg, sRet, sRetN, sNil, sNo, sExpr, sPar, bTb, bTr, bAnd, bOr, bNot, bAndV, bOrV, bNotV, bIfE, bChain, truthD, bCmp, dCmp, dGt, dLt, dLe, dGe, dEq, dNe, dIs, D.isNon, eqv_int, eqv_tup2, Fv.b1, Fv.b2, bP, aCons, aNil, bIx, bVar, bCon, bTup, bLst, dTupN, dLstN, bDic, bSl, bPart, bInt, Ou.bnd, dSl, pS, pSS, pZ, frz1, frzs, pks, pk, dIx, atI, ixN, gTupF, gIx, gNm, gAll, dDivmod, dInt, dAbs, dLen, dIsi, D.tyN, Fv.own1, fRet, finS_nil, finS_t, finS_f, S.d, bBin, dAdd, dSub, dMulS, dMod, dDiv, dPow, dNeg, pCall, pCallZ, movs, mov1, puts, put1, sFor, mPs, mSeq, seqDE
set_option maxHeartbeats 0
namespace K81
open PySem PySem.Spec PyProof.Rows L2 Fv
local macro_rules | `(tactic| simp_arith only [$es,*]) => `(tactic| simp (disch := first | assumption | omega | (simp <;> omega) | fail) only [y_ok, y_ex, y_no, y_nx, y_rt, y_fex, y_fno, y_cok, y_cex, y_var, y_vfr, y_vol, y_vod, y_voi, y_vno, y_con, y_nil, y_cons, y_c1, y_c2, y_P, y_p, y_b2, y_b1, y_add, y_sub, y_mul, y_fdiv, y_mod, y_pow, y_eq, y_ne, y_lt, y_le, y_gt, y_ge, y_is, y_isn, y_in, y_nin, y_ix, y_tup, y_lst, y_pS, k_nil, k_vl, k_pl, k_pp, sd_fr, sd_ol, sd_od, sd_oi, y_pSS, s_nil, s_vl, s_pl, s_pp, z_nil, z_vl, z_pl, z_pp, y_ope, y_pZ, v_nil, v_vl, v_pl, v_pp, y_calle, y_call, y_kcall, y_kcallX, p_nil, p_vl, p_pl, y_callZ, y_calld, y_callD, y_kcallF, y_kcallFX, y_Tb, y_tb, y_Tr, y_trr, y_trp, y_trpp, y_Not, y_knot, y_And, y_Or, y_AndV, y_OrV, y_knotV, y_NotV, y_IfE, y_bot, y_bof, y_bod, y_bon, y_bnd, y_bndk, y_sl, y_sl1, y_sl2, y_sl3, y_part0, y_part1, y_int, y_S, y_s, y_sNil, y_asg, y_asgv, y_asgp, y_asgpp, y_gNm, y_expr, y_kexpr, y_ret, y_retv, y_retp, y_retpp, y_retN, y_if, y_ift, y_iff, y_ifd, y_ifn, y_pare, y_park, y_par, y_gall0, y_gall1, y_gk, y_gtup, y_glst, y_ixv, y_mtk, y_for, y_seq, y_sqv, y_sqp, y_sqpp, y_sqL, y_sqT, y_sqS, y_psl, y_ps, y_lc, y_fin, y_finN, y_finX, n_nil, n_keep, n_fr, x_op, x_os, x_opm, x_tr, x_trm, x_ps, x_psm, x_z, x_zm, x_aug, x_augp, x_augv, x_augm, x_gix, x_gixp, x_ix2, x_ixm, x_mt, x_mtp, x_mte, x_mtq, x_mtm, x_asp, x_ask, x_asq, x_asr, x_ka, x_ka3, x_ka4, y_kli, y_klp, y_klpp, w_nil, w_cons, y_yes, y_kts, y_ktf, y_ktd, y_ktn, y_kfor, f_backL, f_backT, f_add, f_sub, f_neg, f_eqI, f_neI, f_lt, f_le, f_gt, f_ge, f_isN, f_isnN, f_isB, f_isnB, f_slL, f_slT, f_lenL, f_lenT, f_abs, f_max, f_min, f_intI, f_intB, f_listL, f_listT, f_tupL, f_tupT, enumL, enumT, zipL, zipT, aug_add, aug_sub, tr_bl, tr_int, tr_lst, tr_tup, D.isNon, f_tup, f_lst, f_mod, f_divS, f_divmodS, f_div, f_divmod, f_mulI, f_mulJ, f_mul, f_mul0, f_pow, f_addL, f_addT, f_addS, f_lenS, g_app, rngA, rngB, aug_mulI, aug_mulJ, aug_mul, kit_ii, kit_ib, kit_bi, kit_bb, List.getElem?_cons_zero, List.getElem?_cons_succ, List.set_cons_zero, List.set_cons_succ, List.length_cons, List.length_nil, List.nil_append, List.cons_append, List.map_cons, List.map_nil, List.length_append, List.length_map, List.length_replicate, Nat.zero_add, true_and, and_true, decide_true, decide_false, Bool.not_true, Bool.not_false, Bool.true_or, Bool.or_true, Bool.false_or, Bool.or_false, Bool.true_and, Bool.and_true, Bool.false_and, Bool.and_false, beq_self_eq_true, if_true, if_false, ite_true, ite_false, Bool.false_eq_true, reduceIte, true_implies, not_true_eq_false, not_false_eq_true, false_implies, implies_true, List.replicate_succ, List.replicate_zero, Nat.reduceAdd, Nat.reduceSub, Nat.reduceMul, Nat.reduceLT, Nat.reduceEqDiff, Nat.reduceBEq, Nat.reduceLeDiff, Int.cast_ofNat_Int, Int.reduceLT, Int.reduceLE, Int.reduceEq, Int.reduceNe, Int.reduceNeg, Int.reduceAdd, Int.reduceSub, Int.reduceMul, Int.reduceToNat, Int.reducePow, Nat.reducePow, y_ms, y_neT, y_tm, f_tm, eq_bb, ne_bb, y_lce, y_lce1, y_lce2, y_klo, y_rai, y_ktry, y_try, y_hand0, y_hand1, y_hndt, y_hndf, y_go, y_goA, y_kun, y_kur, y_exb, y_kex, y_exi, nf_nil, nf_cons, nf_none, nf_some, nf_fr, nf_ol, nf_od, nf_oi, nf_non, nf_bl, nf_int, nf_str, nf_tup, nf_lst, nf_dic, nf_ins, nfs_nil, nfs_cons, nfs_iL, nfs_sL, nfs_app, y_kmr, y_mpl, y_mppp, y_mpv, y_mpp, y_mp, y_extm, y_kextpp, y_kextv, y_kextp, y_extp, y_ext, f_index, f_count, f_lr1, f_lr2, revL, revT, y_med, y_kma, y_mepp, y_mev, y_mep, y_meth, y_kmk, y_make, y_pmake, y_kfr, y_fz, y_flt, y_fle, y_kfl, y_sfld, y_plen, f_lenA, f_lenB, f_lenC, y_wht, y_whf, y_whd, y_whn, y_hg, y_ht, y_hr, y_hrt, y_hrf, y_hb, y_ha, y_chain1, y_chain2, y_chain3, y_chain4, f_maxA, f_maxLB, eq_tupI, ne_tupI, eq_lstI, ne_lstI, isi_non_int, isi_non_bool, isi_non_str, isi_non_list, isi_non_tuple, isi_non_dict, isi_bl_int, isi_bl_bool, isi_bl_str, isi_bl_list, isi_bl_tuple, isi_bl_dict, isi_int_int, isi_int_bool, isi_int_str, isi_int_list, isi_int_tuple, isi_int_dict, isi_str_int, isi_str_bool, isi_str_str, isi_str_list, isi_str_tuple, isi_str_dict, isi_tup_int, isi_tup_bool, isi_tup_str, isi_tup_list, isi_tup_tuple, isi_tup_dict, isi_lst_int, isi_lst_bool, isi_lst_str, isi_lst_list, isi_lst_tuple, isi_lst_dict, isi_dic_int, isi_dic_bool, isi_dic_str, isi_dic_list, isi_dic_tuple, isi_dic_dict, isi_non_lt, isi_bl_lt, isi_int_lt, isi_str_lt, isi_tup_lt, isi_lst_lt, isi_dic_lt, ixL10, ixT10, ixN10, ixL20, ixT20, ixN20, ixL21, ixT21, ixN21, ixL30, ixT30, ixN30, ixL31, ixT31, ixN31, ixL32, ixT32, ixN32, ixL40, ixT40, ixN40, ixL41, ixT41, ixN41, ixL42, ixT42, ixN42, ixL43, ixT43, ixN43, ixL50, ixT50, ixN50, ixL51, ixT51, ixN51, ixL52, ixT52, ixN52, ixL53, ixT53, ixN53, ixL54, ixT54, ixN54, y_dic0, x_gdk, x_gdkp, y_dkv, x_dk2, f_inK, f_dxI, f_dxS, y_mq, y_mqv, y_mqp, y_mqpp, y_mql, y_mqt, f_indexT, f_countT, y_dic, y_kdic, y_dice, y_mtt, y_mttv, y_mtu, y_mtfC, y_mtfR, y_mtfA, List.map_cons, List.map_nil, List.replicate_succ, List.replicate_zero, xs_0_0, xs_0_1, xs_0_2, xs_0_4, xs_0_3, xs_2_0, xs_2_1, xs_2_2, xs_2_4, xs_2_3, xs_1_0, xs_1_1, xs_1_2, xs_1_4, xs_1_3, ka_0_0, ka_0_1, ka_0_2, ka_0_3, ka_0_4, ka_2_0, ka_2_1, ka_2_2, ka_2_3, ka_2_4, ka_1_0, ka_1_1, ka_1_2, ka_1_3, ka_1_4, y_tm0, f_tm0, y_seqL, y_sqvL, y_sqpL, y_sqppL, y_sqLL, $es,*])
/-! k81: all of it -/
theorem cut_len {α : Type} (l : List α) (a b : Option Int) : (Fv.cutD l a b).length ≤ l.length := by
  unfold Fv.cutD
  simp; omega
theorem ne_x {x : D} {r : List Int} {k : Nat} (h : x = .tup [.str "much"] ∨ x = .tup [.str "told", .tup (iL (pw r k))]) : dNe [x, x] = some (.fr (.bl false)) := by
  rcases h with rfl | rfl
  · exact ne_Pt (by decide +kernel) rfl
  · exact ne_Pt (show D.pn (.tup [.str "told", .tup (iL (pw r k))]) 60 = true by simp only [D.pn, D.pns, Nat.reduceSub, Bool.and_true, Bool.and_eq_true, decide_eq_true_eq]; exact ⟨by omega, by decide +kernel, by omega, pns_all.mpr fun d hd => by obtain ⟨a, _, rfl⟩ := List.mem_map.mp hd; rfl⟩) rfl
theorem one_w {r : List Int} {k : Nat} {s y1 y2 y3 y5 y7 : Option S} {Rt : S → En → Prop} {X : Xn → En → Prop} {N : En → Prop} (hr : Rr r) (h4 : r.length ≤ 10) (hk : 1 ≤ k ∧ k ≤ 12) (q : ∀ y7, N [s, y1, y2, y3, some (.fr (.int (k : Int))), y5, some (.fr (.tup (iL r))), y7]) :
    Wf X (b_law_1 [s, y1, y2, y3, some (.fr (.int (k : Int))), y5, some (.fr (.tup (iL r))), y7]) N Rt := by
  obtain ⟨x, h1, h2, h3⟩ := told_due hr h4 hk
  have h5 := ne_x h3
  unfold b_law_1
  rcases h3 with rfl | rfl
  · have e : dEq [.str "much", .str "told"] = some (.fr (.bl false)) := eq_Pf (by decide +kernel) (by decide +kernel) (by simp; decide +kernel)
    simp_arith only [h1, h2, h5, e]
    exact q _
  · have e : dEq [.str "told", .str "told"] = some (.fr (.bl true)) := eq_Pt (by decide +kernel) rfl
    simp_arith only [h1, h2, h5, e]
    exact q _
theorem Gd.few {r : List Int} {j : Nat} (h1 : r.length ≤ 4) (h2 : ∀ a ∈ r, a ≤ 30) (hj : j ≤ 3) : Gd r j := by
  refine ⟨?_, fun m hm => ?_⟩
  · have a : r.length ^ j ≤ 4 ^ j := Nat.pow_le_pow_left h1 j
    have b : 4 ^ j ≤ 4 ^ 3 := Nat.pow_le_pow_right (by omega) hj
    have c : (4 : Nat) ^ 3 = 64 := by decide
    omega
  · have a := h2 m (maxL_mem hm).1
    have b : m * (j : Int) ≤ 30 * j := Int.mul_le_mul_of_nonneg_right a (by omega)
    omega
theorem turn_w (s : D) (y2 y3 y4 y5 y6 y7 : Option S) (i : Int) {Rt : S → En → Prop} {X : Xn → En → Prop} : Wf X (b_law_2 [some (.fr s), some (.fr (.int i)), y2, y3, y4, y5, y6, y7]) (fun e => ∃ y1 y2 y3 y4 y5 y6 y7, e = [some (.fr s), y1, y2, y3, y4, y5, y6, y7]) Rt := by
  unfold b_law_2
  simp_arith only [true_and]
  refine well_w fun w hw => ?_
  simp_arith only [true_and]
  refine draw_w hw (by omega) (by omega) fun p w hw hp => ?_
  simp_arith only [true_and]
  refine pickL ⟨by omega, by simp; omega⟩ fun d hd _ => ?_
  have : ∃ m : Int, d = .int m ∧ 0 ≤ m ∧ m ≤ 30 := by
    simp only [List.mem_cons, List.not_mem_nil, or_false] at hd
    rcases hd with rfl | rfl | rfl <;> exact ⟨_, rfl, by omega, by omega⟩
  obtain ⟨m, rfl, hm⟩ := this
  refine rack_w hw (by omega) (by omega) (by omega) fun r w hw hr => ?_
  simp_arith only [true_and]
  refine draw_w hw (by omega) (by omega) fun p1 w hw hp1 => ?_
  simp_arith only [true_and]
  refine draw_w hw (by omega) (by omega) fun p2 w hw hp2 => ?_
  simp_arith only [true_and]
  refine draw_w hw (by omega) (by omega) fun p3 w hw hp3 => ?_
  simp_arith only [true_and]
  refine pickL ⟨by omega, by simp; omega⟩ fun d hd _ => ?_
  have : ∃ k : Nat, d = .int (k : Int) ∧ 1 ≤ k ∧ k ≤ 12 := by
    simp only [List.mem_cons, List.not_mem_nil, or_false] at hd
    rcases hd with rfl | rfl
    · exact ⟨(1 + p1).toNat, by rw [Int.toNat_of_nonneg (by omega)], by omega, by omega⟩
    · exact ⟨(1 + p2).toNat, by rw [Int.toNat_of_nonneg (by omega)], by omega, by omega⟩
  obtain ⟨k, rfl, hk⟩ := this
  simp_arith only [true_and]
  refine draw_w hw (by omega) (by omega) fun p4 w hw hp4 => ?_
  have hdv : 16 ≤ (200 : Int) / (k : Int) ∧ (200 : Int) / (k : Int) ≤ 200 := ⟨(Int.le_ediv_iff_mul_le (by omega)).mpr (by omega), Int.ediv_le_self _ (by omega)⟩
  generalize (200 : Int) / (k : Int) = dv at hdv ⊢
  have hr4 : Rr r := ⟨by have := hr.1; omega, fun a ha => by have := hr.2 a ha; omega⟩
  have hl4 : r.length ≤ 4 := by have := hr.1; omega
  have c0 : Fv.cutD (iL r) none (some 1) = iL (r.take 1) := by
    unfold Fv.cutD
    cases r with
    | nil => rfl
    | cons a r =>
      rw [show (some (1 : Int)) = some ((1 : Nat) : Int) from rfl, HT.sIx_nat]
      show List.take (min 1 (iL (a :: r)).length - 0) (iL (a :: r)) = _
      rw [len_iL, List.length_cons, show min 1 (r.length + 1) - 0 = 1 by omega]
      rfl
  have c1 : dMulT0 [.tup (Fv.cutD (iL r) none (some 1)), .int 2] = some (.fr (.tup (iL (r.take 1 ++ r.take 1)))) := by
    rw [f_tm0 (by refine ⟨by omega, by omega, ?_⟩; rw [c0, len_iL, List.length_take]; omega), c0]
    show some (S.fr (.tup (List.replicate 2 (iL (r.take 1))).flatten)) = _
    simp
  have hed : 0 ≤ (if dv + p4 < 200 then dv + p4 else 200) ∧ (if dv + p4 < 200 then dv + p4 else 200) ≤ 200 := by split <;> omega
  simp_arith only [c1]
  generalize (if dv + p4 < 200 then dv + p4 else 200) = ed at hed ⊢
  show Wf X (forL (gNm 6) b_law_1 (([r, [ed], [0, ed], r.take 1 ++ r.take 1, []] : List (List Int)).map fun x => D.tup (iL x)) _) _ _
  refine W_forA (p := ([r, [ed], [0, ed], r.take 1 ++ r.take 1, []] : List (List Int))) (P := fun x => D.tup (iL x)) (fun l e => ∃ y6 y7, e = [some (.fr s), some (.fr (.int i)), some (.ol w), some (.fr (.tup (iL r))), some (.fr (.int (k : Int))), some (.fr (.int ed)), y6, y7]) ⟨_, _, rfl⟩ ?_ ?_
  · rintro l x r9 e he ⟨y6, y7, rfl⟩
    have hx : x ∈ ([r, [ed], [0, ed], r.take 1 ++ r.take 1, []] : List (List Int)) := by rw [he]; simp
    have : Rr x ∧ x.length ≤ 10 := by
      simp only [List.mem_cons, List.not_mem_nil, or_false] at hx
      rcases hx with rfl | rfl | rfl | rfl | rfl
      · exact ⟨hr4, by omega⟩
      · exact ⟨⟨by simp, by simp; omega⟩, by simp⟩
      · exact ⟨⟨by simp, by simp; omega⟩, by simp⟩
      · refine ⟨⟨by rw [List.length_append, List.length_take]; omega, fun a ha => ?_⟩, by rw [List.length_append, List.length_take]; omega⟩
        rcases List.mem_append.mp ha with h | h <;> exact hr4.2 a (List.mem_of_mem_take h)
      · exact ⟨⟨by simp, by simp⟩, by simp⟩
    simp_arith only [true_and]
    exact one_w this.1 this.2 hk fun y7 => ⟨_, _, rfl⟩
  · rintro e ⟨y6, y7, rfl⟩
    have g := fun j hj => Gd.few (r := r) (j := j) hl4 (fun a ha => by have := hr.2 a ha; omega) hj
    have p1 : d_power_of [.fr (.tup (iL r)), .fr (.int 1)] = .ok (.fr (.tup (iL r))) [.fr (.tup (iL r)), .fr (.int 1)] := by
      have := power_ok (k := 1) hr4 (by omega) (g 1 (by omega))
      rw [pw_one] at this; exact this
    have p2 : d_power_of [.fr (.tup (iL r)), .fr (.int 2)] = .ok (.fr (.tup (iL (pw r 2)))) [.fr (.tup (iL r)), .fr (.int 2)] := power_ok (k := 2) hr4 (by omega) (g 2 (by omega))
    have p3 : d_power_of [.fr (.tup (iL r)), .fr (.int 3)] = .ok (.fr (.tup (iL (pw r 3)))) [.fr (.tup (iL r)), .fr (.int 3)] := power_ok (k := 3) hr4 (by omega) (g 3 (by omega))
    have d2 : d_Ldue [.fr (.tup (iL r)), .fr (.int 2)] = .ok (.fr (.tup [.str "told", .tup (iL (pw r 2))])) [.fr (.tup (iL r)), .fr (.int 2)] := by
      refine of_Wc ?_
      exact due_w (k := 2) hr4 (by omega) (by omega) (fun _ => ⟨rfl, rfl⟩) fun n => absurd (g 2 (by omega)) n
    have e2 : prL r r = pw r 2 := by show _ = prL (pw r 1) r; rw [pw_one]
    have R2 := (g 2 (by omega)).rr hr4
    have R3 := (g 3 (by omega)).rr hr4
    have t2 := times_ok hr4 hr4 (by rw [e2]; exact R2)
    rw [e2] at t2
    have t3 : d_put_times [.fr (.tup (iL (pw r 2))), .fr (.tup (iL r))] = .ok (.fr (.tup (iL (pw r 3)))) [.fr (.tup (iL (pw r 2))), .fr (.tup (iL r))] := times_ok R2 hr4 R3
    have n1 : dNe [.tup (iL r), .tup (iL r)] = some (.fr (.bl false)) := ne_Pt pn_iL rfl
    have n2 : dNe [.tup (iL (pw r 2)), .tup (iL (pw r 2))] = some (.fr (.bl false)) := ne_Pt pn_iL rfl
    have n3 : dNe [.tup (iL (pw r 3)), .tup (iL (pw r 3))] = some (.fr (.bl false)) := ne_Pt pn_iL rfl
    simp_arith only [true_and]
    refine refusals_w hw (by omega) hr4 fun w hw => ?_
    have p2z : d_power_of (List.map S.fr [D.tup (iL r), D.int 2]) = .ok (.fr (.tup (iL (pw r 2)))) [.fr (.tup (iL r)), .fr (.int 2)] := p2
    have ar : arrG (["many", "rack"] : List Str) ["rack", "many"] [D.int 2, D.tup (iL r)] = some [D.tup (iL r), D.int 2] := by rfl
    simp_arith only [p1, p2, p3, p2z, d2, t2, t3, n1, n2, n3, ar]
    exact ⟨_, _, _, _, _, _, _, rfl⟩
theorem law_pure (ns : List Int) (h : ns.length ≤ 63) (hb : ∀ z ∈ ns, Builtin.Int.intBits z ≤ 1048576) : ∃ ss', d_law [.fr (.lst (ns.map D.int))] = .ok (.fr (.bl true)) ss' := by
  refine of_WcE ?_
  unfold d_law
  rw [y_fn]
  unfold b_law
  have hl := cut_len (ns.map D.int ++ [.int 0]) none (some 6)
  simp at hl
  (repeat' (first | (with_reducible apply W_forC) | (with_reducible apply W_forN) | (with_reducible apply x_augs) | (with_reducible refine And.intro (fun hbr => ?_) (fun hbr => ?_) <;> (first | (exfalso; omega) | skip)) | (with_reducible intro hbr; exfalso; omega) | simp_arith only [true_and]))
  refine W_each (P := fun d => ∃ i, d = .int i) (J := fun e => ∃ y1 y2 y3 y4 y5 y6 y7, e = [some (.fr (.lst (ns.map D.int))), y1, y2, y3, y4, y5, y6, y7]) (fun d hd => ?_) ⟨_, _, _, _, _, _, _, rfl⟩ ?_ ?_
  · have := cut_sub hd
    simp at this
    rcases this with ⟨i, _, rfl⟩ | rfl <;> exact ⟨_, rfl⟩
  · rintro d e ⟨i, rfl⟩ ⟨y1, y2, y3, y4, y5, y6, y7, rfl⟩
    (repeat' (first | (with_reducible apply W_forC) | (with_reducible apply W_forN) | (with_reducible apply x_augs) | (with_reducible refine And.intro (fun hbr => ?_) (fun hbr => ?_) <;> (first | (exfalso; omega) | skip)) | (with_reducible intro hbr; exfalso; omega) | simp_arith only [true_and]))
    exact turn_w _ _ _ _ _ _ _ i
  · rintro e ⟨y1, y2, y3, y4, y5, y6, y7, rfl⟩
    (repeat' (first | (with_reducible apply W_forC) | (with_reducible apply W_forN) | (with_reducible apply x_augs) | (with_reducible refine And.intro (fun hbr => ?_) (fun hbr => ?_) <;> (first | (exfalso; omega) | skip)) | (with_reducible intro hbr; exfalso; omega) | simp_arith only [true_and]))

end K81

open PySem PySem.W PyProof.Rows
set_option maxHeartbeats 0 in
theorem PySem.Challenge.cw_boughswap_k81_powers_of_racks_holds : PySem.Challenge.rw_boughswap_k81_powers_of_racks.Holds := by
  w_on; o_law; k_head; (case hw => w_witness2)
  k_fill
  refine L2.walk_ofB (l := PySem.Challenge.rw_boughswap_k81_powers_of_racks) (n := 63) (k := 8) (x := "_law_script") (CX := fun w => L2N.CX PySem.Challenge.pw_boughswap_k81_powers_of_racks w) (sp := fun w vs H Q E => ∀ ca, Fv.spD (Fv.tb _ ca (fun _ => 0)) 1 K81.d_law vs H Q E) rfl (by decide) rfl ⟨rfl, by decide, by decide⟩ (fun w h Y => PySem.W.kIn_of Y) ?F (fun w H a ns hl hb _ hS ca => let ⟨_, h⟩ := K81.law_pure ns hl hb; Fv.law_sp (fun _ hp => nomatch hp) hS h) (fun _ _ _ _ _ ⟨_, _, _, _, _, _, _, _, _, _, _, _, h⟩ => h)
  case F =>
    intro w mg fa h KX G hmg
    refine' K81.all_mk KX G hmg ?aC0 ?xq0 ?xk0 ?xb0 ?xt0 ?xg0 ?xa0 ?xd0 ?xo0 ?xm0 ?aC1 ?xq1 ?xk1 ?xb1 ?xt1 ?xg1 ?xa1 ?xd1 ?xo1 ?xm1 ?aC2 ?xq2 ?xk2 ?xb2 ?xt2 ?xg2 ?xa2 ?xd2 ?xo2 ?xm2 ?aC3 ?aC4 ?ex_0_0 ?ex_0_1 ?ex_0_2 ?ex_0_4 ?ex_0_3 ?ex_2_0 ?ex_2_1 ?ex_2_2 ?ex_2_4 ?ex_2_3 ?ex_1_0 ?ex_1_1 ?ex_1_2 ?ex_1_4 ?ex_1_3 ?kx_0 ?kx_1 ?kx_2 ?kx_3 ?kx_4 ?kx_5 ?kx_6 ?kx_7 ?kx_8 ?kx_9 ?kx_10 ?kx_11 ?kx_12 ?kx_13 ?kx_14 ?xoN ?xoT ?a0 ?l0 ?c0 ?k0 ?a1 ?l1 ?c1 ?k1 ?a2 ?l2 ?c2 ?k2 ?a3 ?l3 ?c3 ?k3 ?a4 ?l4 ?c4 ?k4 ?a5 ?l5 ?c5 ?k5 ?a6 ?l6 ?c6 ?k6 ?a7 ?l7 ?c7 ?k7 ?a8 ?l8 ?c8 ?k8 ?a9 ?l9 ?c9 ?k9 ?a10 ?l10 ?c10 ?k10 ?a11 ?l11 ?c11 ?k11 ?a12 ?l12 ?c12 ?k12 ?a13 ?l13 ?c13 ?k13 ?a14 ?l14 ?c14 ?k14 ?z_int ?z_divmod ?z_range ?z_tuple ?z_isinstance ?z_bool ?z_len ?z_all ?z_ValueError ?z_max ?z_min ?y_MOST_FORMS ?y_MOST_TREES ?y_MOST_POWER
    (case aC0 => k_is); (case xq0 => k_exc); (case xk0 => k_is); (case xb0 => k_is); (case xt0 => k_is); (case xg0 => k_is); (case xa0 => k_is); (case xd0 => k_is); (case xo0 => k_is); (case xm0 => k_is); (case aC1 => k_is); (case xq1 => k_exc); (case xk1 => k_is); (case xb1 => k_is); (case xt1 => k_is); (case xg1 => k_is); (case xa1 => k_is); (case xd1 => k_is); (case xo1 => k_is); (case xm1 => k_is); (case aC2 => k_is); (case xq2 => k_exc); (case xk2 => k_is); (case xb2 => k_is); (case xt2 => k_is); (case xg2 => k_is); (case xa2 => k_is); (case xd2 => k_is); (case xo2 => k_is); (case xm2 => k_is); (case aC3 => k_is); (case aC4 => k_is); (case ex_0_0 => kts_exm); (case ex_0_1 => kts_exm); (case ex_0_2 => kts_exm); (case ex_0_4 => kts_exm); (case ex_0_3 => kts_exm); (case ex_2_0 => kts_exm); (case ex_2_1 => kts_exm); (case ex_2_2 => kts_exm); (case ex_2_4 => kts_exm); (case ex_2_3 => kts_exm); (case ex_1_0 => kts_exm); (case ex_1_1 => kts_exm); (case ex_1_2 => kts_exm); (case ex_1_4 => kts_exm); (case ex_1_3 => kts_exm); (case kx_0 => kit_is); (case kx_1 => kit_is); (case kx_2 => kit_is); (case kx_3 => kit_is); (case kx_4 => kit_is); (case kx_5 => kit_is); (case kx_6 => kit_is); (case kx_7 => kit_is); (case kx_8 => kit_is); (case kx_9 => kit_is); (case kx_10 => kit_is); (case kx_11 => kit_is); (case kx_12 => kit_is); (case kx_13 => kit_is); (case kx_14 => kit_is); (case xoN => k_is); (case xoT => k_is); (case a0 => k_is); (case l0 => k_is); (case c0 => k_is); (case k0 => k_is); (case a1 => k_is); (case l1 => k_is); (case c1 => k_is); (case k1 => k_is); (case a2 => k_is); (case l2 => k_is); (case c2 => k_is); (case k2 => k_is); (case a3 => k_is); (case l3 => k_is); (case c3 => k_is); (case k3 => k_is); (case a4 => k_is); (case l4 => k_is); (case c4 => k_is); (case k4 => k_is); (case a5 => k_is); (case l5 => k_is); (case c5 => k_is); (case k5 => k_is); (case a6 => k_is); (case l6 => k_is); (case c6 => k_is); (case k6 => k_is); (case a7 => k_is); (case l7 => k_is); (case c7 => k_is); (case k7 => k_is); (case a8 => k_is); (case l8 => k_is); (case c8 => k_is); (case k8 => k_is); (case a9 => k_is); (case l9 => k_is); (case c9 => k_is); (case k9 => k_is); (case a10 => k_is); (case l10 => k_is); (case c10 => k_is); (case k10 => k_is); (case a11 => k_is); (case l11 => k_is); (case c11 => k_is); (case k11 => k_is); (case a12 => k_is); (case l12 => k_is); (case c12 => k_is); (case k12 => k_is); (case a13 => k_is); (case l13 => k_is); (case c13 => k_is); (case k13 => k_is); (case a14 => k_is); (case l14 => k_is); (case c14 => k_is); (case k14 => k_is); (case z_int => k_is); (case z_divmod => k_is); (case z_range => k_is); (case z_tuple => k_is); (case z_isinstance => k_is); (case z_bool => k_is); (case z_len => k_is); (case z_all => k_is); (case z_ValueError => k_is); (case z_max => k_is); (case z_min => k_is); (case y_MOST_FORMS => k_is); (case y_MOST_TREES => k_is); (case y_MOST_POWER => k_is)
