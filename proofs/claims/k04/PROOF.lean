import PyProof.Rows.All
import Wide.All
import OpenK.AllK
import Wide.FinOn
import HandS.ForMost
import HandS.ForExc
import HandS.Wide
import HandS.Deep
import HandS.CallSlots
import HandS.Defaults
import HandS.TupAny
import HandS.TupMul
import HandS.Style
import HandS.WideBits
import HandS.IsInst
import HandS.Rev
import HandS.RevTup
import HandS.Zip
import HandS.Iter
import HandS.SortInts
import HandS.WordsExc
import HandS.NoneIn
import HandS.EndBits
import PySem.Challenge.RW_boughswap_k04_sums_and_products_of_fract
set_option Elab.async false
set_option linter.all false
set_option maxRecDepth 100000
/-! Fv: values by themselves. D: data that never changes again; S: what a variable holds (data, or a list or dict of its own). -/
namespace Fv
open PySem PySem.Spec PyProof.Rows L2

inductive D where
  | non | bl (b : Bool) | int (i : Int) | str (x : Str)
  | tup (xs : List D) | lst (xs : List D)
  | dic (ks : List Key) (vs : List D)
  | ins (c : Nat) (ns : List Str) (vs : List D)
  | fn (f : Nat) | ty (n : String)

inductive S where
  | fr (d : D)
  | ol (xs : List D)
  | od (ks : List Key) (vs : List D)
  | oi (c : Nat) (ns : List Str) (vs : List D)

/-- what is seen of it -/
def S.d : S → D
  | .fr d => d
  | .ol xs => .lst xs
  | .od ks vs => .dic ks vs
  | .oi c ns vs => .ins c ns vs

structure Tb where
  K : PySem.W.Frag
  ca : Nat → Addr
  fa : Nat → Addr

/-- a tuple: tracked, or an object of the module -/
def TupAt (K : PySem.W.Frag) (H : Hp) (a : Addr) (xs : List V) : Prop :=
  H a = some (.tup xs) ∨ ∃ (o : Obj) (its : Array Value) (n : Nat), K.lookup a = some o ∧ o.cls = .type "tuple" ∧ o.data = .seq its n ∧ its.size ≤ sizeLine ∧ Vals xs its.toList
theorem TupAt.sq {K : PySem.W.Frag} {H : Hp} {a : Addr} {xs : List V} (h : TupAt K H a xs) : SqT K H a xs := h.imp .inl id
theorem TupAt.of {K : PySem.W.Frag} {H : Hp} {a : Addr} {xs : List V} (h : H a = some (.tup xs)) : TupAt K H a xs := .inl h
mutual
inductive RepF (T : Tb) (G : Hp) : V → D → Prop
  | non : RepF T G .non .non
  | bl (b : Bool) : RepF T G (.bl b) (.bl b)
  | int (i : Int) : RepF T G (.int i) (.int i)
  | str (x : Str) : RepF T G (.str x) (.str x)
  | tup {a : Addr} {xs : List V} {ds : List D} : TupAt T.K G a xs → RepFs T G xs ds → RepF T G (.ref a) (.tup ds)
  | lst {a : Addr} {xs : List V} {ds : List D} : SqL T.K G a xs → RepFs T G xs ds → RepF T G (.ref a) (.lst ds)
  | dic {a : Addr} {ks : List Key} {vs : List V} {ds : List D} : G a = some (.dK (ks.zip vs)) → ks.length = vs.length → RepFs T G vs ds → RepF T G (.ref a) (.dic ks ds)
  | ins {a dx : Addr} {c : Nat} {ns : List Str} {vs : List V} {ds : List D} : G a = some (.ins (T.ca c) dx (ns.zip vs)) → ns.length = vs.length → RepFs T G vs ds → RepF T G (.ref a) (.ins c ns ds)
  | fn (f : Nat) : RepF T G (.ref (T.fa f)) (.fn f)
  | ty (n : String) : RepF T G (.ty n) (.ty n)
inductive RepFs (T : Tb) (G : Hp) : List V → List D → Prop
  | nil : RepFs T G [] []
  | cons {v : V} {vs : List V} {d : D} {ds : List D} : RepF T G v d → RepFs T G vs ds → RepFs T G (v :: vs) (d :: ds)
end

def Sub (G H : Hp) : Prop := ∀ b o, G b = some o → H b = some o
theorem Sub.refl (G : Hp) : Sub G G := fun _ _ h => h
theorem Sub.trans {A B C : Hp} (h : Sub A B) (k : Sub B C) : Sub A C := fun b o e => k b o (h b o e)
theorem Sub.rd {G H : Hp} (s : Sub G H) {a : Addr} {u : HO} (h : Rd G a u) : Rd H a u := by
  rcases h with h | ⟨o, h⟩
  · exact .inl (s _ _ h)
  · exact .inr ⟨o, s _ _ h⟩
theorem Sub.sqL {G H : Hp} (s : Sub G H) {K : PySem.W.Frag} {a : Addr} {xs : List V} (h : SqL K G a xs) : SqL K H a xs := h.imp s.rd id
theorem Sub.tupAt {G H : Hp} (s : Sub G H) {K : PySem.W.Frag} {a : Addr} {xs : List V} (h : TupAt K G a xs) : TupAt K H a xs := h.imp (s _ _) id
theorem Sub.sqT {G H : Hp} (s : Sub G H) {K : PySem.W.Frag} {a : Addr} {xs : List V} (h : SqT K G a xs) : SqT K H a xs := h.imp s.rd id

mutual
theorem RepF.mono {T : Tb} {G G' : Hp} (s : Sub G G') : ∀ {v : V} {d : D}, RepF T G v d → RepF T G' v d
  | _, _, .non => .non
  | _, _, .bl b => .bl b
  | _, _, .int i => .int i
  | _, _, .str x => .str x
  | _, _, .tup h k => .tup (s.tupAt h) (RepFs.mono s k)
  | _, _, .lst h k => .lst (s.sqL h) (RepFs.mono s k)
  | _, _, .dic h l k => .dic (s _ _ h) l (RepFs.mono s k)
  | _, _, .ins h l k => .ins (s _ _ h) l (RepFs.mono s k)
  | _, _, .fn f => .fn f
  | _, _, .ty n => .ty n
theorem RepFs.mono {T : Tb} {G G' : Hp} (s : Sub G G') : ∀ {vs : List V} {ds : List D}, RepFs T G vs ds → RepFs T G' vs ds
  | _, _, .nil => .nil
  | _, _, .cons h k => .cons (RepF.mono s h) (RepFs.mono s k)
end

theorem RepFs.length {T : Tb} {G : Hp} : ∀ {vs : List V} {ds : List D}, RepFs T G vs ds → vs.length = ds.length
  | _, _, .nil => rfl
  | _, _, .cons _ k => by simp [RepFs.length k]
theorem RepFs.append {T : Tb} {G : Hp} : ∀ {vs ws : List V} {ds es : List D}, RepFs T G vs ds → RepFs T G ws es → RepFs T G (vs ++ ws) (ds ++ es)
  | _, _, _, _, .nil, k => k
  | _, _, _, _, .cons h t, k => .cons h (RepFs.append t k)
theorem RepFs.take {T : Tb} {G : Hp} : ∀ {vs : List V} {ds : List D} (n : Nat), RepFs T G vs ds → RepFs T G (vs.take n) (ds.take n)
  | _, _, 0, _ => .nil
  | _, _, _ + 1, .nil => .nil
  | _, _, n + 1, .cons h t => .cons h (RepFs.take n t)
theorem RepFs.drop {T : Tb} {G : Hp} : ∀ {vs : List V} {ds : List D} (n : Nat), RepFs T G vs ds → RepFs T G (vs.drop n) (ds.drop n)
  | _, _, 0, h => h
  | _, _, _ + 1, .nil => .nil
  | _, _, n + 1, .cons _ t => RepFs.drop n t
theorem RepFs.get {T : Tb} {G : Hp} : ∀ {vs : List V} {ds : List D} {i : Nat} {d : D}, RepFs T G vs ds → ds[i]? = some d → ∃ v, vs[i]? = some v ∧ RepF T G v d
  | _, _, _, _, .nil, e => by simp at e
  | _, _, 0, _, .cons h _, e => by simp at e; subst e; exact ⟨_, rfl, h⟩
  | _, _, i + 1, d, .cons _ t, e => by
    obtain ⟨v, h1, h2⟩ := RepFs.get (i := i) (d := d) t (by simpa using e)
    exact ⟨v, by simpa using h1, h2⟩
theorem RepFs.set {T : Tb} {G : Hp} {v : V} {d : D} (r : RepF T G v d) : ∀ {vs : List V} {ds : List D} (i : Nat), RepFs T G vs ds → RepFs T G (vs.set i v) (ds.set i d)
  | _, _, _, .nil => .nil
  | _, _, 0, .cons _ t => .cons r t
  | _, _, i + 1, .cons q t => .cons q (RepFs.set r i t)

/-- a variable's thing; a list of its own stands at an address that nothing else knows -/
inductive RepO (T : Tb) (G H : Hp) : V → S → Prop
  | fr {v : V} {d : D} : RepF T G v d → RepO T G H v (.fr d)
  | ol {a : Addr} {vs : List V} {ds : List D} : H a = some (.lst vs) → G a = none → RepFs T G vs ds → RepO T G H (.ref a) (.ol ds)
  | od {a : Addr} {ks : List Key} {vs : List V} {ds : List D} : H a = some (.dK (ks.zip vs)) → G a = none → ks.length = vs.length → RepFs T G vs ds → RepO T G H (.ref a) (.od ks ds)
  | oi {a dx : Addr} {c : Nat} {ns : List Str} {vs : List V} {ds : List D} : H a = some (.ins (T.ca c) dx (ns.zip vs)) → G a = none → ns.length = vs.length → RepFs T G vs ds → RepO T G H (.ref a) (.oi c ns ds)
/-- its own address -/
def fp : V → S → List Addr
  | _, .fr _ => []
  | .ref a, _ => [a]
  | _, _ => []
theorem RepO.own {T : Tb} {G H : Hp} {v : V} {s : S} (r : RepO T G H v s) : ∀ b ∈ fp v s, G b = none ∧ ∃ o, H b = some o := by
  cases r with
  | fr _ => intro b hb; exact absurd (show b ∈ ([] : List Addr) from by cases v <;> exact hb) (by simp)
  | ol h g _ => intro b hb; simp [fp] at hb; subst hb; exact ⟨g, _, h⟩
  | od h g _ _ => intro b hb; simp [fp] at hb; subst hb; exact ⟨g, _, h⟩
  | oi h g _ _ => intro b hb; simp [fp] at hb; subst hb; exact ⟨g, _, h⟩
theorem fp_fr (v : V) (d : D) : fp v (.fr d) = [] := by cases v <;> rfl
/-- where its own address is kept -/
theorem RepO.frame {T : Tb} {G H G' H' : Hp} {v : V} {s : S} (r : RepO T G H v s) (m : Sub G G') (k : ∀ b ∈ fp v s, H' b = H b ∧ G' b = none) : RepO T G' H' v s := by
  cases r with
  | fr h => exact .fr (h.mono m)
  | ol h g q => obtain ⟨e1, e2⟩ := k _ (List.mem_singleton.mpr rfl); exact .ol (e1.trans h) e2 (q.mono m)
  | od h g l q => obtain ⟨e1, e2⟩ := k _ (List.mem_singleton.mpr rfl); exact .od (e1.trans h) e2 l (q.mono m)
  | oi h g l q => obtain ⟨e1, e2⟩ := k _ (List.mem_singleton.mpr rfl); exact .oi (e1.trans h) e2 l (q.mono m)

abbrev En := List (Option S)
abbrev SV := List (Option V)
/-- all own addresses of the slots -/
def fps : SV → En → List Addr
  | some v :: σ, some s :: e => fp v s ++ fps σ e
  | _ :: σ, _ :: e => fps σ e
  | _, _ => []
theorem fps_cons (x : Option V) (σ : SV) (y : Option S) (e : En) : fps (x :: σ) (y :: e) = (match x, y with | some v, some s => fp v s | _, _ => []) ++ fps σ e := by
  cases x <;> cases y <;> rfl
theorem fps_append : ∀ {σ : SV} {e : En} (σ' : SV) (e' : En), σ.length = e.length → fps (σ ++ σ') (e ++ e') = fps σ e ++ fps σ' e'
  | [], [], _, _, _ => rfl
  | x :: σ, y :: e, σ', e', h => by
    have ih := fps_append (σ := σ) (e := e) σ' e' (by simpa using h)
    show fps (x :: (σ ++ σ')) (y :: (e ++ e')) = _
    rw [fps_cons, fps_cons, ih, List.append_assoc]
  | [], _ :: _, _, _, h => by simp at h
  | _ :: _, [], _, _, h => by simp at h
/-- a slot taken out -/
theorem fps_out : ∀ {σ : SV} {e : En} {i : Nat} {v : V} {s : S}, σ[i]? = some (some v) → e[i]? = some (some s) → (fps σ e).Perm (fp v s ++ fps σ (e.set i none))
  | [], _, _, _, _, h, _ => by simp at h
  | _ :: _, [], _, _, _, _, h => by simp at h
  | x :: σ, y :: e, 0, v, s, h1, h2 => by
    simp at h1 h2; subst h1; subst h2
    exact List.Perm.refl _
  | x :: σ, y :: e, i + 1, v, s, h1, h2 => by
    have ih := fps_out (σ := σ) (e := e) (i := i) (by simpa using h1) (by simpa using h2)
    show (fps (x :: σ) (y :: e)).Perm (fp v s ++ fps (x :: σ) (y :: e.set i none))
    rw [fps_cons, fps_cons]
    refine (List.Perm.append_left _ ih).trans ?_
    rw [← List.append_assoc, ← List.append_assoc]
    exact List.Perm.append_right _ List.perm_append_comm
/-- a slot filled -/
theorem fps_in : ∀ {σ : SV} {e : En} {i : Nat} {v : V} {s : S}, i < e.length → σ[i]? = some (some v) → (fps σ (e.set i (some s))).Perm (fp v s ++ fps σ (e.set i none))
  | [], _, _, _, _, _, h => by simp at h
  | _ :: _, [], _, _, _, hl, _ => by simp at hl
  | x :: σ, y :: e, 0, v, s, _, h1 => by
    simp at h1; subst h1
    exact List.Perm.refl _
  | x :: σ, y :: e, i + 1, v, s, hl, h1 => by
    have ih := fps_in (σ := σ) (e := e) (i := i) (v := v) (s := s) (by simpa using hl) (by simpa using h1)
    show (fps (x :: σ) (y :: e.set i (some s))).Perm (fp v s ++ fps (x :: σ) (y :: e.set i none))
    rw [fps_cons, fps_cons]
    refine (List.Perm.append_left _ ih).trans ?_
    rw [← List.append_assoc, ← List.append_assoc]
    exact List.Perm.append_right _ List.perm_append_comm
/-- a slot emptied does not ask what stands there -/
theorem fps_none : ∀ {σ : SV} {e : En} {i : Nat} (x : Option V), fps (σ.set i x) (e.set i none) = fps σ (e.set i none)
  | [], e, i, x => by simp
  | _ :: _, [], _, _ => by simp [fps]
  | y :: σ, z :: e, 0, x => by
    show fps (x :: σ) (none :: e) = fps (y :: σ) (none :: e)
    rw [fps_cons, fps_cons]
    cases x <;> cases y <;> rfl
  | y :: σ, z :: e, i + 1, x => by
    show fps (y :: σ.set i x) (z :: e.set i none) = fps (y :: σ) (z :: e.set i none)
    rw [fps_cons, fps_cons, fps_none x]
theorem fps_mem : ∀ {σ : SV} {e : En} {b : Addr}, b ∈ fps σ e → ∃ (i : Nat) (v : V) (s : S), σ[i]? = some (some v) ∧ e[i]? = some (some s) ∧ b ∈ fp v s
  | [], _, _, h => by simp [fps] at h
  | _ :: _, [], _, h => by simp [fps] at h
  | x :: σ, y :: e, b, h => by
    rw [fps_cons] at h
    rcases List.mem_append.mp h with h | h
    · cases x with
      | none => simp at h
      | some v => cases y with
        | none => simp at h
        | some s => exact ⟨0, v, s, rfl, rfl, h⟩
    · obtain ⟨i, v, s, a, b, c⟩ := fps_mem h
      exact ⟨i + 1, v, s, by simpa using a, by simpa using b, c⟩
theorem mem_fps : ∀ {σ : SV} {e : En} {i : Nat} {v : V} {s : S} {b : Addr}, σ[i]? = some (some v) → e[i]? = some (some s) → b ∈ fp v s → b ∈ fps σ e := fun h1 h2 h3 =>
  (fps_out h1 h2).mem_iff.mpr (List.mem_append_left _ h3)
theorem fps_sub {σ : SV} {e : En} {i : Nat} : ∀ b, b ∈ fps σ (e.set i none) → b ∈ fps σ e := fun b hb => by
  obtain ⟨j, v, s, h1, h2, h3⟩ := fps_mem hb
  by_cases hj : i = j
  · subst hj
    by_cases hl : i < e.length
    · rw [List.getElem?_set_self hl] at h2; cases h2
    · rw [List.getElem?_eq_none (by simpa using hl)] at h2; cases h2
  · rw [List.getElem?_set_ne hj] at h2
    exact mem_fps h1 h2 h3
theorem fps_nodup_out {σ : SV} {e : En} {i : Nat} (h : (fps σ e).Nodup) : (fps σ (e.set i none)).Nodup := by
  cases h2 : e[i]? with
  | none => rw [List.set_eq_of_length_le (by simpa using List.getElem?_eq_none_iff.mp h2)]; exact h
  | some y => cases y with
    | none =>
      have : e.set i none = e := by
        obtain ⟨hl, e1⟩ := List.getElem?_eq_some_iff.mp h2
        rw [← e1]; exact List.set_getElem_self hl
      rw [this]; exact h
    | some s => cases h1 : σ[i]? with
      | some x => cases x with
        | some v => exact ((fps_out h1 h2).nodup_iff.mp h).sublist (List.sublist_append_right _ _)
        | none =>
          have : fps σ (e.set i none) = fps σ e := by
            clear h
            induction σ generalizing e i with
            | nil => simp at h1
            | cons y σ ih => cases e with
              | nil => simp at h2
              | cons z e => cases i with
                | zero => simp at h1; subst h1; show fps (none :: σ) (none :: e) = fps (none :: σ) (z :: e); rw [fps_cons, fps_cons]
                | succ i => show fps (y :: σ) (z :: e.set i none) = fps (y :: σ) (z :: e); rw [fps_cons, fps_cons, ih (by simpa using h2) (by simpa using h1)]
          rw [this]; exact h
      | none =>
        have : fps σ (e.set i none) = fps σ e := by
          clear h
          induction σ generalizing e i with
          | nil => simp [fps]
          | cons y σ ih => cases e with
            | nil => simp at h2
            | cons z e => cases i with
              | zero => simp at h1
              | succ i => show fps (y :: σ) (z :: e.set i none) = fps (y :: σ) (z :: e); rw [fps_cons, fps_cons, ih (by simpa using h2) (by simpa using h1)]
        rw [this]; exact h

/-- the slots as they stand -/
structure Sl (T : Tb) (G H : Hp) (σ : SV) (e : En) : Prop where
  sub : Sub G H
  len : σ.length = e.length
  rep : ∀ (i : Nat) (s : S), e[i]? = some (some s) → ∃ v, σ[i]? = some (some v) ∧ RepO T G H v s
  nd : (fps σ e).Nodup
/-- what may have become of the heaps -/
structure Evo (G H : Hp) (A : List Addr) (G' H' : Hp) (A' : List Addr) : Prop where
  mono : Sub G G'
  keep : ∀ b o, H b = some o → b ∉ A → H' b = some o
  own : ∀ b ∈ A', b ∈ A ∨ H b = none
  frz : ∀ b o, G' b = some o → G b = some o ∨ b ∈ A ∨ H b = none
section
variable {G H G1 H1 G2 H2 : Hp} {A A1 A2 : List Addr}
theorem Evo.refl : Evo G H A G H A := ⟨.refl _, fun _ _ h _ => h, fun _ h => .inl h, fun _ _ h => .inl h⟩
theorem Evo.trans (a : Evo G H A G1 H1 A1) (b : Evo G1 H1 A1 G2 H2 A2) : Evo G H A G2 H2 A2 := by
  have non : ∀ c, H1 c = none → c ∈ A ∨ H c = none := fun c n => by
    by_cases hc : c ∈ A
    · exact .inl hc
    · cases e : H c with
      | none => exact .inr rfl
      | some o => have z := a.keep c o e hc; rw [n] at z; cases z
  refine ⟨a.mono.trans b.mono, fun c o h hc => b.keep c o (a.keep c o h hc) fun hm => ?_, fun c hc => ?_, fun c o h => ?_⟩
  · rcases a.own c hm with z | z
    · exact hc z
    · rw [h] at z; cases z
  · rcases b.own c hc with z | z
    · exact a.own c z
    · exact non c z
  · rcases b.frz c o h with z | z | z
    · exact a.frz c o z
    · exact .inr (a.own c z)
    · exact .inr (non c z)
theorem Evo.less (a : Evo G H A G1 H1 A1) (h : ∀ b ∈ A2, b ∈ A1) : Evo G H A G1 H1 A2 := ⟨a.mono, a.keep, fun b hb => a.own b (h b hb), a.frz⟩
theorem Evo.wide (a : Evo G H A G1 H1 A1) (h : ∀ b ∈ A, b ∈ A2) : Evo G H A2 G1 H1 A1 :=
  ⟨a.mono, fun b o e n => a.keep b o e fun m => n (h b m), fun b hb => (a.own b hb).imp (h b) id, fun b o e => (a.frz b o e).imp id (Or.imp (h b) id)⟩
end
section
variable {T : Tb} {G H G' H' : Hp} {σ σ' : SV} {e e' : En}
theorem Sl.own (x : Sl T G H σ e) : ∀ b ∈ fps σ e, G b = none ∧ ∃ o, H b = some o := fun b hb => by
  obtain ⟨i, v, s, h1, h2, h3⟩ := fps_mem hb
  obtain ⟨v', e1, r⟩ := x.rep i s h2
  rw [h1] at e1; cases e1
  exact r.own b h3
/-- a slot's thing -/
theorem Sl.at (x : Sl T G H σ e) {i : Nat} {s : S} (h : e[i]? = some (some s)) : ∃ v, σ[i]? = some (some v) ∧ RepO T G H v s := x.rep i s h
/-- a slot emptied -/
theorem Sl.out (x : Sl T G H σ e) (i : Nat) : Sl T G H σ (e.set i none) := by
  refine ⟨x.sub, by rw [List.length_set]; exact x.len, fun j s h => ?_, fps_nodup_out x.nd⟩
  by_cases hj : i = j
  · subst hj
    by_cases hl : i < e.length
    · rw [List.getElem?_set_self hl] at h; cases h
    · rw [List.getElem?_eq_none (by simpa using hl)] at h; cases h
  · rw [List.getElem?_set_ne hj] at h
    exact x.rep j s h
/-- the rest where something else went on -/
theorem Sl.frame (x : Sl T G H σ e) {A A' : List Addr} (E : Evo G H A G' H' A') (hs : Sub G' H') (dis : ∀ b ∈ fps σ e, b ∉ A) : Sl T G' H' σ e := by
  refine ⟨hs, x.len, fun i s h => ?_, x.nd⟩
  obtain ⟨v, h1, r⟩ := x.rep i s h
  refine ⟨v, h1, r.frame E.mono fun b hb => ?_⟩
  have hm := mem_fps h1 h hb
  obtain ⟨g, o, ho⟩ := x.own b hm
  refine ⟨by rw [ho]; exact E.keep b o ho (dis b hm), ?_⟩
  cases q : G' b with
  | none => rfl
  | some u => rcases E.frz b u q with z | z | z
              · rw [g] at z; cases z
              · exact absurd z (dis b hm)
              · rw [ho] at z; cases z
/-- a slot filled anew -/
theorem Sl.put (x : Sl T G H σ (e.set i none)) {v : V} {s : S} (hi : i < e.length) (r : RepO T G H v s) (hn : ∀ b ∈ fp v s, b ∉ fps σ (e.set i none)) : Sl T G H (σ.set i (some v)) (e.set i (some s)) := by
  have hl : σ.length = e.length := by have := x.len; rwa [List.length_set] at this
  have hv : (σ.set i (some v))[i]? = some (some v) := List.getElem?_set_self (by omega)
  refine ⟨x.sub, by rw [List.length_set, List.length_set]; exact hl, fun j t h => ?_, ?_⟩
  · by_cases hj : i = j
    · subst hj
      rw [List.getElem?_set_self hi] at h; cases h
      exact ⟨v, hv, r⟩
    · rw [List.getElem?_set_ne hj] at h
      obtain ⟨u, h1, r'⟩ := x.rep j t (by rw [List.getElem?_set_ne hj]; exact h)
      exact ⟨u, by rw [List.getElem?_set_ne hj]; exact h1, r'⟩
  · refine (fps_in hi hv).nodup_iff.mpr ?_
    rw [fps_none]
    refine List.nodup_append.mpr ⟨?_, x.nd, fun a ha b hb => fun z => hn a ha (z ▸ hb)⟩
    cases v <;> cases s <;> simp [fp]
theorem fps_set_mem {v : V} {s : S} (hi : i < e.length) (hl : σ.length = e.length) : ∀ b, b ∈ fps (σ.set i (some v)) (e.set i (some s)) ↔ b ∈ fp v s ∨ b ∈ fps σ (e.set i none) := fun b => by
  have hv : (σ.set i (some v))[i]? = some (some v) := List.getElem?_set_self (by omega)
  rw [(fps_in hi hv).mem_iff, List.mem_append, fps_none]
/-- two rows of slots beside -/
theorem Sl.append (x : Sl T G H σ e) (y : Sl T G H σ' e') (dis : ∀ b ∈ fps σ e, b ∉ fps σ' e') : Sl T G H (σ ++ σ') (e ++ e') := by
  refine ⟨x.sub, by rw [List.length_append, List.length_append, x.len, y.len], fun i s h => ?_, ?_⟩
  · by_cases hi : i < e.length
    · rw [List.getElem?_append_left hi] at h
      obtain ⟨v, h1, r⟩ := x.rep i s h
      exact ⟨v, by rw [List.getElem?_append_left (by rw [x.len]; exact hi)]; exact h1, r⟩
    · rw [List.getElem?_append_right (by omega)] at h
      obtain ⟨v, h1, r⟩ := y.rep _ s h
      exact ⟨v, by rw [List.getElem?_append_right (by rw [x.len]; omega), x.len]; exact h1, r⟩
  · rw [fps_append _ _ x.len]
    exact List.nodup_append.mpr ⟨x.nd, y.nd, fun a ha b hb z => dis a ha (z ▸ hb)⟩
theorem Sl.left (x : Sl T G H (σ ++ σ') (e ++ e')) (hl : σ.length = e.length) : Sl T G H σ e := by
  refine ⟨x.sub, hl, fun i s h => ?_, ?_⟩
  · have hi : i < e.length := (List.getElem?_eq_some_iff.mp h).1
    obtain ⟨v, h1, r⟩ := x.rep i s (by rw [List.getElem?_append_left hi]; exact h)
    exact ⟨v, by rw [List.getElem?_append_left (by omega)] at h1; exact h1, r⟩
  · have := x.nd
    rw [fps_append _ _ hl] at this
    exact (List.nodup_append.mp this).1
theorem Sl.right (x : Sl T G H (σ ++ σ') (e ++ e')) (hl : σ.length = e.length) : Sl T G H σ' e' := by
  refine ⟨x.sub, by have := x.len; simp only [List.length_append] at this; omega, fun i s h => ?_, ?_⟩
  · obtain ⟨v, h1, r⟩ := x.rep (e.length + i) s (by rw [List.getElem?_append_right (by omega)]; simpa using h)
    exact ⟨v, by rw [List.getElem?_append_right (by omega), hl] at h1; simpa using h1, r⟩
  · have := x.nd
    rw [fps_append _ _ hl] at this
    exact (List.nodup_append.mp this).2.1
theorem Sl.dis (x : Sl T G H (σ ++ σ') (e ++ e')) (hl : σ.length = e.length) : ∀ b ∈ fps σ e, b ∉ fps σ' e' := fun b h1 h2 => by
  have := x.nd
  rw [fps_append _ _ hl] at this
  exact (List.nodup_append.mp this).2.2 b h1 b h2 rfl
theorem Sl.nil (h : Sub G H) : Sl T G H [] [] := ⟨h, rfl, fun i s h => by simp at h, by simp [fps]⟩
theorem Sl.one (h : Sub G H) {v : V} {s : S} (r : RepO T G H v s) : Sl T G H [some v] [some s] := by
  refine ⟨h, rfl, fun i t q => ?_, ?_⟩
  · cases i with
    | zero => simp at q; subst q; exact ⟨v, rfl, r⟩
    | succ i => simp at q
  · show (fp v s ++ []).Nodup
    cases v <;> cases s <;> simp [fp]
end
end Fv

namespace Fv
open PySem PySem.Spec PyProof.Rows L2

/-- what an expression hands on: a thing, or the place of a variable that has a thing of its own -/
inductive R where
  | vl (s : S)
  | pl (i : Nat)
/-- an exception of a class of the text -/
structure Xn where
  c : Nat
  ns : List Str
  ds : List D
inductive Ou (α : Type) where
  | ok (a : α) (e : En)
  | ex (x : Xn) (e : En)
  | no
def Ou.bnd {α β : Type} (o : Ou β) (f : β → En → Ou α) : Ou α :=
  match o with
  | .ok k e => f k e
  | .ex x e => .ex x e
  | .no => .no
def RepX (T : Tb) (G : Hp) (c : Value) (dx : Option Addr) (x : Xn) : Prop :=
  c = .ref (T.ca x.c) ∧ ((x.ns = [] ∧ x.ds = [] ∧ dx = none) ∨ ∃ (d : Addr) (vs : List V), dx = some d ∧ G d = some (.xd (x.ns.zip vs)) ∧ x.ns.length = vs.length ∧ RepFs T G vs x.ds)

/-- the names' slots and, behind them, what was reckoned on the way -/
structure Md (T : Tb) (G H : Hp) (σ : SV) (e : En) (τ : List V) (u : List S) : Prop where
  l1 : σ.length = e.length
  l2 : τ.length = u.length
  sl : Sl T G H (σ ++ τ.map some) (e ++ u.map some)
def As (σ : SV) (e : En) (τ : List V) (u : List S) : List Addr := fps (σ ++ τ.map some) (e ++ u.map some)

inductive HR (σ : SV) : List R → List V → List V → List S → Prop
  | nil : HR σ [] [] [] []
  | vl {s : S} {v : V} {rs : List R} {vs τ : List V} {u : List S} : HR σ rs vs τ u → HR σ (.vl s :: rs) (v :: vs) (v :: τ) (s :: u)
  | pl {i : Nat} {v : V} {rs : List R} {vs τ : List V} {u : List S} : σ[i]? = some (some v) → HR σ rs vs τ u → HR σ (.pl i :: rs) (v :: vs) τ u
theorem HR.len {σ : SV} {rs : List R} {vs τ : List V} {u : List S} (h : HR σ rs vs τ u) : τ.length = u.length ∧ rs.length = vs.length := by
  induction h with
  | nil => exact ⟨rfl, rfl⟩
  | vl _ ih => simp [ih]
  | pl _ _ ih => simp [ih]
theorem HR.app {σ : SV} {rs rs' : List R} {vs vs' τ τ' : List V} {u u' : List S} (h : HR σ rs vs τ u) (k : HR σ rs' vs' τ' u') : HR σ (rs ++ rs') (vs ++ vs') (τ ++ τ') (u ++ u') := by
  induction h with
  | nil => exact k
  | vl _ ih => exact .vl ih
  | pl e _ ih => exact .pl e ih

/-! ### states -/
section
variable {T : Tb} {G H G' H' : Hp} {σ : SV} {e e' : En} {τ τ' : List V} {u u' : List S}
theorem Md.dropT (m : Md T G H σ e (τ ++ τ') (u ++ u')) (h : τ.length = u.length) : Md T G H σ e τ u := by
  refine ⟨m.l1, h, ?_⟩
  have x := m.sl
  rw [List.map_append, List.map_append, ← List.append_assoc, ← List.append_assoc] at x
  exact x.left (by simp [m.l1, h])
theorem As_drop (h1 : σ.length = e.length) (h : τ.length = u.length) : ∀ b ∈ As σ e τ u, b ∈ As σ e (τ ++ τ') (u ++ u') := fun b hb => by
  unfold As at *
  rw [List.map_append, List.map_append, ← List.append_assoc, ← List.append_assoc, fps_append _ _ (by simp [h1, h])]
  exact List.mem_append_left _ hb
theorem Md.push (m : Md T G H σ e τ u) {v : V} {s : S} (r : RepO T G H v s) (hn : ∀ b ∈ fp v s, b ∉ As σ e τ u) : Md T G H σ e (τ ++ [v]) (u ++ [s]) := by
  refine ⟨m.l1, by simp [m.l2], ?_⟩
  rw [List.map_append, List.map_append, ← List.append_assoc, ← List.append_assoc]
  refine m.sl.append (Sl.one m.sl.sub r) fun b hb hc => hn b ?_ hb
  have : b ∈ fp v s ++ [] := hc
  simpa using this
theorem As_push (h1 : σ.length = e.length) (h : τ.length = u.length) {v : V} {s : S} : ∀ b, b ∈ As σ e (τ ++ [v]) (u ++ [s]) ↔ b ∈ As σ e τ u ∨ b ∈ fp v s := fun b => by
  unfold As
  rw [List.map_append, List.map_append, ← List.append_assoc, ← List.append_assoc, fps_append _ _ (by simp [h1, h]), List.mem_append]
  show _ ∨ b ∈ fp v s ++ [] ↔ _
  rw [List.append_nil]
/-- frozen: nothing of it is anyone's own any more -/
theorem Sl.freeze {σ : SV} {e : En} (x : Sl T G H σ e) {i : Nat} {s : S} (h : e[i]? = some (some s)) :
    ∃ (G' : Hp) (v : V), Evo G H (fps σ e) G' H (fps σ (e.set i (some (.fr s.d)))) ∧ Sl T G' H σ (e.set i (some (.fr s.d))) ∧ σ[i]? = some (some v) ∧ RepF T G' v s.d := by
  obtain ⟨v, hv, r⟩ := x.rep i s h
  have hi : i < e.length := (List.getElem?_eq_some_iff.mp h).1
  have hset : σ.set i (some v) = σ := by
    obtain ⟨hl, e1⟩ := List.getElem?_eq_some_iff.mp hv
    rw [← e1]; exact List.set_getElem_self hl
  have fin : ∀ (G' : Hp) (a : Addr) (o : HO), H a = some o → G a = none → a ∈ fps σ e → a ∉ fps σ (e.set i none) → G' = upd G a o → RepF T G' v s.d →
      ∃ (G' : Hp) (v : V), Evo G H (fps σ e) G' H (fps σ (e.set i (some (.fr s.d)))) ∧ Sl T G' H σ (e.set i (some (.fr s.d))) ∧ σ[i]? = some (some v) ∧ RepF T G' v s.d := by
    intro G' a o ha hg hm hn hG' hr
    have mono : Sub G G' := fun b u q => by rw [hG', upd_ne (fun z => by rw [z, hg] at q; cases q)]; exact q
    have sub : Sub G' H := fun b u q => by
      by_cases hb : b = a
      · rw [hG', hb, upd_same] at q; cases q; rw [hb]; exact ha
      · rw [hG', upd_ne hb] at q; exact x.sub b u q
    have ev : Evo G H [a] G' H [] := ⟨mono, fun _ _ q _ => q, fun _ q => absurd q (by simp), fun b u q => by
      by_cases hb : b = a
      · exact .inr (.inl (by simp [hb]))
      · rw [hG', upd_ne hb] at q; exact .inl q⟩
    have y : Sl T G' H σ (e.set i none) := (x.out i).frame ev sub fun b hb q => by
      have : b = a := by simpa using q
      subst this; exact hn hb
    have z := y.put hi (RepO.fr hr) (by rw [fp_fr]; simp)
    rw [hset] at z
    refine ⟨G', v, ⟨mono, fun _ _ q _ => q, fun b hb => ?_, fun b u q => ?_⟩, z, hv, hr⟩
    · have := (fps_set_mem (σ := σ) (v := v) (s := .fr s.d) hi (by exact x.len) b).mp (by rw [hset]; exact hb)
      rcases this with q | q
      · rw [fp_fr] at q; simp at q
      · exact .inl (fps_sub b q)
    · rcases ev.frz b u q with q | q | q
      · exact .inl q
      · exact .inr (.inl (by have : b = a := by simpa using q
                             rw [this]; exact hm))
      · exact .inr (.inr q)
  have nin : ∀ a, fp v s = [a] → a ∉ fps σ (e.set i none) := fun a q hm => by
    have := (fps_out hv h).nodup_iff.mp x.nd
    rw [q] at this
    exact (List.nodup_append.mp this).2.2 a (by simp) a hm rfl
  cases r with
  | @fr _ d hr =>
    have : e.set i (some (.fr (S.fr d).d)) = e := by
      obtain ⟨hl, e1⟩ := List.getElem?_eq_some_iff.mp h
      show e.set i (some (.fr d)) = e
      rw [← e1]; exact List.set_getElem_self hl
    rw [this]
    exact ⟨G, v, .refl, x, hv, hr⟩
  | @ol a vs ds ha hg q => 
    have mono : Sub G (upd G a (.lst vs)) := fun b u q => by rw [upd_ne (fun z => by rw [z, hg] at q; cases q)]; exact q
    exact fin _ a _ ha hg (mem_fps hv h (by simp [fp])) (nin a rfl) rfl (.lst (.of upd_same) (q.mono mono))
  | @od a ks vs ds ha hg l q =>
    have mono : Sub G (upd G a (.dK (ks.zip vs))) := fun b u q => by rw [upd_ne (fun z => by rw [z, hg] at q; cases q)]; exact q
    exact fin _ a _ ha hg (mem_fps hv h (by simp [fp])) (nin a rfl) rfl (.dic upd_same l (q.mono mono))
  | @oi a dx c ns vs ds ha hg l q =>
    have mono : Sub G (upd G a (.ins (T.ca c) dx (ns.zip vs))) := fun b u q => by rw [upd_ne (fun z => by rw [z, hg] at q; cases q)]; exact q
    exact fin _ a _ ha hg (mem_fps hv h (by simp [fp])) (nin a rfl) rfl (.ins upd_same l (q.mono mono))
end

/-! ### readings -/
section
variable (T : Tb) (W : WX)
def Post (G H : Hp) (σ : SV) (A : List Addr) (τ : List V) (u : List S) (o : Ou R) (Q : VK) : Prop :=
  match o with
  | .ok r e' => ∀ (G' H' : Hp) (v : V) (τ' : List V) (u' : List S), Evo G H A G' H' (As σ e' (τ ++ τ') (u ++ u')) → Md T G' H' σ e' (τ ++ τ') (u ++ u') → HR σ [r] [v] τ' u' → Q v H'
  | .ex x e' => ∀ (G' H' : Hp) (c : Value) (dx : Option Addr), Evo G H A G' H' (As σ e' τ u) → Md T G' H' σ e' τ u → RepX T G' c dx x → W c dx σ H'
  | .no => False
def PostL (G H : Hp) (σ : SV) (A : List Addr) (τ : List V) (u : List S) (o : Ou (List R)) (Q : List V → Hp → Prop) : Prop :=
  match o with
  | .ok rs e' => ∀ (G' H' : Hp) (vs : List V) (τ' : List V) (u' : List S), Evo G H A G' H' (As σ e' (τ ++ τ') (u ++ u')) → Md T G' H' σ e' (τ ++ τ') (u ++ u') → HR σ rs vs τ' u' → Q vs H'
  | .ex x e' => ∀ (G' H' : Hp) (c : Value) (dx : Option Addr), Evo G H A G' H' (As σ e' τ u) → Md T G' H' σ e' τ u → RepX T G' c dx x → W c dx σ H'
  | .no => False
def PostB {α : Type} (G H : Hp) (σ : SV) (A : List Addr) (τ : List V) (u : List S) (o : Ou α) (Q : α → Hp → Prop) : Prop :=
  match o with
  | .ok b e' => ∀ (G' H' : Hp), Evo G H A G' H' (As σ e' τ u) → Md T G' H' σ e' τ u → Q b H'
  | .ex x e' => ∀ (G' H' : Hp) (c : Value) (dx : Option Addr), Evo G H A G' H' (As σ e' τ u) → Md T G' H' σ e' τ u → RepX T G' c dx x → W c dx σ H'
  | .no => False
def tE (m : En → Ou R) : TE := fun σ H Q => ∃ (G : Hp) (e : En) (τ : List V) (u : List S), Md T G H σ e τ u ∧ Post T W G H σ (As σ e τ u) τ u (m e) Q
def tEs (m : En → Ou (List R)) : TA := fun σ H Q => ∃ (G : Hp) (e : En) (τ : List V) (u : List S), Md T G H σ e τ u ∧ PostL T W G H σ (As σ e τ u) τ u (m e) Q
def tB {α : Type} (m : En → Ou α) : SV → Hp → (α → Hp → Prop) → Prop := fun σ H Q => ∃ (G : Hp) (e : En) (τ : List V) (u : List S), Md T G H σ e τ u ∧ PostB T W G H σ (As σ e τ u) τ u (m e) Q
end
section
variable {T : Tb} {W : WX} {G H G1 H1 : Hp} {σ : SV} {A A1 : List Addr} {τ : List V} {u : List S}
theorem Post.after {o : Ou R} {Q : VK} (p : Post T W G H σ A τ u o Q) (E : Evo G H A G1 H1 A1) : Post T W G1 H1 σ A1 τ u o Q := by
  cases o with
  | ok r e' => exact fun G' H' v τ' u' ev md hr => p G' H' v τ' u' (E.trans ev) md hr
  | ex x e' => exact fun G' H' c dx ev md rx => p G' H' c dx (E.trans ev) md rx
  | no => exact p
theorem PostL.after {o : Ou (List R)} {Q : List V → Hp → Prop} (p : PostL T W G H σ A τ u o Q) (E : Evo G H A G1 H1 A1) : PostL T W G1 H1 σ A1 τ u o Q := by
  cases o with
  | ok r e' => exact fun G' H' v τ' u' ev md hr => p G' H' v τ' u' (E.trans ev) md hr
  | ex x e' => exact fun G' H' c dx ev md rx => p G' H' c dx (E.trans ev) md rx
  | no => exact p
theorem PostB.after {α : Type} {o : Ou α} {Q : α → Hp → Prop} (p : PostB T W G H σ A τ u o Q) (E : Evo G H A G1 H1 A1) : PostB T W G1 H1 σ A1 τ u o Q := by
  cases o with
  | ok r e' => exact fun G' H' ev md => p G' H' (E.trans ev) md
  | ex x e' => exact fun G' H' c dx ev md rx => p G' H' c dx (E.trans ev) md rx
  | no => exact p
theorem tE.mono {m : En → Ou R} {Q Q' : VK} (hq : ∀ v H, Q v H → Q' v H) : tE T W m σ H Q → tE T W m σ H Q' := by
  rintro ⟨G, e, τ, u, md, p⟩
  refine ⟨G, e, τ, u, md, ?_⟩
  revert p
  cases m e with
  | ok r e' => exact fun p G' H' v τ' u' ev md hr => hq _ _ (p G' H' v τ' u' ev md hr)
  | ex x e' => exact id
  | no => exact id
theorem tEs.mono {m : En → Ou (List R)} {Q Q' : List V → Hp → Prop} (hq : ∀ v H, Q v H → Q' v H) : tEs T W m σ H Q → tEs T W m σ H Q' := by
  rintro ⟨G, e, τ, u, md, p⟩
  refine ⟨G, e, τ, u, md, ?_⟩
  revert p
  cases m e with
  | ok r e' => exact fun p G' H' v τ' u' ev md hr => hq _ _ (p G' H' v τ' u' ev md hr)
  | ex x e' => exact id
  | no => exact id
end

/-! ### rows of expressions -/
def aNil : En → Ou (List R) := fun e => .ok [] e
def aCons (m : En → Ou R) (ms : En → Ou (List R)) : En → Ou (List R) := fun e =>
  match m e with
  | .ok r e1 => match ms e1 with
    | .ok rs e2 => .ok (r :: rs) e2
    | .ex x e2 => .ex x e2
    | .no => .no
  | .ex x e1 => .ex x e1
  | .no => .no
def bP (p : List R → En → Ou R) (ms : En → Ou (List R)) : En → Ou R := fun e =>
  match ms e with
  | .ok rs e1 => p rs e1
  | .ex x e1 => .ex x e1
  | .no => .no
/-- a step by things -/
def PrimOk (T : Tb) (W : WX) (rd : SV → List V → Hp → VK → Prop) (p : List R → En → Ou R) : Prop :=
  ∀ (G H : Hp) (σ : SV) (e : En) (τ τ1 : List V) (u u1 : List S) (rs : List R) (vs : List V) (Q : VK), Md T G H σ e (τ ++ τ1) (u ++ u1) → τ.length = u.length → HR σ rs vs τ1 u1 →
    Post T W G H σ (As σ e (τ ++ τ1) (u ++ u1)) τ u (p rs e) Q → rd σ vs H Q
section
variable {T : Tb} {W : WX} {σ : SV} {H : Hp} {m : En → Ou R} {ms : En → Ou (List R)}
theorem tEs_nil {Q : List V → Hp → Prop} : tEs T W aNil σ H Q → Q [] H := by
  rintro ⟨G, e, τ, u, md, p⟩
  have p' := p G H [] [] [] (by simpa using Evo.refl) (by simpa using md) .nil
  exact p'
theorem tEs_cons {Q : List V → Hp → Prop} : tEs T W (aCons m ms) σ H Q → tE T W m σ H fun x H1 => tEs T W ms σ H1 fun xs H2 => Q (x :: xs) H2 := by
  rintro ⟨G, e, τ, u, md, p⟩
  refine ⟨G, e, τ, u, md, ?_⟩
  unfold aCons at p
  cases hm : m e with
  | no => rw [hm] at p; exact p
  | ex x e1 => rw [hm] at p; exact p
  | ok r e1 =>
    rw [hm] at p
    refine fun G1 H1 v τ1 u1 ev1 md1 hr1 => ⟨G1, e1, τ ++ τ1, u ++ u1, md1, ?_⟩
    have p : PostL T W G H σ (As σ e τ u) τ u (match ms e1 with | .ok rs e2 => .ok (r :: rs) e2 | .ex x e2 => .ex x e2 | .no => .no) Q := p
    cases hs : ms e1 with
    | no => rw [hs] at p; exact p
    | ex x e2 =>
      rw [hs] at p
      refine fun G2 H2 c dx ev2 md2 rx => p G2 H2 c dx ((ev1.trans ev2).less (As_drop md2.l1 md.l2)) (md2.dropT md.l2) rx
    | ok rs e2 =>
      rw [hs] at p
      refine fun G2 H2 vs τ2 u2 ev2 md2 hr2 => p G2 H2 (v :: vs) (τ1 ++ τ2) (u1 ++ u2) ?_ ?_ (hr1.app hr2)
      · rw [← List.append_assoc, ← List.append_assoc]; exact ev1.trans ev2
      · rw [← List.append_assoc, ← List.append_assoc]; exact md2
theorem tE_prim {rd : SV → List V → Hp → VK → Prop} {p : List R → En → Ou R} (hp : PrimOk T W rd p) {Q : VK} : tE T W (bP p ms) σ H Q → tEs T W ms σ H fun vs H' => rd σ vs H' Q := by
  rintro ⟨G, e, τ, u, md, q⟩
  refine ⟨G, e, τ, u, md, ?_⟩
  unfold bP at q
  cases hm : ms e with
  | no => rw [hm] at q; exact q
  | ex x e1 => rw [hm] at q; exact q
  | ok rs e1 =>
    rw [hm] at q
    exact fun G1 H1 vs τ1 u1 ev1 md1 hr1 => hp G1 H1 σ e1 τ τ1 u u1 rs vs Q md1 md.l2 hr1 (Post.after q ev1)
theorem PE.imp {X : Cx} {e : Expr} {t t' : TE} (h : PE X e t) (k : ∀ σ H Q, t' σ H Q → t σ H Q) : PE X e t' := ⟨fun pins s σ H Q I q => h.run pins s σ H Q I (k σ H Q q)⟩
theorem PT.imp {X : Cx} {e : Expr} {t t' : TT} (h : PT X e t) (k : ∀ σ H Q, t' σ H Q → t σ H Q) : PT X e t' := ⟨fun pins s σ H Q I q => h.run pins s σ H Q I (k σ H Q q)⟩
theorem PA.imp {X : Cx} {e : List Expr} {t t' : TA} (h : PA X e t) (k : ∀ σ H Q, t' σ H Q → t σ H Q) : PA X e t' := ⟨fun pos pins s σ H Q I q => h.run pos pins s σ H Q I (k σ H Q q)⟩
theorem PS.imp {X : Cx} {e : Stmt} {t t' : TS} (h : PS X e t) (k : ∀ D σ H, t' D σ H → t D σ H) : PS X e t' := ⟨fun pins s σ H D I q => h.run pins s σ H D I (k D σ H q)⟩
theorem PSs.imp {X : Cx} {e : List Stmt} {t t' : TS} (h : PSs X e t) (k : ∀ D σ H, t' D σ H → t D σ H) : PSs X e t' := ⟨fun pins s σ H D I q => h.run pins s σ H D I (k D σ H q)⟩
/-- one thing, two things -/
theorem tE_prim1 {rd : SV → List V → Hp → VK → Prop} {p : List R → En → Ou R} (hp : PrimOk T W rd p) {Q : VK} : tE T W (bP p (aCons m aNil)) σ H Q → tE T W m σ H fun x H1 => rd σ [x] H1 Q := fun h =>
  tE.mono (fun _ _ k => tEs_nil k) (tEs_cons (tE_prim hp h))
theorem tE_prim2 {m2 : En → Ou R} {rd : SV → List V → Hp → VK → Prop} {p : List R → En → Ou R} (hp : PrimOk T W rd p) {Q : VK} : tE T W (bP p (aCons m (aCons m2 aNil))) σ H Q → tE T W m σ H fun x H1 => tE T W m2 σ H1 fun y H2 => rd σ [x, y] H2 Q := fun h =>
  tE.mono (fun _ _ k => tE.mono (fun _ _ k => tEs_nil k) (tEs_cons k)) (tEs_cons (tE_prim hp h))
end
end Fv

namespace Fv
open PySem PySem.Spec PyProof.Rows L2

/-! ### things looked at -/
inductive RepOs (T : Tb) (G H : Hp) : List V → List S → Prop
  | nil : RepOs T G H [] []
  | cons {v : V} {vs : List V} {s : S} {ss : List S} : RepO T G H v s → RepOs T G H vs ss → RepOs T G H (v :: vs) (s :: ss)
def pk (e : En) : R → Option S
  | .vl s => some s
  | .pl i => (e[i]?).join
def pks (e : En) : List R → Option (List S)
  | [] => some []
  | r :: rs => match pk e r with
    | some s => match pks e rs with
      | some ss => some (s :: ss)
      | none => none
    | none => none
section
variable {T : Tb} {G H : Hp} {σ : SV} {e : En}
theorem Md.var {τ : List V} {u : List S} (m : Md T G H σ e τ u) {i : Nat} {s : S} (h : e[i]? = some (some s)) : ∃ v, σ[i]? = some (some v) ∧ RepO T G H v s := by
  have hi : i < e.length := (List.getElem?_eq_some_iff.mp h).1
  obtain ⟨v, h1, r⟩ := m.sl.rep i s (by rw [List.getElem?_append_left hi]; exact h)
  exact ⟨v, by rw [List.getElem?_append_left (by rw [m.l1]; exact hi)] at h1; exact h1, r⟩
theorem Md.last {τ : List V} {u : List S} {v : V} {s : S} (m : Md T G H σ e (τ ++ [v]) (u ++ [s])) (h : τ.length = u.length) : RepO T G H v s := by
  obtain ⟨w, h1, r⟩ := m.sl.rep (e.length + u.length) s (by rw [List.getElem?_append_right (by omega)]; simp)
  rw [List.getElem?_append_right (by rw [m.l1]; omega), m.l1] at h1
  have h3 : e.length + u.length - e.length = τ.length := by omega
  rw [h3] at h1
  simp at h1
  subst h1
  exact r
theorem HR.peek {rs : List R} {vs τ1 : List V} {u1 : List S} (hr : HR σ rs vs τ1 u1) : ∀ {τ : List V} {u : List S} {ss : List S}, Md T G H σ e (τ ++ τ1) (u ++ u1) → τ.length = u.length → pks e rs = some ss → RepOs T G H vs ss := by
  induction hr with
  | nil => intro τ u ss _ _ h; cases h; exact .nil
  | @vl s v rs vs τ1 u1 k ih =>
    intro τ u ss m hl h
    unfold pks at h
    simp only [pk] at h
    cases h2 : pks e rs with
    | none => rw [h2] at h; cases h
    | some ss' =>
      rw [h2] at h; cases h
      have m' : Md T G H σ e ((τ ++ [v]) ++ τ1) ((u ++ [s]) ++ u1) := by simpa using m
      exact .cons ((m'.dropT (by simp [hl])).last hl) (ih m' (by simp [hl]) h2)
  | @pl i v rs vs τ1 u1 q k ih =>
    intro τ u ss m hl h
    unfold pks at h
    simp only [pk] at h
    cases h1 : (e[i]?).join with
    | none => rw [h1] at h; cases h
    | some s =>
      rw [h1] at h
      cases h2 : pks e rs with
      | none => rw [h2] at h; cases h
      | some ss' =>
        rw [h2] at h; cases h
        have he : e[i]? = some (some s) := by
          cases z : e[i]? with
          | none => rw [z] at h1; cases h1
          | some y => rw [z] at h1; simp at h1; rw [h1]
        obtain ⟨w, hw, r⟩ := m.var he
        rw [q] at hw; cases hw
        exact .cons r (ih m hl h2)
end

/-! ### what grows alone -/
structure Grow (G H G' H' : Hp) : Prop where
  mono : Sub G G'
  sub : Sub G' H'
  keep : Sub H H'
  frz : ∀ b o, G' b = some o → G b = some o ∨ H b = none
section
variable {T : Tb} {G H G' H' : Hp} {σ : SV} {e : En} {τ τ1 : List V} {u u1 : List S}
theorem Grow.refl (h : Sub G H) : Grow G H G H := ⟨.refl _, h, .refl _, fun _ _ q => .inl q⟩
theorem Sub.upd_none {H : Hp} {p : Addr} {o : HO} (h : H p = none) : Sub H (upd H p o) := fun b u q => by rw [upd_ne (ne_of_none q h)]; exact q
theorem Sub.none {G H : Hp} (s : Sub G H) {p : Addr} (h : H p = Option.none) : G p = Option.none := by
  cases q : G p with
  | none => rfl
  | some u => rw [s p u q] at h; cases h
/-- a new object, not to be written -/
theorem Grow.frozen (h : Sub G H) {p : Addr} {o : HO} (hp : H p = Option.none) : Grow G H (upd G p o) (upd H p o) :=
  ⟨.upd_none (h.none hp), fun b u q => by
    by_cases hb : b = p
    · subst hb; rw [upd_same] at q ⊢; exact q
    · rw [upd_ne hb] at q ⊢; exact h b u q, .upd_none hp, fun b u q => by
    by_cases hb : b = p
    · subst hb; exact .inr hp
    · rw [upd_ne hb] at q; exact .inl q⟩
/-- a new object of one's own -/
theorem Grow.own (h : Sub G H) {p : Addr} {o : HO} (hp : H p = Option.none) : Grow G H G (upd H p o) :=
  ⟨.refl _, h.trans (.upd_none hp), .upd_none hp, fun _ _ q => .inl q⟩
theorem Grow.evo (g : Grow G H G' H') (A : List Addr) : Evo G H A G' H' A := ⟨g.mono, fun b o q _ => g.keep b o q, fun _ h => .inl h, fun b o q => (g.frz b o q).imp id .inr⟩
theorem Md.grow (m : Md T G H σ e τ u) (g : Grow G H G' H') : Md T G' H' σ e τ u := by
  refine ⟨m.l1, m.l2, m.sl.frame (A := []) (A' := []) ⟨g.mono, fun b o q _ => g.keep b o q, fun _ h => absurd h (by simp), fun b o q => (g.frz b o q).imp id .inr⟩ g.sub fun _ _ => by simp⟩
/-- a step that looks at things and makes one -/
def pS (f : List D → Option S) : List R → En → Ou R := fun rs e =>
  match pks e rs with
  | some ss => match f (ss.map S.d) with
    | some s => .ok (.vl s) e
    | none => .no
  | none => .no
/-- what a step by data promises -/
def FunOk (T : Tb) (rd : List V → Hp → VK → Prop) (f : List D → Option S) : Prop :=
  ∀ (G H : Hp) (vs : List V) (ss : List S) (s : S) (Q : VK), Sub G H → RepOs T G H vs ss → f (ss.map S.d) = some s →
      (∀ (v : V) (G' H' : Hp), Grow G H G' H' → RepO T G' H' v s → (∀ b ∈ fp v s, H b = Option.none) → Q v H') → rd vs H Q
theorem prim_S {W : WX} {f : List D → Option S} {rd : List V → Hp → VK → Prop} (h : FunOk T rd f) : PrimOk T W (fun _ => rd) (pS f) := by
  intro G H σ e τ τ1 u u1 rs vs Q md hl hr q
  unfold pS at q
  cases h1 : pks e rs with
  | none => rw [h1] at q; exact q.elim
  | some ss =>
    rw [h1] at q
    simp only at q
    cases h2 : f (ss.map S.d) with
    | none => rw [h2] at q; exact q.elim
    | some s =>
      rw [h2] at q
      refine h G H vs ss s Q md.sl.sub (hr.peek md hl h1) h2 fun v G' H' g r hn => ?_
      have md1 : Md T G' H' σ e τ u := (md.dropT hl).grow g
      have own1 : ∀ b ∈ fp v s, b ∉ As σ e τ u := fun b hb hc => by
        obtain ⟨_, o, ho⟩ := (md.dropT hl).sl.own b hc
        rw [hn b hb] at ho; cases ho
      refine q G' H' v [v] [s] ?_ (md1.push r own1) (.vl .nil)
      refine ⟨g.mono, fun b o z _ => g.keep b o z, fun b hb => ?_, fun b o z => (g.frz b o z).imp id .inr⟩
      rcases (As_push md.l1 hl b).mp hb with z | z
      · exact .inl (As_drop md.l1 hl b z)
      · exact .inr (hn b z)
end

/-! ### readings of things -/
section
variable {T : Tb} {G H : Hp} {v : V} {s : S}
theorem RepO.non (r : RepO T G H v s) (h : s.d = .non) : v = .non := by
  cases r <;> simp [S.d] at h
  subst h; rename_i q; cases q; rfl
theorem RepO.bl {b : Bool} (r : RepO T G H v s) (h : s.d = .bl b) : v = .bl b := by
  cases r <;> simp [S.d] at h
  subst h; rename_i q; cases q; rfl
theorem RepO.int {i : Int} (r : RepO T G H v s) (h : s.d = .int i) : v = .int i := by
  cases r <;> simp [S.d] at h
  subst h; rename_i q; cases q; rfl
theorem RepO.str {x : Str} (r : RepO T G H v s) (h : s.d = .str x) : v = .str x := by
  cases r <;> simp [S.d] at h
  subst h; rename_i q; cases q; rfl
theorem RepO.tup {ds : List D} (r : RepO T G H v s) (hs : Sub G H) (h : s.d = .tup ds) : ∃ a xs, v = .ref a ∧ SqT T.K H a xs ∧ TupAt T.K G a xs ∧ RepFs T G xs ds := by
  cases r <;> simp [S.d] at h
  subst h; rename_i q; cases q with | tup h k => exact ⟨_, _, rfl, hs.sqT h.sq, h, k⟩
theorem RepO.lst {ds : List D} (r : RepO T G H v s) (hs : Sub G H) (h : s.d = .lst ds) : ∃ a xs, v = .ref a ∧ SqL T.K H a xs ∧ RepFs T G xs ds := by
  cases r with
  | fr q => simp [S.d] at h; subst h; cases q with | lst h k => exact ⟨_, _, rfl, hs.sqL h, k⟩
  | ol h1 h2 k => simp [S.d] at h; subst h; exact ⟨_, _, rfl, .of h1, k⟩
  | od _ _ _ _ => simp [S.d] at h
  | oi _ _ _ _ => simp [S.d] at h
theorem RepO.dic {ks : List Key} {ds : List D} (r : RepO T G H v s) (hs : Sub G H) (h : s.d = .dic ks ds) : ∃ a xs, v = .ref a ∧ H a = some (.dK (ks.zip xs)) ∧ ks.length = xs.length ∧ RepFs T G xs ds := by
  cases r with
  | fr q => simp [S.d] at h; subst h; cases q with | dic h l k => exact ⟨_, _, rfl, hs _ _ h, l, k⟩
  | od h1 h2 l k => simp [S.d] at h; obtain ⟨rfl, rfl⟩ := h; exact ⟨_, _, rfl, h1, l, k⟩
  | ol _ _ _ => simp [S.d] at h
  | oi _ _ _ _ => simp [S.d] at h
theorem RepO.ins {c : Nat} {ns : List Str} {ds : List D} (r : RepO T G H v s) (hs : Sub G H) (h : s.d = .ins c ns ds) : ∃ a dx xs, v = .ref a ∧ H a = some (.ins (T.ca c) dx (ns.zip xs)) ∧ ns.length = xs.length ∧ RepFs T G xs ds := by
  cases r with
  | fr q => simp [S.d] at h; subst h; cases q with | ins h l k => exact ⟨_, _, _, rfl, hs _ _ h, l, k⟩
  | oi h1 h2 l k => simp [S.d] at h; obtain ⟨rfl, rfl, rfl⟩ := h; exact ⟨_, _, _, rfl, h1, l, k⟩
  | ol _ _ _ => simp [S.d] at h
  | od _ _ _ _ => simp [S.d] at h
/-- a known thing made -/
theorem done_fr {d : D} {Q : VK} {v : V} {W : Prop} (hs : Sub G H) (k : ∀ (v : V) (G' H' : Hp), Grow G H G' H' → RepO T G' H' v (.fr d) → (∀ b ∈ fp v (.fr d), H b = none) → Q v H') (r : RepF T G v d) : Q v H :=
  k v G H (.refl hs) (.fr r) (by rw [fp_fr]; simp)
theorem done_ol {ds : List D} {Q : VK} {xs : List V} (hs : Sub G H) (k : ∀ (v : V) (G' H' : Hp), Grow G H G' H' → RepO T G' H' v (.ol ds) → (∀ b ∈ fp v (.ol ds), H b = none) → Q v H') (r : RepFs T G xs ds) {p : Addr} (hp : H p = none) : Q (.ref p) (upd H p (.lst xs)) :=
  k _ G _ (.own hs hp) (.ol upd_same (hs.none hp) r) fun b hb => by simp [fp] at hb; rw [hb]; exact hp
theorem done_tup {ds : List D} {Q : VK} {xs : List V} (hs : Sub G H) (k : ∀ (v : V) (G' H' : Hp), Grow G H G' H' → RepO T G' H' v (.fr (.tup ds)) → (∀ b ∈ fp v (.fr (.tup ds)), H b = none) → Q v H') (r : RepFs T G xs ds) {p : Addr} (hp : H p = none) : Q (.ref p) (upd H p (.tup xs)) :=
  k _ _ _ (.frozen hs hp) (.fr (.tup (.of upd_same) (r.mono (.upd_none (hs.none hp))))) (by rw [fp_fr]; simp)
theorem done_od {ks : List Key} {ds : List D} {Q : VK} {xs : List V} (hs : Sub G H) (k : ∀ (v : V) (G' H' : Hp), Grow G H G' H' → RepO T G' H' v (.od ks ds) → (∀ b ∈ fp v (.od ks ds), H b = none) → Q v H') (r : RepFs T G xs ds) (hl : ks.length = xs.length) {p : Addr} (hp : H p = none) : Q (.ref p) (upd H p (.dK (ks.zip xs))) :=
  k _ G _ (.own hs hp) (.od upd_same (hs.none hp) hl r) fun b hb => by simp [fp] at hb; rw [hb]; exact hp
end
theorem repOs2 {T : Tb} {G H : Hp} {vs : List V} {ss : List S} {a b : D} (r : RepOs T G H vs ss) (h : ss.map S.d = [a, b]) : ∃ v w s t, vs = [v, w] ∧ RepO T G H v s ∧ RepO T G H w t ∧ s.d = a ∧ t.d = b := by
  cases r with
  | nil => simp at h
  | cons r1 r =>
    cases r with
    | nil => simp at h
    | cons r2 r =>
      cases r with
      | nil => simp at h; exact ⟨_, _, _, _, rfl, r1, r2, h.1, h.2⟩
      | cons _ _ => simp at h
theorem repOs1 {T : Tb} {G H : Hp} {vs : List V} {ss : List S} {a : D} (r : RepOs T G H vs ss) (h : ss.map S.d = [a]) : ∃ v s, vs = [v] ∧ RepO T G H v s ∧ s.d = a := by
  cases r with
  | nil => simp at h
  | cons r1 r =>
    cases r with
    | nil => simp at h; exact ⟨_, _, rfl, r1, h⟩
    | cons _ _ => simp at h

/-! ### data of the library's kind -/
mutual
def D.pd : D → PyData
  | .non => .none
  | .bl b => .bool b
  | .int i => .int i
  | .str x => .str x
  | .tup xs => .tuple (D.pds xs)
  | .lst xs => .list (D.pds xs)
  | .dic _ _ => .dict []
  | .ins _ _ _ => .dict []
  | .fn _ => .dict []
  | .ty _ => .dict []
def D.pds : List D → List PyData
  | [] => []
  | x :: xs => x.pd :: D.pds xs
end
mutual
theorem RepFs.dp {T : Tb} {G H : Hp} (s : Sub G H) : ∀ {vs : List V} {ds : List D}, RepFs T G vs ds → PyData.canLayAll0 (D.pds ds) = true → DpAll T.K H vs (D.pds ds)
  | _, _, .nil, _ => .nil
  | _, _, .cons (d := d) (ds := ds) h k, z => by
    have z' : PyData.canLayAll0 (d.pd :: D.pds ds) = true := z
    simp [PyData.canLayAll0] at z'
    exact .cons (RepF.dp' s h z'.1) (RepFs.dp s k z'.2)
theorem RepF.dp' {T : Tb} {G H : Hp} (s : Sub G H) : ∀ {v : V} {d : D}, RepF T G v d → PyData.canLay0 d.pd = true → Dp T.K H v d.pd
  | _, _, .non, _ => .non
  | _, _, .bl b, _ => .bl b
  | _, _, .int i, _ => .int i
  | _, _, .str x, _ => .str x
  | _, _, .tup h k, z => .tup (s.sqT h.sq) (RepFs.dp s k (by simpa [D.pd, PyData.canLay0] using z))
  | _, _, .lst h k, z => .lst (s.sqL h) (RepFs.dp s k (by simpa [D.pd, PyData.canLay0] using z))
  | _, _, .dic _ _ _, z => by simp [D.pd, PyData.canLay0] at z
  | _, _, .ins _ _ _, z => by simp [D.pd, PyData.canLay0] at z
  | _, _, .fn _, z => by simp [D.pd, PyData.canLay0] at z
  | _, _, .ty _, z => by simp [D.pd, PyData.canLay0] at z
end
theorem shaped_lay {d : PyData} (h : SeqAt.shaped d = true) : PyData.canLay0 d = true := SeqAt.canLay_of_shaped h
theorem RepO.dp {T : Tb} {G H : Hp} {v : V} {s : S} (r : RepO T G H v s) (hs : Sub G H) (h : SeqAt.shaped s.d.pd = true) : Dp T.K H v s.d.pd := by
  have z := shaped_lay h
  cases r with
  | fr q => exact q.dp' hs z
  | ol h1 h2 k => exact .lst (.of h1) (k.dp hs (by simpa [S.d, D.pd, PyData.canLay0] using z))
  | od _ _ _ _ => simp [S.d, D.pd, PyData.canLay0] at z
  | oi _ _ _ _ => simp [S.d, D.pd, PyData.canLay0] at z
end Fv

namespace Fv
open PySem PySem.Spec PyProof.Rows L2

/-! ### operators -/
def mulB (i j : Int) : Bool := decide (Builtin.Int.intBits i > shortFactorBits) && decide (Builtin.Int.intBits j > shortFactorBits) && Builtin.Int.intTooBig (Builtin.Int.intBits i + Builtin.Int.intBits j)
def dAdd : List D → Option S
  | [.int i, .int j] => some (.fr (.int (i + j)))
  | [.str x, .str y] => if x.length + y.length ≤ 16777216 then some (.fr (.str (x ++ y))) else none
  | [.lst xs, .lst ys] => if xs.length + ys.length ≤ 16777216 then some (.ol (xs ++ ys)) else none
  | [.tup xs, .tup ys] => if xs.length + ys.length ≤ 16777216 then some (.fr (.tup (xs ++ ys))) else none
  | _ => none
def dSub : List D → Option S
  | [.int i, .int j] => some (.fr (.int (i - j)))
  | _ => none
def dMul : List D → Option S
  | [.int i, .int j] => if mulB i j then none else some (.fr (.int (i * j)))
  | [.lst xs, .int k] => if -(2 ^ 62) ≤ k ∧ k < 2 ^ 62 ∧ xs.length * k.toNat ≤ 16777216 then some (.ol (List.replicate k.toNat xs).flatten) else none
  | _ => none
def dDiv : List D → Option S
  | [.int i, .int j] => if j = 0 then none else if Builtin.divisionGoesByPylong i j then none else some (.fr (.int (if 0 < j then i / j else i.fdiv j)))
  | _ => none
def dMod : List D → Option S
  | [.int i, .int j] => if j = 0 then none else some (.fr (.int (if 0 < j then i % j else i.fmod j)))
  | _ => none
def dPow : List D → Option S
  | [.int i, .int j] => if 0 ≤ j ∧ j ≤ 1000000 ∧ i.natAbs < 2 ^ 64 then some (.fr (.int (i ^ j.toNat))) else none
  | _ => none
def dNeg : List D → Option S
  | [.int i] => some (.fr (.int (-i)))
  | _ => none
def dBin : Operator → Option (List D → Option S)
  | .Add => some dAdd
  | .Sub => some dSub
  | .Mult => some dMul
  | .FloorDiv => some dDiv
  | .Mod => some dMod
  | .Pow => some dPow
  | _ => none
def r2 (r : R2) : List V → Hp → VK → Prop := fun vs H Q => ∃ x y, vs = [x, y] ∧ r x y H Q
def r1 (r : V → Hp → VK → Prop) : List V → Hp → VK → Prop := fun vs H Q => ∃ x, vs = [x] ∧ r x H Q
section
variable {X : Cx}
def rCatL (K : PySem.W.Frag) : R2 := fun x y H Q => ∃ a b xs ys, x = .ref a ∧ y = .ref b ∧ SqL K H a xs ∧ SqL K H b ys ∧ xs.length + ys.length ≤ sizeLine ∧ ∀ p, H p = none → Q (.ref p) (upd H p (.lst (xs ++ ys)))
theorem op_catL : OpR X (binaryOp .Add) (rCatL X.K) := by
  intro pins s σ H x y v u Q I rx ry h
  obtain ⟨a, b, xs, ys, rfl, rfl, ha, hb, hz, q⟩ := h
  cases rx
  cases ry
  obtain ⟨its, r1, ⟨⟨cls, dd, data, sl⟩, n, ho, hc, hd, hdt⟩, _⟩ := I.list ha
  obtain ⟨its2, r2, ⟨⟨cls2, dd2, data2, sl2⟩, n2, ho2, hc2, hd2, hdt2⟩, _⟩ := I.list hb
  simp only at hc hd hdt hc2 hd2 hdt2
  subst hc hd hdt hc2 hd2 hdt2
  have e1 := r1.length
  have e2 := r2.length
  have e : its.toArray ++ its2.toArray = (its ++ its2).toArray := by simp
  refine concat_meets ⟨_, ho, rfl⟩ ⟨_, ho2, rfl⟩ noFill_list_add seq_list_add PySem.F.slot_list_add PySem.F.entry_list_add (PySem.F.args_list_add_2 _ _) (list_addW a b its.toArray its2.toArray n n2 none none sl sl2 (by simp only [List.size_toArray]; omega)) ⟨ho, ho2, ?_⟩
  rw [e]
  exact ⟨.ref _, _, I.lnew (t' := s.toks) (r1.append r2) (by rw [List.length_append]; omega), rfl, q _ I.fresh⟩
theorem op_mulG : OpR X (binaryOp .Mult) (rI IntMulOk fun i j => .int (i * j)) := opI fun _ _ _ _ _ _ _ hc q => mul_int q hc
def CDivG (i j : Int) : Prop := j ≠ 0 ∧ Builtin.divisionGoesByPylong i j = false
theorem op_fdivG : OpR X (binaryOp .FloorDiv) (rI CDivG fun i j => .int (i.fdiv j)) := opI fun _ _ _ _ _ _ _ hc q => floordiv_int hc.1 q (.inl hc.2)
def rAddA (K : PySem.W.Frag) : R2 := fun x y H Q => (((rI0 (fun i j => .int (i + j)) x y H Q ∨ (∃ i j, x = .str i ∧ y = .str j ∧ i.length + j.length ≤ sizeLine ∧ Q (.str (i ++ j)) H)) ∨ rCatL K x y H Q) ∨ rCatA K x y H Q)
theorem op_addA : OpR X (binaryOp .Add) (rAddA X.K) := ((op_add.or op_add_str).or op_catL).or op_catA
def rMulA : R2 := fun x y H Q => rI IntMulOk (fun i j => .int (i * j)) x y H Q ∨ rRep x y H Q
theorem op_mulA : OpR X (binaryOp .Mult) rMulA := op_mulG.or op_rep
end
theorem sizeL {n : Nat} (h : n ≤ 16777216) : n ≤ sizeLine := by rw [sizeLine_eq]; exact h
section
variable {T : Tb} {W : WX}
theorem pr_add : FunOk T (r2 (rAddA T.K)) dAdd := fun G H vs ss s Q hs r h k => by
  unfold dAdd at h
  split at h
  · rename_i i j heq
    cases h
    obtain ⟨v, w, s1, s2, rfl, r1, r2, e1, e2⟩ := repOs2 r heq
    obtain rfl := r1.int e1
    obtain rfl := r2.int e2
    exact ⟨_, _, rfl, .inl (.inl (.inl ⟨i, j, rfl, rfl, done_fr (W := True) hs k (.int _)⟩))⟩
  · rename_i x y heq
    split at h
    · rename_i hz
      cases h
      obtain ⟨v, w, s1, s2, rfl, r1, r2, e1, e2⟩ := repOs2 r heq
      obtain rfl := r1.str e1
      obtain rfl := r2.str e2
      exact ⟨_, _, rfl, .inl (.inl (.inr ⟨x, y, rfl, rfl, sizeL hz, done_fr (W := True) hs k (.str _)⟩))⟩
    · cases h
  · rename_i xs ys heq
    split at h
    · rename_i hz
      cases h
      obtain ⟨v, w, s1, s2, rfl, r1, r2, e1, e2⟩ := repOs2 r heq
      obtain ⟨a, as, rfl, q1, k1⟩ := r1.lst hs e1
      obtain ⟨b, bs, rfl, q2, k2⟩ := r2.lst hs e2
      exact ⟨_, _, rfl, .inl (.inr ⟨a, b, as, bs, rfl, rfl, q1, q2, sizeL (by rw [k1.length, k2.length]; exact hz), fun p hp => done_ol hs k (k1.append k2) hp⟩)⟩
    · cases h
  · rename_i xs ys heq
    split at h
    · rename_i hz
      cases h
      obtain ⟨v, w, s1, s2, rfl, r1, r2, e1, e2⟩ := repOs2 r heq
      obtain ⟨a, as, rfl, q1, t1, k1⟩ := r1.tup hs e1
      obtain ⟨b, bs, rfl, q2, t2, k2⟩ := r2.tup hs e2
      refine ⟨_, _, rfl, .inr ⟨a, b, as, bs, rfl, rfl, q1, q2, sizeL (by rw [k1.length, k2.length]; exact hz), fun e0 => ?_, fun _ e0 => ?_, fun _ _ p hp => done_tup hs k (k1.append k2) hp⟩⟩
      · subst e0
        cases k1
        exact done_fr (W := True) hs k (.tup t2 k2)
      · subst e0
        cases k2
        rw [List.append_nil] at k
        exact done_fr (W := True) hs k (.tup t1 k1)
    · cases h
  · cases h
theorem pr_int {C : Int → Int → Prop} {g : Int → Int → Int} {f : List D → Option S} (h : ∀ l s, f l = some s → ∃ i j, l = [.int i, .int j] ∧ C i j ∧ s = .fr (.int (g i j))) : FunOk T (r2 (rI C fun i j => .int (g i j))) f := fun G H vs ss s Q hs r hf k => by
  obtain ⟨i, j, e, c, rfl⟩ := h _ _ hf
  obtain ⟨v, w, s1, s2, rfl, r1, r2, e1, e2⟩ := repOs2 r e
  obtain rfl := r1.int e1
  obtain rfl := r2.int e2
  exact ⟨_, _, rfl, i, j, rfl, rfl, c, done_fr (W := True) hs k (.int _)⟩
theorem pr_sub : FunOk T (r2 (rI0 fun i j => .int (i - j))) dSub := fun G H vs ss s Q hs r h k => by
  unfold dSub at h
  split at h
  · rename_i i j heq
    cases h
    obtain ⟨v, w, s1, s2, rfl, r1, r2, e1, e2⟩ := repOs2 r heq
    obtain rfl := r1.int e1
    obtain rfl := r2.int e2
    exact ⟨_, _, rfl, i, j, rfl, rfl, done_fr (W := True) hs k (.int _)⟩
  · cases h
theorem pr_div : FunOk T (r2 (rI CDivG fun i j => .int (i.fdiv j))) dDiv := pr_int fun l s h => by
  unfold dDiv at h
  split at h
  · rename_i i j
    split at h
    · cases h
    · rename_i hj
      split at h
      · cases h
      · rename_i hp
        cases h
        refine ⟨i, j, rfl, ⟨hj, by simpa using hp⟩, ?_⟩
        by_cases h0 : 0 < j
        · rw [if_pos h0, Int.fdiv_eq_ediv_of_nonneg i (by omega)]
        · rw [if_neg h0]
  · cases h
theorem pr_mod : FunOk T (r2 (rI (fun _ j => j ≠ 0) fun i j => .int (i.fmod j))) dMod := pr_int fun l s h => by
  unfold dMod at h
  split at h
  · rename_i i j
    split at h
    · cases h
    · rename_i hj
      cases h
      refine ⟨i, j, rfl, hj, ?_⟩
      by_cases h0 : 0 < j
      · rw [if_pos h0, Int.fmod_eq_emod_of_nonneg i (by omega)]
      · rw [if_neg h0]
  · cases h
theorem pr_pow : FunOk T (r2 (rI CPow fun i j => .int (i ^ j.toNat))) dPow := pr_int fun l s h => by
  unfold dPow at h
  split at h
  · rename_i i j
    split at h
    · rename_i hj
      cases h
      exact ⟨i, j, rfl, hj, rfl⟩
    · cases h
  · cases h
/-- things by what they hold -/
def pSS (f : List S → Option S) : List R → En → Ou R := fun rs e =>
  match pks e rs with
  | some ss => match f ss with
    | some s => .ok (.vl s) e
    | none => .no
  | none => .no
theorem prim_SS {f : List S → Option S} {rd : List V → Hp → VK → Prop}
    (h : ∀ (G H : Hp) (vs : List V) (ss : List S) (s : S) (Q : VK), Sub G H → RepOs T G H vs ss → f ss = some s →
      (∀ (v : V) (G' H' : Hp), Grow G H G' H' → RepO T G' H' v s → (∀ b ∈ fp v s, H b = Option.none) → Q v H') → rd vs H Q) : PrimOk T W (fun _ => rd) (pSS f) := by
  intro G H σ e τ τ1 u u1 rs vs Q md hl hr q
  unfold pSS at q
  cases h1 : pks e rs with
  | none => rw [h1] at q; exact q.elim
  | some ss =>
    rw [h1] at q
    simp only at q
    cases h2 : f ss with
    | none => rw [h2] at q; exact q.elim
    | some s =>
      rw [h2] at q
      refine h G H vs ss s Q md.sl.sub (hr.peek md hl h1) h2 fun v G' H' g r hn => ?_
      have md1 : Md T G' H' σ e τ u := (md.dropT hl).grow g
      have own1 : ∀ b ∈ fp v s, b ∉ As σ e τ u := fun b hb hc => by
        obtain ⟨_, o, ho⟩ := (md.dropT hl).sl.own b hc
        rw [hn b hb] at ho; cases ho
      refine q G' H' v [v] [s] ?_ (md1.push r own1) (.vl .nil)
      refine ⟨g.mono, fun b o z _ => g.keep b o z, fun b hb => ?_, fun b o z => (g.frz b o z).imp id .inr⟩
      rcases (As_push md.l1 hl b).mp hb with z | z
      · exact .inl (As_drop md.l1 hl b z)
      · exact .inr (hn b z)
def dMulS : List S → Option S
  | [.fr (.int i), .fr (.int j)] => if mulB i j then none else some (.fr (.int (i * j)))
  | [.ol xs, .fr (.int k)] => if -(2 ^ 62) ≤ k ∧ k < 2 ^ 62 ∧ xs.length * k.toNat ≤ 16777216 then some (.ol (List.replicate k.toNat xs).flatten) else none
  | _ => none
theorem RepFs.rep {G : Hp} {vs : List V} {ds : List D} (r : RepFs T G vs ds) : ∀ n : Nat, RepFs T G (List.replicate n vs).flatten (List.replicate n ds).flatten
  | 0 => .nil
  | n + 1 => by
    rw [List.replicate_succ, List.replicate_succ, List.flatten_cons, List.flatten_cons]
    exact r.append (RepFs.rep r n)
theorem pr_mul : PrimOk T W (fun _ => r2 rMulA) (pSS dMulS) := prim_SS fun G H vs ss s Q hs r h k => by
  unfold dMulS at h
  split at h
  · rename_i i j
    split at h
    · cases h
    · rename_i hm
      cases h
      obtain ⟨v, w, s1, s2, rfl, r1, r2, e1, e2⟩ := repOs2 r rfl
      obtain rfl := r1.int e1
      obtain rfl := r2.int e2
      exact ⟨_, _, rfl, .inl ⟨i, j, rfl, rfl, hm, done_fr (W := True) hs k (.int _)⟩⟩
  · rename_i xs j
    split at h
    · rename_i hz
      cases h
      cases r with
      | cons r1 r => cases r with
        | cons r2 r => cases r with
          | nil =>
            obtain rfl := r2.int rfl
            cases r1 with
            | ol h1 h2 q =>
              refine ⟨_, _, rfl, .inr ⟨_, j, _, rfl, rfl, h1, by omega, by omega, sizeL (by rw [q.length]; exact hz.2.2), fun p hp => done_ol hs k (q.rep _) hp⟩⟩
    · cases h
  · cases h
theorem pr_neg : FunOk T (r1 (rU fun i => .int (-i))) dNeg := fun G H vs ss s Q hs r h k => by
  unfold dNeg at h
  split at h
  · rename_i i heq
    cases h
    obtain ⟨v, s1, rfl, r1, e1⟩ := repOs1 r heq
    obtain rfl := r1.int e1
    exact ⟨_, rfl, i, rfl, done_fr (W := True) hs k (.int _)⟩
  · cases h
end
section
variable {X : Cx} {T : Tb} {W : WX} {a b : Expr} {ma mb : En → Ou R} {pos : Pos}
def b2 (p : List R → En → Ou R) (ma mb : En → Ou R) : En → Ou R := bP p (aCons ma (aCons mb aNil))
def b1 (p : List R → En → Ou R) (ma : En → Ou R) : En → Ou R := bP p (aCons ma aNil)
theorem pe_b2 {op : Operator} {r : R2} {p : List R → En → Ou R} (hp : PrimOk T W (fun _ => r2 r) p) (ho : OpR X (binaryOp op) r) (ha : PE X a (tE T W ma)) (hb : PE X b (tE T W mb)) : PE X (.BinOp a op b pos) (tE T W (b2 p ma mb)) :=
  PE.imp (pe_op ho ha hb) fun σ H Q h => tE.mono (fun _ _ k => tE.mono (fun _ _ k => by
    obtain ⟨x, y, e, q⟩ := k
    cases e
    exact q) k) (tE_prim2 hp h)
/-- the operators -/
def bBin : Operator → (En → Ou R) → (En → Ou R) → En → Ou R
  | .Add, a, b => b2 (pS dAdd) a b
  | .Sub, a, b => b2 (pS dSub) a b
  | .Mult, a, b => b2 (pSS dMulS) a b
  | .FloorDiv, a, b => b2 (pS dDiv) a b
  | .Mod, a, b => b2 (pS dMod) a b
  | .Pow, a, b => b2 (pS dPow) a b
  | _, _, _ => fun _ => .no
theorem pe_no {e : Expr} : PE X e (tE T W fun _ => .no) := ⟨fun _ _ _ _ _ _ h => by obtain ⟨_, _, _, _, _, h⟩ := h; exact h.elim⟩
theorem pe_bin {op : Operator} (hK : T.K = X.K) (ha : PE X a (tE T W ma)) (hb : PE X b (tE T W mb)) : PE X (.BinOp a op b pos) (tE T W (bBin op ma mb)) := by
  cases op with
  | Add => exact pe_b2 (r := rAddA X.K) (by rw [← hK]; exact prim_S pr_add) op_addA ha hb
  | Sub => exact pe_b2 (prim_S pr_sub) op_sub ha hb
  | Mult => exact pe_b2 pr_mul op_mulA ha hb
  | FloorDiv => exact pe_b2 (prim_S pr_div) op_fdivG ha hb
  | Mod => exact pe_b2 (prim_S pr_mod) op_modN ha hb
  | Pow => exact pe_b2 (prim_S pr_pow) op_pow ha hb
  | _ => exact pe_no
theorem pe_neg (ha : PE X a (tE T W ma)) : PE X (.UnaryOp .USub a pos) (tE T W (b1 (pS dNeg) ma)) :=
  PE.imp (pe_un un_neg ha) fun σ H Q h => tE.mono (fun _ _ k => by
    obtain ⟨x, e, q⟩ := k
    cases e
    exact q) (tE_prim1 (prim_S pr_neg) h)
end

/-! ### comparisons -/
def dEqv (a b : D) : Option Bool := if SeqAt.shaped a.pd && SeqAt.shaped b.pd then some (PyData.eqv a.pd b.pd) else none
def dEq : List D → Option S
  | [a, b] => (dEqv a b).map fun k => .fr (.bl k)
  | _ => none
def dNe : List D → Option S
  | [a, b] => (dEqv a b).map fun k => .fr (.bl (!k))
  | _ => none
def dLt : List D → Option S
  | [.int i, .int j] => some (.fr (.bl (decide (i < j))))
  | _ => none
def dLe : List D → Option S
  | [.int i, .int j] => some (.fr (.bl (decide (i ≤ j))))
  | _ => none
def dGt : List D → Option S
  | [.int i, .int j] => some (.fr (.bl (decide (j < i))))
  | _ => none
def dGe : List D → Option S
  | [.int i, .int j] => some (.fr (.bl (decide (j ≤ i))))
  | _ => none
def D.isNon : D → Bool
  | .non => true
  | _ => false
def dIs (neg : Bool) : List D → Option S
  | [a, b] => match b with
    | .non => some (.fr (.bl (if neg then !a.isNon else a.isNon)))
    | .bl k => match a with
      | .bl j => some (.fr (.bl (if neg then !decide (j = k) else decide (j = k))))
      | _ => none
    | _ => none
  | _ => none
def dIn (neg : Bool) : List D → Option S
  | [a, b] => match b with
    | .str y => match a with
      | .str x => some (.fr (.bl (if neg then !(!(Builtin.Str.occurrences y x 0 y.length 1).isEmpty) else !(Builtin.Str.occurrences y x 0 y.length 1).isEmpty)))
      | _ => none
    | .lst ds => if SeqAt.shaped a.pd && SeqAt.shaped (D.lst ds).pd then some (.fr (.bl (if neg then !(D.pds ds).any fun z => PyData.eqv z a.pd else (D.pds ds).any fun z => PyData.eqv z a.pd))) else none
    | .tup ds => if SeqAt.shaped a.pd && SeqAt.shaped (D.tup ds).pd then some (.fr (.bl (if neg then !(D.pds ds).any fun z => PyData.eqv z a.pd else (D.pds ds).any fun z => PyData.eqv z a.pd))) else none
    | _ => none
  | _ => none
section
variable {X : Cx}
def rInDT (K : PySem.W.Frag) (neg : Bool) : R2 := fun x y H Q => ∃ d ds, Dp K H x d ∧ Dp K H y (.tuple ds) ∧ SeqAt.shaped d = true ∧ SeqAt.shaped (.tuple ds) = true ∧ Q (.bl (if neg then !ds.any fun z => PyData.eqv z d else ds.any fun z => PyData.eqv z d)) H
theorem op_inDT (hu : X.A.units + 65 < cLine) : OpR X (compareOp .In) (rInDT X.K false) := by
  intro pins s σ H x y v u Q I rx ry h
  obtain ⟨d, ds, hd, he, sd, se, q⟩ := h
  obtain ⟨as, r1⟩ := Dp.reads I d x v hd rx
  obtain ⟨bs, r2⟩ := Dp.reads I (.tuple ds) y u he ry
  exact SeqAt.in_tuple_reads r2 r1 (by simpa [PyData.canLay0] using SeqAt.canLay_of_shaped se) (SeqAt.canLay_of_shaped sd) (room_in_shaped sd hu) ⟨.bl _, H, I, rfl, q⟩
theorem op_notInDT (hu : X.A.units + 65 < cLine) : OpR X (compareOp .NotIn) (rInDT X.K true) := by
  intro pins s σ H x y v u Q I rx ry h
  obtain ⟨d, ds, hd, he, sd, se, q⟩ := h
  obtain ⟨as, r1⟩ := Dp.reads I d x v hd rx
  obtain ⟨bs, r2⟩ := Dp.reads I (.tuple ds) y u he ry
  exact SeqAt.notIn_tuple_reads r2 r1 (by simpa [PyData.canLay0] using SeqAt.canLay_of_shaped se) (SeqAt.canLay_of_shaped sd) (room_in_shaped sd hu) ⟨.bl _, H, I, rfl, q⟩
end
section
variable {X : Cx}
def rIsA : R2 := fun x y H Q => (y = .non ∧ Q (.bl (decide (x = .non))) H) ∨ rIsB x y H Q
def rIsnA : R2 := fun x y H Q => (y = .non ∧ Q (.bl (!decide (x = .non))) H) ∨ rNotB x y H Q
theorem op_isA : OpR X (compareOp .Is) rIsA := op_isN.or op_isBl
theorem op_isnA : OpR X (compareOp .IsNot) rIsnA := op_notN.or op_notBl
def rInS (neg : Bool) : R2 := fun x y H Q => ∃ i j, x = .str i ∧ y = .str j ∧ Q (.bl (if neg then !(!(Builtin.Str.occurrences j i 0 j.length 1).isEmpty) else !(Builtin.Str.occurrences j i 0 j.length 1).isEmpty)) H
def rInA (K : PySem.W.Frag) : R2 := fun x y H Q => (rInS false x y H Q ∨ rInD K x y H Q) ∨ rInDT K false x y H Q
def rNinA (K : PySem.W.Frag) : R2 := fun x y H Q => (rInS true x y H Q ∨ rNotInD K x y H Q) ∨ rInDT K true x y H Q
theorem op_inA (hu : X.A.units + 65 < cLine) : OpR X (compareOp .In) (rInA X.K) := ((OpR.or (r := rInS false) op_in_str (op_inD hu))).or (op_inDT hu)
theorem op_ninA (hu : X.A.units + 65 < cLine) : OpR X (compareOp .NotIn) (rNinA X.K) := ((OpR.or (r := rInS true) op_notin_str (op_notInD hu))).or (op_notInDT hu)
end
section
variable {T : Tb} {W : WX}
theorem pr_eq : FunOk T (r2 (rEqD T.K)) dEq := fun G H vs ss s Q hs r h k => by
  unfold dEq at h
  split at h
  · rename_i a b heq
    unfold dEqv at h
    split at h
    · rename_i hz
      cases h
      rw [Bool.and_eq_true] at hz
      obtain ⟨v, w, s1, s2, rfl, r1, r2, rfl, rfl⟩ := repOs2 r heq
      exact ⟨_, _, rfl, _, _, r1.dp hs hz.1, r2.dp hs hz.2, hz.1, hz.2, done_fr (W := True) hs k (.bl _)⟩
    · cases h
  · cases h
theorem pr_ne : FunOk T (r2 (rNeD T.K)) dNe := fun G H vs ss s Q hs r h k => by
  unfold dNe at h
  split at h
  · rename_i a b heq
    unfold dEqv at h
    split at h
    · rename_i hz
      cases h
      rw [Bool.and_eq_true] at hz
      obtain ⟨v, w, s1, s2, rfl, r1, r2, rfl, rfl⟩ := repOs2 r heq
      exact ⟨_, _, rfl, _, _, r1.dp hs hz.1, r2.dp hs hz.2, hz.1, hz.2, done_fr (W := True) hs k (.bl _)⟩
    · cases h
  · cases h
theorem pr_cmp {g : Int → Int → Bool} {f : List D → Option S} (h : ∀ l s, f l = some s → ∃ i j, l = [.int i, .int j] ∧ s = .fr (.bl (g i j))) : FunOk T (r2 (rI0 fun i j => .bl (g i j))) f := fun G H vs ss s Q hs r hf k => by
  obtain ⟨i, j, e, rfl⟩ := h _ _ hf
  obtain ⟨v, w, s1, s2, rfl, r1, r2, e1, e2⟩ := repOs2 r e
  obtain rfl := r1.int e1
  obtain rfl := r2.int e2
  exact ⟨_, _, rfl, i, j, rfl, rfl, done_fr (W := True) hs k (.bl _)⟩
theorem pr_lt : FunOk T (r2 (rI0 fun i j => .bl (decide (i < j)))) dLt := pr_cmp fun l s h => by
  unfold dLt at h; split at h
  · cases h; exact ⟨_, _, rfl, rfl⟩
  · cases h
theorem pr_le : FunOk T (r2 (rI0 fun i j => .bl (decide (i ≤ j)))) dLe := pr_cmp fun l s h => by
  unfold dLe at h; split at h
  · cases h; exact ⟨_, _, rfl, rfl⟩
  · cases h
theorem pr_gt : FunOk T (r2 (rI0 fun i j => .bl (decide (j < i)))) dGt := pr_cmp fun l s h => by
  unfold dGt at h; split at h
  · cases h; exact ⟨_, _, rfl, rfl⟩
  · cases h
theorem pr_ge : FunOk T (r2 (rI0 fun i j => .bl (decide (j ≤ i)))) dGe := pr_cmp fun l s h => by
  unfold dGe at h; split at h
  · cases h; exact ⟨_, _, rfl, rfl⟩
  · cases h
theorem RepO.isNon {G H : Hp} {v : V} {s : S} (r : RepO T G H v s) : s.d.isNon = decide (v = .non) := by
  cases r with
  | fr q => cases q <;> rfl
  | ol _ _ _ => rfl
  | od _ _ _ _ => rfl
  | oi _ _ _ _ => rfl
theorem pr_is : FunOk T (r2 rIsA) (dIs false) := fun G H vs ss s Q hs r h k => by
  unfold dIs at h
  split at h
  · rename_i a b heq
    obtain ⟨v, w, s1, s2, rfl, r1, r2, e1, e2⟩ := repOs2 r heq
    split at h
    · cases h
      obtain rfl := r2.non e2
      subst e1
      refine ⟨_, _, rfl, .inl ⟨rfl, ?_⟩⟩
      rw [← r1.isNon]
      exact done_fr (W := True) hs k (.bl _)
    · split at h
      · cases h
        obtain rfl := r2.bl e2
        obtain rfl := r1.bl e1
        exact ⟨_, _, rfl, .inr ⟨_, _, rfl, rfl, done_fr (W := True) hs k (.bl _)⟩⟩
      · cases h
    · cases h
  · cases h
theorem pr_isn : FunOk T (r2 rIsnA) (dIs true) := fun G H vs ss s Q hs r h k => by
  unfold dIs at h
  split at h
  · rename_i a b heq
    obtain ⟨v, w, s1, s2, rfl, r1, r2, e1, e2⟩ := repOs2 r heq
    split at h
    · cases h
      obtain rfl := r2.non e2
      subst e1
      refine ⟨_, _, rfl, .inl ⟨rfl, ?_⟩⟩
      rw [← r1.isNon]
      exact done_fr (W := True) hs k (.bl _)
    · split at h
      · cases h
        obtain rfl := r2.bl e2
        obtain rfl := r1.bl e1
        exact ⟨_, _, rfl, .inr ⟨_, _, rfl, rfl, done_fr (W := True) hs k (.bl _)⟩⟩
      · cases h
    · cases h
  · cases h
theorem pr_in : FunOk T (r2 (rInA T.K)) (dIn false) := fun G H vs ss s Q hs r h k => by
  unfold dIn at h
  split at h
  · rename_i a b heq
    obtain ⟨v, w, s1, s2, rfl, r1, r2, e1, e2⟩ := repOs2 r heq
    split at h
    · split at h
      · cases h
        obtain rfl := r2.str e2
        obtain rfl := r1.str e1
        exact ⟨_, _, rfl, .inl (.inl ⟨_, _, rfl, rfl, done_fr (W := True) hs k (.bl _)⟩)⟩
      · cases h
    · split at h
      · rename_i hz
        cases h
        rw [Bool.and_eq_true] at hz
        subst e1
        have d2 := r2.dp hs (by rw [e2]; exact hz.2)
        rw [e2] at d2
        exact ⟨_, _, rfl, .inl (.inr ⟨_, _, r1.dp hs hz.1, d2, hz.1, hz.2, done_fr (W := True) hs k (.bl _)⟩)⟩
      · cases h
    · split at h
      · rename_i hz
        cases h
        rw [Bool.and_eq_true] at hz
        subst e1
        have d2 := r2.dp hs (by rw [e2]; exact hz.2)
        rw [e2] at d2
        exact ⟨_, _, rfl, .inr ⟨_, _, r1.dp hs hz.1, d2, hz.1, hz.2, done_fr (W := True) hs k (.bl _)⟩⟩
      · cases h
    · cases h
  · cases h
theorem pr_nin : FunOk T (r2 (rNinA T.K)) (dIn true) := fun G H vs ss s Q hs r h k => by
  unfold dIn at h
  split at h
  · rename_i a b heq
    obtain ⟨v, w, s1, s2, rfl, r1, r2, e1, e2⟩ := repOs2 r heq
    split at h
    · split at h
      · cases h
        obtain rfl := r2.str e2
        obtain rfl := r1.str e1
        exact ⟨_, _, rfl, .inl (.inl ⟨_, _, rfl, rfl, done_fr (W := True) hs k (.bl _)⟩)⟩
      · cases h
    · split at h
      · rename_i hz
        cases h
        rw [Bool.and_eq_true] at hz
        subst e1
        have d2 := r2.dp hs (by rw [e2]; exact hz.2)
        rw [e2] at d2
        exact ⟨_, _, rfl, .inl (.inr ⟨_, _, r1.dp hs hz.1, d2, hz.1, hz.2, done_fr (W := True) hs k (.bl _)⟩)⟩
      · cases h
    · split at h
      · rename_i hz
        cases h
        rw [Bool.and_eq_true] at hz
        subst e1
        have d2 := r2.dp hs (by rw [e2]; exact hz.2)
        rw [e2] at d2
        exact ⟨_, _, rfl, .inr ⟨_, _, r1.dp hs hz.1, d2, hz.1, hz.2, done_fr (W := True) hs k (.bl _)⟩⟩
      · cases h
    · cases h
  · cases h
end
/-- one comparison -/
def dCmp : CmpOp → Option (List D → Option S)
  | .Eq => some dEq
  | .NotEq => some dNe
  | .Lt => some dLt
  | .LtE => some dLe
  | .Gt => some dGt
  | .GtE => some dGe
  | .Is => some (dIs false)
  | .IsNot => some (dIs true)
  | .In => some (dIn false)
  | .NotIn => some (dIn true)
def bCmp (op : CmpOp) (a b : En → Ou R) : En → Ou R := match dCmp op with
  | some f => b2 (pS f) a b
  | none => fun _ => .no
section
variable {X : Cx} {T : Tb} {W : WX} {a b c : Expr} {ma mb mc : En → Ou R} {pos : Pos}
theorem cmp_ok (op : CmpOp) (hK : T.K = X.K) (hu : X.A.units + 65 < cLine) : ∃ r f, dCmp op = some f ∧ OpR X (compareOp op) r ∧ FunOk T (r2 r) f := by
  cases op with
  | Eq => exact ⟨_, _, rfl, op_eqD (by omega), by have := pr_eq (T := T); rwa [hK] at this⟩
  | NotEq => exact ⟨_, _, rfl, op_neD (by omega), by have := pr_ne (T := T); rwa [hK] at this⟩
  | Lt => exact ⟨_, _, rfl, op_lt, pr_lt⟩
  | LtE => exact ⟨_, _, rfl, op_le, pr_le⟩
  | Gt => exact ⟨_, _, rfl, op_gt, pr_gt⟩
  | GtE => exact ⟨_, _, rfl, op_ge, pr_ge⟩
  | Is => exact ⟨_, _, rfl, op_isA, pr_is⟩
  | IsNot => exact ⟨_, _, rfl, op_isnA, pr_isn⟩
  | In => exact ⟨_, _, rfl, op_inA hu, by have := pr_in (T := T); rwa [hK] at this⟩
  | NotIn => exact ⟨_, _, rfl, op_ninA hu, by have := pr_nin (T := T); rwa [hK] at this⟩
theorem pe_cmpF {op : CmpOp} (hK : T.K = X.K) (hu : X.A.units + 65 < cLine) (hm : behindInMarks op b = false) (ha : PE X a (tE T W ma)) (hb : PE X b (tE T W mb)) : PE X (.Compare a [op] [b] pos) (tE T W (bCmp op ma mb)) := by
  obtain ⟨r, f, h1, h2, h3⟩ := cmp_ok (T := T) op hK hu
  unfold bCmp
  rw [h1]
  exact PE.imp (pe_cmpR h2 ha hb hm) fun σ H Q h => tE.mono (fun _ _ k => tE.mono (fun _ _ k => by
    obtain ⟨x, y, e, q⟩ := k
    cases e
    exact q) k) (tE_prim2 (prim_S h3) h)
end
end Fv

namespace Fv
open PySem PySem.Spec PyProof.Rows L2

/-! ### names, constants -/
def bVar (i : Nat) : En → Ou R := fun e =>
  match e[i]? with
  | some (some (.fr d)) => .ok (.vl (.fr d)) e
  | some (some _) => .ok (.pl i) e
  | _ => .no
def bCon (d : D) : En → Ou R := fun e => .ok (.vl (.fr d)) e
section
variable {X : Cx} {T : Tb} {W : WX}
theorem post_vl {G H : Hp} {σ : SV} {e : En} {τ : List V} {u : List S} {s : S} {Q : VK} {v : V} (md : Md T G H σ e τ u) (p : Post T W G H σ (As σ e τ u) τ u (.ok (.vl s) e) Q) (r : RepO T G H v s) (hn : fp v s = []) : Q v H := by
  refine p G H v [v] [s] (Evo.refl.less fun b hb => ?_) (md.push r (by rw [hn]; simp)) (.vl .nil)
  rcases (As_push md.l1 md.l2 b).mp hb with z | z
  · exact z
  · rw [hn] at z; simp at z
theorem pe_varF {i : Nat} {x : Str} {pos : Pos} (hN : X.N[i]? = some x) (hv : Vis X.env.scope x) (hd : (x == ("__debug__" : Str)) = false) (hcd : (x == ("__classdict__" : Str)) = false) : PE X (.Name x pos) (tE T W (bVar i)) := by
  refine PE.imp (pe_var hN hv hd hcd) fun σ H Q h => ?_
  obtain ⟨G, e, τ, u, md, p⟩ := h
  unfold bVar at p
  cases he : e[i]? with
  | none => rw [he] at p; exact p.elim
  | some y => cases y with
    | none => rw [he] at p; exact p.elim
    | some s =>
      rw [he] at p
      obtain ⟨v, hv, r⟩ := md.var he
      have pl : Post T W G H σ (As σ e τ u) τ u (.ok (.pl i) e) Q → Q v H := fun p => p G H v [] [] (by simpa using Evo.refl) (by simpa using md) (.pl hv .nil)
      refine ⟨v, hv, ?_⟩
      cases s with
      | fr d => exact post_vl md p r (fp_fr _ _)
      | ol _ => exact pl p
      | od _ _ => exact pl p
      | oi _ _ _ => exact pl p
theorem pe_conF {x : Expr} {v : V} {d : D} (h : PE X x (tC v)) (r : ∀ G, RepF T G v d) : PE X x (tE T W (bCon d)) := by
  refine PE.imp h fun σ H Q k => ?_
  obtain ⟨G, e, τ, u, md, p⟩ := k
  exact post_vl md p (.fr (r G)) (fp_fr _ _)

/-! ### tests -/
def truthD : D → Option Bool
  | .non => some false
  | .bl b => some b
  | .int i => some (i != 0)
  | .str x => if x.length ≤ 16777216 then some ((x.length : Int) != 0) else none
  | .tup xs => some !xs.isEmpty
  | .lst xs => some !xs.isEmpty
  | .dic ks _ => some !ks.isEmpty
  | _ => none
def bTr (m : En → Ou R) : En → Ou Bool := fun e =>
  match m e with
  | .ok r e1 => match pk e1 r with
    | some s => match truthD s.d with
      | some b => .ok b e1
      | none => .no
    | none => .no
  | .ex x e1 => .ex x e1
  | .no => .no
/-- a comparison as a test -/
def bTb (m : En → Ou R) : En → Ou Bool := fun e =>
  match m e with
  | .ok (.vl (.fr (.bl b))) e1 => .ok b e1
  | .ok _ _ => .no
  | .ex x e1 => .ex x e1
  | .no => .no
theorem RepO.truth {G H : Hp} {v : V} {s : S} {k : Bool} (r : RepO T G H v s) (hs : Sub G H) (h : truthD s.d = some k) : TruV T.K v H k := by
  cases hd : s.d with
  | non => rw [hd] at h; cases h; obtain rfl := r.non hd; rfl
  | bl b => rw [hd] at h; cases h; obtain rfl := r.bl hd; rfl
  | int i => rw [hd] at h; cases h; obtain rfl := r.int hd; rfl
  | str x =>
    have h' : (if x.length ≤ 16777216 then some ((x.length : Int) != 0) else none) = some k := by rw [hd] at h; exact h
    split at h'
    · rename_i hz
      cases h'
      obtain rfl := r.str hd
      exact ⟨sizeL hz, rfl⟩
    · cases h'
  | tup xs =>
    rw [hd] at h; cases h
    obtain ⟨a, ys, rfl, q, _, k⟩ := r.tup hs hd
    exact .inr (.inl ⟨ys, q, by cases k <;> rfl⟩)
  | lst xs =>
    rw [hd] at h; cases h
    obtain ⟨a, ys, rfl, q, k⟩ := r.lst hs hd
    exact .inl ⟨ys, q, by cases k <;> rfl⟩
  | dic ks xs =>
    rw [hd] at h; cases h
    obtain ⟨a, ys, rfl, q, l, k⟩ := r.dic hs hd
    refine .inr (.inr ⟨_, q, ?_⟩)
    cases ks with
    | nil => rfl
    | cons _ _ => cases ys with
      | nil => simp at l
      | cons _ _ => rfl
  | ins _ _ _ => rw [hd] at h; cases h
  | fn _ => rw [hd] at h; cases h
  | ty _ => rw [hd] at h; cases h
theorem pk_ok {G H : Hp} {σ : SV} {e : En} {τ τ1 : List V} {u u1 : List S} {r : R} {v : V} {s : S} (md : Md T G H σ e (τ ++ τ1) (u ++ u1)) (hl : τ.length = u.length) (hr : HR σ [r] [v] τ1 u1) (h : pk e r = some s) : RepO T G H v s := by
  have z : pks e [r] = some [s] := by simp [pks, h]
  cases hr.peek md hl z with
  | cons a _ => exact a
/-- what lies on the way is let go -/
theorem PostB.drop {α : Type} {G H : Hp} {σ : SV} {A : List Addr} {e : En} {τ τ1 : List V} {u u1 : List S} {b : α} {Q : α → Hp → Prop} (p : PostB T W G H σ A τ u (.ok b e) Q) (md : Md T G H σ e (τ ++ τ1) (u ++ u1)) (hl : τ.length = u.length) (E : As σ e (τ ++ τ1) (u ++ u1) = A) : Q b H := by
  subst E
  exact p G H (Evo.refl.less (As_drop md.l1 hl)) (md.dropT hl)
theorem tB_truth {m : En → Ou R} {σ : SV} {H : Hp} {Q : Bool → Hp → Prop} : tB T W (bTr m) σ H Q → tE T W m σ H fun x H' => ∃ k, TruV T.K x H' k ∧ Q k H' := by
  rintro ⟨G, e, τ, u, md, p⟩
  refine ⟨G, e, τ, u, md, ?_⟩
  unfold bTr at p
  cases hm : m e with
  | no => rw [hm] at p; exact p
  | ex x e1 => rw [hm] at p; exact p
  | ok r e1 =>
    rw [hm] at p
    intro G1 H1 v τ1 u1 ev1 md1 hr1
    have p := PostB.after p ev1
    simp only at p
    cases h1 : pk e1 r with
    | none => rw [h1] at p; exact p.elim
    | some s =>
      rw [h1] at p
      simp only at p
      cases h2 : truthD s.d with
      | none => rw [h2] at p; exact p.elim
      | some b =>
        rw [h2] at p
        exact ⟨b, (pk_ok md1 md.l2 hr1 h1).truth md1.sl.sub h2, p.drop md1 md.l2 rfl⟩
theorem tB_bool {m : En → Ou R} {σ : SV} {H : Hp} {Q : Bool → Hp → Prop} : tB T W (bTb m) σ H Q → tE T W m σ H fun x H' => ∃ k, x = .bl k ∧ Q k H' := by
  rintro ⟨G, e, τ, u, md, p⟩
  refine ⟨G, e, τ, u, md, ?_⟩
  unfold bTb at p
  cases hm : m e with
  | no => rw [hm] at p; exact p
  | ex x e1 => rw [hm] at p; exact p
  | ok r e1 =>
    rw [hm] at p
    intro G1 H1 v τ1 u1 ev1 md1 hr1
    have p := PostB.after p ev1
    cases r with
    | pl i => exact p.elim
    | vl s => cases s with
      | fr d => cases d with
        | bl b => exact ⟨b, (pk_ok md1 md.l2 hr1 rfl).bl rfl, p.drop md1 md.l2 rfl⟩
        | _ => exact p.elim
      | _ => exact p.elim
/-- tests joined -/
def bAnd (a b : En → Ou Bool) : En → Ou Bool := fun e =>
  match a e with
  | .ok true e1 => b e1
  | .ok false e1 => .ok false e1
  | .ex x e1 => .ex x e1
  | .no => .no
def bOr (a b : En → Ou Bool) : En → Ou Bool := fun e =>
  match a e with
  | .ok true e1 => .ok true e1
  | .ok false e1 => b e1
  | .ex x e1 => .ex x e1
  | .no => .no
def bNot (a : En → Ou Bool) : En → Ou Bool := fun e =>
  match a e with
  | .ok k e1 => .ok (!k) e1
  | .ex x e1 => .ex x e1
  | .no => .no
theorem tB.mono {α : Type} {m : En → Ou α} {σ : SV} {H : Hp} {Q Q' : α → Hp → Prop} (hq : ∀ v H, Q v H → Q' v H) : tB T W m σ H Q → tB T W m σ H Q' := by
  rintro ⟨G, e, τ, u, md, p⟩
  refine ⟨G, e, τ, u, md, ?_⟩
  revert p
  cases m e with
  | ok r e' => exact fun p G' H' ev md => hq _ _ (p G' H' ev md)
  | ex x e' => exact id
  | no => exact id
/-- a test, then what hangs on it -/
theorem tB_then {α β : Type} {a : En → Ou β} {σ : SV} {H : Hp} {f : β → En → Ou α} {P : β → Hp → Prop}
    (Po : Hp → Hp → List Addr → List V → List S → Ou α → Prop) (hx : ∀ {G H A τ u x e1}, Po G H A τ u (.ex x e1) → PostB T W G H σ A τ u (.ex x e1) P) (hn : ∀ {G H A τ u}, Po G H A τ u .no → False)
    (ha : ∀ {G H A G1 H1 A1 τ u o}, Po G H A τ u o → Evo G H A G1 H1 A1 → Po G1 H1 A1 τ u o)
    (ht : ∀ {G1 H1 e1 τ u k}, Md T G1 H1 σ e1 τ u → Po G1 H1 (As σ e1 τ u) τ u (f k e1) → P k H1) {G : Hp} {e : En} {τ : List V} {u : List S} (md : Md T G H σ e τ u)
    (p : Po G H (As σ e τ u) τ u ((a e).bnd f)) : tB T W a σ H P := by
  refine ⟨G, e, τ, u, md, ?_⟩
  cases hm : a e with
  | no => rw [hm] at p; exact (hn p).elim
  | ex x e1 => rw [hm] at p; exact hx p
  | ok k e1 =>
    rw [hm] at p
    exact fun G1 H1 ev1 md1 => ht md1 (ha p ev1)
theorem tB_and {a b : En → Ou Bool} {σ : SV} {H : Hp} {Q : Bool → Hp → Prop} : tB T W (bAnd a b) σ H Q → tB T W a σ H fun c H1 => if c = true then tB T W b σ H1 Q else Q false H1 := by
  rintro ⟨G, e, τ, u, md, p⟩
  refine tB_then (f := fun k e1 => if k = true then b e1 else .ok false e1) (fun G H A τ u o => PostB T W G H σ A τ u o Q) id id PostB.after (fun {G1 H1 e1 τ u k} md1 p => ?_) md ?_
  · cases k with
    | true => exact ⟨G1, e1, τ, u, md1, p⟩
    | false => exact p G1 H1 .refl md1
  · unfold bAnd at p
    revert p
    cases a e with
    | ok k e1 => cases k <;> exact id
    | ex x e1 => exact id
    | no => exact id
theorem tB_or {a b : En → Ou Bool} {σ : SV} {H : Hp} {Q : Bool → Hp → Prop} : tB T W (bOr a b) σ H Q → tB T W a σ H fun c H1 => if c = true then Q true H1 else tB T W b σ H1 Q := by
  rintro ⟨G, e, τ, u, md, p⟩
  refine tB_then (f := fun k e1 => if k = true then .ok true e1 else b e1) (fun G H A τ u o => PostB T W G H σ A τ u o Q) id id PostB.after (fun {G1 H1 e1 τ u k} md1 p => ?_) md ?_
  · cases k with
    | false => exact ⟨G1, e1, τ, u, md1, p⟩
    | true => exact p G1 H1 .refl md1
  · unfold bOr at p
    revert p
    cases a e with
    | ok k e1 => cases k <;> exact id
    | ex x e1 => exact id
    | no => exact id
theorem tB_not {a : En → Ou Bool} {σ : SV} {H : Hp} {Q : Bool → Hp → Prop} : tB T W (bNot a) σ H Q → tB T W a σ H fun c H1 => Q (!c) H1 := by
  rintro ⟨G, e, τ, u, md, p⟩
  refine tB_then (f := fun k e1 => .ok (!k) e1) (fun G H A τ u o => PostB T W G H σ A τ u o Q) id id PostB.after (fun {G1 H1 e1 τ u k} md1 p => p G1 H1 .refl md1) md ?_
  unfold bNot at p
  revert p
  cases a e <;> exact id
/-- a if t else b -/
def bIfE (t : En → Ou Bool) (a b : En → Ou R) : En → Ou R := fun e =>
  match t e with
  | .ok true e1 => a e1
  | .ok false e1 => b e1
  | .ex x e1 => .ex x e1
  | .no => .no
theorem tB_ifE {t : En → Ou Bool} {a b : En → Ou R} {σ : SV} {H : Hp} {Q : VK} : tE T W (bIfE t a b) σ H Q → tB T W t σ H fun c H1 => if c = true then tE T W a σ H1 Q else tE T W b σ H1 Q := by
  rintro ⟨G, e, τ, u, md, p⟩
  refine tB_then (f := fun k e1 => if k = true then a e1 else b e1) (fun G H A τ u o => Post T W G H σ A τ u o Q) id id Post.after (fun {G1 H1 e1 τ u k} md1 p => ?_) md ?_
  · cases k with
    | true => exact ⟨G1, e1, τ, u, md1, p⟩
    | false => exact ⟨G1, e1, τ, u, md1, p⟩
  · unfold bIfE at p
    revert p
    cases t e with
    | ok k e1 => cases k <;> exact id
    | ex x e1 => exact id
    | no => exact id
/-- and, or as values -/
def bAndV (a b : En → Ou R) : En → Ou R := fun e =>
  match bTb a e with
  | .ok true e1 => b e1
  | .ok false e1 => .ok (.vl (.fr (.bl false))) e1
  | .ex x e1 => .ex x e1
  | .no => .no
def bOrV (a b : En → Ou R) : En → Ou R := fun e =>
  match bTb a e with
  | .ok true e1 => .ok (.vl (.fr (.bl true))) e1
  | .ok false e1 => b e1
  | .ex x e1 => .ex x e1
  | .no => .no
def bNotV (a : En → Ou R) : En → Ou R := fun e =>
  match bTb a e with
  | .ok k e1 => .ok (.vl (.fr (.bl (!k)))) e1
  | .ex x e1 => .ex x e1
  | .no => .no
theorem tE_boolV {a : En → Ou R} {f : Bool → En → Ou R} {g : En → Ou R} (hg : ∀ e, g e = (bTb a e).bnd f) {σ : SV} {H : Hp} {Q : VK} :
    tE T W g σ H Q → tE T W a σ H fun x H1 => ∃ c, x = .bl c ∧ tE T W (f c) σ H1 Q := by
  rintro ⟨G, e, τ, u, md, p⟩
  rw [hg] at p
  refine tB_bool (tB_then (f := f) (fun G H A τ u o => Post T W G H σ A τ u o Q) id id Post.after (fun {G1 H1 e1 τ u k} md1 p => ⟨G1, e1, τ, u, md1, p⟩) md p)
theorem tE_con {d : D} {v : V} {σ : SV} {H : Hp} {Q : VK} (r : ∀ G, RepF T G v d) : tE T W (fun e => .ok (.vl (.fr d)) e) σ H Q → Q v H := by
  rintro ⟨G, e, τ, u, md, p⟩
  exact post_vl md p (.fr (r G)) (fp_fr _ _)
end
section
variable {X : Cx} {T : Tb} {W : WX} {a b c : Expr} {rest : List Expr} {ma mb mc : En → Ou R} {ta tb : En → Ou Bool} {pos : Pos}
theorem pt_truthF (hK : T.K = X.K) (ha : PE X a (tE T W ma)) (he : ∀ whole, isTrue a X.env whole = (do let v ← whole; standAt a.pos; holding [v] (truthy v))) : PT X a (tB T W (bTr ma)) :=
  PT.imp (pt_truth ha he) fun σ H Q h => by
    have z := tB_truth h
    rw [hK] at z
    exact z
theorem pt_cmpF {op : CmpOp} (hK : T.K = X.K) (hu : X.A.units + 65 < cLine) (hm : behindInMarks op b = false) (ha : PE X a (tE T W ma)) (hb : PE X b (tE T W mb)) : PT X (.Compare a [op] [b] pos) (tB T W (bTb (bCmp op ma mb))) := by
  obtain ⟨r, f, h1, h2, h3⟩ := cmp_ok (T := T) op hK hu
  unfold bCmp
  rw [h1]
  exact PT.imp (pt_cmpR h2 ha hb hm) fun σ H Q h => tE.mono (fun _ _ k => tE.mono (fun _ _ k => by
    obtain ⟨x, y, e, q⟩ := k
    cases e
    exact q) k) (tE_prim2 (prim_S h3) (tB_bool h))
theorem pt_notF (ha : PT X a (tB T W ta)) : PT X (.UnaryOp .Not a pos) (tB T W (bNot ta)) := PT.imp (pt_not ha) fun _ _ _ h => tB_not h
theorem PW.imp {e : Expr} {t t' : TT} (h : PW X e t) (k : ∀ σ H Q, t' σ H Q → t σ H Q) : PW X e t' := ⟨fun w pins s σ H Q I q => h.run w pins s σ H Q I (k σ H Q q)⟩
theorem pw_andF (ha : PT X a (tB T W ta)) (hb : PW X (.BoolOp .And (b :: rest) pos) (tB T W tb)) : PW X (.BoolOp .And (a :: b :: rest) pos) (tB T W (bAnd ta tb)) := PW.imp (pw_and ha hb) fun _ _ _ h => tB_and h
theorem pw_orF (ha : PT X a (tB T W ta)) (hb : PW X (.BoolOp .Or (b :: rest) pos) (tB T W tb)) : PW X (.BoolOp .Or (a :: b :: rest) pos) (tB T W (bOr ta tb)) := PW.imp (pw_or ha hb) fun _ _ _ h => tB_or h
theorem pe_ifF (ht : PT X c (tB T W ta)) (ha : PE X a (tE T W ma)) (hb : PE X b (tE T W mb)) : PE X (.IfExp c a b pos) (tE T W (bIfE ta ma mb)) := PE.imp (pe_ifExp ht ha hb) fun _ _ _ h => tB_ifE h
theorem pe_andF (ha : PE X a (tE T W ma)) (hb : PE X (.BoolOp .And (b :: rest) pos) (tE T W mb)) : PE X (.BoolOp .And (a :: b :: rest) pos) (tE T W (bAndV ma mb)) :=
  PE.imp (pe_and ha hb) fun σ H Q h => tE.mono (fun x H1 k => by
    obtain ⟨c, e, k⟩ := k
    refine ⟨c, e, ?_⟩
    cases c with
    | true => exact k
    | false => exact tE_con (fun _ => .bl false) k) (tE_boolV (f := fun k e1 => match k with | true => mb e1 | false => .ok (.vl (.fr (.bl false))) e1) (fun e => by unfold bAndV; cases bTb ma e with | ok k e1 => cases k <;> rfl | ex x e1 => rfl | no => rfl) h)
theorem pe_orF (ha : PE X a (tE T W ma)) (hb : PE X (.BoolOp .Or (b :: rest) pos) (tE T W mb)) : PE X (.BoolOp .Or (a :: b :: rest) pos) (tE T W (bOrV ma mb)) :=
  PE.imp (pe_or ha hb) fun σ H Q h => tE.mono (fun x H1 k => by
    obtain ⟨c, e, k⟩ := k
    refine ⟨c, e, ?_⟩
    cases c with
    | false => exact k
    | true => exact tE_con (fun _ => .bl true) k) (tE_boolV (f := fun k e1 => match k with | false => mb e1 | true => .ok (.vl (.fr (.bl true))) e1) (fun e => by unfold bOrV; cases bTb ma e with | ok k e1 => cases k <;> rfl | ex x e1 => rfl | no => rfl) h)
theorem pe_notF (ha : PE X a (tE T W ma)) : PE X (.UnaryOp .Not a pos) (tE T W (bNotV ma)) :=
  PE.imp (pe_not ha) fun σ H Q h => tE.mono (fun x H1 k => by
    obtain ⟨c, e, k⟩ := k
    exact ⟨c, e, tE_con (fun _ => .bl _) k⟩) (tE_boolV (f := fun k e1 => .ok (.vl (.fr (.bl (!k)))) e1) (fun e => by unfold bNotV; cases bTb ma e <;> rfl) h)

/-! ### a op b op c -/
def bChain (op op' : CmpOp) (ma mb mc : En → Ou R) : En → Ou R := fun e =>
  match ma e with
  | .ok ra e1 => match mb e1 with
    | .ok rb e2 => match dCmp op with
      | some f => match pks e2 [ra, rb] with
        | some [sa, sb] => match f [sa.d, sb.d] with
          | some (.fr (.bl true)) => (match dCmp op' with
            | some g => match mc e2 with
              | .ok rc e3 => pS g [rb, rc] e3
              | .ex x e3 => .ex x e3
              | .no => .no
            | none => .no)
          | some (.fr (.bl false)) => .ok (.vl (.fr (.bl false))) e2
          | _ => .no
        | _ => .no
      | none => .no
    | .ex x e2 => .ex x e2
    | .no => .no
  | .ex x e1 => .ex x e1
  | .no => .no
theorem FunOk.bool {r : R2} {f : List D → Option S} (h : FunOk T (r2 r) f) {G H : Hp} {v w : V} {s t : S} {k : Bool} {Q : VK} (hs : Sub G H) (r1 : RepO T G H v s) (r2 : RepO T G H w t) (hf : f [s.d, t.d] = some (.fr (.bl k)))
    (q : ∀ G' H', Grow G H G' H' → Q (.bl k) H') : r v w H Q := by
  obtain ⟨x, y, e, z⟩ := h G H [v, w] [s, t] (.fr (.bl k)) Q hs (.cons r1 (.cons r2 .nil)) hf fun v' G' H' g r' _ => by
    obtain rfl := r'.bl rfl
    exact q G' H' g
  cases e
  exact z
theorem tE_chain {op op' : CmpOp} {r r' : R2} {f g : List D → Option S} (h1 : dCmp op = some f) (h1' : dCmp op' = some g) (h3 : FunOk T (r2 r) f) (h3' : FunOk T (r2 r') g) {σ : SV} {H : Hp} {Q : VK} :
    tE T W (bChain op op' ma mb mc) σ H Q → tChain r r' (tE T W ma) (tE T W mb) (tE T W mc) σ H Q := by
  rintro ⟨G, e, τ, u, md, p⟩
  refine ⟨G, e, τ, u, md, ?_⟩
  unfold bChain at p
  cases hm : ma e with
  | no => rw [hm] at p; exact p
  | ex x e1 => rw [hm] at p; exact p
  | ok ra e1 =>
    rw [hm] at p
    refine fun G1 H1 v τ1 u1 ev1 md1 hr1 => ⟨G1, e1, τ ++ τ1, u ++ u1, md1, ?_⟩
    have p := Post.after p ev1
    simp only at p
    cases hm2 : mb e1 with
    | no => rw [hm2] at p; exact p.elim
    | ex x e2 =>
      rw [hm2] at p
      exact fun G2 H2 c dx ev2 md2 rx => p G2 H2 c dx (ev2.less (As_drop md2.l1 md.l2)) (md2.dropT md.l2) rx
    | ok rb e2 =>
      rw [hm2] at p
      refine fun G2 H2 w τ2 u2 ev2 md2 hr2 => ?_
      have p := Post.after p ev2
      simp only [h1, h1'] at p
      cases hp : pks e2 [ra, rb] with
      | none => rw [hp] at p; exact p.elim
      | some ss =>
        have hr12 : HR σ [ra, rb] [v, w] (τ1 ++ τ2) (u1 ++ u2) := hr1.app hr2
        have md12 : Md T G2 H2 σ e2 (τ ++ (τ1 ++ τ2)) (u ++ (u1 ++ u2)) := by rw [← List.append_assoc, ← List.append_assoc]; exact md2
        have rp := hr12.peek md12 md.l2 hp
        rw [hp] at p
        cases rp with
        | cons r1 rp => cases rp with
          | @cons _ _ sb _ r2 rp => cases rp with
            | nil =>
              rename_i sa
              simp only at p
              cases hf : f [sa.d, sb.d] with
              | none => rw [hf] at p; exact p.elim
              | some s => cases s with
                | fr d => cases d with
                  | bl k =>
                    rw [hf] at p
                    refine FunOk.bool h3 md2.sl.sub r1 r2 hf fun G3 H3 gr => ⟨k, rfl, ?_⟩
                    have md3 := md2.grow gr
                    cases k with
                    | false =>
                      rw [if_neg Bool.false_ne_true]
                      have md3' : Md T G3 H3 σ e2 τ u := by
                        rw [List.append_assoc, List.append_assoc] at md3
                        exact md3.dropT md.l2
                      have p := Post.after p (gr.evo _)
                      refine post_vl md3' (Post.after p (Evo.refl.less ?_)) (.fr (.bl false)) (fp_fr _ _)
                      rw [List.append_assoc, List.append_assoc]
                      exact As_drop md3.l1 md.l2
                    | true =>
                      rw [if_pos rfl]
                      have p := Post.after p (gr.evo _)
                      simp only at p
                      refine ⟨G3, e2, (τ ++ τ1) ++ τ2, (u ++ u1) ++ u2, md3, ?_⟩
                      cases hm3 : mc e2 with
                      | no => rw [hm3] at p; exact p
                      | ex x e3 =>
                        rw [hm3] at p
                        refine fun G4 H4 c dx ev4 md4 rx => ?_
                        have md4' := md4
                        rw [List.append_assoc, List.append_assoc] at md4'
                        exact p G4 H4 c dx (ev4.less fun b hb => by rw [List.append_assoc, List.append_assoc]; exact As_drop md4.l1 md.l2 b hb) (md4'.dropT md.l2) rx
                      | ok rc e3 =>
                        rw [hm3] at p
                        refine fun G4 H4 z τ4 u4 ev4 md4 hr4 => ?_
                        have p := Post.after p ev4
                        have hr24 : HR σ [rb, rc] [w, z] (τ2 ++ τ4) (u2 ++ u4) := hr2.app hr4
                        have md4' : Md T G4 H4 σ e3 ((τ ++ τ1) ++ (τ2 ++ τ4)) ((u ++ u1) ++ (u2 ++ u4)) := by rw [← List.append_assoc, ← List.append_assoc]; exact md4
                        -- the temps of the first are let go at the end
                        have pr := prim_S (W := W) h3' G4 H4 σ e3 (τ ++ τ1) (τ2 ++ τ4) (u ++ u1) (u2 ++ u4) [rb, rc] [w, z] Q md4' md1.l2 hr24
                        obtain ⟨x', y', e', q'⟩ := pr (by
                          simp only at p
                          rw [← List.append_assoc, ← List.append_assoc]
                          revert p
                          unfold pS
                          cases hk : pks e3 [rb, rc] with
                          | none => exact id
                          | some ss => 
                            simp only
                            cases g (ss.map S.d) with
                            | none => exact id
                            | some s5 =>
                              intro p G5 H5 v5 τ5 u5 ev5 md5 hr5
                              have hl5 := hr5.len.1
                              -- drop the middle
                              cases hr5 with
                              | vl hn => 
                                cases hn
                                have md6 : Md T G5 H5 σ e3 τ u := by
                                  have := md5.dropT (τ := τ ++ τ1) (u := u ++ u1) md1.l2
                                  exact this.dropT md.l2
                                have r5 := md5.last md1.l2
                                have own5 : ∀ b ∈ fp v5 s5, b ∉ As σ e3 τ u := fun b hb hc => by
                                  have d := md5.sl.nd
                                  have : As σ e3 ((τ ++ τ1) ++ [v5]) ((u ++ u1) ++ [s5]) = As σ e3 (τ ++ τ1) (u ++ u1) ++ fp v5 s5 := by
                                    unfold As
                                    rw [List.map_append (l₂ := [v5]), List.map_append (l₂ := [s5]), ← List.append_assoc, ← List.append_assoc, fps_append _ _ (by have z := md1.l2; simp only [List.length_append, List.length_map] at z ⊢; have z1 := md5.l1; omega)]
                                    show _ ++ (fp v5 s5 ++ []) = _
                                    rw [List.append_nil]
                                  have d' : (As σ e3 (τ ++ τ1) (u ++ u1) ++ fp v5 s5).Nodup := by rw [← this]; exact d
                                  exact (List.nodup_append.mp d').2.2 b (As_drop md5.l1 md.l2 b hc) b hb rfl
                                refine p G5 H5 v5 [v5] [s5] (ev5.less fun b hb => ?_) (md6.push r5 own5) (.vl .nil)
                                rcases (As_push md5.l1 md.l2 b).mp hb with q | q
                                · exact (As_push md5.l1 md1.l2 b).mpr (.inl (As_drop md5.l1 md.l2 b q))
                                · exact (As_push md5.l1 md1.l2 b).mpr (.inr q))
                        cases e'
                        exact q'
                  | _ => rw [hf] at p; exact p.elim
                | _ => rw [hf] at p; exact p.elim
theorem pe_chainF {op op' : CmpOp} (hK : T.K = X.K) (hu : X.A.units + 65 < cLine) (hm : lastMarks [op, op'] [b, c] = false) (ha : PE X a (tE T W ma)) (hb : PE X b (tE T W mb)) (hc : PE X c (tE T W mc)) : PE X (.Compare a [op, op'] [b, c] pos) (tE T W (bChain op op' ma mb mc)) := by
  obtain ⟨r, f, h1, h2, h3⟩ := cmp_ok (T := T) op hK hu
  obtain ⟨r', g, h1', h2', h3'⟩ := cmp_ok (T := T) op' hK hu
  exact PE.imp (pe_chain h2 h2' ha hb hc hm) fun σ H Q h => tE_chain h1 h1' h3 h3' h
theorem pt_chainF {op op' : CmpOp} (hK : T.K = X.K) (hu : X.A.units + 65 < cLine) (hm : lastMarks [op, op'] [b, c] = false) (ha : PE X a (tE T W ma)) (hb : PE X b (tE T W mb)) (hc : PE X c (tE T W mc)) : PT X (.Compare a [op, op'] [b, c] pos) (tB T W (bTb (bChain op op' ma mb mc))) := by
  obtain ⟨r, f, h1, h2, h3⟩ := cmp_ok (T := T) op hK hu
  obtain ⟨r', g, h1', h2', h3'⟩ := cmp_ok (T := T) op' hK hu
  exact PT.imp (pt_chain h2 h2' ha hb hc hm) fun σ H Q h => tE_chain h1 h1' h3 h3' (tB_bool h)
end
end Fv

namespace Fv
open PySem PySem.Spec PyProof.Rows L2

/-! ### things handed over for good -/
def frz1 (e : En) : R → Option (D × En)
  | .vl s => some (s.d, e)
  | .pl i => match e[i]? with
    | some (some s) => some (s.d, e.set i (some (.fr s.d)))
    | _ => none
def frzs (e : En) : List R → Option (List D × En)
  | [] => some ([], e)
  | r :: rs => match frz1 e r with
    | some (d, e1) => match frzs e1 rs with
      | some (ds, e2) => some (d :: ds, e2)
      | none => none
    | none => none
section
variable {T : Tb} {G H G' H' : Hp} {σ : SV} {e e' : En} {τ τ1 : List V} {u u1 : List S}
theorem Md.freezeVar (m : Md T G H σ e τ u) {i : Nat} {s : S} (h : e[i]? = some (some s)) :
    ∃ G' v, Evo G H (As σ e τ u) G' H (As σ (e.set i (some (.fr s.d))) τ u) ∧ Md T G' H σ (e.set i (some (.fr s.d))) τ u ∧ σ[i]? = some (some v) ∧ RepF T G' v s.d := by
  have hi : i < e.length := (List.getElem?_eq_some_iff.mp h).1
  obtain ⟨G', v, ev, sl, hv, r⟩ := m.sl.freeze (i := i) (s := s) (by rw [List.getElem?_append_left hi]; exact h)
  rw [List.set_append_left _ _ hi] at ev sl
  refine ⟨G', v, ev, ⟨by rw [List.length_set]; exact m.l1, m.l2, sl⟩, ?_, r⟩
  rw [List.getElem?_append_left (by rw [m.l1]; exact hi)] at hv
  exact hv
theorem Md.freezeTmp {v : V} {s : S} (m : Md T G H σ e (τ ++ v :: τ1) (u ++ s :: u1)) (hl : τ.length = u.length) :
    ∃ G', Evo G H (As σ e (τ ++ v :: τ1) (u ++ s :: u1)) G' H (As σ e (τ ++ v :: τ1) (u ++ .fr s.d :: u1)) ∧ Md T G' H σ e (τ ++ v :: τ1) (u ++ .fr s.d :: u1) ∧ RepF T G' v s.d := by
  have e1 : (e ++ (u ++ s :: u1).map some)[e.length + u.length]? = some (some s) := by
    rw [List.getElem?_append_right (by omega)]; simp
  obtain ⟨G', w, ev, sl, hv, r⟩ := m.sl.freeze e1
  have e2 : (e ++ (u ++ s :: u1).map some).set (e.length + u.length) (some (.fr s.d)) = e ++ (u ++ .fr s.d :: u1).map some := by
    rw [List.set_append_right _ _ (by omega)]
    congr 1
    have : e.length + u.length - e.length = u.length := by omega
    rw [this, List.map_append, List.map_append, List.set_append_right _ _ (by simp)]
    simp
  rw [e2] at ev sl
  refine ⟨G', ev, ⟨m.l1, by simpa using m.l2, sl⟩, ?_⟩
  have e3 : (σ ++ (τ ++ v :: τ1).map some)[e.length + u.length]? = some (some v) := by
    rw [List.getElem?_append_right (by rw [m.l1]; omega), m.l1, ← hl]; simp
  rw [e3] at hv; cases hv
  exact r
theorem HR.freeze {rs : List R} {vs : List V} (hr : HR σ rs vs τ1 u1) : ∀ {G : Hp} {e e' : En} {τ : List V} {u : List S} {ds : List D}, Md T G H σ e (τ ++ τ1) (u ++ u1) → τ.length = u.length → frzs e rs = some (ds, e') →
    ∃ G' u1', Evo G H (As σ e (τ ++ τ1) (u ++ u1)) G' H (As σ e' (τ ++ τ1) (u ++ u1')) ∧ Md T G' H σ e' (τ ++ τ1) (u ++ u1') ∧ RepFs T G' vs ds := by
  induction hr with
  | nil => intro G e e' τ u ds m hl h; cases h; exact ⟨G, [], .refl, m, .nil⟩
  | @vl s v rs vs τ1 u1 k ih =>
    intro G e e' τ u ds m hl h
    unfold frzs at h
    simp only [frz1] at h
    cases h2 : frzs e rs with
    | none => rw [h2] at h; cases h
    | some q =>
      obtain ⟨ds', e2⟩ := q
      rw [h2] at h; cases h
      obtain ⟨G1, ev1, m1, r1⟩ := m.freezeTmp hl
      have m1' : Md T G1 H σ e ((τ ++ [v]) ++ τ1) ((u ++ [.fr s.d]) ++ u1) := by simpa using m1
      obtain ⟨G2, u2, ev2, m2, r2⟩ := ih m1' (by simp [hl]) h2
      refine ⟨G2, .fr s.d :: u2, ?_, by simpa using m2, .cons (r1.mono ev2.mono) r2⟩
      have ev2' : Evo G1 H (As σ e (τ ++ v :: τ1) (u ++ .fr s.d :: u1)) G2 H (As σ e' (τ ++ v :: τ1) (u ++ .fr s.d :: u2)) := by simpa using ev2
      exact ev1.trans ev2'
  | @pl i v rs vs τ1 u1 q k ih =>
    intro G e e' τ u ds m hl h
    unfold frzs at h
    simp only [frz1] at h
    cases h1 : e[i]? with
    | none => rw [h1] at h; cases h
    | some y => cases y with
      | none => rw [h1] at h; cases h
      | some s =>
        rw [h1] at h
        simp only at h
        cases h2 : frzs (e.set i (some (.fr s.d))) rs with
        | none => rw [h2] at h; cases h
        | some q2 =>
          obtain ⟨ds', e2⟩ := q2
          rw [h2] at h; cases h
          obtain ⟨G1, w, ev1, m1, hw, r1⟩ := m.freezeVar h1
          rw [q] at hw; cases hw
          obtain ⟨G2, u2, ev2, m2, r2⟩ := ih m1 hl h2
          exact ⟨G2, u2, ev1.trans ev2, m2, .cons (r1.mono ev2.mono) r2⟩
def FunZ (T : Tb) (rd : List V → Hp → VK → Prop) (f : List D → Option S) : Prop :=
  ∀ (G H : Hp) (vs : List V) (ds : List D) (s : S) (Q : VK), Sub G H → RepFs T G vs ds → f ds = some s →
      (∀ (v : V) (G' H' : Hp), Grow G H G' H' → RepO T G' H' v s → (∀ b ∈ fp v s, H b = Option.none) → Q v H') → rd vs H Q
def pZ (f : List D → Option S) : List R → En → Ou R := fun rs e =>
  match frzs e rs with
  | some (ds, e1) => match f ds with
    | some s => .ok (.vl s) e1
    | none => .no
  | none => .no
/-- a thing newly made, put down -/
theorem post_new {W : WX} {G1 : Hp} {A : List Addr} {s : S} {Q : VK} {v : V} (q : Post T W G1 H σ A τ u (.ok (.vl s) e) Q) (ev : Evo G1 H A G H (As σ e τ u)) (md : Md T G H σ e τ u) (g : Grow G H G' H') (r : RepO T G' H' v s) (hn : ∀ b ∈ fp v s, H b = none) : Q v H' := by
  have md1 : Md T G' H' σ e τ u := md.grow g
  have own1 : ∀ b ∈ fp v s, b ∉ As σ e τ u := fun b hb hc => by
    obtain ⟨_, o, ho⟩ := md.sl.own b hc
    rw [hn b hb] at ho; cases ho
  refine q G' H' v [v] [s] (ev.trans ?_) (md1.push r own1) (.vl .nil)
  refine ⟨g.mono, fun b o z _ => g.keep b o z, fun b hb => ?_, fun b o z => (g.frz b o z).imp id .inr⟩
  rcases (As_push md.l1 md.l2 b).mp hb with z | z
  · exact .inl z
  · exact .inr (hn b z)
theorem prim_Z {W : WX} {f : List D → Option S} {rd : List V → Hp → VK → Prop} (h : FunZ T rd f) : PrimOk T W (fun _ => rd) (pZ f) := by
  intro G H σ e τ τ1 u u1 rs vs Q md hl hr q
  unfold pZ at q
  cases h1 : frzs e rs with
  | none => rw [h1] at q; exact q.elim
  | some p =>
    obtain ⟨ds, e1⟩ := p
    rw [h1] at q
    simp only at q
    cases h2 : f ds with
    | none => rw [h2] at q; exact q.elim
    | some s =>
      rw [h2] at q
      obtain ⟨G1, u1', ev, m1, r⟩ := hr.freeze md hl h1
      exact h G1 H vs ds s Q m1.sl.sub r h2 fun v G' H' g ro hn => post_new q (ev.less (As_drop m1.l1 hl)) (m1.dropT hl) g ro hn
end
def dTupN (ds : List D) : Option S := if ds.length ≤ 1000 then some (.fr (.tup ds)) else none
def dLstN (ds : List D) : Option S := if ds.length ≤ 1000 then some (.ol ds) else none
section
variable {X : Cx} {T : Tb} {W : WX} {es : List Expr} {ms : En → Ou (List R)} {pos : Pos}
theorem fz_tup : FunZ T (fun xs H1 Q => xs.length ≤ sizeLine ∧ ∀ p, H1 p = none → Q (.ref p) (upd H1 p (.tup xs))) dTupN := fun G H vs ds s Q hs r h k => by
  unfold dTupN at h
  split at h
  · rename_i hz
    cases h
    exact ⟨sizeL (by rw [r.length]; omega), fun p hp => done_tup hs k r hp⟩
  · cases h
theorem fz_lst : FunZ T (fun xs H1 Q => xs.length ≤ sizeLine ∧ ∀ p, H1 p = none → Q (.ref p) (upd H1 p (.lst xs))) dLstN := fun G H vs ds s Q hs r h k => by
  unfold dLstN at h
  split at h
  · rename_i hz
    cases h
    exact ⟨sizeL (by rw [r.length]; omega), fun p hp => done_ol hs k r hp⟩
  · cases h
def bTup (ms : En → Ou (List R)) : En → Ou R := bP (pZ dTupN) ms
def bLst (ms : En → Ou (List R)) : En → Ou R := bP (pZ dLstN) ms
theorem pe_tupF {x1} (h : PA X es (tEs T W ms)) : PE X (.Tuple es x1 pos) (tE T W (bTup ms)) := PE.imp (pe_tup h) fun σ H Q k => tE_prim (prim_Z fz_tup) k
theorem pe_lstF (h : PA X es (tEs T W ms)) : PE X (.List es pos) (tE T W (bLst ms)) := PE.imp (pe_lst h) fun σ H Q k => tE_prim (prim_Z fz_lst) k
theorem pa_nilF : PA X [] (tEs T W aNil) := PA.imp pa_nil fun σ H Q k => tEs_nil k
theorem pa_consF {e : Expr} {m : En → Ou R} (ha : PE X e (tE T W m)) (hr : PA X es (tEs T W ms)) (hs : starEach (e :: es) X.env = (false, eval e X.env) :: starEach es X.env) : PA X (e :: es) (tEs T W (aCons m ms)) :=
  PA.imp (pa_cons ha hr hs) fun σ H Q k => tEs_cons k

/-! ### places -/
def dIx : List D → Option S
  | [.lst xs, .int i] => (atI xs i).map .fr
  | [.tup xs, .int i] => (atI xs i).map .fr
  | [.str x, .int i] => if x.length ≤ 16777216 then (atI x.cps.toList i).map fun c => .fr (.str ⟨#[c]⟩) else none
  | _ => none
theorem RepFs.atI {G : Hp} {vs : List V} {ds : List D} {i : Int} {d : D} (r : RepFs T G vs ds) (h : L2.atI ds i = some d) : ∃ v, L2.atI vs i = some v ∧ RepF T G v d := by
  unfold L2.atI at h ⊢
  rw [r.length]
  cases e : ixN ds.length i with
  | none => rw [e] at h; cases h
  | some j =>
    rw [e] at h
    exact r.get (by simpa using h)
theorem fo_ix : FunOk T (r2 (rIx T.K)) dIx := fun G H vs ss s Q hs r h k => by
  unfold dIx at h
  split at h
  · rename_i xs i heq
    obtain ⟨v, w, s1, s2, rfl, r1, r2, e1, e2⟩ := repOs2 r heq
    obtain rfl := r2.int e2
    obtain ⟨a, as, rfl, q1, k1⟩ := r1.lst hs e1
    cases hx : L2.atI xs i with
    | none => rw [hx] at h; cases h
    | some d =>
      rw [hx] at h; cases h
      obtain ⟨y, hy, ry⟩ := k1.atI hx
      exact ⟨_, _, rfl, .inl ⟨a, as, i, y, rfl, rfl, q1, hy, done_fr (W := True) hs k ry⟩⟩
  · rename_i xs i heq
    obtain ⟨v, w, s1, s2, rfl, r1, r2, e1, e2⟩ := repOs2 r heq
    obtain rfl := r2.int e2
    obtain ⟨a, as, rfl, q1, _, k1⟩ := r1.tup hs e1
    cases hx : L2.atI xs i with
    | none => rw [hx] at h; cases h
    | some d =>
      rw [hx] at h; cases h
      obtain ⟨y, hy, ry⟩ := k1.atI hx
      exact ⟨_, _, rfl, .inr (.inl ⟨a, as, i, y, rfl, rfl, q1, hy, done_fr (W := True) hs k ry⟩)⟩
  · rename_i x i heq
    split at h
    · rename_i hz
      obtain ⟨v, w, s1, s2, rfl, r1, r2, e1, e2⟩ := repOs2 r heq
      obtain rfl := r2.int e2
      obtain rfl := r1.str e1
      cases hx : L2.atI x.cps.toList i with
      | none => rw [hx] at h; cases h
      | some c =>
        rw [hx] at h; cases h
        exact ⟨_, _, rfl, .inr (.inr ⟨x, i, c, rfl, rfl, sizeL hz, hx, done_fr (W := True) hs k (.str _)⟩)⟩
    · cases h
  · cases h
def bIx (ma mb : En → Ou R) : En → Ou R := b2 (pS dIx) ma mb
theorem pe_ixF {a b : Expr} {ma mb : En → Ou R} (hK : T.K = X.K) (ha : PE X a (tE T W ma)) (hb : PE X b (tE T W mb)) (hs : PlainIx b) : PE X (.Subscript a b pos) (tE T W (bIx ma mb)) :=
  PE.imp (pe_ix ix_seq ha hb hs) fun σ H Q h => tE.mono (fun _ _ k => tE.mono (fun _ _ k => by
    obtain ⟨x, y, e, q⟩ := k
    cases e
    rw [hK] at q
    exact q) k) (tE_prim2 (prim_S fo_ix) h)

/-! ### slices -/
def bInt (m : En → Ou R) : En → Ou Int := fun e =>
  match m e with
  | .ok (.vl (.fr (.int i))) e1 => .ok i e1
  | .ok _ _ => .no
  | .ex x e1 => .ex x e1
  | .no => .no
theorem tB_int {m : En → Ou R} {σ : SV} {H : Hp} {Q : Int → Hp → Prop} : tB T W (bInt m) σ H Q → tE T W m σ H fun x H' => ∃ k, x = .int k ∧ Q k H' := by
  rintro ⟨G, e, τ, u, md, p⟩
  refine ⟨G, e, τ, u, md, ?_⟩
  unfold bInt at p
  cases hm : m e with
  | no => rw [hm] at p; exact p
  | ex x e1 => rw [hm] at p; exact p
  | ok r e1 =>
    rw [hm] at p
    intro G1 H1 v τ1 u1 ev1 md1 hr1
    have p := PostB.after p ev1
    cases r with
    | pl i => exact p.elim
    | vl s => cases s with
      | fr d => cases d with
        | int b => exact ⟨b, (pk_ok md1 md.l2 hr1 rfl).int rfl, p.drop md1 md.l2 rfl⟩
        | _ => exact p.elim
      | _ => exact p.elim
def bPart : Option (En → Ou R) → En → Ou (Option Int)
  | none, e => .ok none e
  | some m, e => (bInt m e).bnd fun i e1 => .ok (some i) e1
def cutD {α : Type} (xs : List α) (lo hi : Option Int) : List α := (xs.drop (HT.sIx xs.length 0 lo)).take (HT.sIx xs.length xs.length hi - HT.sIx xs.length 0 lo)
def dSl (lo hi : Option Int) : List D → Option S
  | [.lst xs] => some (.ol (cutD xs lo hi))
  | [.tup xs] => some (.fr (.tup (cutD xs lo hi)))
  | _ => none
theorem RepFs.cut {G : Hp} {vs : List V} {ds : List D} (r : RepFs T G vs ds) (lo hi : Option Int) : RepFs T G (cutV vs lo hi) (cutD ds lo hi) := by
  unfold cutV cutD
  rw [r.length]
  exact (r.drop _).take _
def rSl (K : PySem.W.Frag) : V → Option Int → Option Int → Hp → VK → Prop := fun x lo hi H Q => rSlL K x lo hi H Q ∨ rSlA K x lo hi H Q
theorem fo_sl (lo hi : Option Int) : FunOk T (r1 fun x H Q => rSl T.K x lo hi H Q) (dSl lo hi) := fun G H vs ss s Q hs r h k => by
  unfold dSl at h
  split at h
  · rename_i xs heq
    cases h
    obtain ⟨v, s1, rfl, r1, e1⟩ := repOs1 r heq
    obtain ⟨a, as, rfl, q1, k1⟩ := r1.lst hs e1
    exact ⟨_, rfl, .inl ⟨a, as, rfl, q1, fun p hp => done_ol hs k (k1.cut lo hi) hp⟩⟩
  · rename_i xs heq
    cases h
    obtain ⟨v, s1, rfl, r1, e1⟩ := repOs1 r heq
    obtain ⟨a, as, rfl, q1, t1, k1⟩ := r1.tup hs e1
    refine ⟨_, rfl, .inr ⟨a, as, rfl, q1, fun hw => ?_, fun _ p hp => done_tup hs k (k1.cut lo hi) hp⟩⟩
    have e : cutD xs lo hi = xs := by
      unfold cutD
      rw [← k1.length, hw.1, hw.2, List.drop_zero, Nat.sub_zero, k1.length, List.take_length]
    rw [e] at k
    exact done_fr (W := True) hs k (.tup t1 k1)
  · cases h
def bSl (m : En → Ou R) (lo hi : Option (En → Ou R)) : En → Ou R := fun e =>
  (m e).bnd fun r e1 => (bPart lo e1).bnd fun l e2 => (bPart hi e2).bnd fun h e3 => pS (dSl l h) [r] e3
def tO (T : Tb) (W : WX) (m : Option (En → Ou R)) : TO := fun σ H Q => tB T W (bPart m) σ H Q
theorem po_F {o : Option Expr} {mo : Option (En → Ou R)} (h : (o = none ∧ mo = none) ∨ ∃ e m, o = some e ∧ mo = some m ∧ PE X e (tE T W m)) : PO X o (tO T W mo) := by
  rcases h with ⟨rfl, rfl⟩ | ⟨e, m, rfl, rfl, he⟩
  · refine ⟨fun pins s σ H Q I q => po_none.run pins s σ H Q I ?_⟩
    obtain ⟨G, e, τ, u, md, p⟩ := q
    exact p G H .refl md
  · refine ⟨fun pins s σ H Q I q => (po_some he).run pins s σ H Q I ?_⟩
    obtain ⟨G, e, τ, u, md, p⟩ := q
    exact tB_int (tB_then (f := fun i e1 => .ok (some i) e1) (fun G H A τ u o => PostB T W G H σ A τ u o Q) id id PostB.after (fun {G1 H1 e1 τ u k} md1 p => p G1 H1 .refl md1) md p)
theorem tE_slice {m : En → Ou R} {lo hi : Option (En → Ou R)} {σ : SV} {H : Hp} {Q : VK} : tE T W (bSl m lo hi) σ H Q → tSl (rSl T.K) (tE T W m) (tO T W lo) (tO T W hi) σ H Q := by
  rintro ⟨G, e, τ, u, md, p⟩
  refine ⟨G, e, τ, u, md, ?_⟩
  unfold bSl at p
  cases hm : m e with
  | no => rw [hm] at p; exact p
  | ex x e1 => rw [hm] at p; exact p
  | ok r e1 =>
    rw [hm] at p
    intro G1 H1 v τ1 u1 ev1 md1 hr1
    have p := Post.after p ev1
    -- the parts, the thing kept beneath
    have lift : ∀ {G H : Hp} {A : List Addr} {x : Xn} {e1 : En} {Q' : Option Int → Hp → Prop}, Post T W G H σ A τ u (.ex x e1) Q → PostB T W G H σ A (τ ++ τ1) (u ++ u1) (.ex x e1) Q' := fun {G H A x e1 Q'} p G2 H2 c dx ev2 md2 rx =>
      p G2 H2 c dx (ev2.less (As_drop md2.l1 md.l2)) (md2.dropT md.l2) rx
    have p' : Post T W G1 H1 σ (As σ e1 (τ ++ τ1) (u ++ u1)) τ u ((bPart lo e1).bnd fun l e2 => (bPart hi e2).bnd fun h e3 => pS (dSl l h) [r] e3) Q := p
    refine ⟨G1, e1, τ ++ τ1, u ++ u1, md1, ?_⟩
    cases hl : bPart lo e1 with
    | no => rw [hl] at p'; exact p'
    | ex x e2 => rw [hl] at p'; exact lift p'
    | ok l e2 =>
      rw [hl] at p'
      intro G2 H2 ev2 md2
      have p2 : Post T W G2 H2 σ (As σ e2 (τ ++ τ1) (u ++ u1)) τ u ((bPart hi e2).bnd fun h e3 => pS (dSl l h) [r] e3) Q := Post.after p' ev2
      refine ⟨G2, e2, τ ++ τ1, u ++ u1, md2, ?_⟩
      cases hh : bPart hi e2 with
      | no => rw [hh] at p2; exact p2
      | ex x e3 => rw [hh] at p2; exact lift p2
      | ok h e3 =>
        rw [hh] at p2
        intro G3 H3 ev3 md3
        have p3 : Post T W G3 H3 σ (As σ e3 (τ ++ τ1) (u ++ u1)) τ u (pS (dSl l h) [r] e3) Q := Post.after p2 ev3
        obtain ⟨x, e', q'⟩ := prim_S (W := W) (fo_sl l h) G3 H3 σ e3 τ τ1 u u1 [r] [v] Q md3 md.l2 hr1 p3
        cases e'
        exact q'
theorem pe_sliceF {a : Expr} {lo hi : Option Expr} {m : En → Ou R} {ml mh : Option (En → Ou R)} {p2 : Pos} (hK : T.K = X.K) (ha : PE X a (tE T W m)) (hl : PO X lo (tO T W ml)) (hh : PO X hi (tO T W mh)) : PE X (.Subscript a (.Slice lo hi none p2) pos) (tE T W (bSl m ml mh)) :=
  PE.imp (pe_slice (r := rSl X.K) (sl_list.or sl_tupA) ha hl hh) fun σ H Q h => by
    have := tE_slice h
    rw [hK] at this
    exact this
end
end Fv

namespace Fv
open PySem PySem.Spec PyProof.Rows L2

/-! ### calls of defs -/
inductive FO where
  | ok (s : S) (ss : List S)
  | ex (x : Xn) (ss : List S)
  | no
def mov1 (e : En) : R → Option (S × En)
  | .vl s => some (s, e)
  | .pl i => match e[i]? with
    | some (some s) => some (s, e.set i none)
    | _ => none
def movs (e : En) : List R → Option (List S × En)
  | [] => some ([], e)
  | r :: rs => match mov1 e r with
    | some (s, e1) => match movs e1 rs with
      | some (ss, e2) => some (s :: ss, e2)
      | none => none
    | none => none
def put1 (e : En) : R → S → En
  | .vl _, _ => e
  | .pl i, s => e.set i (some s)
def puts (e : En) : List R → List S → En
  | r :: rs, s :: ss => put1 (puts e rs ss) r s
  | _, _ => e
abbrev sv (vs : List V) : SV := vs.map some
abbrev se (ss : List S) : En := ss.map some
theorem sv_app (a b : List V) : sv (a ++ b) = sv a ++ sv b := List.map_append
theorem se_app (a b : List S) : se (a ++ b) = se a ++ se b := List.map_append
def spD (T : Tb) (np : Nat) (fn : List S → FO) : Sp := fun vs H Q E => ∃ (G : Hp) (ss : List S), ss.length = np ∧ Sl T G H (sv vs) (se ss) ∧
  match fn ss with
  | .ok s ss' => ∀ (v : V) (G' H' : Hp), Evo G H (fps (sv vs) (se ss)) G' H' (fps (sv (vs ++ [v])) (se (ss' ++ [s]))) → Sl T G' H' (sv (vs ++ [v])) (se (ss' ++ [s])) → Q v H'
  | .ex x ss' => ∀ (c : Value) (dx : Option Addr) (G' H' : Hp), Evo G H (fps (sv vs) (se ss)) G' H' (fps (sv vs) (se ss')) → Sl T G' H' (sv vs) (se ss') → RepX T G' c dx x → E c dx H'
  | .no => False
theorem spD.len {T : Tb} {np : Nat} {fn : List S → FO} {vs : List V} {H : Hp} {Q : VK} {E : XK} (h : spD T np fn vs H Q E) : vs.length = np := by
  obtain ⟨G, ss, hl, sl, _⟩ := h
  have := sl.len
  simp only [List.length_map] at this
  omega
def pCall (np : Nat) (fn : List S → FO) : List R → En → Ou R := fun rs e =>
  match movs e rs with
  | some (ss, e1) => if ss.length = np then match fn ss with
    | .ok s ss' => .ok (.vl s) (puts e1 rs ss')
    | .ex x ss' => .ex x (puts e1 rs ss')
    | .no => .no
    else .no
  | none => .no
section
variable {T : Tb} {G H G' H' : Hp} {σ : SV}
theorem As_set_sub {e : En} {τ : List V} {u : List S} {i : Nat} (hi : i < e.length) : ∀ b, b ∈ As σ (e.set i none) τ u → b ∈ As σ e τ u := fun b hb => by
  unfold As at *
  rw [← List.set_append_left _ _ hi] at hb
  exact fps_sub b hb
theorem Md.out {e : En} {τ : List V} {u : List S} (m : Md T G H σ e τ u) {i : Nat} (hi : i < e.length) : Md T G H σ (e.set i none) τ u := by
  refine ⟨by rw [List.length_set]; exact m.l1, m.l2, ?_⟩
  rw [← List.set_append_left _ _ hi]
  exact m.sl.out i
theorem Md.outDis {e : En} {τ : List V} {u : List S} (m : Md T G H σ e τ u) {i : Nat} {s : S} {v : V} (h : e[i]? = some (some s)) (hv : σ[i]? = some (some v)) : ∀ b ∈ fp v s, b ∈ As σ e τ u ∧ b ∉ As σ (e.set i none) τ u := fun b hb => by
  have hi : i < e.length := (List.getElem?_eq_some_iff.mp h).1
  have h1 : (σ ++ τ.map some)[i]? = some (some v) := by rw [List.getElem?_append_left (by rw [m.l1]; exact hi)]; exact hv
  have h2 : (e ++ u.map some)[i]? = some (some s) := by rw [List.getElem?_append_left hi]; exact h
  refine ⟨mem_fps h1 h2 hb, fun hc => ?_⟩
  unfold As at hc
  rw [← List.set_append_left _ _ hi] at hc
  exact (List.nodup_append.mp ((fps_out h1 h2).nodup_iff.mp m.sl.nd)).2.2 b hb b hc rfl
theorem Md.put {e : En} {τ : List V} {u : List S} {i : Nat} {s : S} {v : V} (m : Md T G H σ e τ u) (h : e[i]? = some none) (hv : σ[i]? = some (some v)) (r : RepO T G H v s) (hn : ∀ b ∈ fp v s, b ∉ As σ e τ u) :
    Md T G H σ (e.set i (some s)) τ u ∧ ∀ b, b ∈ As σ (e.set i (some s)) τ u → b ∈ fp v s ∨ b ∈ As σ e τ u := by
  obtain ⟨hi, he⟩ := List.getElem?_eq_some_iff.mp h
  have hne : e.set i none = e := by rw [← he]; exact List.set_getElem_self hi
  have hset : (σ ++ τ.map some).set i (some v) = σ ++ τ.map some := by
    have h1 : (σ ++ τ.map some)[i]? = some (some v) := by rw [List.getElem?_append_left (by rw [m.l1]; exact hi)]; exact hv
    obtain ⟨hl, e1⟩ := List.getElem?_eq_some_iff.mp h1
    rw [← e1]; exact List.set_getElem_self hl
  have hi2 : i < (e ++ u.map some).length := by rw [List.length_append]; omega
  have hne2 : (e ++ u.map some).set i none = e ++ u.map some := by rw [List.set_append_left _ _ hi, hne]
  have sl := Sl.put (i := i) (by rw [hne2]; exact m.sl) hi2 r (by rw [hne2]; exact hn)
  rw [hset, List.set_append_left _ _ hi] at sl
  refine ⟨⟨by rw [List.length_set]; exact m.l1, m.l2, sl⟩, fun b hb => ?_⟩
  unfold As at hb
  rw [← List.set_append_left _ _ hi, ← hset] at hb
  have := (fps_set_mem (σ := σ ++ τ.map some) hi2 m.sl.len b).mp hb
  rw [hne2] at this
  exact this
theorem movs_none {i : Nat} : ∀ {rs : List R} {e e1 : En} {ss : List S}, movs e rs = some (ss, e1) → e[i]? = some none → e1[i]? = some none ∧ ∀ ss', (puts e1 rs ss')[i]? = some none
  | [], e, e1, ss, h, hn => by cases h; exact ⟨hn, fun ss' => by cases ss' <;> exact hn⟩
  | r :: rs, e, e1, ss, h, hn => by
    unfold movs at h
    cases r with
    | vl s =>
      simp only [mov1] at h
      cases h2 : movs e rs with
      | none => rw [h2] at h; cases h
      | some q =>
        obtain ⟨ss2, e2⟩ := q
        rw [h2] at h; cases h
        obtain ⟨a, b⟩ := movs_none h2 hn
        exact ⟨a, fun ss' => by cases ss' with
          | nil => exact a
          | cons _ _ => exact b _⟩
    | pl j =>
      simp only [mov1] at h
      cases h1 : e[j]? with
      | none => rw [h1] at h; cases h
      | some y => cases y with
        | none => rw [h1] at h; cases h
        | some s =>
          rw [h1] at h
          simp only at h
          have hj : j ≠ i := fun z => by rw [z, hn] at h1; cases h1
          cases h2 : movs (e.set j none) rs with
          | none => rw [h2] at h; cases h
          | some q =>
            obtain ⟨ss2, e2⟩ := q
            rw [h2] at h; cases h
            obtain ⟨a, b⟩ := movs_none h2 (by rw [List.getElem?_set_ne hj]; exact hn)
            exact ⟨a, fun ss' => by cases ss' with
              | nil => exact a
              | cons x xs => show ((puts e1 rs xs).set j (some x))[i]? = _; rw [List.getElem?_set_ne hj]; exact b _⟩
theorem HR.movs {rs : List R} {vs τ1 : List V} {u1 : List S} (hr : HR σ rs vs τ1 u1) : ∀ {e e1 : En} {τ : List V} {u : List S} {ss : List S}, Md T G H σ e (τ ++ τ1) (u ++ u1) → τ.length = u.length → movs e rs = some (ss, e1) →
    Sl T G H (sv vs) (se ss) ∧ Md T G H σ e1 τ u ∧ (∀ b ∈ fps (sv vs) (se ss), b ∉ As σ e1 τ u ∧ b ∈ As σ e (τ ++ τ1) (u ++ u1)) ∧ ∀ b ∈ As σ e1 τ u, b ∈ As σ e (τ ++ τ1) (u ++ u1) := by
  induction hr with
  | nil =>
    intro e e1 τ u ss m hl h
    cases h
    refine ⟨.nil m.sl.sub, by simpa using m, fun b hb => by simp [fps] at hb, fun b hb => by simpa using hb⟩
  | @vl s v rs vs τ1 u1 k ih =>
    intro e e1 τ u ss m hl h
    unfold Fv.movs at h
    simp only [mov1] at h
    cases h2 : Fv.movs e rs with
    | none => rw [h2] at h; cases h
    | some q =>
      obtain ⟨ss2, e2⟩ := q
      rw [h2] at h; cases h
      have m' : Md T G H σ e ((τ ++ [v]) ++ τ1) ((u ++ [s]) ++ u1) := by simpa using m
      obtain ⟨a, b, c, d⟩ := ih m' (by simp [hl]) h2
      have r := b.last hl
      have eA : ∀ x, x ∈ As σ e ((τ ++ [v]) ++ τ1) ((u ++ [s]) ++ u1) → x ∈ As σ e (τ ++ v :: τ1) (u ++ s :: u1) := fun x hx => by simpa using hx
      have own : ∀ x ∈ fp v s, x ∉ As σ e1 τ u := fun x hx hc => by
        have n := b.sl.nd
        have : fps (σ ++ (τ ++ [v]).map some) (e1 ++ (u ++ [s]).map some) = As σ e1 τ u ++ fp v s := by
          rw [List.map_append (l₂ := [v]), List.map_append (l₂ := [s]), ← List.append_assoc, ← List.append_assoc, fps_append _ _ (by simp [b.l1, hl])]
          show _ ++ (fp v s ++ []) = _
          rw [List.append_nil]; rfl
        rw [this] at n
        exact (List.nodup_append.mp n).2.2 x hc x hx rfl
      have memA : ∀ x ∈ fp v s, x ∈ As σ e1 (τ ++ [v]) (u ++ [s]) := fun x hx => (As_push b.l1 hl x).mpr (.inr hx)
      refine ⟨(Sl.one m.sl.sub r).append a fun x hx hc => ?_, b.dropT hl, fun x hx => ?_, fun x hx => eA x (d x (As_drop b.l1 hl x hx))⟩
      · have hx : x ∈ fp v s ++ [] := hx
        rw [List.append_nil] at hx
        exact (c x hc).1 (memA x hx)
      · have hx : x ∈ fp v s ++ fps (sv vs) (se ss2) := hx
        rcases List.mem_append.mp hx with z | z
        · exact ⟨own x z, eA x (d x (memA x z))⟩
        · exact ⟨fun hc => (c x z).1 (As_drop b.l1 hl x hc), eA x (c x z).2⟩
  | @pl i v rs vs τ1 u1 q k ih =>
    intro e e1 τ u ss m hl h
    unfold Fv.movs at h
    simp only [mov1] at h
    cases h1 : e[i]? with
    | none => rw [h1] at h; cases h
    | some y => cases y with
      | none => rw [h1] at h; cases h
      | some s =>
        rw [h1] at h
        simp only at h
        cases h2 : Fv.movs (e.set i none) rs with
        | none => rw [h2] at h; cases h
        | some q2 =>
          obtain ⟨ss2, e2⟩ := q2
          rw [h2] at h; cases h
          have hi : i < e.length := (List.getElem?_eq_some_iff.mp h1).1
          obtain ⟨w, hw, r⟩ := m.var h1
          rw [q] at hw; cases hw
          obtain ⟨a, b, c, d⟩ := ih (m.out hi) hl h2
          have od := m.outDis h1 q
          refine ⟨(Sl.one m.sl.sub r).append a fun x hx hc => ?_, b, fun x hx => ?_, fun x hx => As_set_sub hi x (d x hx)⟩
          · have hx : x ∈ fp v s ++ [] := hx
            rw [List.append_nil] at hx
            exact (od x hx).2 (c x hc).2
          · have hx : x ∈ fp v s ++ fps (sv vs) (se ss2) := hx
            rcases List.mem_append.mp hx with z | z
            · exact ⟨fun hc => (od x z).2 (d x hc), (od x z).1⟩
            · exact ⟨(c x z).1, As_set_sub hi x (c x z).2⟩
theorem HR.puts {rs : List R} {vs τ1 : List V} {u1 : List S} (hr : HR σ rs vs τ1 u1) : ∀ {e e1 : En} {τ : List V} {u : List S} {ss ss' : List S}, Fv.movs e rs = some (ss, e1) → Md T G H σ e1 τ u → Sl T G H (sv vs) (se ss') → (∀ b ∈ fps (sv vs) (se ss'), b ∉ As σ e1 τ u) →
    Md T G H σ (Fv.puts e1 rs ss') τ u ∧ ∀ b ∈ As σ (Fv.puts e1 rs ss') τ u, b ∈ fps (sv vs) (se ss') ∨ b ∈ As σ e1 τ u := by
  induction hr with
  | nil => intro e e1 τ u ss ss' h m sl dis; exact ⟨by cases ss' <;> exact m, fun b hb => .inr (by cases ss' <;> exact hb)⟩
  | @vl s v rs vs τ1 u1 k ih =>
    intro e e1 τ u ss ss' h m sl dis
    unfold Fv.movs at h
    simp only [mov1] at h
    cases h2 : Fv.movs e rs with
    | none => rw [h2] at h; cases h
    | some q =>
      obtain ⟨ss2, e2⟩ := q
      rw [h2] at h; cases h
      cases ss' with
      | nil => have := sl.len; simp at this
      | cons t ts =>
        have sl2 : Sl T G H (sv vs) (se ts) := Sl.right (σ := [some v]) (e := [some t]) sl rfl
        have hm : ∀ b, b ∈ fps (sv vs) (se ts) → b ∈ fps (sv (v :: vs)) (se (t :: ts)) := fun b hb => List.mem_append_right (fp v t) hb
        obtain ⟨a, b⟩ := ih h2 m sl2 fun b hb => dis b (hm b hb)
        exact ⟨a, fun x hx => (b x hx).imp (hm x) id⟩
  | @pl i v rs vs τ1 u1 q k ih =>
    intro e e1 τ u ss ss' h m sl dis
    unfold Fv.movs at h
    simp only [mov1] at h
    cases h1 : e[i]? with
    | none => rw [h1] at h; cases h
    | some y => cases y with
      | none => rw [h1] at h; cases h
      | some s =>
        rw [h1] at h
        simp only at h
        cases h2 : Fv.movs (e.set i none) rs with
        | none => rw [h2] at h; cases h
        | some q2 =>
          obtain ⟨ss2, e2⟩ := q2
          rw [h2] at h; cases h
          have hi : i < e.length := (List.getElem?_eq_some_iff.mp h1).1
          cases ss' with
          | nil => have := sl.len; simp at this
          | cons t ts =>
            have sl2 : Sl T G H (sv vs) (se ts) := Sl.right (σ := [some v]) (e := [some t]) sl rfl
            have dd : ∀ b ∈ fp v t, b ∉ fps (sv vs) (se ts) := fun b hb hc => by
              have := Sl.dis (σ := [some v]) (e := [some t]) sl rfl b (by show b ∈ fp v t ++ []; rw [List.append_nil]; exact hb)
              exact this hc
            have hm : ∀ b, b ∈ fps (sv vs) (se ts) → b ∈ fps (sv (v :: vs)) (se (t :: ts)) := fun b hb => List.mem_append_right (fp v t) hb
            have hm1 : ∀ b, b ∈ fp v t → b ∈ fps (sv (v :: vs)) (se (t :: ts)) := fun b hb => List.mem_append_left _ hb
            obtain ⟨a, b⟩ := ih h2 m sl2 fun b hb => dis b (hm b hb)
            have hn := (movs_none h2 (i := i) (List.getElem?_set_self hi)).2 ts
            obtain ⟨w, hw, r⟩ := sl.rep 0 t rfl
            cases hw
            obtain ⟨a2, b2⟩ := a.put hn q r fun x hx hc => by
              rcases b x hc with z | z
              · exact dd x hx z
              · exact dis x (hm1 x hx) z
            refine ⟨a2, fun x hx => ?_⟩
            rcases b2 x hx with z | z
            · exact .inl (hm1 x z)
            · exact (b x z).imp (hm x) id
/-- the callee's slots, its answer last -/
theorem prim_call {W : WX} {np : Nat} {fn : List S → FO} : PrimOk T W (fun σ vs H Q => spD T np fn vs H Q fun c dx H' => W c dx σ H') (pCall np fn) := by
  intro G H σ e τ τ1 u u1 rs vs Q md hl hr q
  unfold pCall at q
  cases h1 : Fv.movs e rs with
  | none => rw [h1] at q; exact q.elim
  | some p =>
    obtain ⟨ss, e1⟩ := p
    rw [h1] at q
    simp only at q
    split at q
    · rename_i hlen
      obtain ⟨a, b, c, d⟩ := hr.movs md hl h1
      refine ⟨G, ss, hlen, a, ?_⟩
      cases hf : fn ss with
      | no => rw [hf] at q; exact q
      | ex x ss' =>
        rw [hf] at q
        intro cc dx G' H' ev sl rx
        have b' : Md T G' H' σ e1 τ u := ⟨b.l1, b.l2, b.sl.frame ev sl.sub fun x hx hc => (c x hc).1 hx⟩
        have dis' : ∀ x ∈ fps (sv vs) (se ss'), x ∉ As σ e1 τ u := fun x hx hc => by
          rcases ev.own x hx with z | z
          · exact (c x z).1 hc
          · obtain ⟨_, o, ho⟩ := b.sl.own x hc
            rw [z] at ho; cases ho
        obtain ⟨m2, s2⟩ := hr.puts h1 b' sl dis'
        refine q G' H' cc dx ⟨ev.mono, fun x o hx hn => ev.keep x o hx fun hc => hn (c x hc).2, fun x hx => ?_, fun x o hx => (ev.frz x o hx).imp id (Or.imp (fun z => (c x z).2) id)⟩ m2 rx
        rcases s2 x hx with z | z
        · exact (ev.own x z).imp (fun z => (c x z).2) id
        · exact .inl (d x z)
      | ok s ss' =>
        rw [hf] at q
        intro v G' H' ev sl
        have b' : Md T G' H' σ e1 τ u := ⟨b.l1, b.l2, b.sl.frame ev sl.sub fun x hx hc => (c x hc).1 hx⟩
        have sl1 : Sl T G' H' (sv vs ++ sv [v]) (se ss' ++ se [s]) := by
          have := sl
          rw [sv_app, se_app] at this
          exact this
        have hl2 : (sv vs).length = (se ss').length := by have := sl1.len; simp only [List.length_append, List.length_map, List.length_cons, List.length_nil] at this; simp only [List.length_map]; omega
        have fpe : fps (sv (vs ++ [v])) (se (ss' ++ [s])) = fps (sv vs) (se ss') ++ fp v s := by
          rw [sv_app, se_app, fps_append _ _ hl2]
          show _ ++ (fp v s ++ []) = _
          rw [List.append_nil]
        have slA := sl1.left hl2
        have disA := sl1.dis hl2
        obtain ⟨w, hw, r⟩ := (sl1.right hl2).rep 0 s rfl
        cases hw
        have own' : ∀ x, x ∈ fps (sv (vs ++ [v])) (se (ss' ++ [s])) → x ∉ As σ e1 τ u := fun x hx hc => by
          rcases ev.own x hx with z | z
          · exact (c x z).1 hc
          · obtain ⟨_, o, ho⟩ := b.sl.own x hc
            rw [z] at ho; cases ho
        obtain ⟨m2, s2⟩ := hr.puts h1 b' slA fun x hx => own' x (by rw [fpe]; exact List.mem_append_left _ hx)
        have m3 := m2.push r fun x hx hc => by
          rcases s2 x hc with z | z
          · exact disA x z (by show x ∈ fp v s ++ []; rw [List.append_nil]; exact hx)
          · exact own' x (by rw [fpe]; exact List.mem_append_right _ hx) z
        refine q G' H' v [v] [s] ⟨ev.mono, fun x o hx hn => ev.keep x o hx fun hc => hn (c x hc).2, fun x hx => ?_, fun x o hx => (ev.frz x o hx).imp id (Or.imp (fun z => (c x z).2) id)⟩ m3 (.vl .nil)
        have up : ∀ x, x ∈ fps (sv (vs ++ [v])) (se (ss' ++ [s])) → x ∈ As σ e (τ ++ τ1) (u ++ u1) ∨ H x = none := fun x hx => (ev.own x hx).imp (fun z => (c x z).2) id
        rcases (As_push m2.l1 hl x).mp hx with z | z
        · rcases s2 x z with z | z
          · exact up x (by rw [fpe]; exact List.mem_append_left _ z)
          · exact .inl (d x z)
        · exact up x (by rw [fpe]; exact List.mem_append_right _ z)
    · exact q.elim
end
end Fv

namespace Fv
open PySem PySem.Spec PyProof.Rows L2

inductive Fl where
  | nx (e : En)
  | rt (s : S) (e : En)
  | bk (e : En)
  | ct (e : En)
  | ex (x : Xn) (e : En)
  | no
/-- the slots at p are as they were -/
def Keeps (p : Nat → Bool) (σ σ' : SV) : Prop := ∀ i, p i = true → σ'[i]? = σ[i]?
theorem Keeps.refl {p : Nat → Bool} {σ : SV} : Keeps p σ σ := fun _ _ => rfl
theorem Keeps.trans {p : Nat → Bool} {σ σ1 σ2 : SV} (a : Keeps p σ σ1) (b : Keeps p σ1 σ2) : Keeps p σ σ2 := fun i h => (b i h).trans (a i h)
theorem Keeps.set {p : Nat → Bool} {σ : SV} {i : Nat} {x : Option V} (h : p i = false) : Keeps p σ (σ.set i x) := fun j hj => by
  by_cases e : i = j
  · subst e; rw [h] at hj; cases hj
  · rw [List.getElem?_set_ne e]
section
variable (T : Tb) (W : WX) (p : Nat → Bool)
def PostS (Dn : Ends) (G H : Hp) (σ : SV) (A : List Addr) (o : Fl) : Prop :=
  match o with
  | .nx e' => ∀ (σ' : SV) (G' H' : Hp), Evo G H A G' H' (fps σ' e') → Sl T G' H' σ' e' → σ'.length = σ.length → Keeps p σ σ' → Dn.nx σ' H'
  | .bk e' => ∀ (σ' : SV) (G' H' : Hp), Evo G H A G' H' (fps σ' e') → Sl T G' H' σ' e' → σ'.length = σ.length → Keeps p σ σ' → Dn.bk σ' H'
  | .ct e' => ∀ (σ' : SV) (G' H' : Hp), Evo G H A G' H' (fps σ' e') → Sl T G' H' σ' e' → σ'.length = σ.length → Keeps p σ σ' → Dn.ct σ' H'
  | .rt s e' => ∀ (σ' : SV) (v : V) (G' H' : Hp), Evo G H A G' H' (fps (σ' ++ [some v]) (e' ++ [some s])) → Sl T G' H' (σ' ++ [some v]) (e' ++ [some s]) → σ'.length = σ.length → Keeps p σ σ' → Dn.rt v H'
  | .ex x e' => ∀ (σ' : SV) (c : Value) (dx : Option Addr) (G' H' : Hp), Evo G H A G' H' (fps σ' e') → Sl T G' H' σ' e' → σ'.length = σ.length → Keeps p σ σ' → RepX T G' c dx x → W c dx σ' H'
  | .no => False
def tS (m : En → Fl) : TS := fun Dn σ H => ∃ (G : Hp) (e : En), Sl T G H σ e ∧ PostS T W p Dn G H σ (fps σ e) (m e)
/-- a target, given the thing -/
def PostG (G H : Hp) (σ : SV) (A : List Addr) (o : Fl) (Q : SV → Hp → Prop) : Prop :=
  match o with
  | .nx e' => ∀ (σ' : SV) (G' H' : Hp), Evo G H A G' H' (fps σ' e') → Sl T G' H' σ' e' → σ'.length = σ.length → Keeps p σ σ' → Q σ' H'
  | .ex x e' => ∀ (σ' : SV) (c : Value) (dx : Option Addr) (G' H' : Hp), Evo G H A G' H' (fps σ' e') → Sl T G' H' σ' e' → σ'.length = σ.length → Keeps p σ σ' → RepX T G' c dx x → W c dx σ' H'
  | _ => False
def tG (m : S → En → Fl) : TG := fun v σ H Q => ∃ (G : Hp) (e : En) (s : S), σ.length = e.length ∧ Sl T G H (σ ++ [some v]) (e ++ [some s]) ∧ PostG T W p G H σ (fps (σ ++ [some v]) (e ++ [some s])) (m s e) Q
end
section
variable {T : Tb} {W : WX} {p : Nat → Bool} {Dn : Ends} {G H G1 H1 : Hp} {σ σ1 : SV} {A A1 : List Addr}
theorem PostS.after {o : Fl} (q : PostS T W p Dn G H σ A o) (E : Evo G H A G1 H1 A1) (hl : σ1.length = σ.length) (k : Keeps p σ σ1) : PostS T W p Dn G1 H1 σ1 A1 o := by
  cases o with
  | nx e => exact fun σ' G' H' ev sl l kp => q σ' G' H' (E.trans ev) sl (l.trans hl) (k.trans kp)
  | bk e => exact fun σ' G' H' ev sl l kp => q σ' G' H' (E.trans ev) sl (l.trans hl) (k.trans kp)
  | ct e => exact fun σ' G' H' ev sl l kp => q σ' G' H' (E.trans ev) sl (l.trans hl) (k.trans kp)
  | rt s e => exact fun σ' v G' H' ev sl l kp => q σ' v G' H' (E.trans ev) sl (l.trans hl) (k.trans kp)
  | ex x e => exact fun σ' c dx G' H' ev sl l kp => q σ' c dx G' H' (E.trans ev) sl (l.trans hl) (k.trans kp)
  | no => exact q
theorem Sl.md {e : En} (x : Sl T G H σ e) : Md T G H σ e [] [] := ⟨x.len, rfl, by simpa using x⟩
theorem Md.sl0 {e : En} (x : Md T G H σ e [] []) : Sl T G H σ e := by simpa using x.sl
theorem As_nil {e : En} : As σ e [] [] = fps σ e := by simp [As]
theorem Md.base {e : En} {τ : List V} {u : List S} (x : Md T G H σ e τ u) : Sl T G H σ e := x.sl.left x.l1
theorem As_base {e : En} {τ : List V} {u : List S} (h : σ.length = e.length) : ∀ b ∈ fps σ e, b ∈ As σ e τ u := fun b hb => by
  unfold As
  rw [fps_append _ _ h]
  exact List.mem_append_left _ hb

/-! ### blocks -/
def sNil : En → Fl := .nx
def sCons (a b : En → Fl) : En → Fl := fun e =>
  match a e with
  | .nx e1 => b e1
  | o => o
theorem tS_nil {Dn : Ends} : tS T W p sNil Dn σ H → Dn.nx σ H := fun ⟨G, e, sl, q⟩ => q σ G H .refl sl rfl .refl
theorem tS_cons {a b : En → Fl} {Dn : Ends} : tS T W p (sCons a b) Dn σ H → tSeq (tS T W p a) (tS T W p b) Dn σ H := by
  rintro ⟨G, e, sl, q⟩
  refine ⟨G, e, sl, ?_⟩
  unfold sCons at q
  cases ha : a e with
  | nx e1 =>
    rw [ha] at q
    exact fun σ1 G1 H1 ev sl1 l k => ⟨G1, e1, sl1, q.after ev l k⟩
  | rt s e1 => rw [ha] at q; exact q
  | bk e1 => rw [ha] at q; exact q
  | ct e1 => rw [ha] at q; exact q
  | ex x e1 => rw [ha] at q; exact q
  | no => rw [ha] at q; exact q
/-- what hangs on an expression's thing: the thing is let go -/
theorem tE_stmt {m : En → Ou R} {Q : VK} {f : R → En → Fl} {e : En} (sl : Sl T G H σ e)
    (q : PostS T W p Dn G H σ (fps σ e) (match m e with | .ok r e1 => f r e1 | .ex x e1 => .ex x e1 | .no => .no))
    (h : ∀ {G1 H1 : Hp} {r : R} {v : V} {e1 : En} {τ : List V} {u : List S}, Md T G1 H1 σ e1 τ u → HR σ [r] [v] τ u → PostS T W p Dn G1 H1 σ (As σ e1 τ u) (f r e1) → Q v H1) : tE T W m σ H Q := by
  refine ⟨G, e, [], [], sl.md, ?_⟩
  cases hm : m e with
  | no => rw [hm] at q; exact q
  | ex x e1 =>
    rw [hm] at q
    exact fun G1 H1 c dx ev md rx => q σ c dx G1 H1 (by rw [As_nil, As_nil] at ev; exact ev) md.sl0 rfl .refl rx
  | ok r e1 =>
    rw [hm] at q
    intro G1 H1 v τ u ev md hr
    simp only [List.nil_append] at ev md
    exact h md hr (q.after (by rw [As_nil] at ev; exact ev) rfl .refl)
theorem tB_stmt {α : Type} {m : En → Ou α} {Q : α → Hp → Prop} {f : α → En → Fl} {e : En} (sl : Sl T G H σ e)
    (q : PostS T W p Dn G H σ (fps σ e) (match m e with | .ok r e1 => f r e1 | .ex x e1 => .ex x e1 | .no => .no))
    (h : ∀ {G1 H1 : Hp} {r : α} {e1 : En}, Sl T G1 H1 σ e1 → PostS T W p Dn G1 H1 σ (fps σ e1) (f r e1) → Q r H1) : tB T W m σ H Q := by
  refine ⟨G, e, [], [], sl.md, ?_⟩
  cases hm : m e with
  | no => rw [hm] at q; exact q
  | ex x e1 =>
    rw [hm] at q
    exact fun G1 H1 c dx ev md rx => q σ c dx G1 H1 (by rw [As_nil, As_nil] at ev; exact ev) md.sl0 rfl .refl rx
  | ok r e1 =>
    rw [hm] at q
    intro G1 H1 ev md
    exact h md.sl0 (q.after (by rw [As_nil, As_nil] at ev; exact ev) rfl .refl)
def sExpr (m : En → Ou R) : En → Fl := fun e =>
  match m e with
  | .ok _ e1 => .nx e1
  | .ex x e1 => .ex x e1
  | .no => .no
theorem tS_expr {m : En → Ou R} : tS T W p (sExpr m) Dn σ H → tDrop (tE T W m) Dn σ H := by
  rintro ⟨G, e, sl, q⟩
  refine tE_stmt (Dn := Dn) (p := p) (f := fun _ e1 => .nx e1) sl q fun {G1 H1 r v e1 τ u} md hr q => ?_
  exact q σ G1 H1 (Evo.refl.less (As_base md.l1)) md.base rfl .refl
/-- return: a list of one's own goes on to be the caller's; a parameter's is frozen -/
def sRet (np : Nat) (m : En → Ou R) : En → Fl := fun e =>
  match m e with
  | .ok (.vl s) e1 => .rt s e1
  | .ok (.pl i) e1 => match e1[i]? with
    | some (some s) => if i < np then .rt (.fr s.d) (e1.set i (some (.fr s.d))) else .rt s (e1.set i none)
    | _ => .no
  | .ex x e1 => .ex x e1
  | .no => .no
def fRet (np : Nat) : R → En → Fl
  | .vl s, e1 => .rt s e1
  | .pl i, e1 => match e1[i]? with
    | some (some s) => if i < np then .rt (.fr s.d) (e1.set i (some (.fr s.d))) else .rt s (e1.set i none)
    | _ => .no
theorem tS_ret {np : Nat} {m : En → Ou R} : tS T W p (sRet np m) Dn σ H → tRet (tE T W m) Dn σ H := by
  rintro ⟨G, e, sl, q⟩
  refine tE_stmt (Dn := Dn) (p := p) (f := fRet np) sl ?_ fun {G1 H1 r v e1 τ u} md hr q => ?_
  · unfold sRet at q
    revert q
    cases m e with
    | ok r e1 => cases r <;> exact id
    | ex x e1 => exact id
    | no => exact id
  · cases hr with
    | vl hn =>
      cases hn
      exact q σ v G1 H1 Evo.refl (by simpa using md.sl) rfl .refl
    | pl hv hn =>
      cases hn
      rename_i i
      have q : PostS T W p Dn G1 H1 σ (As σ e1 [] []) (match e1[i]? with | some (some s) => if i < np then .rt (.fr s.d) (e1.set i (some (.fr s.d))) else .rt s (e1.set i none) | _ => .no) := q
      cases he : e1[i]? with
      | none => rw [he] at q; exact q.elim
      | some y => cases y with
        | none => rw [he] at q; exact q.elim
        | some s =>
          rw [he] at q
          simp only at q
          split at q
          · obtain ⟨G2, w, ev, m2, hw, r⟩ := md.freezeVar he
            rw [hv] at hw; cases hw
            have m3 := m2.push (RepO.fr r) (by rw [fp_fr]; simp)
            refine q σ v G2 H1 (ev.less fun b hb => ?_) (by simpa using m3.sl) rfl .refl
            have : b ∈ As σ (e1.set i (some (.fr s.d))) ([] ++ [v]) ([] ++ [.fr s.d]) := by simpa [As] using hb
            rcases (As_push m2.l1 rfl b).mp this with z | z
            · exact z
            · rw [fp_fr] at z; simp at z
          · have hi : i < e1.length := (List.getElem?_eq_some_iff.mp he).1
            obtain ⟨w, hw, r⟩ := md.var he
            rw [hv] at hw; cases hw
            have od := md.outDis he hv
            have m3 := (md.out hi).push r fun b hb => (od b hb).2
            refine q σ v G1 H1 (Evo.refl.less fun b hb => ?_) (by simpa using m3.sl) rfl .refl
            have : b ∈ As σ (e1.set i none) ([] ++ [v]) ([] ++ [s]) := by simpa [As] using hb
            rcases (As_push (md.out hi).l1 rfl b).mp this with z | z
            · exact As_set_sub hi b z
            · exact (od b z).1
def sRetN : En → Fl := fun e => .rt (.fr .non) e
theorem tS_retN : tS T W p sRetN Dn σ H → Dn.rt .non H := by
  rintro ⟨G, e, sl, q⟩
  have m := sl.md.push (v := .non) (s := .fr .non) (.fr .non) (by simp [fp])
  refine q σ .non G H (Evo.refl.less fun b hb => ?_) (by simpa using m.sl) rfl .refl
  have : b ∈ As σ e ([] ++ [.non]) ([] ++ [.fr .non]) := by simpa [As] using hb
  rcases (As_push sl.len rfl b).mp this with z | z
  · rw [As_nil] at z; exact z
  · simp [fp] at z
def sIf (t : En → Ou Bool) (a b : En → Fl) : En → Fl := fun e =>
  match t e with
  | .ok true e1 => a e1
  | .ok false e1 => b e1
  | .ex x e1 => .ex x e1
  | .no => .no
theorem tS_if {t : En → Ou Bool} {a b : En → Fl} : tS T W p (sIf t a b) Dn σ H → tIfS (tB T W t) (tS T W p a) (tS T W p b) Dn σ H := by
  rintro ⟨G, e, sl, q⟩
  refine tB_stmt (Dn := Dn) (p := p) (f := fun k e1 => if k = true then a e1 else b e1) sl ?_ fun {G1 H1 k e1} sl1 q => ?_
  · unfold sIf at q
    revert q
    cases t e with
    | ok k e1 => cases k <;> exact id
    | ex x e1 => exact id
    | no => exact id
  · cases k with
    | true => exact ⟨G1, e1, sl1, q⟩
    | false => exact ⟨G1, e1, sl1, q⟩

/-! ### targets -/
def gNm (i : Nat) : S → En → Fl := fun s e => if i < e.length then .nx (e.set i (some s)) else .no
/-- a slot filled with the thing at hand -/
theorem Sl.store {e : En} {v : V} {s : S} (sl : Sl T G H (σ ++ [some v]) (e ++ [some s])) (hl : σ.length = e.length) {i : Nat} (hi : i < e.length) :
    Sl T G H (σ.set i (some v)) (e.set i (some s)) ∧ ∀ b ∈ fps (σ.set i (some v)) (e.set i (some s)), b ∈ fps (σ ++ [some v]) (e ++ [some s]) := by
  obtain ⟨w, hw, r⟩ := (sl.right hl).rep 0 s rfl
  cases hw
  have sub := fps_sub (σ := σ) (e := e) (i := i)
  refine ⟨((sl.left hl).out i).put hi r fun b hb hc => sl.dis hl b (sub b hc) (by show b ∈ fp v s ++ []; rw [List.append_nil]; exact hb), fun b hb => ?_⟩
  rw [fps_append _ _ hl]
  rcases (fps_set_mem hi hl b).mp hb with z | z
  · exact List.mem_append_right _ (by show b ∈ fp v s ++ []; rw [List.append_nil]; exact z)
  · exact List.mem_append_left _ (sub b z)
theorem tG_name {i : Nat} (hp : p i = false) {v : V} {Q : SV → Hp → Prop} : tG T W p (gNm i) v σ H Q → gName i v σ H Q := by
  rintro ⟨G, e, s, hl, sl, q⟩
  unfold gNm at q
  split at q
  · rename_i hi
    obtain ⟨a, b⟩ := sl.store hl hi
    exact q _ G H (Evo.refl.less b) a (by simp) (.set hp)
  · exact q.elim
/-- target = value -/
def own1 (e : En) : R → Option (S × En)
  | .vl s => some (s, e)
  | .pl i => match e[i]? with
    | some (some s) => some (.fr s.d, e.set i (some (.fr s.d)))
    | _ => none
def sAsg (g : S → En → Fl) (m : En → Ou R) : En → Fl := fun e =>
  match m e with
  | .ok r e1 => match own1 e1 r with
    | some (s, e2) => g s e2
    | none => .no
  | .ex x e1 => .ex x e1
  | .no => .no
/-- the thing at hand, as one's own -/
theorem Md.own1 {r : R} {v : V} {e e2 : En} {s : S} {τ : List V} {u : List S} (md : Md T G H σ e τ u) (hr : HR σ [r] [v] τ u) (h : Fv.own1 e r = some (s, e2)) :
    ∃ G', Evo G H (As σ e τ u) G' H (fps (σ ++ [some v]) (e2 ++ [some s])) ∧ Sl T G' H (σ ++ [some v]) (e2 ++ [some s]) ∧ σ.length = e2.length := by
  cases hr with
  | vl hn =>
    cases hn
    cases h
    exact ⟨G, .refl, by simpa using md.sl, md.l1⟩
  | pl hv hn =>
    cases hn
    rename_i i
    simp only [Fv.own1] at h
    cases he : e[i]? with
    | none => rw [he] at h; cases h
    | some y => cases y with
      | none => rw [he] at h; cases h
      | some t =>
        rw [he] at h; cases h
        obtain ⟨G2, w, ev, m2, hw, r⟩ := md.freezeVar he
        rw [hv] at hw; cases hw
        have m3 := m2.push (RepO.fr r) (by rw [fp_fr]; simp)
        refine ⟨G2, ev.less fun b hb => ?_, by simpa using m3.sl, m2.l1⟩
        have : b ∈ As σ (e.set i (some (.fr t.d))) ([] ++ [v]) ([] ++ [.fr t.d]) := by simpa [As] using hb
        rcases (As_push m2.l1 rfl b).mp this with z | z
        · exact z
        · rw [fp_fr] at z; simp at z
/-- what a target asks, of what a statement asks -/
def PostS.g {Dn : Ends} {o : Fl} (q : PostS T W p Dn G H σ A o) (h : (∃ e, o = .nx e) ∨ (∃ x e, o = .ex x e) ∨ o = .no) : PostG T W p G H σ A o Dn.nx := by
  rcases h with ⟨e, rfl⟩ | ⟨x, e, rfl⟩ | rfl
  · exact q
  · exact q
  · exact q
/-- goes on, raises or is stuck -/
def GoG (g : S → En → Fl) : Prop := ∀ s e, (∃ e', g s e = .nx e') ∨ (∃ x e', g s e = .ex x e') ∨ g s e = .no
theorem GoG.nm {i : Nat} : GoG (gNm i) := fun s e => by
  unfold gNm
  split
  · exact .inl ⟨_, rfl⟩
  · exact .inr (.inr rfl)
theorem tS_asg {g : S → En → Fl} (hg : GoG g) {m : En → Ou R} : tS T W p (sAsg g m) Dn σ H → tAsg (tE T W m) (tG T W p g) Dn σ H := by
  rintro ⟨G, e, sl, q⟩
  refine tE_stmt (Dn := Dn) (p := p) (f := fun r e1 => match Fv.own1 e1 r with | some (s, e2) => g s e2 | none => .no) sl q fun {G1 H1 r v e1 τ u} md hr q => ?_
  have q : PostS T W p Dn G1 H1 σ (As σ e1 τ u) (match Fv.own1 e1 r with | some (s, e2) => g s e2 | none => .no) := q
  cases ho : Fv.own1 e1 r with
  | none => rw [ho] at q; exact q.elim
  | some z =>
    obtain ⟨s, e2⟩ := z
    rw [ho] at q
    obtain ⟨G2, ev, sl2, hl2⟩ := md.own1 hr ho
    exact ⟨G2, e2, s, hl2, sl2, (q.after ev rfl .refl).g (hg s e2)⟩
/-- several targets: the items of a tuple, one after another -/
def gAll : List (S → En → Fl) → List D → En → Fl
  | [], [], e => .nx e
  | g :: gs, d :: ds, e => match g (.fr d) e with
    | .nx e1 => gAll gs ds e1
    | o => o
  | _, _, _ => .no
def gTupF (gs : List (S → En → Fl)) : S → En → Fl := fun s e =>
  match s with
  | .fr (.tup ds) => if ds.length = gs.length then gAll gs ds e else .no
  | .fr (.lst ds) => if ds.length = gs.length then gAll gs ds e else .no
  | .ol ds => if ds.length = gs.length then gAll gs ds e else .no
  | _ => .no
def tGs (T : Tb) (W : WX) (p : Nat → Bool) (gs : List (S → En → Fl)) : TGs := fun vs σ H Q => ∃ (G : Hp) (e : En) (ds : List D), Sl T G H σ e ∧ RepFs T G vs ds ∧ PostG T W p G H σ (fps σ e) (gAll gs ds e) Q
theorem PostG.after {o : Fl} {Q : SV → Hp → Prop} (q : PostG T W p G H σ A o Q) (E : Evo G H A G1 H1 A1) (hl : σ1.length = σ.length) (k : Keeps p σ σ1) : PostG T W p G1 H1 σ1 A1 o Q := by
  cases o with
  | nx e => exact fun σ' G' H' ev sl l kp => q σ' G' H' (E.trans ev) sl (l.trans hl) (k.trans kp)
  | ex x e => exact fun σ' c dx G' H' ev sl l kp => q σ' c dx G' H' (E.trans ev) sl (l.trans hl) (k.trans kp)
  | _ => exact q
theorem tGs_nil {vs : List V} {Q : SV → Hp → Prop} : tGs T W p [] vs σ H Q → gNil vs σ H Q := by
  rintro ⟨G, e, ds, sl, r, q⟩
  cases ds with
  | nil => cases r; exact ⟨rfl, q σ G H .refl sl rfl .refl⟩
  | cons d ds => exact q.elim
theorem tGs_cons {g : S → En → Fl} {gs : List (S → En → Fl)} (hg : GoG g) {vs : List V} {Q : SV → Hp → Prop} : tGs T W p (g :: gs) vs σ H Q → gCons (tG T W p g) (tGs T W p gs) vs σ H Q := by
  rintro ⟨G, e, ds, sl, r, q⟩
  cases r with
  | nil => exact q.elim
  | @cons v vs d ds r1 r =>
    refine ⟨v, vs, rfl, G, e, .fr d, sl.len, ?_, ?_⟩
    · have := (sl.md.push (RepO.fr r1) (by rw [fp_fr]; simp)).sl
      simpa using this
    · unfold gAll at q
      have eA : fps (σ ++ [some v]) (e ++ [some (.fr d)]) = fps σ e := by
        rw [fps_append _ _ sl.len]
        show _ ++ (fp v (.fr d) ++ []) = _
        rw [fp_fr, List.append_nil, List.append_nil]
      rw [eA]
      rcases hg (.fr d) e with ⟨e1, h1⟩ | ⟨x, e1, h1⟩ | h1
      · rw [h1] at q ⊢
        exact fun σ1 G1 H1 ev sl1 l k => ⟨G1, e1, ds, sl1, r.mono ev.mono, PostG.after q ev l k⟩
      · rw [h1] at q ⊢; exact q
      · rw [h1] at q; exact q.elim
theorem GoG.all {gs : List (S → En → Fl)} (h : ∀ g ∈ gs, GoG g) : ∀ {ds : List D} {e : En}, (∃ e', gAll gs ds e = .nx e') ∨ (∃ x e', gAll gs ds e = .ex x e') ∨ gAll gs ds e = .no := by
  induction gs with
  | nil => intro ds e; cases ds with
    | nil => exact .inl ⟨e, rfl⟩
    | cons _ _ => exact .inr (.inr rfl)
  | cons g gs ih =>
    intro ds e
    cases ds with
    | nil => exact .inr (.inr rfl)
    | cons d ds =>
      unfold gAll
      rcases h g (by simp) (.fr d) e with ⟨e1, h1⟩ | ⟨x, e1, h1⟩ | h1
      · rw [h1]; exact ih (fun g' hg' => h g' (by simp [hg']))
      · rw [h1]; exact .inr (.inl ⟨x, e1, rfl⟩)
      · rw [h1]; exact .inr (.inr rfl)
theorem GoG.tup {gs : List (S → En → Fl)} (h : ∀ g ∈ gs, GoG g) : GoG (gTupF gs) := fun s e => by
  unfold gTupF
  split
  all_goals first
    | exact .inr (.inr rfl)
    | (split
       · exact GoG.all h
       · exact .inr (.inr rfl))
end
end Fv

namespace Fv
open PySem PySem.Spec PyProof.Rows L2

/-! ### while -/
def whN (t : En → Ou Bool) (b : En → Fl) : Nat → En → Fl
  | 0, _ => .no
  | n + 1, e => match t e with
    | .ok true e1 => match b e1 with
      | .nx e2 => whN t b n e2
      | .ct e2 => whN t b n e2
      | .bk e2 => .nx e2
      | .rt s e2 => .rt s e2
      | .ex x e2 => .ex x e2
      | .no => .no
    | .ok false e1 => .nx e1
    | .ex x e1 => .ex x e1
    | .no => .no
theorem whN_mono {t : En → Ou Bool} {b : En → Fl} : ∀ {n : Nat} {e : En}, whN t b n e ≠ .no → whN t b (n + 1) e = whN t b n e
  | 0, _, h => absurd rfl h
  | n + 1, e, h => by
    unfold whN at h ⊢
    cases ht : t e with
    | no => rfl
    | ex x e1 => rfl
    | ok k e1 =>
      cases k with
      | false => rfl
      | true =>
        rw [ht] at h
        simp only at h ⊢
        cases hb : b e1 with
        | nx e2 => rw [hb] at h; exact whN_mono h
        | ct e2 => rw [hb] at h; exact whN_mono h
        | bk e2 => rfl
        | rt s e2 => rfl
        | ex x e2 => rfl
        | no => rfl
theorem whN_le {t : En → Ou Bool} {b : En → Fl} {n : Nat} {e : En} (h : whN t b n e ≠ .no) : ∀ k, whN t b (n + k) e = whN t b n e
  | 0 => rfl
  | k + 1 => by
    have ih := whN_le h k
    rw [← Nat.add_assoc, whN_mono (by rw [ih]; exact h), ih]
open Classical in
noncomputable def sWh (t : En → Ou Bool) (b : En → Fl) (e : En) : Fl := if h : ∃ n, whN t b n e ≠ .no then whN t b (choose h) e else .no
theorem sWh_of {t : En → Ou Bool} {b : En → Fl} {n : Nat} {e : En} {o : Fl} (h : whN t b n e = o) (ho : o ≠ .no) : sWh t b e = o := by
  have hx : ∃ n, whN t b n e ≠ .no := ⟨n, by rw [h]; exact ho⟩
  unfold sWh
  rw [dif_pos hx]
  have hc := Classical.choose_spec hx
  rcases Nat.le_total n (Classical.choose hx) with hl | hl
  · obtain ⟨k, hk⟩ := Nat.le.dest hl
    rw [← hk, whN_le (by rw [h]; exact ho), h]
  · obtain ⟨k, hk⟩ := Nat.le.dest hl
    have := whN_le hc k
    rw [hk, h] at this
    exact this.symm
theorem sWh_get {t : En → Ou Bool} {b : En → Fl} {e : En} (h : sWh t b e ≠ .no) : ∃ n, whN t b n e = sWh t b e := by
  unfold sWh at h ⊢
  split at h
  · rename_i hx; exact ⟨_, by rw [dif_pos hx]⟩
  · exact absurd rfl h
theorem whN_ne {t : En → Ou Bool} {b : En → Fl} {e : En} (h : sWh t b e = .no) (n : Nat) : whN t b n e = .no := by
  by_cases hc : whN t b n e = .no
  · exact hc
  · rw [sWh_of rfl hc] at h; exact h
/-- one turn -/
theorem sWh_eq (t : En → Ou Bool) (b : En → Fl) (e : En) : sWh t b e = (match t e with
    | .ok true e1 => match b e1 with
      | .nx e2 => sWh t b e2
      | .ct e2 => sWh t b e2
      | .bk e2 => .nx e2
      | .rt s e2 => .rt s e2
      | .ex x e2 => .ex x e2
      | .no => .no
    | .ok false e1 => .nx e1
    | .ex x e1 => .ex x e1
    | .no => .no) := by
  have step : ∀ (n : Nat), whN t b (n + 1) e = (match t e with
    | .ok true e1 => match b e1 with
      | .nx e2 => whN t b n e2
      | .ct e2 => whN t b n e2
      | .bk e2 => .nx e2
      | .rt s e2 => .rt s e2
      | .ex x e2 => .ex x e2
      | .no => .no
    | .ok false e1 => .nx e1
    | .ex x e1 => .ex x e1
    | .no => .no) := fun n => rfl
  cases ht : t e with
  | no =>
    by_cases hc : sWh t b e = .no
    · exact hc
    · obtain ⟨n, hn⟩ := sWh_get hc
      cases n with
      | zero => exact hn.symm
      | succ n => rw [step, ht] at hn; exact hn.symm
  | ex x e1 => exact sWh_of (n := 1) (by rw [step, ht]) (by simp)
  | ok k e1 =>
    cases k with
    | false => exact sWh_of (n := 1) (by rw [step, ht]) (by simp)
    | true =>
      have go : ∀ e2, (∀ n, whN t b (n + 1) e = whN t b n e2) → sWh t b e = sWh t b e2 := fun e2 he => by
        by_cases hc : sWh t b e2 = .no
        · rw [hc]
          by_cases hc2 : sWh t b e = .no
          · exact hc2
          · obtain ⟨n, hn⟩ := sWh_get hc2
            cases n with
            | zero => exact hn.symm
            | succ n => rw [he, whN_ne hc] at hn; exact hn.symm
        · obtain ⟨n, hn⟩ := sWh_get hc
          exact sWh_of (n := n + 1) (by rw [he]; exact hn) hc
      cases hb : b e1 with
      | nx e2 => simp only [hb]; exact go e2 fun n => by rw [step, ht]; simp only [hb]
      | ct e2 => simp only [hb]; exact go e2 fun n => by rw [step, ht]; simp only [hb]
      | bk e2 => simp only [hb]; exact sWh_of (n := 1) (by rw [step, ht]; simp only [hb]) (by simp)
      | rt s e2 => simp only [hb]; exact sWh_of (n := 1) (by rw [step, ht]; simp only [hb]) (by simp)
      | ex x e2 => simp only [hb]; exact sWh_of (n := 1) (by rw [step, ht]; simp only [hb]) (by simp)
      | no =>
        simp only [hb]
        by_cases hc : sWh t b e = .no
        · exact hc
        · obtain ⟨n, hn⟩ := sWh_get hc
          cases n with
          | zero => exact hn.symm
          | succ n => rw [step, ht] at hn; simp only [hb] at hn; exact hn.symm
section
variable {T : Tb} {W : WX} {p : Nat → Bool} {Dn : Ends} {G H : Hp} {σ : SV}
theorem tS_while {t : En → Ou Bool} {b : En → Fl} : tS T W p (sWh t b) Dn σ H → tWhile (tB T W t) (tS T W p b) Dn σ H := by
  rintro ⟨G, e, sl, q⟩
  have hn : sWh t b e ≠ .no := fun z => by rw [z] at q; exact q
  obtain ⟨n, hn⟩ := sWh_get hn
  refine ⟨fun m σ H => tS T W p (whN t b m) Dn σ H, ⟨n, G, e, sl, by rw [hn]; exact q⟩, ?_⟩
  rintro m σ H ⟨G, e, sl, q⟩
  cases m with
  | zero => exact q.elim
  | succ m =>
    refine tB_stmt (Dn := Dn) (p := p) (f := fun k e1 => if k = true then (match b e1 with
      | .nx e2 => whN t b m e2
      | .ct e2 => whN t b m e2
      | .bk e2 => .nx e2
      | .rt s e2 => .rt s e2
      | .ex x e2 => .ex x e2
      | .no => .no) else .nx e1) sl ?_ fun {G1 H1 k e1} sl1 q => ?_
    · unfold whN at q
      revert q
      cases t e with
      | ok k e1 => cases k <;> exact id
      | ex x e1 => exact id
      | no => exact id
    · cases k with
      | false => exact q σ G1 H1 .refl sl1 rfl .refl
      | true =>
        rw [if_pos rfl] at q ⊢
        refine ⟨fun σ' H' => tS T W p (whN t b m) Dn σ' H', fun σ' H' h => ⟨m, Nat.lt_succ_self m, h⟩, G1, e1, sl1, ?_⟩
        cases hb : b e1 with
        | nx e2 => rw [hb] at q; exact fun σ' G' H' ev sl2 l k => ⟨G', e2, sl2, q.after ev l k⟩
        | ct e2 => rw [hb] at q; exact fun σ' G' H' ev sl2 l k => ⟨G', e2, sl2, q.after ev l k⟩
        | bk e2 => rw [hb] at q; exact q
        | rt s e2 => rw [hb] at q; exact q
        | ex x e2 => rw [hb] at q; exact q
        | no => rw [hb] at q; exact q

/-! ### what is walked -/
structure WalkOk (T : Tb) (G : Hp) (J : It) (ds : List D) : Prop where
  go : ∀ (i : Nat) (d : D) (G' H' : Hp), Sub G G' → Sub G' H' → ds[i]? = some d → J.go i H' ∧ ∀ x H2, J.yld i H' x H2 → ∃ G2, Grow G' H' G2 H2 ∧ RepF T G2 x d
  stop : ∀ (i : Nat) (G' H' : Hp), Sub G G' → Sub G' H' → ds.length ≤ i → J.stop i H'
def tI (T : Tb) (W : WX) (m : En → Ou (List D)) : TI := fun σ H R => ∃ (G : Hp) (e : En) (τ : List V) (u : List S), Md T G H σ e τ u ∧
  match m e with
  | .ok ds e' => ∀ (G' H' : Hp) (J : It), Evo G H (As σ e τ u) G' H' (As σ e' τ u) → Md T G' H' σ e' τ u → WalkOk T G' J ds → R J H'
  | .ex x e' => ∀ (G' H' : Hp) (c : Value) (dx : Option Addr), Evo G H (As σ e τ u) G' H' (As σ e' τ u) → Md T G' H' σ e' τ u → RepX T G' c dx x → W c dx σ H'
  | .no => False
theorem WalkOk.list {a : Addr} {xs : List V} {ds : List D} (hq : SqL T.K G a xs) (r : RepFs T G xs ds) : WalkOk T G (Itl T.K a) ds := by
  refine ⟨fun i d G' H' s1 s2 hd => ?_, fun i G' H' s1 s2 hl => ⟨xs, (s1.trans s2).sqL hq, by rw [r.length]; exact hl⟩⟩
  obtain ⟨x, hx, rx⟩ := r.get hd
  refine ⟨⟨xs, x, (s1.trans s2).sqL hq, hx⟩, fun y H2 ⟨e1, e2⟩ => ?_⟩
  subst e1
  have := e2 xs ((s1.trans s2).sqL hq)
  rw [hx] at this; cases this
  exact ⟨G', .refl s2, rx.mono s1⟩
theorem WalkOk.tup {a : Addr} {xs : List V} {ds : List D} (hq : SqT T.K G a xs) (r : RepFs T G xs ds) : WalkOk T G (Itt T.K a) ds := by
  refine ⟨fun i d G' H' s1 s2 hd => ?_, fun i G' H' s1 s2 hl => ⟨xs, (s1.trans s2).sqT hq, by rw [r.length]; exact hl⟩⟩
  obtain ⟨x, hx, rx⟩ := r.get hd
  refine ⟨⟨xs, x, (s1.trans s2).sqT hq, hx⟩, fun y H2 ⟨e1, e2⟩ => ?_⟩
  subst e1
  have := e2 xs ((s1.trans s2).sqT hq)
  rw [hx] at this; cases this
  exact ⟨G', .refl s2, rx.mono s1⟩
def rngD (lo : Int) (n : Nat) : List D := (List.range n).map fun k => D.int (lo + (k : Nat))
theorem WalkOk.rng {lo : Int} {n : Nat} : WalkOk T G (Itr lo n) (rngD lo n) := by
  refine ⟨fun i d G' H' s1 s2 hd => ?_, fun i G' H' s1 s2 hl => by show n ≤ i; simpa [rngD] using hl⟩
  have hi : i < n := by
    have := (List.getElem?_eq_some_iff.mp hd).1
    simpa [rngD] using this
  refine ⟨hi, fun y H2 ⟨e1, e2⟩ => ?_⟩
  subst e1 e2
  have : d = .int (lo + (i : Nat)) := by
    have := hd
    simp [rngD, hi] at this
    exact this.symm
  subst this
  exact ⟨G', .refl s2, .int _⟩
def strD (x : Str) : List D := x.cps.toList.map fun c => D.str ⟨#[c]⟩
theorem WalkOk.str {x : Str} : WalkOk T G (Its x) (strD x) := by
  refine ⟨fun i d G' H' s1 s2 hd => ?_, fun i G' H' s1 s2 hl => by show x.cps.size ≤ i; simpa [strD] using hl⟩
  have hi : i < x.cps.size := by
    have := (List.getElem?_eq_some_iff.mp hd).1
    simpa [strD] using this
  refine ⟨hi, fun y H2 ⟨e1, c, e2, e3⟩ => ?_⟩
  subst e1 e3
  have : d = .str ⟨#[c]⟩ := by
    have := hd
    simp [strD] at this
    obtain ⟨c', h1, h2⟩ := this
    rw [e2] at h1; cases h1
    exact h2.symm
  subst this
  exact ⟨G', .refl s2, .str _⟩
def enumD (i : Nat) : List D → List D
  | [] => []
  | d :: ds => .tup [.int (i : Nat), d] :: enumD (i + 1) ds
theorem enumD_length : ∀ (ds : List D) (i : Nat), (enumD i ds).length = ds.length
  | [], _ => rfl
  | _ :: ds, i => by simp [enumD, enumD_length ds]
theorem enumD_get : ∀ (ds : List D) (i j : Nat) (d : D), (enumD i ds)[j]? = some d → ∃ d', ds[j]? = some d' ∧ d = .tup [.int ((i + j : Nat) : Int), d']
  | [], _, _, _, h => by simp [enumD] at h
  | a :: ds, i, 0, d, h => by simp [enumD] at h; exact ⟨a, rfl, h.symm⟩
  | a :: ds, i, j + 1, d, h => by
    obtain ⟨d', h1, h2⟩ := enumD_get ds (i + 1) j d (by simpa [enumD] using h)
    exact ⟨d', by simpa using h1, by rw [h2]; congr 4; omega⟩
theorem pair_new {G' H' : Hp} (s2 : Sub G' H') {t : Addr} {x y : V} {d d' : D} (ht : H' t = none) (rx : RepF T G' x d) (ry : RepF T G' y d') : ∃ G2, Grow G' H' G2 (upd H' t (.tup [x, y])) ∧ RepF T G2 (.ref t) (.tup [d, d']) := by
  have hm : Sub G' (upd G' t (.tup [x, y])) := .upd_none (s2.none ht)
  exact ⟨upd G' t (.tup [x, y]), .frozen s2 ht, .tup (.of upd_same) (.cons (rx.mono hm) (.cons (ry.mono hm) .nil))⟩
theorem WalkOk.enum {a : Addr} {xs : List V} {ds : List D} (hq : SqL T.K G a xs) (r : RepFs T G xs ds) : WalkOk T G (Ite T.K a) (enumD 0 ds) := by
  refine ⟨fun i d G' H' s1 s2 hd => ?_, fun i G' H' s1 s2 hl => ⟨xs, (s1.trans s2).sqL hq, by rw [r.length]; rw [enumD_length] at hl; exact hl⟩⟩
  obtain ⟨d', h1, rfl⟩ := enumD_get ds 0 i d hd
  obtain ⟨x, hx, rx⟩ := r.get h1
  refine ⟨⟨xs, x, (s1.trans s2).sqL hq, hx⟩, fun y H2 ⟨t, x', e1, e2, e3, e4⟩ => ?_⟩
  have := e4 xs ((s1.trans s2).sqL hq)
  rw [hx] at this; cases this
  subst e1 e3
  rw [Nat.zero_add]
  exact pair_new s2 e2 (.int _) (rx.mono s1)
def zipD : List D → List D → List D
  | a :: as, b :: bs => .tup [a, b] :: zipD as bs
  | _, _ => []
theorem zipD_get : ∀ (as bs : List D) (j : Nat) (d : D), (zipD as bs)[j]? = some d → ∃ a b, as[j]? = some a ∧ bs[j]? = some b ∧ d = .tup [a, b]
  | [], _, _, _, h => by simp [zipD] at h
  | _ :: _, [], _, _, h => by simp [zipD] at h
  | a :: as, b :: bs, 0, d, h => by simp [zipD] at h; exact ⟨a, b, rfl, rfl, h.symm⟩
  | a :: as, b :: bs, j + 1, d, h => by
    obtain ⟨x, y, h1, h2, h3⟩ := zipD_get as bs j d (by simpa [zipD] using h)
    exact ⟨x, y, by simpa using h1, by simpa using h2, h3⟩
theorem zipD_length : ∀ (as bs : List D), (zipD as bs).length = min as.length bs.length
  | [], _ => by simp [zipD]
  | _ :: _, [] => by simp [zipD]
  | _ :: as, _ :: bs => by simp [zipD, zipD_length as bs, Nat.add_min_add_right]
theorem WalkOk.zip {a b : Addr} {xs ys : List V} {ds es : List D} (hq : SqL T.K G a xs) (r : RepFs T G xs ds) (hq2 : SqL T.K G b ys) (r2 : RepFs T G ys es) : WalkOk T G (Itz T.K a b) (zipD ds es) := by
  refine ⟨fun i d G' H' s1 s2 hd => ?_, fun i G' H' s1 s2 hl => ⟨xs, ys, (s1.trans s2).sqL hq, (s1.trans s2).sqL hq2, by rw [r.length, r2.length]; rw [zipD_length] at hl; omega⟩⟩
  obtain ⟨d1, d2, h1, h2, rfl⟩ := zipD_get ds es i d hd
  obtain ⟨x, hx, rx⟩ := r.get h1
  obtain ⟨y, hy, ry⟩ := r2.get h2
  refine ⟨⟨xs, ys, x, y, (s1.trans s2).sqL hq, (s1.trans s2).sqL hq2, hx, hy⟩, fun z H2 ⟨t, x', y', e1, e2, e3, e4, e5⟩ => ?_⟩
  have := e4 xs ((s1.trans s2).sqL hq)
  rw [hx] at this; cases this
  have := e5 ys ((s1.trans s2).sqL hq2)
  rw [hy] at this; cases this
  subst e1 e3
  exact pair_new s2 e2 (rx.mono s1) (ry.mono s1)
theorem WalkOk.zipT {a b : Addr} {xs ys : List V} {ds es : List D} (hq : SqT T.K G a xs) (r : RepFs T G xs ds) (hq2 : SqT T.K G b ys) (r2 : RepFs T G ys es) : WalkOk T G (RZ.ItzT T.K a b) (zipD ds es) := by
  refine ⟨fun i d G' H' s1 s2 hd => ?_, fun i G' H' s1 s2 hl => ⟨xs, ys, (s1.trans s2).sqT hq, (s1.trans s2).sqT hq2, by rw [r.length, r2.length]; rw [zipD_length] at hl; omega⟩⟩
  obtain ⟨d1, d2, h1, h2, rfl⟩ := zipD_get ds es i d hd
  obtain ⟨x, hx, rx⟩ := r.get h1
  obtain ⟨y, hy, ry⟩ := r2.get h2
  refine ⟨⟨xs, ys, x, y, (s1.trans s2).sqT hq, (s1.trans s2).sqT hq2, hx, hy⟩, fun z H2 ⟨t, x', y', e1, e2, e3, e4, e5⟩ => ?_⟩
  have := e4 xs ((s1.trans s2).sqT hq)
  rw [hx] at this; cases this
  have := e5 ys ((s1.trans s2).sqT hq2)
  rw [hy] at this; cases this
  subst e1 e3
  exact pair_new s2 e2 (rx.mono s1) (ry.mono s1)

/-! ### for -/
def forL (g : S → En → Fl) (b : En → Fl) : List D → En → Fl
  | [], e => .nx e
  | d :: ds, e => match g (.fr d) e with
    | .nx e1 => match b e1 with
      | .nx e2 => forL g b ds e2
      | .ct e2 => forL g b ds e2
      | .bk e2 => .nx e2
      | .rt s e2 => .rt s e2
      | .ex x e2 => .ex x e2
      | .no => .no
    | .ex x e1 => .ex x e1
    | _ => .no
def sFor (it : En → Ou (List D)) (g : S → En → Fl) (b : En → Fl) : En → Fl := fun e =>
  match it e with
  | .ok ds e1 => forL g b ds e1
  | .ex x e1 => .ex x e1
  | .no => .no
theorem tS_for {it : En → Ou (List D)} {g : S → En → Fl} (hg : GoG g) {b : En → Fl} : tS T W p (sFor it g b) Dn σ H → tFor (tI T W it) (tG T W p g) (tS T W p b) Dn σ H := by
  rintro ⟨G, e, sl, q⟩
  refine ⟨G, e, [], [], sl.md, ?_⟩
  unfold sFor at q
  cases hi : it e with
  | no => rw [hi] at q; exact q
  | ex x e1 =>
    rw [hi] at q
    exact fun G1 H1 c dx ev md rx => q σ c dx G1 H1 (by rw [As_nil, As_nil] at ev; exact ev) md.sl0 rfl .refl rx
  | ok ds e1 =>
    rw [hi] at q
    intro G1 H1 J ev md wk
    rw [As_nil, As_nil] at ev
    have q : PostS T W p Dn G1 H1 σ (fps σ e1) (forL g b ds e1) := PostS.after q ev rfl .refl
    refine ⟨fun i m σ H => ∃ G e, Sub G1 G ∧ Sl T G H σ e ∧ m = ds.length - i ∧ i ≤ ds.length ∧ PostS T W p Dn G H σ (fps σ e) (forL g b (ds.drop i) e),
      ⟨ds.length, G1, e1, .refl _, md.sl0, by simp, Nat.zero_le _, q⟩, ?_⟩
    rintro i m σ H ⟨G, e, sg, sl, rfl, hle, q⟩
    by_cases hlt : i < ds.length
    · have hd : ds[i]? = some ds[i] := List.getElem?_eq_getElem hlt
      obtain ⟨go, yl⟩ := wk.go i _ G H sg sl.sub hd
      refine .inr ⟨go, fun σ' H' => ∃ G e, Sub G1 G ∧ Sl T G H' σ' e ∧ PostS T W p Dn G H' σ' (fps σ' e) (forL g b (ds.drop (i + 1)) e), fun σ' H' ⟨G, e, a, b, c⟩ => ⟨ds.length - (i + 1), by omega, G, e, a, b, rfl, hlt, c⟩, fun x H2 hy => ?_⟩
      obtain ⟨G2, gr, rx⟩ := yl x H2 hy
      have md2 : Md T G2 H2 σ e [] [] := sl.md.grow gr
      have e0 : forL g b (ds.drop i) e = (match g (.fr ds[i]) e with
        | .nx e1 => match b e1 with
          | .nx e2 => forL g b (ds.drop (i + 1)) e2
          | .ct e2 => forL g b (ds.drop (i + 1)) e2
          | .bk e2 => .nx e2
          | .rt s e2 => .rt s e2
          | .ex x e2 => .ex x e2
          | .no => .no
        | .ex x e1 => .ex x e1
        | _ => .no) := by rw [List.drop_eq_getElem_cons hlt]; rfl
      rw [e0] at q
      have q := q.after (gr.evo _) rfl .refl
      refine ⟨G2, e, .fr ds[i], sl.len, ?_, ?_⟩
      · have := (md2.push (RepO.fr rx) (by rw [fp_fr]; simp)).sl
        simpa using this
      · have eA : fps (σ ++ [some x]) (e ++ [some (.fr ds[i])]) = fps σ e := by
          rw [fps_append _ _ sl.len]
          show _ ++ (fp x (.fr ds[i]) ++ []) = _
          rw [fp_fr, List.append_nil, List.append_nil]
        rw [eA]
        rcases hg (.fr ds[i]) e with ⟨e3, h1⟩ | ⟨x3, e3, h1⟩ | h1
        · rw [h1] at q ⊢
          intro σ3 G3 H3 ev3 sl3 l3 k3
          have q : PostS T W p Dn G3 H3 σ3 (fps σ3 e3) (match b e3 with
            | .nx e2 => forL g b (ds.drop (i + 1)) e2
            | .ct e2 => forL g b (ds.drop (i + 1)) e2
            | .bk e2 => .nx e2
            | .rt s e2 => .rt s e2
            | .ex x e2 => .ex x e2
            | .no => .no) := PostS.after q ev3 l3 k3
          refine ⟨G3, e3, sl3, ?_⟩
          have sg3 : Sub G1 G3 := (sg.trans gr.mono).trans ev3.mono
          cases hb : b e3 with
          | nx e4 => rw [hb] at q; exact fun σ' G' H' ev sl4 l k => ⟨G', e4, sg3.trans ev.mono, sl4, PostS.after q ev l k⟩
          | ct e4 => rw [hb] at q; exact fun σ' G' H' ev sl4 l k => ⟨G', e4, sg3.trans ev.mono, sl4, PostS.after q ev l k⟩
          | bk e4 => rw [hb] at q; exact q
          | rt s e4 => rw [hb] at q; exact q
          | ex x e4 => rw [hb] at q; exact q
          | no => rw [hb] at q; exact q
        · rw [h1] at q ⊢; exact q
        · rw [h1] at q; exact q.elim
    · have : i = ds.length := by omega
      subst this
      refine .inl ⟨wk.stop _ G H sg sl.sub (Nat.le_refl _), ?_⟩
      rw [List.drop_length] at q
      exact q σ G H .refl sl rfl .refl

/-! ### sources -/
/-- a list, a tuple, a text -/
def seqD : D → Option (List D)
  | .lst ds => some ds
  | .tup ds => some ds
  | .str x => some (strD x)
  | _ => none
def mSeq (m : En → Ou R) : En → Ou (List D) := fun e =>
  match m e with
  | .ok r e1 => match frz1 e1 r with
    | some (d, e2) => match seqD d with
      | some ds => .ok ds e2
      | none => .no
    | none => .no
  | .ex x e1 => .ex x e1
  | .no => .no
theorem frz1_ok {e e1 : En} {r : R} {v : V} {d : D} {τ τ1 : List V} {u u1 : List S} (md : Md T G H σ e (τ ++ τ1) (u ++ u1)) (hl : τ.length = u.length) (hr : HR σ [r] [v] τ1 u1) (h : frz1 e r = some (d, e1)) :
    ∃ G', Evo G H (As σ e (τ ++ τ1) (u ++ u1)) G' H (As σ e1 τ u) ∧ Md T G' H σ e1 τ u ∧ RepF T G' v d := by
  have z : frzs e [r] = some ([d], e1) := by simp [frzs, h]
  obtain ⟨G', u1', ev, m1, rs⟩ := hr.freeze md hl z
  cases rs with
  | cons a _ => exact ⟨G', ev.less (As_drop m1.l1 hl), m1.dropT hl, a⟩
end
section
variable {X : Cx} {T : Tb} {W : WX} {tg l : Expr} {ml : En → Ou R}
def iSeq (K : PySem.W.Frag) (tl : TE) : TI := fun σ H R => tl σ H fun x H1 => (∃ a, x = .ref a ∧ (∃ xs, SqL K H1 a xs) ∧ R (Itl K a) H1) ∨ (∃ a, x = .ref a ∧ (∃ xs, SqT K H1 a xs) ∧ R (Itt K a) H1) ∨ ∃ z, x = .str z ∧ R (Its z) H1
theorem pi_seq {tl : TE} (hl : PE X l tl) : PI X tg l (iSeq X.K tl) := by
  refine ⟨fun pins s σ H R I h => ?_⟩
  refine thn (hl.run pins s σ H _ I h) fun v s1 ⟨x, H1, I1, r1, q1⟩ => ?_
  rcases q1 with ⟨a, e, ⟨xs, hq⟩, q⟩ | ⟨a, e, ⟨xs, hq⟩, q⟩ | ⟨z, e, q⟩
  · subst e
    cases r1
    obtain ⟨its, rv, p, hz⟩ := I1.list hq
    refine wpAny_pyIter_list p.isList ?_
    refine ⟨s1.heap.objs.size, [s1.heap.objs.size], _, _, H1, rfl, I1.kept (t' := s1.toks) fun b o e => Heap.get?_push_of_some _ e, turn_list a _, ⟨_, Heap.get?_push_size _ rfl, rfl, rfl⟩, fun b hb => ?_, q⟩
    have e : b = s1.heap.objs.size := by simpa using hb
    subst e
    exact I1.fpOk (Nat.le_refl _) (I1.hok.fresh (Nat.le_refl _))
  · subst e
    cases r1
    obtain ⟨its, rv, p, hz⟩ := I1.tuple hq
    refine wpAny_pyIter_tuple (show s1.heap.IsTuple a its.toArray from p) ?_
    refine ⟨s1.heap.objs.size, [s1.heap.objs.size], _, _, H1, rfl, I1.kept (t' := s1.toks) fun b o e => Heap.get?_push_of_some _ e, turn_tuple a _, ⟨_, Heap.get?_push_size _ rfl, rfl, rfl⟩, fun b hb => ?_, q⟩
    have e : b = s1.heap.objs.size := by simpa using hb
    subst e
    exact I1.fpOk (Nat.le_refl _) (I1.hok.fresh (Nat.le_refl _))
  · subst e
    obtain ⟨t, rfl⟩ := r1
    cases ha : z.cps.all (· < 128)
    · exact wpAny_pyIter_wide ha (pi_one (tk := s1.toks) I1 _ (turn_str _ z t "str_iterator" (.inr rfl)) ⟨_, Heap.get?_push_size _ rfl, rfl, rfl⟩ q)
    · exact wpAny_pyIter_ascii ha (pi_one (tk := s1.toks) I1 _ (turn_str _ z t "str_ascii_iterator" (.inl rfl)) ⟨_, Heap.get?_push_size _ rfl, rfl, rfl⟩ q)
theorem PI.imp {tg iter : Expr} {t t' : TI} (h : PI X tg iter t) (k : ∀ σ H R, t' σ H R → t σ H R) : PI X tg iter t' := ⟨fun pins s σ H R I q => h.run pins s σ H R I (k σ H R q)⟩
theorem pi_seqF (hK : T.K = X.K) (hl : PE X l (tE T W ml)) : PI X tg l (tI T W (mSeq ml)) := PI.imp (pi_seq hl) fun σ H R h => by
  obtain ⟨G, e, τ, u, md, q⟩ := h
  refine ⟨G, e, τ, u, md, ?_⟩
  unfold mSeq at q
  cases hm : ml e with
  | no => rw [hm] at q; exact q
  | ex x e1 => rw [hm] at q; exact q
  | ok r e1 =>
    rw [hm] at q
    intro G1 H1 v τ1 u1 ev1 md1 hr1
    simp only at q
    cases hf : frz1 e1 r with
    | none => rw [hf] at q; exact q.elim
    | some z =>
      obtain ⟨d, e2⟩ := z
      rw [hf] at q
      simp only at q
      obtain ⟨G2, ev2, md2, rd⟩ := frz1_ok md1 md.l2 hr1 hf
      cases hs : seqD d with
      | none => rw [hs] at q; exact q.elim
      | some ds =>
        rw [hs] at q
        have q' := fun J => q G2 H1 J (ev1.trans ev2) md2
        rw [← hK]
        cases rd with
        | tup h1 k1 => cases hs; exact .inr (.inl ⟨_, rfl, ⟨_, md2.sl.sub.sqT h1.sq⟩, q' _ (.tup h1.sq k1)⟩)
        | lst h1 k1 => cases hs; exact .inl ⟨_, rfl, ⟨_, md2.sl.sub.sqL h1⟩, q' _ (.list h1 k1)⟩
        | str x => cases hs; exact .inr (.inr ⟨x, rfl, q' _ .str⟩)
        | _ => cases hs
/-- range -/
def rngOf : List D → Option (List D)
  | [.int j] => if -(2 ^ 62) ≤ j ∧ j < 2 ^ 62 then some (rngD 0 j.toNat) else none
  | [.int i, .int j] => if -(2 ^ 62) ≤ i ∧ i < 2 ^ 62 ∧ -(2 ^ 62) ≤ j ∧ j < 2 ^ 62 then some (rngD i (j - i).toNat) else none
  | _ => none
def mPs (f : List D → Option (List D)) (ms : En → Ou (List R)) : En → Ou (List D) := fun e =>
  match ms e with
  | .ok rs e1 => match frzs e1 rs with
    | some (ds, e2) => match f ds with
      | some l => .ok l e2
      | none => .no
    | none => .no
  | .ex x e1 => .ex x e1
  | .no => .no
/-- a source of handed things -/
theorem tI_args {ms : En → Ou (List R)} {f : List D → Option (List D)} {σ : SV} {H : Hp} {R' : It → Hp → Prop} : tI T W (mPs f ms) σ H R' → tEs T W ms σ H fun vs H1 => ∃ G1 ds l, Sub G1 H1 ∧ RepFs T G1 vs ds ∧ f ds = some l ∧ ∀ J, WalkOk T G1 J l → R' J H1 := by
  rintro ⟨G, e, τ, u, md, q⟩
  refine ⟨G, e, τ, u, md, ?_⟩
  unfold mPs at q
  cases hm : ms e with
  | no => rw [hm] at q; exact q
  | ex x e1 => rw [hm] at q; exact q
  | ok rs e1 =>
    rw [hm] at q
    intro G1 H1 vs τ1 u1 ev1 md1 hr1
    simp only at q
    cases hf : frzs e1 rs with
    | none => rw [hf] at q; exact q.elim
    | some z =>
      obtain ⟨ds, e2⟩ := z
      rw [hf] at q
      simp only at q
      cases hl : f ds with
      | none => rw [hl] at q; exact q.elim
      | some l =>
        rw [hl] at q
        obtain ⟨G2, u1', ev2, m2, rs2⟩ := hr1.freeze md1 md.l2 hf
        exact ⟨G2, ds, l, m2.sl.sub, rs2, hl, fun J wk => q G2 H1 J (ev1.trans (ev2.less (As_drop m2.l1 md.l2))) (m2.dropT md.l2) wk⟩
theorem repFs1 {G : Hp} {vs : List V} {d : D} (r : RepFs T G vs [d]) : ∃ v, vs = [v] ∧ RepF T G v d := by
  cases r with
  | cons a b => cases b; exact ⟨_, rfl, a⟩
theorem repFs2 {G : Hp} {vs : List V} {d d' : D} (r : RepFs T G vs [d, d']) : ∃ v w, vs = [v, w] ∧ RepF T G v d ∧ RepF T G w d' := by
  cases r with
  | cons a b => cases b with
    | cons b c => cases c; exact ⟨_, _, rfl, a, b⟩
section
variable {ms : En → Ou (List R)} {a b : Expr} {p pos : Pos}
theorem pi_rng1F (hg : Gl X "range") (hm : X.mg "range" = none) (ha : PA X [a] (tEs T W ms)) (hs : starEach [a] X.env = [(false, eval a X.env)]) : PI X tg (.Call (.Name "range" p) [a] [] pos) (tI T W (mPs (fun ds => if ds.length = 1 then rngOf ds else none) ms)) :=
  PI.imp (pi_range1 hg hm ha hs) fun σ H R h => tEs.mono (fun vs H1 ⟨G1, ds, l, hsub, r, hf, k⟩ => by
    split at hf
    · unfold rngOf at hf
      split at hf
      · split at hf
        · rename_i _ j _ hj
          cases hf
          obtain ⟨v, rfl, rv⟩ := repFs1 r
          cases rv
          exact ⟨j, rfl, hj.1, hj.2, k _ .rng⟩
        · cases hf
      · rename_i h1; simp at h1
      · cases hf
    · cases hf) (tI_args h)
theorem pi_rng2F (hg : Gl X "range") (hm : X.mg "range" = none) (ha : PA X [a, b] (tEs T W ms)) (hs : starEach [a, b] X.env = [(false, eval a X.env), (false, eval b X.env)]) (hs2 : starEach [b] X.env = [(false, eval b X.env)]) :
    PI X tg (.Call (.Name "range" p) [a, b] [] pos) (tI T W (mPs (fun ds => if ds.length = 2 then rngOf ds else none) ms)) :=
  PI.imp (pi_range2 hg hm ha hs hs2) fun σ H R h => tEs.mono (fun vs H1 ⟨G1, ds, l, hsub, r, hf, k⟩ => by
    split at hf
    · unfold rngOf at hf
      split at hf
      · rename_i h1; simp at h1
      · split at hf
        · rename_i _ i j _ hj
          cases hf
          obtain ⟨v, w, rfl, rv, rw'⟩ := repFs2 r
          cases rv
          cases rw'
          exact ⟨i, j, rfl, hj, k _ .rng⟩
        · cases hf
      · cases hf
    · cases hf) (tI_args h)
def enumOf : List D → Option (List D)
  | [.lst ds] => some (enumD 0 ds)
  | _ => none
theorem pi_enumF {elts : List Expr} {kk : Nat} {tpos : Pos} (hK : T.K = X.K) (hg : Gl X "enumerate") (hm : X.mg "enumerate" = none) (ha : PA X [a] (tEs T W ms)) (hs : starEach [a] X.env = [(false, eval a X.env)]) : PI X (.Tuple elts kk tpos) (.Call (.Name "enumerate" p) [a] [] pos) (tI T W (mPs enumOf ms)) :=
  PI.imp (pi_enum hg hm ha hs) fun σ H R h => tEs.mono (fun vs H1 ⟨G1, ds, l, hsub, r, hf, k⟩ => by
    unfold enumOf at hf
    split at hf
    · cases hf
      obtain ⟨v, rfl, rv⟩ := repFs1 r
      cases rv with
      | lst h1 k1 => rw [← hK]; exact ⟨_, _, rfl, hsub.sqL h1, k _ (.enum h1 k1)⟩
    · cases hf) (tI_args h)
def zipOf : List D → Option (List D)
  | [.lst ds, .lst es] => some (zipD ds es)
  | [.tup ds, .tup es] => some (zipD ds es)
  | _ => none
theorem pi_zipF {elts : List Expr} {kk : Nat} {tpos : Pos} (hK : T.K = X.K) (hg : Gl X "zip") (hm : X.mg "zip" = none) (ha : PA X [a, b] (tEs T W ms)) (hs : starEach [a, b] X.env = (false, eval a X.env) :: starEach [b] X.env) (hpl : (backTo pos (starEach [b] X.env)).any (·.1) = false) :
    PI X (.Tuple elts kk tpos) (.Call (.Name "zip" p) [a, b] [] pos) (tI T W (mPs zipOf ms)) :=
  PI.imp (RZ.pi_zipA hg hm ha hs hpl) fun σ H R h => tEs.mono (fun vs H1 ⟨G1, ds, l, hsub, r, hf, k⟩ => by
    unfold zipOf at hf
    split at hf
    · cases hf
      obtain ⟨v, w, rfl, rv, rw'⟩ := repFs2 r
      cases rv with
      | lst h1 k1 => cases rw' with
        | lst h2 k2 => rw [← hK]; exact ⟨_, _, _, _, rfl, .inl ⟨hsub.sqL h1, hsub.sqL h2, k _ (.zip h1 k1 h2 k2)⟩⟩
    · cases hf
      obtain ⟨v, w, rfl, rv, rw'⟩ := repFs2 r
      cases rv with
      | tup h1 k1 => cases rw' with
        | tup h2 k2 => rw [← hK]; exact ⟨_, _, _, _, rfl, .inr ⟨hsub.sqT h1.sq, hsub.sqT h2.sq, k _ (.zipT h1.sq k1 h2.sq k2)⟩⟩
    · cases hf) (tI_args h)
end
end
end Fv

namespace Fv
open PySem PySem.Spec PyProof.Rows L2

/-! ### comprehensions -/
def wipeE (e : En) : List Nat → En
  | [] => e
  | v :: vs => (wipeE e vs).set v none
def backE (e0 e : En) : List Nat → En
  | [] => e
  | v :: vs => (backE e0 e vs).set v (e0[v]?).join
def okW (e : En) (vs : List Nat) : Bool := vs.all fun v => match e[v]? with
  | some none => true
  | some (some (.fr _)) => true
  | _ => false
def lcL (g : S → En → Fl) (t : En → Ou Bool) (m : En → Ou R) (vs : List Nat) : List D → En → List D → Option (List D × En)
  | [], e, acc => some (acc, e)
  | d :: ds, e, acc => match g (.fr d) e with
    | .nx e1 => match t e1 with
      | .ok true e2 => match m e2 with
        | .ok r e3 => match frz1 e3 r with
          | some (x, e4) => lcL g t m vs ds (wipeE e4 vs) (acc ++ [x])
          | none => none
        | _ => none
      | .ok false e2 => lcL g t m vs ds (wipeE e2 vs) acc
      | _ => none
    | _ => none
def bLc (it : En → Ou (List D)) (g : S → En → Fl) (t : En → Ou Bool) (m : En → Ou R) (vs : List Nat) : En → Ou R := fun e =>
  match it e with
  | .ok ds e1 => if okW e1 vs = true ∧ ds.length < 16777216 then
      match lcL g t m vs ds (wipeE e1 vs) [] with
      | some (acc, e2) => .ok (.vl (.ol acc)) (backE e1 e2 vs)
      | none => .no
    else .no
  | .ex x e1 => .ex x e1
  | .no => .no
abbrev WF : WX := fun _ _ _ _ => False
abbrev pC (vs : List Nat) : Nat → Bool := fun i => !vs.contains i
theorem wipe_get {σ : SV} : ∀ {vs : List Nat} {i : Nat}, (wipe σ vs)[i]? = if i ∈ vs ∧ i < σ.length then some none else σ[i]?
  | [], i => by simp [wipe]
  | v :: vs, i => by
    show ((wipe σ vs).set v none)[i]? = _
    by_cases h : v = i
    · subst h
      by_cases hl : v < σ.length
      · rw [List.getElem?_set_self (by rw [wipe_length]; exact hl), if_pos ⟨by simp, hl⟩]
      · rw [if_neg (fun z => hl z.2), List.getElem?_eq_none (by rw [List.length_set, wipe_length]; omega), List.getElem?_eq_none (by omega)]
    · rw [List.getElem?_set_ne h, wipe_get]
      by_cases h2 : i ∈ vs ∧ i < σ.length
      · rw [if_pos h2, if_pos ⟨by simp [h2.1], h2.2⟩]
      · rw [if_neg h2, if_neg (fun z => h2 ⟨by
          rcases List.mem_cons.mp z.1 with q | q
          · exact absurd q.symm h
          · exact q, z.2⟩)]
theorem wipe_ext {σ σ' : SV} {vs : List Nat} (hl : σ'.length = σ.length) (h : ∀ i, i ∉ vs → σ'[i]? = σ[i]?) : wipe σ' vs = wipe σ vs := by
  apply List.ext_getElem?
  intro i
  rw [wipe_get, wipe_get, hl]
  by_cases hi : i ∈ vs
  · by_cases h2 : i < σ.length
    · rw [if_pos ⟨hi, h2⟩, if_pos ⟨hi, h2⟩]
    · rw [if_neg (fun z => h2 z.2), if_neg (fun z => h2 z.2), List.getElem?_eq_none (by omega), List.getElem?_eq_none (by omega)]
  · rw [if_neg (fun z => hi z.1), if_neg (fun z => hi z.1), h i hi]
theorem wipe_idem {σ : SV} {vs : List Nat} : wipe (wipe σ vs) vs = wipe σ vs := wipe_ext (wipe_length σ vs) fun i hi => by rw [wipe_get, if_neg (fun z => hi z.1)]
theorem wipeE_length (e : En) : ∀ vs : List Nat, (wipeE e vs).length = e.length
  | [] => rfl
  | v :: vs => by show ((wipeE e vs).set v none).length = _; rw [List.length_set, wipeE_length]
theorem wipeE_get {e : En} : ∀ {vs : List Nat} {i : Nat}, (wipeE e vs)[i]? = if i ∈ vs ∧ i < e.length then some none else e[i]?
  | [], i => by simp [wipeE]
  | v :: vs, i => by
    show ((wipeE e vs).set v none)[i]? = _
    by_cases h : v = i
    · subst h
      by_cases hl : v < e.length
      · rw [List.getElem?_set_self (by rw [wipeE_length]; exact hl), if_pos ⟨by simp, hl⟩]
      · rw [if_neg (fun z => hl z.2), List.getElem?_eq_none (by rw [List.length_set, wipeE_length]; omega), List.getElem?_eq_none (by omega)]
    · rw [List.getElem?_set_ne h, wipeE_get]
      by_cases h2 : i ∈ vs ∧ i < e.length
      · rw [if_pos h2, if_pos ⟨by simp [h2.1], h2.2⟩]
      · rw [if_neg h2, if_neg (fun z => h2 ⟨by
          rcases List.mem_cons.mp z.1 with q | q
          · exact absurd q.symm h
          · exact q, z.2⟩)]
section
variable {T : Tb} {G H G' H' : Hp} {σ : SV} {e e' : En} {τ : List V} {u : List S}
theorem fps_set_left {i : Nat} {x : Option V} (h : e[i]? = some none ∨ e[i]? = none) : fps (σ.set i x) e = fps σ e := by
  have he : e.set i none = e := by
    rcases h with h | h
    · obtain ⟨hi, e1⟩ := List.getElem?_eq_some_iff.mp h
      rw [← e1]; exact List.set_getElem_self hi
    · exact List.set_eq_of_length_le (List.getElem?_eq_none_iff.mp h)
  have := fps_none (σ := σ) (e := e) (i := i) x
  rw [he] at this
  exact this
/-- a slot without a thing may hold anything -/
theorem Md.setV (m : Md T G H σ e τ u) {i : Nat} {x : Option V} (h : e[i]? = some none ∨ e[i]? = none) : Md T G H (σ.set i x) e τ u ∧ As (σ.set i x) e τ u = As σ e τ u := by
  have hl : σ.length = e.length := m.l1
  have e1 : ∀ y : SV, (σ.set i x).length = e.length := fun _ => by rw [List.length_set]; exact hl
  have eA : fps (σ.set i x ++ τ.map some) (e ++ u.map some) = fps (σ ++ τ.map some) (e ++ u.map some) := by
    rw [fps_append _ _ (e1 []), fps_append _ _ hl, fps_set_left h]
  refine ⟨⟨e1 [], m.l2, m.sl.sub, by simp only [List.length_append, List.length_set, List.length_map]; have := m.l2; omega, fun j s hj => ?_, by rw [eA]; exact m.sl.nd⟩, eA⟩
  obtain ⟨v, hv, r⟩ := m.sl.rep j s hj
  refine ⟨v, ?_, r⟩
  by_cases hji : j = i
  · subst hji
    by_cases hje : j < e.length
    · rw [List.getElem?_append_left hje] at hj
      rcases h with h | h
      · rw [h] at hj; cases hj
      · rw [h] at hj; cases hj
    · rw [List.set_eq_of_length_le (by omega)]; exact hv
  · by_cases hje : j < σ.length
    · rw [List.getElem?_append_left (by rw [List.length_set]; exact hje), List.getElem?_set_ne (fun z => hji z.symm)]
      rw [List.getElem?_append_left hje] at hv; exact hv
    · rw [List.getElem?_append_right (by rw [List.length_set]; omega), List.length_set]
      rw [List.getElem?_append_right (by omega)] at hv; exact hv
theorem Md.outA (m : Md T G H σ e τ u) (i : Nat) : Md T G H σ (e.set i none) τ u ∧ ∀ b, b ∈ As σ (e.set i none) τ u → b ∈ As σ e τ u := by
  by_cases hi : i < e.length
  · exact ⟨m.out hi, As_set_sub hi⟩
  · rw [List.set_eq_of_length_le (by omega)]; exact ⟨m, fun _ h => h⟩
theorem Md.wipe (m : Md T G H σ e τ u) : ∀ vs : List Nat, Md T G H (L2.wipe σ vs) (wipeE e vs) τ u ∧ ∀ b, b ∈ As (L2.wipe σ vs) (wipeE e vs) τ u → b ∈ As σ e τ u
  | [] => ⟨m, fun _ h => h⟩
  | v :: vs => by
    obtain ⟨a, b⟩ := m.wipe vs
    obtain ⟨c, d⟩ := a.outA v
    have hn : ((wipeE e vs).set v none)[v]? = some none ∨ ((wipeE e vs).set v none)[v]? = none := by
      by_cases hl : v < (wipeE e vs).length
      · exact .inl (List.getElem?_set_self hl)
      · exact .inr (List.getElem?_eq_none (by rw [List.length_set]; omega))
    obtain ⟨f, g⟩ := c.setV (x := none) hn
    refine ⟨f, fun x hx => b x (d x ?_)⟩
    rw [← g]; exact hx
/-- a slot of data put back -/
theorem Md.putF (m : Md T G H σ e τ u) {i : Nat} {v : V} {d : D} (h : e[i]? = some none) (hv : σ[i]? = some (some v)) (r : RepF T G v d) : Md T G H σ (e.set i (some (.fr d))) τ u ∧ ∀ b, b ∈ As σ (e.set i (some (.fr d))) τ u → b ∈ As σ e τ u := by
  obtain ⟨a, b⟩ := m.put h hv (RepO.fr r) (by rw [fp_fr]; simp)
  refine ⟨a, fun x hx => ?_⟩
  rcases b x hx with z | z
  · rw [fp_fr] at z; simp at z
  · exact z
theorem Md.updAt (m : Md T G H σ e τ u) {q : Addr} {o : HO} (hn : q ∉ As σ e τ u) (hg : G q = none) : Md T G (upd H q o) σ e τ u := by
  refine ⟨m.l1, m.l2, m.sl.frame (A := [q]) (A' := []) ⟨.refl _, fun b ob h hb => by rw [upd_ne (by simpa using hb)]; exact h, fun _ h => absurd h (by simp), fun _ _ h => .inl h⟩ (fun b ob h => by
    rw [upd_ne (fun z => by rw [z, hg] at h; cases h)]; exact m.sl.sub b ob h) fun b hb hc => hn (by
    have : b = q := by simpa using hc
    rw [← this]; exact hb)⟩
/-- the names' slots go on, what lies on the way stays -/
theorem Md.step (m : Md T G H σ e τ u) {σ' : SV} (ev : Evo G H (fps σ e) G' H' (fps σ' e')) (sl : Sl T G' H' σ' e') : Md T G' H' σ' e' τ u ∧ Evo G H (As σ e τ u) G' H' (As σ' e' τ u) := by
  have sr := m.sl.right m.l1
  have dis := m.sl.dis m.l1
  have sr' := sr.frame ev sl.sub fun b hb hc => dis b hc hb
  have dis' : ∀ b ∈ fps σ' e', b ∉ fps (τ.map some) (u.map some) := fun b hb hc => by
    rcases ev.own b hb with z | z
    · exact dis b z hc
    · obtain ⟨_, o, ho⟩ := sr.own b hc
      rw [z] at ho; cases ho
  have eA : As σ e τ u = fps σ e ++ fps (τ.map some) (u.map some) := fps_append _ _ m.l1
  have eA' : As σ' e' τ u = fps σ' e' ++ fps (τ.map some) (u.map some) := fps_append _ _ sl.len
  refine ⟨⟨sl.len, m.l2, sl.append sr' dis'⟩, ev.mono, fun b o h hn => ev.keep b o h fun hc => hn (by rw [eA]; exact List.mem_append_left _ hc), fun b hb => ?_, fun b o h => ?_⟩
  · rw [eA'] at hb
    rw [eA]
    rcases List.mem_append.mp hb with z | z
    · exact (ev.own b z).imp (List.mem_append_left _) id
    · exact .inl (List.mem_append_right _ z)
  · rw [eA]
    exact (ev.frz b o h).imp id (Or.imp (List.mem_append_left _) id)
theorem backE_length (e0 e : En) : ∀ vs : List Nat, (backE e0 e vs).length = e.length
  | [] => rfl
  | v :: vs => by show ((backE e0 e vs).set v _).length = _; rw [List.length_set, backE_length]
theorem backE_get_none {e0 e : En} {i : Nat} (h : e[i]? = some none) : ∀ {vs : List Nat}, i ∉ vs → (backE e0 e vs)[i]? = some none
  | [], _ => h
  | v :: vs, hi => by
    show ((backE e0 e vs).set v _)[i]? = _
    rw [List.getElem?_set_ne (fun z => hi (by simp [z]))]
    exact backE_get_none h (fun z => hi (by simp [z]))
/-- the block's own names as they were ahead of it -/
theorem Md.backs {e0 : En} {G0 H0 : Hp} {τ0 : List V} {u0 : List S} (m0 : Md T G0 H0 σ e0 τ0 u0) : ∀ {vs : List Nat}, okW e0 vs = true → (∀ v ∈ vs, e[v]? = some none) → Sub G0 G → Md T G H (L2.wipe σ vs) e τ u → vs.Nodup →
    Md T G H σ (backE e0 e vs) τ u ∧ ∀ b, b ∈ As σ (backE e0 e vs) τ u → b ∈ As (L2.wipe σ vs) e τ u
  | [], _, _, _, m, _ => ⟨m, fun _ h => h⟩
  | v :: vs, ok, hn, hs, m, nd => by
    have ok1 : okW e0 vs = true := by unfold okW at ok ⊢; rw [List.all_cons, Bool.and_eq_true] at ok; exact ok.2
    have ok0 := by unfold okW at ok; rw [List.all_cons, Bool.and_eq_true] at ok; exact ok.1
    have nd2 := List.nodup_cons.mp nd
    have hv : e[v]? = some none := hn v (by simp)
    have hvl : v < e.length := (List.getElem?_eq_some_iff.mp hv).1
    have hσl : σ.length = e.length := by have := m.l1; rw [wipe_length] at this; exact this
    -- the slot's value back
    have ew : (L2.wipe σ (v :: vs)).set v (σ[v]?).join = L2.wipe σ vs := by
      apply List.ext_getElem?
      intro i
      by_cases hi : v = i
      · subst hi
        rw [List.getElem?_set_self (by rw [wipe_length]; omega), wipe_get, if_neg (fun z => nd2.1 z.1)]
        have : v < σ.length := by omega
        rw [List.getElem?_eq_getElem this]; rfl
      · rw [List.getElem?_set_ne hi, wipe_get, wipe_get]
        by_cases h2 : i ∈ vs ∧ i < σ.length
        · rw [if_pos h2, if_pos ⟨by simp [h2.1], h2.2⟩]
        · rw [if_neg h2, if_neg (fun z => h2 ⟨by
            rcases List.mem_cons.mp z.1 with q | q
            · exact absurd q.symm hi
            · exact q, z.2⟩)]
    obtain ⟨m1, eA⟩ := m.setV (i := v) (x := (σ[v]?).join) (.inl hv)
    rw [ew] at m1 eA
    obtain ⟨a, b⟩ := m0.backs (vs := vs) ok1 (fun w hw => hn w (by simp [hw])) hs m1 nd2.2
    have hb : (backE e0 e vs)[v]? = some none := backE_get_none hv nd2.1
    show Md T G H σ ((backE e0 e vs).set v (e0[v]?).join) τ u ∧ _
    cases h0 : e0[v]? with
    | none => rw [h0] at ok0; cases ok0
    | some y => cases y with
      | none =>
        have : (backE e0 e vs).set v none = backE e0 e vs := by
          obtain ⟨hi, e1⟩ := List.getElem?_eq_some_iff.mp hb
          rw [← e1]; exact List.set_getElem_self hi
        show Md T G H σ ((backE e0 e vs).set v none) τ u ∧ ∀ b, b ∈ As σ ((backE e0 e vs).set v (e0[v]?).join) τ u → _
        rw [h0]
        show Md T G H σ ((backE e0 e vs).set v none) τ u ∧ ∀ b, b ∈ As σ ((backE e0 e vs).set v none) τ u → _
        rw [this]
        exact ⟨a, fun x hx => by rw [← eA]; exact b x hx⟩
      | some s => cases s with
        | fr d =>
          obtain ⟨w, hw, r⟩ := m0.var h0
          cases r with
          | fr r =>
            obtain ⟨c, dd⟩ := a.putF hb hw (r.mono hs)
            refine ⟨c, fun x hx => ?_⟩
            rw [← eA]
            refine b x (dd x ?_)
            have hx' : x ∈ As σ ((backE e0 e vs).set v (e0[v]?).join) τ u := hx
            rw [h0] at hx'
            exact hx'
        | _ => rw [h0] at ok0; cases ok0
theorem sizeL' {n : Nat} (h : n < 16777216) : n < sizeLine := by rw [sizeLine_eq]; exact h
theorem tE_lc {W : WX} {it : En → Ou (List D)} {g : S → En → Fl} {t : En → Ou Bool} {m : En → Ou R} {vs : List Nat} (hg : GoG g) (nd : vs.Nodup) {Q : VK} : tE T W (bLc it g t m vs) σ H Q →
    tLc (tI T W it) (tG T WF (pC vs) g) (tB T WF t) (tE T WF m) vs σ H Q := by
  rintro ⟨G, e, τ, u, md, q⟩
  refine ⟨G, e, τ, u, md, ?_⟩
  unfold bLc at q
  cases hi : it e with
  | no => rw [hi] at q; exact q
  | ex x e1 => rw [hi] at q; exact q
  | ok ds e1 =>
    rw [hi] at q
    intro G1 H1 J ev1 md1 wk
    have q : Post T W G1 H1 σ (As σ e1 τ u) τ u (if okW e1 vs = true ∧ ds.length < 16777216 then (match lcL g t m vs ds (wipeE e1 vs) [] with | some (acc, e2) => .ok (.vl (.ol acc)) (backE e1 e2 vs) | none => .no) else .no) Q := Post.after q ev1
    split at q
    · rename_i hok
      cases hL : lcL g t m vs ds (wipeE e1 vs) [] with
      | none => rw [hL] at q; exact q.elim
      | some z =>
        obtain ⟨accF, eF⟩ := z
        rw [hL] at q
        intro Dd hD
        have hDA : ∀ {σ' : SV} {e' : En} {τ' : List V} {u' : List S} {G' H' : Hp}, Md T G' H' σ' e' τ' u' → H' Dd = none → Dd ∉ As σ' e' τ' u' := fun m' hn hc => by
          obtain ⟨_, o, ho⟩ := m'.sl.own Dd hc
          rw [hn] at ho; cases ho
        have lowV : ∀ v ∈ vs, v < e1.length := fun v hv => by
          have := hok.1
          unfold okW at this
          rw [List.all_eq_true] at this
          have h1 := this v hv
          cases h2 : e1[v]? with
          | none => rw [h2] at h1; cases h1
          | some _ => exact (List.getElem?_eq_some_iff.mp h2).1
        obtain ⟨mw, sw⟩ := md1.wipe vs
        have g1 : Grow G1 H1 G1 (upd H1 Dd (.lst [])) := .own md1.sl.sub hD
        refine ⟨fun i k H => ∃ (G : Hp) (e : En) (acc : List D) (xs : List V), k = ds.length - i ∧ i ≤ ds.length ∧ Evo G1 H1 (As σ e1 τ u) G H (As (L2.wipe σ vs) e τ u) ∧ Md T G H (L2.wipe σ vs) e τ u ∧ (∀ v ∈ vs, e[v]? = some none) ∧
            H Dd = some (.lst xs) ∧ G Dd = none ∧ Dd ∉ As (L2.wipe σ vs) e τ u ∧ RepFs T G xs acc ∧ acc.length ≤ i ∧ lcL g t m vs (ds.drop i) e acc = some (accF, eF),
          ⟨ds.length, G1, wipeE e1 vs, [], [], by simp, Nat.zero_le _, ?_, mw.grow g1, fun v hv => ?_, upd_same, md1.sl.sub.none hD, hDA mw hD, .nil, Nat.le_refl _, by rw [List.drop_zero]; exact hL⟩, ?_⟩
        · exact ⟨g1.mono, fun b o h _ => g1.keep b o h, fun b hb => .inl (sw b hb), fun b o h => (g1.frz b o h).imp id .inr⟩
        · rw [wipeE_get, if_pos ⟨hv, lowV v hv⟩]
        · rintro i k H ⟨G, e, acc, xs, rfl, hle, ev, m0, hn, hHD, hGD, hDn, rf, hacc, hl⟩
          by_cases hlt : i < ds.length
          · have hd : ds[i]? = some ds[i] := List.getElem?_eq_getElem hlt
            obtain ⟨go, yl⟩ := wk.go i _ G H ev.mono m0.sl.sub hd
            refine .inr ⟨go, fun H' => ∃ (G : Hp) (e : En) (acc : List D) (xs : List V), Evo G1 H1 (As σ e1 τ u) G H' (As (L2.wipe σ vs) e τ u) ∧ Md T G H' (L2.wipe σ vs) e τ u ∧ (∀ v ∈ vs, e[v]? = some none) ∧
                H' Dd = some (.lst xs) ∧ G Dd = none ∧ Dd ∉ As (L2.wipe σ vs) e τ u ∧ RepFs T G xs acc ∧ acc.length ≤ i + 1 ∧ lcL g t m vs (ds.drop (i + 1)) e acc = some (accF, eF),
              fun H' ⟨G, e, acc, xs, a1, a2, a3, a4, a5, a6, a7, a8, a9⟩ => ⟨ds.length - (i + 1), by omega, G, e, acc, xs, rfl, hlt, a1, a2, a3, a4, a5, a6, a7, a8, a9⟩, fun x H2 hy => ?_⟩
            obtain ⟨G2, gr, rx⟩ := yl x H2 hy
            have m2 := m0.grow gr
            rw [List.drop_eq_getElem_cons hlt] at hl
            have hl : (match g (.fr ds[i]) e with
              | .nx e1 => match t e1 with
                | .ok true e2 => match m e2 with
                  | .ok r e3 => match frz1 e3 r with
                    | some (x, e4) => lcL g t m vs (ds.drop (i + 1)) (wipeE e4 vs) (acc ++ [x])
                    | none => none
                  | _ => none
                | .ok false e2 => lcL g t m vs (ds.drop (i + 1)) (wipeE e2 vs) acc
                | _ => none
              | _ => none) = some (accF, eF) := hl
            -- facts about the new list that every step hands on
            have keepD : ∀ {Ga Ha Gb Hb : Hp} {Aa Ab : List Addr}, Evo Ga Ha Aa Gb Hb Ab → Ha Dd = some (.lst xs) → Ga Dd = none → Dd ∉ Aa → Hb Dd = some (.lst xs) ∧ Gb Dd = none ∧ Dd ∉ Ab := fun {Ga Ha Gb Hb Aa Ab} ev h1 h2 h3 => by
              refine ⟨ev.keep _ _ h1 h3, ?_, fun hc => ?_⟩
              · cases hq : Gb Dd with
                | none => rfl
                | some o =>
                  rcases ev.frz _ _ hq with z | z | z
                  · rw [h2] at z; cases z
                  · exact absurd z h3
                  · rw [h1] at z; cases z
              · rcases ev.own _ hc with z | z
                · exact h3 z
                · rw [h1] at z; cases z
            have e2g : Evo G H (As (L2.wipe σ vs) e τ u) G2 H2 (As (L2.wipe σ vs) e τ u) := gr.evo _
            obtain ⟨hHD2, hGD2, hDn2⟩ := keepD e2g hHD hGD hDn
            refine ⟨G2, e, .fr ds[i], m2.l1, ?_, ?_⟩
            · have := (m2.base.md.push (RepO.fr rx) (by rw [fp_fr]; simp)).sl
              simpa using this
            · have eA : fps (L2.wipe σ vs ++ [some x]) (e ++ [some (.fr ds[i])]) = fps (L2.wipe σ vs) e := by
                rw [fps_append _ _ m2.l1]
                show _ ++ (fp x (.fr ds[i]) ++ []) = _
                rw [fp_fr, List.append_nil, List.append_nil]
              rw [eA]
              rcases hg (.fr ds[i]) e with ⟨e3, h1⟩ | ⟨x3, e3, h1⟩ | h1
              · rw [h1] at hl ⊢
                simp only at hl
                intro σ3 G3 H3 ev3 sl3 l3 k3
                obtain ⟨m3, ev3'⟩ := m2.step ev3 sl3
                obtain ⟨hHD3, hGD3, hDn3⟩ := keepD ev3' hHD2 hGD2 hDn2
                have hw : L2.wipe σ3 vs = L2.wipe σ vs := by
                  have := wipe_ext (vs := vs) l3 fun j hj => k3 j (by simp [pC, hj])
                  rw [this, wipe_idem]
                refine ⟨hw, G3, e3, τ, u, m3, ?_⟩
                have evA := (ev.trans e2g).trans ev3'
                cases ht : t e3 with
                | no => rw [ht] at hl; cases hl
                | ex x4 e4 => rw [ht] at hl; cases hl
                | ok k e4 =>
                  intro G4 H4 ev4 m4
                  obtain ⟨hHD4, hGD4, hDn4⟩ := keepD ev4 hHD3 hGD3 hDn3
                  have evB := evA.trans ev4
                  -- the turn's end
                  have fin : ∀ {Ga Ha : Hp} {ea : En} {σa : SV}, L2.wipe σa vs = L2.wipe σ vs → Md T Ga Ha σa ea τ u → Evo G1 H1 (As σ e1 τ u) Ga Ha (As σa ea τ u) → Dd ∉ As σa ea τ u → σa.length = σ.length →
                      Md T Ga Ha (L2.wipe σ vs) (wipeE ea vs) τ u ∧ Evo G1 H1 (As σ e1 τ u) Ga Ha (As (L2.wipe σ vs) (wipeE ea vs) τ u) ∧ (∀ v ∈ vs, (wipeE ea vs)[v]? = some none) ∧ Dd ∉ As (L2.wipe σ vs) (wipeE ea vs) τ u := fun {Ga Ha ea σa} hwa ma eva hda hla => by
                    obtain ⟨mw2, sw2⟩ := ma.wipe vs
                    rw [hwa] at mw2 sw2
                    refine ⟨mw2, eva.less sw2, fun v hv => ?_, fun hc => hda (sw2 _ hc)⟩
                    have h1 := lowV v hv
                    have h2 := md1.l1
                    have h3 := ma.l1
                    rw [wipeE_get, if_pos ⟨hv, by omega⟩]
                  have hl3 : σ3.length = σ.length := by rw [l3, wipe_length]
                  cases k with
                  | false =>
                    rw [ht] at hl
                    rw [if_neg Bool.false_ne_true]
                    obtain ⟨a1, a2, a3, a4⟩ := fin hw m4 evB hDn4 hl3
                    exact ⟨G4, wipeE e4 vs, acc, xs, a2, a1, a3, hHD4, hGD4, a4, rf.mono ((e2g.mono.trans ev3'.mono).trans ev4.mono), by omega, hl⟩
                  | true =>
                    rw [ht] at hl
                    simp only at hl
                    rw [if_pos rfl]
                    refine ⟨G4, e4, τ, u, m4, ?_⟩
                    cases hm : m e4 with
                    | no => rw [hm] at hl; cases hl
                    | ex x5 e5 => rw [hm] at hl; cases hl
                    | ok r e5 =>
                      rw [hm] at hl
                      simp only at hl
                      cases hf : frz1 e5 r with
                      | none => rw [hf] at hl; cases hl
                      | some z5 =>
                        obtain ⟨y, e6⟩ := z5
                        rw [hf] at hl
                        simp only at hl
                        intro G5 H5 v5 τ5 u5 ev5 m5 hr5
                        obtain ⟨G6, ev6, m6, ry⟩ := frz1_ok m5 md.l2 hr5 hf
                        have ev56 := ev5.trans ev6
                        obtain ⟨hHD6, hGD6, hDn6⟩ := keepD ev56 hHD4 hGD4 hDn4
                        refine ⟨xs, hHD6, sizeL' ?_, ?_⟩
                        · rw [rf.length]; have := hok.2; omega
                        · obtain ⟨a1, a2, a3, a4⟩ := fin hw m6 (evB.trans ev56) hDn6 hl3
                          refine ⟨G6, wipeE e6 vs, acc ++ [y], xs ++ [v5], ?_, a1.updAt a4 hGD6, a3, upd_same, hGD6, a4, (rf.mono (((e2g.mono.trans ev3'.mono).trans ev4.mono).trans ev56.mono)).append (.cons ry .nil), by simp; omega, hl⟩
                          refine ⟨a2.mono, fun b o hb hnb => ?_, a2.own, a2.frz⟩
                          rw [upd_ne (fun z => by rw [z, hD] at hb; cases hb)]
                          exact a2.keep b o hb hnb
              · rw [h1] at hl; cases hl
              · rw [h1] at hl; cases hl
          · have hie : i = ds.length := by omega
            subst hie
            refine .inl ⟨wk.stop _ G H ev.mono m0.sl.sub (Nat.le_refl _), ?_⟩
            rw [List.drop_length] at hl
            have hl : some (acc, e) = some (accF, eF) := hl
            cases hl
            obtain ⟨mB, sB⟩ := md1.backs hok.1 hn ev.mono m0 nd
            have ro : RepO T G H (.ref Dd) (.ol accF) := .ol hHD hGD rf
            have own : ∀ b ∈ fp (.ref Dd) (.ol accF), b ∉ As σ (backE e1 eF vs) τ u := fun b hb hc => by
              have : b = Dd := by simpa [fp] using hb
              subst this
              exact hDn (sB _ hc)
            refine q G H (.ref Dd) [.ref Dd] [.ol accF] ⟨ev.mono, ev.keep, fun b hb => ?_, ev.frz⟩ (mB.push ro own) (.vl .nil)
            rcases (As_push mB.l1 mB.l2 b).mp hb with z | z
            · exact ev.own b (sB b z)
            · have : b = Dd := by simpa [fp] using z
              rw [this]; exact .inr hD
    · exact q.elim
end
end Fv

namespace Fv
open PySem PySem.Spec PyProof.Rows L2

/-! ### built-ins -/
section
variable {X : Cx}
theorem call_divmodG : CallR X (.builtin "divmod") (fun xs H Q => ∃ i j, xs = [.int i, .int j] ∧ CDivG i j ∧ ∀ p, H p = none → Q (.ref p) (upd H p (.tup [.int (i.fdiv j), .int (i.fmod j)]))) := by
  intro pins s σ H xs us Q I r h
  obtain ⟨i, j, rfl, ⟨h1, h2⟩, q⟩ := h
  obtain ⟨u, w', rfl, ⟨t, rfl⟩, ⟨t', rfl⟩⟩ := vals2 r
  refine divmod_int h1 ?_ (.inl h2)
  have hn : H s.heap.objs.size = none := I.hok.fresh (Nat.le_refl _)
  refine ⟨.ref s.heap.objs.size, _, ?_, rfl, q _ hn⟩
  refine I.laid (fun b o e => Heap.get?_push_of_some _ e) (Nat.le_refl _) ⟨by simp only [List.length_cons, List.length_nil]; rw [sizeLine_eq]; decide, [.int (i.fdiv j) s.toks, .int (i.fmod j) (s.toks + 1)], .cons ⟨_, rfl⟩ (.cons ⟨_, rfl⟩ .nil), ?_⟩
  exact ⟨_, Heap.get?_push_size s.heap rfl, rfl, 0, rfl⟩
end
def intsD : List D → Option (List Int)
  | [] => some []
  | .int i :: ds => (intsD ds).map (i :: ·)
  | _ => none
def boolsD : List D → Option (List Bool)
  | [] => some []
  | .bl i :: ds => (boolsD ds).map (i :: ·)
  | _ => none
def maxL : List Int → Option Int
  | [] => none
  | i :: is => some (is.foldl max i)
def minL : List Int → Option Int
  | [] => none
  | i :: is => some (is.foldl min i)
def dLen : List D → Option S
  | [.lst xs] => some (.fr (.int xs.length))
  | [.tup xs] => some (.fr (.int xs.length))
  | [.str x] => if x.length ≤ 16777216 then some (.fr (.int x.length)) else none
  | _ => none
def dAbs : List D → Option S
  | [.int i] => some (.fr (.int (if i < 0 then -i else i)))
  | _ => none
def dMax : List D → Option S
  | [.int i, .int j] => some (.fr (.int (if j > i then j else i)))
  | [.lst xs] => (intsD xs).bind fun is => (maxL is).map fun i => .fr (.int i)
  | _ => none
def dMin : List D → Option S
  | [.int i, .int j] => some (.fr (.int (if j < i then j else i)))
  | [.lst xs] => (intsD xs).bind fun is => (minL is).map fun i => .fr (.int i)
  | _ => none
def dInt : List D → Option S
  | [.int i] => some (.fr (.int i))
  | [.bl b] => some (.fr (.int (if b then 1 else 0)))
  | _ => none
def dDivmod : List D → Option S
  | [.int i, .int j] => if j = 0 then none else if Builtin.divisionGoesByPylong i j then none else some (.fr (.tup [.int (if 0 < j then i / j else i.fdiv j), .int (if 0 < j then i % j else i.fmod j)]))
  | _ => none
def dList : List D → Option S
  | [.lst xs] => some (.ol xs)
  | [.tup xs] => some (.ol xs)
  | _ => none
def dTuple : List D → Option S
  | [.lst xs] => some (.fr (.tup xs))
  | [.tup xs] => some (.fr (.tup xs))
  | _ => none
def dSum : List D → Option S
  | [.lst xs] => (intsD xs).map fun is => .fr (.int is.sum)
  | _ => none
def dAll : List D → Option S
  | [.lst xs] => (boolsD xs).map fun is => .fr (.bl (is.all id))
  | _ => none
def dAny : List D → Option S
  | [.lst xs] => (boolsD xs).map fun is => .fr (.bl (is.any id))
  | _ => none
def D.tyN : D → Option String
  | .non => some "NoneType"
  | .bl _ => some "bool"
  | .int _ => some "int"
  | .str _ => some "str"
  | .tup _ => some "tuple"
  | .lst _ => some "list"
  | .dic _ _ => some "dict"
  | _ => none
def isiL (t : String) : List D → Option Bool
  | [] => some false
  | .ty n :: ds => match kitB t n, isiL t ds with
    | some b, some r => some (b || r)
    | _, _ => none
  | _ => none
def dIsi : List D → Option S
  | [d, .ty n] => d.tyN.bind fun t => (kitB t n).map fun b => .fr (.bl b)
  | [d, .tup ts] => d.tyN.bind fun t => (isiL t ts).map fun b => .fr (.bl b)
  | _ => none
section
variable {T : Tb} {G H : Hp}
theorem intsD_rep : ∀ {ds : List D} {vs : List V} {is : List Int}, RepFs T G vs ds → intsD ds = some is → vs = is.map V.int
  | _, _, is, .nil, h => by cases h; rfl
  | _, _, is, .cons (d := d) r rs, h => by
    cases d <;> try (simp [intsD] at h; done)
    rename_i i
    simp [intsD] at h
    obtain ⟨js, h1, rfl⟩ := h
    cases r
    rw [intsD_rep rs h1]; rfl
theorem boolsD_rep : ∀ {ds : List D} {vs : List V} {is : List Bool}, RepFs T G vs ds → boolsD ds = some is → vs = is.map V.bl
  | _, _, is, .nil, h => by cases h; rfl
  | _, _, is, .cons (d := d) r rs, h => by
    cases d <;> try (simp [boolsD] at h; done)
    rename_i i
    simp [boolsD] at h
    obtain ⟨js, h1, rfl⟩ := h
    cases r
    rw [boolsD_rep rs h1]; rfl
theorem fo_len (X : Cx) (hK : T.K = X.K) : FunOk T (fun xs H Q => ∃ x n, xs = [x] ∧ LenV X.K x H n ∧ Q (.int n) H) dLen := fun G H vs ss s Q hs r h k => by
  rw [← hK]
  unfold dLen at h
  split at h
  · rename_i xs heq
    cases h
    obtain ⟨v, s1, rfl, r1, e1⟩ := repOs1 r heq
    obtain ⟨a, as, rfl, q1, k1⟩ := r1.lst hs e1
    exact ⟨_, as.length, rfl, .inl ⟨as, q1, rfl⟩, by rw [k1.length]; exact done_fr (W := True) hs k (.int _)⟩
  · rename_i xs heq
    cases h
    obtain ⟨v, s1, rfl, r1, e1⟩ := repOs1 r heq
    obtain ⟨a, as, rfl, q1, _, k1⟩ := r1.tup hs e1
    exact ⟨_, as.length, rfl, .inr ⟨as, q1, rfl⟩, by rw [k1.length]; exact done_fr (W := True) hs k (.int _)⟩
  · rename_i x heq
    split at h
    · rename_i hz
      cases h
      obtain ⟨v, s1, rfl, r1, e1⟩ := repOs1 r heq
      obtain rfl := r1.str e1
      exact ⟨_, x.length, rfl, ⟨sizeL hz, rfl⟩, done_fr (W := True) hs k (.int _)⟩
    · cases h
  · cases h
theorem fo_abs : FunOk T (fun xs H Q => ∃ i, xs = [.int i] ∧ Q (.int (if i < 0 then -i else i)) H) dAbs := fun G H vs ss s Q hs r h k => by
  unfold dAbs at h
  split at h
  · rename_i i heq
    cases h
    obtain ⟨v, s1, rfl, r1, e1⟩ := repOs1 r heq
    obtain rfl := r1.int e1
    exact ⟨i, rfl, done_fr (W := True) hs k (.int _)⟩
  · cases h
theorem foldl_max_le : ∀ (is : List Int) (i : Int), i ≤ is.foldl max i ∧ (∀ y ∈ is, y ≤ is.foldl max i) ∧ (is.foldl max i = i ∨ is.foldl max i ∈ is)
  | [], i => ⟨Int.le_refl _, by simp, .inl rfl⟩
  | j :: is, i => by
    obtain ⟨a, b, c⟩ := foldl_max_le is (max i j)
    simp only [List.foldl_cons]
    refine ⟨by omega, fun y hy => ?_, ?_⟩
    · rcases List.mem_cons.mp hy with rfl | hy
      · omega
      · exact b y hy
    · rcases c with c | c
      · rw [c]
        rcases Int.le_total i j with h | h
        · right; rw [Int.max_eq_right h]; simp
        · left; exact Int.max_eq_left h
      · exact .inr (by simp [c])
theorem foldl_min_le : ∀ (is : List Int) (i : Int), is.foldl min i ≤ i ∧ (∀ y ∈ is, is.foldl min i ≤ y) ∧ (is.foldl min i = i ∨ is.foldl min i ∈ is)
  | [], i => ⟨Int.le_refl _, by simp, .inl rfl⟩
  | j :: is, i => by
    obtain ⟨a, b, c⟩ := foldl_min_le is (min i j)
    simp only [List.foldl_cons]
    refine ⟨by omega, fun y hy => ?_, ?_⟩
    · rcases List.mem_cons.mp hy with rfl | hy
      · omega
      · exact b y hy
    · rcases c with c | c
      · rw [c]
        rcases Int.le_total i j with h | h
        · left; exact Int.min_eq_left h
        · right; rw [Int.min_eq_right h]; simp
      · exact .inr (by simp [c])
def rMaxA (K : PySem.W.Frag) : List V → Hp → VK → Prop := fun xs H Q => (∃ i j, xs = [.int i, .int j] ∧ Q (.int (if j > i then j else i)) H) ∨ rMax K xs H Q
def rMinA (K : PySem.W.Frag) : List V → Hp → VK → Prop := fun xs H Q => (∃ i j, xs = [.int i, .int j] ∧ Q (.int (if j < i then j else i)) H) ∨ rMin K xs H Q
theorem call_maxA {X : Cx} (hc : X.calm = true) : CallR X (.builtin "max") (rMaxA X.K) := (call_max2 hc).or (cr_max hc)
theorem call_minA {X : Cx} (hc : X.calm = true) : CallR X (.builtin "min") (rMinA X.K) := (call_min2 hc).or (cr_min hc)
theorem fo_max : FunOk T (rMaxA T.K) dMax := fun G H vs ss s Q hs r h k => by
  unfold dMax at h
  split at h
  · rename_i i j heq
    cases h
    obtain ⟨v, w, s1, s2, rfl, r1, r2, e1, e2⟩ := repOs2 r heq
    obtain rfl := r1.int e1
    obtain rfl := r2.int e2
    exact .inl ⟨i, j, rfl, done_fr (W := True) hs k (.int _)⟩
  · rename_i xs heq
    obtain ⟨v, s1, rfl, r1, e1⟩ := repOs1 r heq
    obtain ⟨a, as, rfl, q1, k1⟩ := r1.lst hs e1
    cases hi : intsD xs with
    | none => rw [hi] at h; cases h
    | some is =>
      rw [hi] at h
      obtain rfl := intsD_rep k1 hi
      cases is with
      | nil => cases h
      | cons i is =>
        have h : some (S.fr (.int (is.foldl max i))) = some s := h
        cases h
        refine .inr ⟨a, i :: is, rfl, q1, by simp, fun m hm hle => ?_⟩
        obtain ⟨a1, a2, a3⟩ := foldl_max_le is i
        have e : m = is.foldl max i := by
          have h1 : is.foldl max i ≤ m := by
            rcases a3 with z | z
            · rw [z]; exact hle _ (by simp)
            · exact hle _ (by simp [z])
          have h2 : m ≤ is.foldl max i := by
            rcases List.mem_cons.mp hm with rfl | hm
            · exact a1
            · exact a2 m hm
          omega
        rw [e]
        exact done_fr (W := True) hs k (.int _)
  · cases h
theorem fo_min : FunOk T (rMinA T.K) dMin := fun G H vs ss s Q hs r h k => by
  unfold dMin at h
  split at h
  · rename_i i j heq
    cases h
    obtain ⟨v, w, s1, s2, rfl, r1, r2, e1, e2⟩ := repOs2 r heq
    obtain rfl := r1.int e1
    obtain rfl := r2.int e2
    exact .inl ⟨i, j, rfl, done_fr (W := True) hs k (.int _)⟩
  · rename_i xs heq
    obtain ⟨v, s1, rfl, r1, e1⟩ := repOs1 r heq
    obtain ⟨a, as, rfl, q1, k1⟩ := r1.lst hs e1
    cases hi : intsD xs with
    | none => rw [hi] at h; cases h
    | some is =>
      rw [hi] at h
      obtain rfl := intsD_rep k1 hi
      cases is with
      | nil => cases h
      | cons i is =>
        have h : some (S.fr (.int (is.foldl min i))) = some s := h
        cases h
        refine .inr ⟨a, i :: is, rfl, q1, by simp, fun m hm hle => ?_⟩
        obtain ⟨a1, a2, a3⟩ := foldl_min_le is i
        have e : m = is.foldl min i := by
          have h1 : m ≤ is.foldl min i := by
            rcases a3 with z | z
            · rw [z]; exact hle _ (by simp)
            · exact hle _ (by simp [z])
          have h2 : is.foldl min i ≤ m := by
            rcases List.mem_cons.mp hm with rfl | hm
            · exact a1
            · exact a2 m hm
          omega
        rw [e]
        exact done_fr (W := True) hs k (.int _)
  · cases h
theorem fo_int : FunOk T (fun xs H Q => (∃ i, xs = [.int i] ∧ Q (.int i) H) ∨ ∃ k, xs = [.bl k] ∧ Q (.int (if k then 1 else 0)) H) dInt := fun G H vs ss s Q hs r h k => by
  unfold dInt at h
  split at h
  · rename_i i heq
    cases h
    obtain ⟨v, s1, rfl, r1, e1⟩ := repOs1 r heq
    obtain rfl := r1.int e1
    exact .inl ⟨i, rfl, done_fr (W := True) hs k (.int _)⟩
  · rename_i i heq
    cases h
    obtain ⟨v, s1, rfl, r1, e1⟩ := repOs1 r heq
    obtain rfl := r1.bl e1
    exact .inr ⟨i, rfl, done_fr (W := True) hs k (.int _)⟩
  · cases h
theorem fo_divmod : FunOk T (fun xs H Q => ∃ i j, xs = [.int i, .int j] ∧ CDivG i j ∧ ∀ p, H p = none → Q (.ref p) (upd H p (.tup [.int (i.fdiv j), .int (i.fmod j)]))) dDivmod := fun G H vs ss s Q hs r h k => by
  unfold dDivmod at h
  split at h
  · rename_i i j heq
    split at h
    · cases h
    · rename_i hj
      split at h
      · cases h
      · rename_i hp
        cases h
        obtain ⟨v, w, s1, s2, rfl, r1, r2, e1, e2⟩ := repOs2 r heq
        obtain rfl := r1.int e1
        obtain rfl := r2.int e2
        refine ⟨i, j, rfl, ⟨hj, by simpa using hp⟩, fun p hp => ?_⟩
        have e1 : i.fdiv j = if 0 < j then i / j else i.fdiv j := by
          split
          · rw [Int.fdiv_eq_ediv_of_nonneg i (by omega)]
          · rfl
        have e2 : i.fmod j = if 0 < j then i % j else i.fmod j := by
          split
          · rw [Int.fmod_eq_emod_of_nonneg i (by omega)]
          · rfl
        exact done_tup hs k (.cons (by rw [← e1]; exact .int _) (.cons (by rw [← e2]; exact .int _) .nil)) hp
  · cases h
theorem fo_list (X : Cx) (hK : T.K = X.K) : FunOk T (fun xs H Q => ∃ p ys, xs = [.ref p] ∧ (SqL X.K H p ys ∨ SqT X.K H p ys) ∧ ∀ l, H l = none → Q (.ref l) (upd H l (.lst ys))) dList := fun G H vs ss s Q hs r h k => by
  rw [← hK]
  unfold dList at h
  split at h
  · rename_i xs heq
    cases h
    obtain ⟨v, s1, rfl, r1, e1⟩ := repOs1 r heq
    obtain ⟨a, as, rfl, q1, k1⟩ := r1.lst hs e1
    exact ⟨a, as, rfl, .inl q1, fun p hp => done_ol hs k k1 hp⟩
  · rename_i xs heq
    cases h
    obtain ⟨v, s1, rfl, r1, e1⟩ := repOs1 r heq
    obtain ⟨a, as, rfl, q1, _, k1⟩ := r1.tup hs e1
    exact ⟨a, as, rfl, .inr q1, fun p hp => done_ol hs k k1 hp⟩
  · cases h
theorem fo_tuple (X : Cx) (hK : T.K = X.K) : FunOk T (fun xs H Q => ∃ p ys, xs = [.ref p] ∧ ((SqL X.K H p ys ∧ ∀ l, H l = none → Q (.ref l) (upd H l (.tup ys))) ∨ (SqT X.K H p ys ∧ Q (.ref p) H))) dTuple := fun G H vs ss s Q hs r h k => by
  rw [← hK]
  unfold dTuple at h
  split at h
  · rename_i xs heq
    cases h
    obtain ⟨v, s1, rfl, r1, e1⟩ := repOs1 r heq
    obtain ⟨a, as, rfl, q1, k1⟩ := r1.lst hs e1
    exact ⟨a, as, rfl, .inl ⟨q1, fun p hp => done_tup hs k k1 hp⟩⟩
  · rename_i xs heq
    cases h
    obtain ⟨v, s1, rfl, r1, e1⟩ := repOs1 r heq
    obtain ⟨a, as, rfl, q1, t1, k1⟩ := r1.tup hs e1
    exact ⟨a, as, rfl, .inr ⟨q1, done_fr (W := True) hs k (.tup t1 k1)⟩⟩
  · cases h
theorem fo_sum : FunOk T (rSum T.K) dSum := fun G H vs ss s Q hs r h k => by
  unfold dSum at h
  split at h
  · rename_i xs heq
    obtain ⟨v, s1, rfl, r1, e1⟩ := repOs1 r heq
    obtain ⟨a, as, rfl, q1, k1⟩ := r1.lst hs e1
    cases hi : intsD xs with
    | none => rw [hi] at h; cases h
    | some is =>
      rw [hi] at h; cases h
      obtain rfl := intsD_rep k1 hi
      exact ⟨a, is, rfl, q1, done_fr (W := True) hs k (.int _)⟩
  · cases h
theorem fo_all : FunOk T (rAll T.K) dAll := fun G H vs ss s Q hs r h k => by
  unfold dAll at h
  split at h
  · rename_i xs heq
    obtain ⟨v, s1, rfl, r1, e1⟩ := repOs1 r heq
    obtain ⟨a, as, rfl, q1, k1⟩ := r1.lst hs e1
    cases hi : boolsD xs with
    | none => rw [hi] at h; cases h
    | some is =>
      rw [hi] at h; cases h
      obtain rfl := boolsD_rep k1 hi
      exact ⟨a, is, rfl, q1, done_fr (W := True) hs k (.bl _)⟩
  · cases h
theorem fo_any : FunOk T (rAny T.K) dAny := fun G H vs ss s Q hs r h k => by
  unfold dAny at h
  split at h
  · rename_i xs heq
    obtain ⟨v, s1, rfl, r1, e1⟩ := repOs1 r heq
    obtain ⟨a, as, rfl, q1, k1⟩ := r1.lst hs e1
    cases hi : boolsD xs with
    | none => rw [hi] at h; cases h
    | some is =>
      rw [hi] at h; cases h
      obtain rfl := boolsD_rep k1 hi
      exact ⟨a, is, rfl, q1, done_fr (W := True) hs k (.bl _)⟩
  · cases h
theorem RepO.tyX {v : V} {s : S} {t : String} (r : RepO T G H v s) (hs : Sub G H) (h : s.d.tyN = some t) : TyX T.K H v (.type t) := by
  have rdL : ∀ {a : Addr} {xs : List V}, SqL T.K H a xs → TyX T.K H (.ref a) (.type "list") := fun {a xs} q => by
    rcases q with (q | ⟨o, q⟩) | ⟨o, its, n, q, c, _⟩
    · exact .base (.lst q)
    · exact .base (.frz q)
    · exact .kList q c
  have rdT : ∀ {a : Addr} {xs : List V}, TupAt T.K H a xs → TyX T.K H (.ref a) (.type "tuple") := fun {a xs} q => by
    rcases q with q | ⟨o, its, n, q, c, _⟩
    · exact .base (.tup q)
    · exact .kTuple q c
  cases r with
  | fr q =>
    cases q <;> simp [S.d, D.tyN] at h <;> subst h
    · exact .base .non
    · exact .base (.bl _)
    · exact .base (.int _)
    · exact .base (.str _)
    · rename_i q1 _; exact rdT (hs.tupAt q1)
    · rename_i q1 _; exact rdL (hs.sqL q1)
    · rename_i q1 _ _; exact .base (.dK (hs _ _ q1))
  | ol h1 _ _ => simp [S.d, D.tyN] at h; subst h; exact .base (.lst h1)
  | od h1 _ _ _ => simp [S.d, D.tyN] at h; subst h; exact .base (.dK h1)
  | oi _ _ _ _ => simp [S.d, D.tyN] at h
def rIsiA (K : PySem.W.Frag) : List V → Hp → VK → Prop := fun xs H Q => (rIsi K xs H Q ∨ rIsiT K xs H Q) ∨ rIsiK K xs H Q
theorem call_isiA {X : Cx} : CallR X (.builtin "isinstance") (rIsiA X.K) := (call_isi.or call_isiT).or call_isiK
theorem isiL_ok {t : String} : ∀ {ts : List D} {vs : List V} {b : Bool}, RepFs T G vs ts → isiL t ts = some b → ∃ us, Paired ClsV vs us ∧ PySem.W.kitAny T.K (.type t) us = some b
  | _, _, b, .nil, h => by cases h; exact ⟨[], .nil, rfl⟩
  | _, _, b, .cons (d := d) r rs, h => by
    cases d <;> try (simp [isiL] at h; done)
    rename_i n
    cases r
    unfold isiL at h
    cases hk : kitB t n with
    | none => rw [hk] at h; cases h
    | some c =>
      rw [hk] at h
      cases hl : isiL t _ with
      | none => rw [hl] at h; cases h
      | some r =>
        rw [hl] at h
        cases h
        obtain ⟨us, p, q⟩ := isiL_ok rs hl
        exact ⟨_, .cons (.ty n) p, kitAny_cons (kit_ty hk) (fun z => by subst z; simpa using q) (fun z => by subst z; rfl)⟩
theorem RepO.ty {v : V} {s : S} {n : String} (r : RepO T G H v s) (h : s.d = .ty n) : v = .ty n := by
  cases r <;> simp [S.d] at h
  subst h; rename_i q; cases q; rfl
theorem fo_isi : FunOk T (rIsiA T.K) dIsi := fun G H vs ss s Q hs r h k => by
  unfold dIsi at h
  split at h
  · rename_i d n heq
    cases ht : d.tyN with
    | none => rw [ht] at h; cases h
    | some t =>
      rw [ht] at h
      cases hk : kitB t n with
      | none => simp [hk] at h
      | some b =>
        simp [hk] at h
        subst h
        obtain ⟨v, w, s1, s2, rfl, r1, r2, e1, e2⟩ := repOs2 r heq
        obtain rfl := r2.ty e2
        exact .inl (.inl ⟨_, _, _, _, b, rfl, .ty n, r1.tyX hs (by rw [e1]; exact ht), kit_ty hk, done_fr (W := True) hs k (.bl _)⟩)
  · rename_i d ts heq
    cases ht : d.tyN with
    | none => rw [ht] at h; cases h
    | some t =>
      rw [ht] at h
      cases hk : isiL t ts with
      | none => simp [hk] at h
      | some b =>
        simp [hk] at h
        subst h
        obtain ⟨v, w, s1, s2, rfl, r1, r2, e1, e2⟩ := repOs2 r heq
        obtain ⟨a, as, rfl, _, t1, k1⟩ := r2.tup hs e2
        obtain ⟨us, p, q⟩ := isiL_ok k1 hk
        rcases t1 with t1 | ⟨⟨oc, od, dt, sl⟩, its, n, q1, c1, d1, _, vv⟩
        · exact .inl (.inr ⟨_, _, _, _, us, b, rfl, hs _ _ t1, p, r1.tyX hs (by rw [e1]; exact ht), q, done_fr (W := True) hs k (.bl _)⟩)
        · simp only at c1 d1
          subst c1 d1
          have e3 := ClsV.all p vv
          subst e3
          exact .inr ⟨_, _, _, its.toList, n, _, _, b, rfl, by simpa using q1, r1.tyX hs (by rw [e1]; exact ht), q, done_fr (W := True) hs k (.bl _)⟩
  · cases h
end
end Fv

namespace Fv
open PySem PySem.Spec PyProof.Rows L2
/-! ### a list of one's own, written -/
section
variable {T : Tb} {G H : Hp} {σ : SV} {e : En} {τ : List V} {u : List S} {a : Addr} {s : S}
theorem Sl.wrG (x : Sl T G H σ e) {i : Nat} {a : Addr} {s s' : S} {o' : HO} (he : e[i]? = some (some s)) (hv : σ[i]? = some (some (.ref a))) (hf0 : a ∈ fp (.ref a) s) (r : RepO T G (upd H a o') (.ref a) s') (hf : ∀ b ∈ fp (.ref a) s', b = a) :
    Sl T G (upd H a o') σ (e.set i (some s')) ∧ Evo G H (fps σ e) G (upd H a o') (fps σ (e.set i (some s'))) := by
  have hi : i < e.length := (List.getElem?_eq_some_iff.mp he).1
  have hset : σ.set i (some (.ref a)) = σ := by
    obtain ⟨hl, e1⟩ := List.getElem?_eq_some_iff.mp hv
    rw [← e1]; exact List.set_getElem_self hl
  have ha : a ∈ fps σ e := mem_fps hv he hf0
  have hG : G a = none := (x.own a ha).1
  have hout : a ∉ fps σ (e.set i none) := fun hc => by
    have := (fps_out hv he).nodup_iff.mp x.nd
    exact (List.nodup_append.mp this).2.2 a hf0 a hc rfl
  have sub : Sub G (upd H a o') := fun b o q => by
    rw [upd_ne (ne_of_none q hG)]
    exact x.sub b o q
  have keep : ∀ b o, H b = some o → b ∉ [a] → (upd H a o') b = some o := fun b o q n => by
    rw [upd_ne (by simpa using n)]; exact q
  have f : Sl T G (upd H a o') σ (e.set i none) := (x.out i).frame (A := [a]) (A' := []) ⟨.refl _, keep, fun _ h => absurd h (by simp), fun _ _ h => .inl h⟩ sub fun b hb hc => by
    simp at hc; subst hc; exact hout hb
  have g := f.put hi r fun b hb => by
    have := hf b hb; subst this; exact hout
  rw [hset] at g
  refine ⟨g, .refl _, fun b o q n => keep b o q fun hc => ?_, fun b hb => ?_, fun _ _ h => .inl h⟩
  · simp at hc; subst hc; exact n ha
  · have hb' : b ∈ fps (σ.set i (some (.ref a))) (e.set i (some s')) := by rw [hset]; exact hb
    rcases (fps_set_mem hi x.len b).mp hb' with z | z
    · have := hf b z; subst this; exact .inl ha
    · exact .inl (fps_sub b z)
theorem Md.wrG (m : Md T G H σ e τ u) {i : Nat} {a : Addr} {s s' : S} {o' : HO} (he : e[i]? = some (some s)) (hv : σ[i]? = some (some (.ref a))) (hf0 : a ∈ fp (.ref a) s) (r : RepO T G (upd H a o') (.ref a) s') (hf : ∀ b ∈ fp (.ref a) s', b = a) :
    Md T G (upd H a o') σ (e.set i (some s')) τ u ∧ Evo G H (As σ e τ u) G (upd H a o') (As σ (e.set i (some s')) τ u) := by
  have hi : i < e.length := (List.getElem?_eq_some_iff.mp he).1
  have he' : (e ++ u.map some)[i]? = some (some s) := by rw [List.getElem?_append_left hi]; exact he
  have hv' : (σ ++ τ.map some)[i]? = some (some (.ref a)) := by rw [List.getElem?_append_left (by rw [m.l1]; exact hi)]; exact hv
  obtain ⟨p, q⟩ := m.sl.wrG he' hv' hf0 r hf
  rw [List.set_append_left _ _ hi] at p q
  exact ⟨⟨by rw [List.length_set]; exact m.l1, m.l2, p⟩, q⟩
/-- the last of what was reckoned -/
theorem Md.wrT (m : Md T G H σ e (τ ++ [.ref a]) (u ++ [s])) (hl : τ.length = u.length) {s' : S} {o' : HO} (hf0 : a ∈ fp (.ref a) s) (r : RepO T G (upd H a o') (.ref a) s') (hf : ∀ b ∈ fp (.ref a) s', b = a) :
    Md T G (upd H a o') σ e (τ ++ [.ref a]) (u ++ [s']) ∧ Evo G H (As σ e (τ ++ [.ref a]) (u ++ [s])) G (upd H a o') (As σ e (τ ++ [.ref a]) (u ++ [s'])) := by
  have he' : (e ++ (u ++ [s]).map some)[e.length + u.length]? = some (some s) := by
    rw [List.getElem?_append_right (by omega)]; simp
  have hv' : (σ ++ (τ ++ [V.ref a]).map some)[e.length + u.length]? = some (some (.ref a)) := by
    rw [List.getElem?_append_right (by rw [m.l1]; omega), m.l1, ← hl]; simp
  obtain ⟨p, q⟩ := m.sl.wrG he' hv' hf0 r hf
  have e2 : (e ++ (u ++ [s]).map some).set (e.length + u.length) (some s') = e ++ (u ++ [s']).map some := by
    rw [List.set_append_right _ _ (by omega)]
    congr 1
    have : e.length + u.length - e.length = u.length := by omega
    rw [this, List.map_append, List.map_append, List.set_append_right _ _ (by simp)]
    simp
  rw [e2] at p q
  exact ⟨⟨m.l1, by simp [hl], p⟩, q⟩
theorem Md.wr (m : Md T G H σ e τ u) {i : Nat} {a : Addr} {xs xs' : List V} {ds ds' : List D} (he : e[i]? = some (some (.ol ds))) (hv : σ[i]? = some (some (.ref a))) (hA : H a = some (.lst xs)) (r : RepFs T G xs' ds') :
    Md T G (upd H a (.lst xs')) σ (e.set i (some (.ol ds'))) τ u ∧ Evo G H (As σ e τ u) G (upd H a (.lst xs')) (As σ (e.set i (some (.ol ds'))) τ u) := by
  have hi : i < e.length := (List.getElem?_eq_some_iff.mp he).1
  obtain ⟨v, hv2, ro⟩ := m.var he
  rw [hv] at hv2; cases hv2
  have hG : G a = none := (ro.own a (by simp [fp])).1
  exact m.wrG he hv (by simp [fp]) (.ol upd_same hG r) fun b hb => by simpa [fp] using hb
/-- what stands there -/
theorem Md.olAt (m : Md T G H σ e τ u) {i : Nat} {ds : List D} (he : e[i]? = some (some (.ol ds))) : ∃ a xs, σ[i]? = some (some (.ref a)) ∧ H a = some (.lst xs) ∧ RepFs T G xs ds := by
  obtain ⟨v, hv, r⟩ := m.var he
  cases r with
  | ol h1 _ h3 => exact ⟨_, _, hv, h1, h3⟩
end
/-! ### x[i] = .., x a list of one's own -/
def gIx (i : Nat) (mi : En → Ou R) : S → En → Fl := fun s e =>
  match e[i]? with
  | some (some (.ol _)) => match mi e with
    | .ok r e1 => match pk e1 r, e1[i]? with
      | some (.fr (.int k)), some (some (.ol ds)) => match ixN ds.length k with
        | some j => .nx (e1.set i (some (.ol (ds.set j s.d))))
        | none => .no
      | _, _ => .no
    | .ex x e1 => .ex x e1
    | .no => .no
  | _ => .no
theorem GoG.ix {i : Nat} {mi : En → Ou R} : GoG (gIx i mi) := fun s e => by
  unfold gIx
  repeat' split
  all_goals first | exact .inl ⟨_, rfl⟩ | exact .inr (.inl ⟨_, _, rfl⟩) | exact .inr (.inr rfl)
section
variable {T : Tb} {W : WX} {p : Nat → Bool} {G H : Hp} {σ : SV}
theorem tG_ix {i : Nat} {mi : En → Ou R} {v : V} {Q : SV → Hp → Prop} : tG T W p (gIx i mi) v σ H Q → gSub (tE T W (bVar i)) (tE T W mi) rSetL v σ H Q := by
  rintro ⟨G, e, s, hl, sl, q⟩
  have md : Md T G H σ e [v] [s] := ⟨hl, rfl, by simpa using sl⟩
  have eA : As σ e [v] [s] = fps (σ ++ [some v]) (e ++ [some s]) := by simp [As]
  rw [← eA] at q
  unfold gIx at q
  cases h0 : e[i]? with
  | none => rw [h0] at q; exact q.elim
  | some y => cases y with
    | none => rw [h0] at q; exact q.elim
    | some t0 => cases t0 with
     | fr _ => rw [h0] at q; exact q.elim
     | od _ _ => rw [h0] at q; exact q.elim
     | oi _ _ _ => rw [h0] at q; exact q.elim
     | ol d0 =>
      rw [h0] at q
      refine ⟨G, e, [v], [s], md, ?_⟩
      unfold bVar
      rw [h0]
      intro G1 H1 o τ' u' ev1 md1 hr1
      cases hr1 with
      | pl hv1 hn1 =>
        cases hn1
        rw [List.append_nil, List.append_nil] at ev1 md1
        refine ⟨G1, e, [v], [s], md1, ?_⟩
        cases hm : mi e with
        | no => rw [hm] at q; exact q.elim
        | ex x e1 =>
          rw [hm] at q
          intro G2 H2 c dx ev2 md2 rx
          exact q σ c dx G2 H2 ((ev1.trans ev2).less (As_base md2.l1)) md2.base rfl .refl rx
        | ok r e1 =>
          rw [hm] at q
          intro G2 H2 iv τ2 u2 ev2 md2 hr2
          simp only at q
          split at q
          · rename_i k ds hp h2
            cases hj : ixN ds.length k with
            | none => rw [hj] at q; exact q.elim
            | some j =>
              rw [hj] at q
              have hq := hr2.peek (ss := [.fr (.int k)]) md2 (by simp) (by unfold pks; rw [hp]; rfl)
              obtain ⟨w, sw, hw, rw', ew⟩ := repOs1 hq rfl
              cases hw
              obtain rfl := rw'.int ew
              obtain ⟨G3, ev3, md3, rv⟩ := Md.freezeTmp (τ := []) (u := []) (v := v) (s := s) (τ1 := τ2) (u1 := u2) md2 rfl
              obtain ⟨a, xs, hva, hA, rxs⟩ := md3.olAt h2
              rw [hv1] at hva; cases hva
              obtain ⟨md4, ev4⟩ := md3.wr h2 hv1 hA (rxs.set rv j)
              refine ⟨a, xs, k, j, rfl, rfl, hA, by rw [rxs.length]; exact hj, ?_⟩
              exact q σ G3 _ ((((ev1.trans ev2).trans ev3).trans ev4).less (As_base md4.l1)) md4.base rfl .refl
          · exact q.elim
end
section
variable {X : Cx} {T : Tb} {W : WX} {p : Nat → Bool} {i : Expr} {mi : En → Ou R} {x : Str} {n : Nat} {pn pos : Pos}
theorem PG.imp {t : Expr} {g g' : TG} (h : PG X t g) (k : ∀ v σ H Q, g' v σ H Q → g v σ H Q) : PG X t g' := ⟨fun pins s σ H v u Q I r q => h.run pins s σ H v u Q I r (k v σ H Q q)⟩
theorem pg_ixF (ho : PE X (.Name x pn) (tE T W (bVar n))) (hi : PE X i (tE T W mi)) (ha : ∀ v, assign (.Subscript (.Name x pn) i pos) X.env v = (do
      let ov ← holding [v] (eval (.Name x pn) X.env)
      let iv ← holding [v, ov] (eval i X.env)
      standAt pos
      holding [v, ov, iv] (setItem ov iv v)
      release [v, ov, iv] [])) : PG X (.Subscript (.Name x pn) i pos) (tG T W p (gIx n mi)) := PG.imp (pg_sub ho hi set_list ha) fun v σ H Q h => tG_ix h
end
end Fv

namespace Fv
open PySem PySem.Spec PyProof.Rows L2
/-! ### calls by names: the values put in the parameters' order -/
def arrG {α : Type} (ks : List Str) : List Str → List α → Option (List α)
  | [], _ => some []
  | p :: ps, us => match (ks.zip us).lookup p, arrG ks ps us with
    | some u, some r => some (u :: r)
    | _, _ => none
def arrF {α : Type} (ks ps : List Str) (us : List α) : List α := (arrG ks ps us).getD []
theorem zip_lk {α β : Type} {R : α → β → Prop} : ∀ {ks : List Str} {xs : List α} {ys : List β} {p : Str}, Paired R xs ys → (∀ x, (ks.zip xs).lookup p = some x → ∃ y, (ks.zip ys).lookup p = some y ∧ R x y) ∧ ((ks.zip xs).lookup p = none → (ks.zip ys).lookup p = none)
  | [], _, _, _, _ => ⟨fun x h => by simp at h, fun _ => by simp⟩
  | k :: ks, _, _, p, .nil => ⟨fun x h => by simp at h, fun _ => by simp⟩
  | k :: ks, _, _, p, .cons (a := a) (b := b) r rs => by
    obtain ⟨h1, h2⟩ := zip_lk (ks := ks) (p := p) rs
    simp only [List.zip_cons_cons, List.lookup_cons]
    cases p == k with
    | true => exact ⟨fun x h => by cases h; exact ⟨_, rfl, r⟩, fun h => by cases h⟩
    | false => exact ⟨h1, h2⟩
theorem arrG_rel {α β : Type} {R : α → β → Prop} {ks : List Str} {xs : List α} {ys : List β} (r : Paired R xs ys) : ∀ {ps : List Str} {zs : List α}, arrG ks ps xs = some zs → ∃ ws, arrG ks ps ys = some ws ∧ Paired R zs ws
  | [], _, h => by cases h; exact ⟨[], rfl, .nil⟩
  | p :: ps, zs, h => by
    unfold arrG at h
    cases h1 : (ks.zip xs).lookup p with
    | none => rw [h1] at h; cases h
    | some x =>
      rw [h1] at h
      cases h2 : arrG ks ps xs with
      | none => rw [h2] at h; cases h
      | some q =>
        rw [h2] at h; cases h
        obtain ⟨y, h3, ry⟩ := (zip_lk (ks := ks) (p := p) r).1 x h1
        obtain ⟨ws, h4, rw'⟩ := arrG_rel r h2
        exact ⟨y :: ws, by unfold arrG; rw [h3, h4], .cons ry rw'⟩
/-- the binding of keywords alone -/
def KwB (K : PySem.W.Frag) (fd : FuncData) (ps ks : List Str) : Prop :=
  ∀ (s : Shared) (us zs : List Value), K.In s.heap → us.length = ks.length → arrG ks ps us = some zs → BindsTo s fd ⟨[], ks.zip us⟩ (ps.zip zs)
/-- a def of the text, as the others call it -/
structure Fd (T : Tb) (P : Program) (w : World) (K : PySem.W.Frag) (mg : Str → Option Value) (base : Heap) (x : Str) (ps : List Str) (kws : List (List Str)) (k : Nat) (fn : List S → FO) : Prop where
  ex : ∃ (f : Addr) (fd : FuncData), FnOk P w K mg base (L2.CX P w) k f fd ps (spD T ps.length fn) ∧ mg x = some (.ref f) ∧ PySem.W.keepIn K (.ref f) = true ∧ Binds K fd ps [] ∧ ∀ ks ∈ kws, KwB K fd ps ks
section
variable {X : Cx} {T : Tb} {W : WX} {k j : Nat} {ps : List Str} {kws : List (List Str)} {fn : List S → FO} {x : Str} {p pos : Pos} {e : Expr} {es : List Expr} {ms : En → Ou (List R)}
theorem pe_callF (F : Fd T X.prog X.w X.K X.mg X.base x ps kws j fn) {np : Nat} (hr : Room k X.A) (hj : j ≤ k) (hg : Gl X x) (tk : Takes X W) (hnp : ps.length = np) (ha : PA X (e :: es) (tEs T W ms)) (hdb : (x == ("__debug__" : Str)) = false)
    (he : starEach (e :: es) X.env = (false, eval e X.env) :: starEach es X.env) (hpl : (backTo pos (starEach es X.env)).any (·.1) = false) :
    PE X (.Call (.Name x p) (e :: es) [] pos) (tE T W (bP (pCall np fn) ms)) := by
  subst hnp
  obtain ⟨f, fd, F, hm, hk, hb, _⟩ := F.ex
  refine PE.imp (pe_callSD (E := WE W) (dvs := []) (ds := []) F (hr.mono hj) hg hm hk hb .nil (passAt tk) ha hdb he hpl) fun σ H Q h => ?_
  have := tE_prim (prim_call (T := T) (W := W) (np := ps.length) (fn := fn)) h
  unfold tCallSD
  simpa using this
theorem fps_frs : ∀ (vs : List V) (ds : List D), fps (sv vs) (se (ds.map .fr)) = []
  | [], _ => by simp [fps]
  | _ :: _, [] => by simp [fps]
  | v :: vs, d :: ds => by
    show fps (some v :: sv vs) (some (.fr d) :: se (ds.map .fr)) = []
    rw [fps_cons, fps_frs vs ds]
    simp [fp_fr]
theorem Sl.frs {G H : Hp} (h : Sub G H) : ∀ {vs : List V} {ds : List D}, RepFs T G vs ds → Sl T G H (sv vs) (se (ds.map .fr))
  | _, _, .nil => Sl.nil h
  | _, _, .cons (v := v) (d := d) r rs => (Sl.one h (RepO.fr r)).append (Sl.frs h rs) fun b hb => by
      have : b ∈ fp v (.fr d) ++ [] := hb
      rw [fp_fr] at this; simp at this
theorem repFs_paired {G : Hp} : ∀ {vs : List V} {ds : List D}, RepFs T G vs ds → Paired (RepF T G) vs ds
  | _, _, .nil => .nil
  | _, _, .cons r rs => .cons r (repFs_paired rs)
theorem paired_repFs {G : Hp} : ∀ {vs : List V} {ds : List D}, Paired (RepF T G) vs ds → RepFs T G vs ds
  | _, _, .nil => .nil
  | _, _, .cons r rs => .cons r (paired_repFs rs)
theorem paired_flip {α β : Type} {R : α → β → Prop} : ∀ {xs : List α} {ys : List β}, Paired R xs ys → Paired (fun b a => R a b) ys xs
  | _, _, .nil => .nil
  | _, _, .cons r rs => .cons r (paired_flip rs)
def pCallZ (ks ps : List Str) (fn : List S → FO) : List R → En → Ou R := fun rs e =>
  match frzs e rs with
  | some (ds, e1) => match (if ds.length = ks.length then arrG ks ps ds else none) with
    | some ds' => match fn (ds'.map .fr) with
      | .ok s _ => .ok (.vl s) e1
      | .ex x _ => .ex x e1
      | .no => .no
    | none => .no
  | none => .no
theorem arrG_len {α : Type} {ks : List Str} {us : List α} : ∀ {ps : List Str} {zs : List α}, arrG ks ps us = some zs → zs.length = ps.length
  | [], _, h => by cases h; rfl
  | p :: ps, zs, h => by
    unfold arrG at h
    cases h1 : (ks.zip us).lookup p with
    | none => rw [h1] at h; cases h
    | some x =>
      rw [h1] at h
      cases h2 : arrG ks ps us with
      | none => rw [h2] at h; cases h
      | some q => rw [h2] at h; cases h; simp [arrG_len h2]
/-- things that stand frozen are handed in -/
theorem spD_frs {G H : Hp} {σ : SV} {e : En} {τ : List V} {u : List S} {Q : VK} {vs : List V} {ds : List D} {np : Nat} (hn : ds.length = np) (md : Md T G H σ e τ u) (r : RepFs T G vs ds)
    (q : Post T W G H σ (As σ e τ u) τ u (match fn (ds.map .fr) with | .ok s _ => .ok (.vl s) e | .ex x _ => .ex x e | .no => .no) Q) : spD T np fn vs H Q fun c dx H' => W c dx σ H' := by
  refine ⟨G, ds.map .fr, by simpa using hn, Sl.frs md.sl.sub r, ?_⟩
  rw [fps_frs]
  cases hf : fn (ds.map .fr) with
  | no => rw [hf] at q; exact q
  | ex x ss' =>
    rw [hf] at q
    intro c dx G' H' ev sl rx
    refine q G' H' c dx ⟨ev.mono, fun b o h _ => ev.keep b o h (by simp), fun b hb => .inl hb, fun b o h => (ev.frz b o h).imp id fun z => .inr (z.resolve_left (by simp))⟩ ⟨md.l1, md.l2, md.sl.frame ev sl.sub fun _ _ => by simp⟩ rx
  | ok s ss' =>
    rw [hf] at q
    intro v G' H' ev sl
    have md1 : Md T G' H' σ e τ u := ⟨md.l1, md.l2, md.sl.frame ev sl.sub fun _ _ => by simp⟩
    have hl2 : (sv vs).length = (se ss').length := by have := sl.len; simp only [List.length_append, List.length_map, List.length_cons, List.length_nil] at this; simp only [List.length_map]; omega
    have sl1 : Sl T G' H' (sv vs ++ sv [v]) (se ss' ++ se [s]) := by
      have := sl
      rw [sv_app, se_app] at this
      exact this
    obtain ⟨w, hw, ro⟩ := (sl1.right hl2).rep 0 s rfl
    cases hw
    have new : ∀ b ∈ fp v s, H b = none := fun b hb => by
      have : b ∈ fps (sv (vs ++ [v])) (se (ss' ++ [s])) := by
        rw [sv_app, se_app, fps_append _ _ hl2]
        exact List.mem_append_right _ (by show b ∈ fp v s ++ []; rw [List.append_nil]; exact hb)
      exact (ev.own b this).resolve_left (by simp)
    have own1 : ∀ b ∈ fp v s, b ∉ As σ e τ u := fun b hb hc => by
      obtain ⟨_, o, ho⟩ := md.sl.own b hc
      rw [new b hb] at ho; cases ho
    refine q G' H' v [v] [s] ⟨ev.mono, fun b o h _ => ev.keep b o h (by simp), fun b hb => ?_, fun b o h => (ev.frz b o h).imp id fun z => .inr (z.resolve_left (by simp))⟩ (md1.push ro own1) (.vl .nil)
    exact ((As_push md.l1 md.l2 b).mp hb).imp id (new b)
theorem prim_callZ {ks : List Str} : PrimOk T W (fun σ vs H Q => ∃ vs', vs.length = ks.length ∧ arrG ks ps vs = some vs' ∧ spD T ps.length fn vs' H Q fun c dx H' => W c dx σ H') (pCallZ ks ps fn) := by
  intro G H σ e τ τ1 u u1 rs vs Q md hl hr q
  unfold pCallZ at q
  cases h1 : frzs e rs with
  | none => rw [h1] at q; exact q.elim
  | some p =>
    obtain ⟨ds, e1⟩ := p
    rw [h1] at q
    simp only at q
    cases h3 : (if ds.length = ks.length then arrG ks ps ds else none) with
    | none => rw [h3] at q; exact q.elim
    | some ds' =>
      rw [h3] at q
      have hd : ds.length = ks.length ∧ arrG ks ps ds = some ds' := by
        split at h3
        · rename_i z; exact ⟨z, h3⟩
        · cases h3
      have h2 := hd.2
      obtain ⟨G1, u1', ev, m1, r⟩ := hr.freeze md hl h1
      obtain ⟨vs', h3, r3⟩ := arrG_rel (paired_flip (repFs_paired r)) h2
      exact ⟨vs', by rw [r.length]; exact hd.1, h3, spD_frs (arrG_len h2) (m1.dropT hl) (paired_repFs (paired_flip r3)) (Post.after q (ev.less (As_drop m1.l1 hl)))⟩
theorem pe_callKF {ks : List Str} {kws' : List Keyword} (F : Fd T X.prog X.w X.K X.mg X.base x ps kws j fn) (hr : Room k X.A) (hj : j ≤ k) (hg : Gl X x) (tk : Takes X W) (hks : ks ∈ kws) (ha : PK X kws' (tEs T W ms)) (hdb : (x == ("__debug__" : Str)) = false)
    (hall : (backToKw pos (keywordEach kws' X.env)).all (·.1.isSome) = true) (hk2 : (backToKw pos (keywordEach kws' X.env)).filterMap (·.1) = ks)
    (hpl : ((backTo pos (starEach [] X.env)).any (·.1) || (backToKw pos (keywordEach kws' X.env)).any (·.1.isNone)) = false) :
    PE X (.Call (.Name x p) [] kws' pos) (tE T W (bP (pCallZ ks ps fn) ms)) := by
  obtain ⟨f, fd, F, hm, hk, hb, hkw⟩ := F.ex
  refine ⟨fun pins s σ H Q I h => ?_⟩
  have h := tE_prim (prim_callZ (T := T) (W := W) (ps := ps) (ks := ks) (fn := fn)) h
  refine wpAny_Call_Name_kw (ld_glob I hg hm ?_ hdb)
  refine PySem.W.callWith_KW0 (h₀ := X.base) I.ok.mod.kin hk hall (thn (ha.run pos pins s σ H _ I h) fun ws s2 ⟨zs, H2, I2, rz, vs', hz, hv, q2⟩ => ⟨I2.kIn, ?_⟩) hpl
  rw [hk2]
  obtain ⟨us', hu, ru⟩ := arrG_rel rz hv
  refine wpAny_call (codeAny_mono (F.run X.A X.stack s2 H2 ⟨[], ks.zip ws⟩ us' vs' Q (WE W σ) (hr.mono hj) I2.env0 (hkw ks hks s2 ws us' I2.kIn (by rw [← rz.length]; exact hz) hu) ru q2) fun r s' hq => ?_)
  cases r with
  | error e => exact passAt tk σ pins H2 s2 e s' I2 hq
  | ok fl =>
    cases fl with
    | ret u => exact I2.after hq
    | next => exact False.elim hq
    | brk => exact False.elim hq
    | cont => exact False.elim hq
theorem pk_nilF : PK X [] (tEs T W aNil) := ⟨fun pos pins s σ H Q I h => pk_nil.run pos pins s σ H Q I (tEs_nil h)⟩
theorem pk_consF {nm : Option Str} {kpos : Pos} {kws' : List Keyword} {m : En → Ou R} (ha : PE X e (tE T W m)) (hr : PK X kws' (tEs T W ms)) : PK X (⟨nm, e, kpos⟩ :: kws') (tEs T W (aCons m ms)) :=
  ⟨fun pos pins s σ H Q I h => (pk_cons ha hr).run pos pins s σ H Q I (tEs_cons h)⟩
end
end Fv

namespace Fv
open PySem PySem.Spec PyProof.Rows L2
/-! ### a def, of its body -/
def finS (p : Nat → Bool) : Nat → List S → En → Option (List S)
  | _, [], _ => some []
  | i, s :: ss, y :: e => if p i = true then (match y, finS p (i + 1) ss e with | some t, some r => some (t :: r) | _, _ => none)
      else (match s, finS p (i + 1) ss e with | .fr d, some r => some (.fr d :: r) | _, _ => none)
  | _, _ :: _, [] => none
def fnOf (nl : Nat) (p : Nat → Bool) (body : En → Fl) : List S → FO := fun ss =>
  match body (se ss ++ List.replicate (nl - ss.length) none) with
  | .rt s e => match finS p 0 ss e with | some ss' => .ok s ss' | none => .no
  | .nx e => match finS p 0 ss e with | some ss' => .ok (.fr .non) ss' | none => .no
  | .ex x e => match finS p 0 ss e with | some ss' => .ex x ss' | none => .no
  | _ => .no
inductive Sub2 (T : Tb) (G : Hp) : SV → En → SV → En → Prop
  | nil (σ e) : Sub2 T G [] [] σ e
  | keep (x y) {σ2 e2 σ e} : Sub2 T G σ2 e2 σ e → Sub2 T G (x :: σ2) (y :: e2) (x :: σ) (y :: e)
  | fr {v d} (x y) {σ2 e2 σ e} : RepF T G v d → Sub2 T G σ2 e2 σ e → Sub2 T G (some v :: σ2) (some (.fr d) :: e2) (x :: σ) (y :: e)
section
variable {T : Tb} {G H : Hp} {σ σ2 : SV} {e e2 : En}
theorem Sub2.fps (h : Sub2 T G σ2 e2 σ e) : (fps σ2 e2).Sublist (fps σ e) := by
  induction h with
  | nil σ e => show List.Sublist [] _; exact List.nil_sublist _
  | keep x y h ih => rw [fps_cons, fps_cons]; exact List.Sublist.append_left ih _
  | fr x y r h ih =>
    rw [fps_cons, fps_cons]
    simp only [fp_fr, List.nil_append]
    exact ih.trans (List.sublist_append_right _ _)
theorem Sub2.rep (h : Sub2 T G σ2 e2 σ e) : ∀ (r : ∀ (i : Nat) (s : S), e[i]? = some (some s) → ∃ v, σ[i]? = some (some v) ∧ RepO T G H v s) (i : Nat) (s : S), e2[i]? = some (some s) → ∃ v, σ2[i]? = some (some v) ∧ RepO T G H v s := by
  induction h with
  | nil σ e => intro r i s h; simp at h
  | keep x y h ih =>
    intro r i s h
    cases i with
    | zero => simpa using r 0 s (by simpa using h)
    | succ i => simpa using ih (fun j t q => by simpa using r (j + 1) t (by simpa using q)) i s (by simpa using h)
  | fr x y rf h ih =>
    intro r i s h
    cases i with
    | zero => simp at h; subst h; exact ⟨_, rfl, .fr rf⟩
    | succ i => simpa using ih (fun j t q => by simpa using r (j + 1) t (by simpa using q)) i s (by simpa using h)
theorem Sub2.len (h : Sub2 T G σ2 e2 σ e) : σ2.length = e2.length := by
  induction h with
  | nil => rfl
  | keep x y h ih => simp [ih]
  | fr x y r h ih => simp [ih]
theorem Sub2.sl (h : Sub2 T G σ2 e2 σ e) (x : Sl T G H σ e) : Sl T G H σ2 e2 := ⟨x.sub, h.len, h.rep x.rep, h.fps.nodup x.nd⟩
/-- the parameters at the end -/
theorem finS_sub {p : Nat → Bool} {G0 H0 : Hp} : ∀ {i : Nat} {ss ss' : List S} {e : En} {vs : List V} {σ0 : SV} {e0 : En} {σ : SV}, finS p i ss e = some ss' → vs.length = ss.length → σ.length = e.length →
    (∀ (j : Nat) (s : S), ss[j]? = some s → ∃ v, vs[j]? = some v ∧ RepO T G0 H0 v s) → Sub G0 G → (∀ (j : Nat) (v : V), vs[j]? = some v → p (i + j) = true → σ[j]? = some (some v)) → Sub2 T G (sv vs) (se ss') σ e ∧ ss'.length = ss.length
  | i, [], ss', e, [], σ0, e0, σ, h, _, _, _, _, _ => by cases h; exact ⟨.nil _ _, rfl⟩
  | i, [], _, _, _ :: _, _, _, _, _, h, _, _, _, _ => by simp at h
  | i, _ :: _, _, _, [], _, _, _, _, h, _, _, _, _ => by simp at h
  | i, s :: ss, ss', [], v :: vs, σ0, e0, σ, h, _, _, _, _, _ => by cases h
  | i, s :: ss, ss', y :: e, v :: vs, σ0, e0, [], h, _, hl, _, _, _ => by simp at hl
  | i, s :: ss, ss', y :: e, v :: vs, σ0, e0, x :: σ, h, hv, hl, hr, sub, hk => by
    have rc := fun {r} (q : finS p (i + 1) ss e = some r) => finS_sub (G0 := G0) (H0 := H0) (σ0 := σ0) (e0 := e0) (σ := σ) q (by simpa using hv) (by simpa using hl) (fun j t q => by simpa using hr (j + 1) t (by simpa using q)) sub
      (fun j w q hp => by simpa using hk (j + 1) w (by simpa using q) (by rw [show i + (j + 1) = i + 1 + j by omega]; exact hp))
    unfold finS at h
    split at h
    · rename_i hp
      split at h
      · rename_i t r h1
        cases h
        have hx := hk 0 v rfl (by simpa using hp)
        simp at hx
        subst hx
        obtain ⟨a, b⟩ := rc h1
        exact ⟨.keep _ _ a, by simp [b]⟩
      · cases h
    · split at h
      · rename_i d r h1
        cases h
        obtain ⟨w, hw, ro⟩ := hr 0 (.fr d) rfl
        cases hw
        obtain ⟨a, b⟩ := rc h1
        cases ro with
        | fr rf => exact ⟨.fr _ _ (rf.mono sub) a, by simp [b]⟩
      · cases h
theorem Sl.reps {vs : List V} {ss : List S} (x : Sl T G H (sv vs) (se ss)) : ∀ (j : Nat) (s : S), ss[j]? = some s → ∃ v, vs[j]? = some v ∧ RepO T G H v s := fun j s h => by
  obtain ⟨v, h1, r⟩ := x.rep j s (by simp [h])
  refine ⟨v, ?_, r⟩
  simp at h1
  exact h1
theorem Sl.rest (h : Sub G H) (n : Nat) : Sl T G H (List.replicate n none) (List.replicate n none) ∧ fps (List.replicate n none) (List.replicate n none) = [] := by
  have : ∀ n, fps (List.replicate n none) (List.replicate n none) = [] := fun n => by
    induction n with
    | zero => rfl
    | succ n ih =>
      show fps (none :: List.replicate n none) (none :: List.replicate n none) = []
      rw [fps_cons, ih]; rfl
  refine ⟨⟨h, by simp, fun i s q => ?_, by rw [this]; simp⟩, this n⟩
  rw [List.getElem?_replicate] at q
  split at q <;> simp at q
end
/-- what a def's body shows is what the def shows -/
theorem fn_body {T : Tb} {nl : Nat} {p : Nat → Bool} {body : En → Fl} {np : Nat} {vs : List V} {H : Hp} {Q : VK} {E : XK} {N : List Str} (hN : N.length = nl) (h : spD T np (fnOf nl p body) vs H Q E) :
    tS T (fun c d _ H => E c d H) p body { nx := fun _ H' => Q .non H', rt := Q } (L2.start N vs) H := by
  obtain ⟨G, ss, hl, sl, q⟩ := h
  have hvs : vs.length = ss.length := by have := sl.len; simpa using this
  have eN : N.length - vs.length = nl - ss.length := by rw [hN, hvs]
  obtain ⟨sr, fr⟩ := Sl.rest (T := T) sl.sub (nl - ss.length)
  have f0 : fps (L2.start N vs) (se ss ++ List.replicate (nl - ss.length) none) = fps (sv vs) (se ss) := by
    unfold L2.start
    rw [eN, fps_append _ _ (by simp [hvs]), fr, List.append_nil]
  have sl0 : Sl T G H (L2.start N vs) (se ss ++ List.replicate (nl - ss.length) none) := by
    unfold L2.start
    rw [eN]
    exact sl.append sr fun b _ hc => by rw [fr] at hc; simp at hc
  refine ⟨G, _, sl0, ?_⟩
  rw [f0]
  unfold fnOf at q
  have kp : ∀ {σ' : SV}, Keeps p (L2.start N vs) σ' → ∀ (j : Nat) (v : V), vs[j]? = some v → p (0 + j) = true → σ'[j]? = some (some v) := fun {σ'} k j v hj hp => by
    rw [k j (by simpa using hp)]
    unfold L2.start
    rw [List.getElem?_append_left (by simpa using (List.getElem?_eq_some_iff.mp hj).1)]
    simp [hj]
  -- an end with an answer
  have fin : ∀ {s : S} {e' : En} {ss' : List S}, finS p 0 ss e' = some ss' → (∀ (v : V) (G' H' : Hp), Evo G H (fps (sv vs) (se ss)) G' H' (fps (sv (vs ++ [v])) (se (ss' ++ [s]))) → Sl T G' H' (sv (vs ++ [v])) (se (ss' ++ [s])) → Q v H') →
      ∀ (σ' : SV) (v : V) (G' H' : Hp), Evo G H (fps (sv vs) (se ss)) G' H' (fps (σ' ++ [some v]) (e' ++ [some s])) → Sl T G' H' (σ' ++ [some v]) (e' ++ [some s]) → σ'.length = (L2.start N vs).length → Keeps p (L2.start N vs) σ' → σ'.length = e'.length → Q v H' :=
    fun {s e' ss'} hf q σ' v G' H' ev sl1 l k l2 => by
      obtain ⟨s2, hl2⟩ := finS_sub (T := T) (G := G') (σ0 := []) (e0 := []) hf hvs l2 sl.reps ev.mono (kp k)
      have slA := s2.sl (sl1.left l2)
      have slB := sl1.right l2
      have hl3 : (sv vs).length = (se ss').length := by simp [hl2, hvs]
      have dis : ∀ b ∈ fps (sv vs) (se ss'), b ∉ fps [some v] [some s] := fun b hb => sl1.dis l2 b (s2.fps.subset hb)
      refine q v G' H' (ev.less fun b hb => ?_) (by rw [sv_app, se_app]; exact slA.append slB dis)
      rw [sv_app, se_app, fps_append _ _ hl3] at hb
      rw [fps_append _ _ l2]
      rcases List.mem_append.mp hb with z | z
      · exact List.mem_append_left _ (s2.fps.subset z)
      · exact List.mem_append_right _ z
  cases hb : body (se ss ++ List.replicate (nl - ss.length) none) with
  | no => rw [hb] at q; exact q
  | bk e' => rw [hb] at q; exact q.elim
  | ct e' => rw [hb] at q; exact q.elim
  | rt s e' =>
    rw [hb] at q
    simp only at q
    cases hf : finS p 0 ss e' with
    | none => rw [hf] at q; exact q.elim
    | some ss' =>
      rw [hf] at q
      intro σ' v G' H' ev sl1 l k
      refine fin hf q σ' v G' H' ev sl1 l k ?_
      have := sl1.len
      simpa using this
  | nx e' =>
    rw [hb] at q
    simp only at q
    cases hf : finS p 0 ss e' with
    | none => rw [hf] at q; exact q.elim
    | some ss' =>
      rw [hf] at q
      intro σ' G' H' ev sl1 l k
      have m := sl1.md.push (v := .non) (s := .fr .non) (.fr .non) (by simp [fp])
      have e1 : fps (σ' ++ [some .non]) (e' ++ [some (.fr .non)]) = fps σ' e' := by
        rw [fps_append _ _ sl1.len]; simp [fps, fp]
      exact fin hf q σ' .non G' H' (by rw [e1]; exact ev) (by simpa using m.sl) l k sl1.len
  | ex x e' =>
    rw [hb] at q
    simp only at q
    cases hf : finS p 0 ss e' with
    | none => rw [hf] at q; exact q.elim
    | some ss' =>
      rw [hf] at q
      intro σ' c dx G' H' ev sl1 l k rx
      obtain ⟨s2, hl2⟩ := finS_sub (T := T) (G := G') (σ0 := []) (e0 := []) hf hvs sl1.len sl.reps ev.mono (kp k)
      exact q c dx G' H' (ev.less fun b hb => s2.fps.subset hb) (s2.sl sl1) rx
/-- a def of the text -/
theorem fn_okF {T : Tb} {P : Program} {w : World} {K : PySem.W.Frag} {mg : Str → Option Value} {base : Heap} {x qual : Str} {st : Stmt} {f : Addr} {fd : FuncData} {N ps : List Str} {k : Nat} {nl : Nat} {p : Nat → Bool} {body : En → Fl}
    (F : Fun K x qual st f fd) (S : FnScope N ps (defScope st)) (hN : N.length = nl)
    (hbody : ∀ (cdv : Value) (A : Around) (outer : List Env) (s : Shared) (H : Hp) (E : XK), Room k (A.deeper (envOfC qual (defScope st) s.heap.objs.size f cdv)) →
      PSs (cxOf (L2.CX P w) P w K mg base N qual (defScope st) f cdv A outer s H E) (defBody st) (tS T (fun c d _ H => E c d H) p body)) : FnOk P w K mg base (L2.CX P w) (k + 1) f fd ps (spD T ps.length (fnOf nl p body)) :=
  F.okX S (fun vs H Q E h => h.len) fun cdv A outer s H vs Q E hr h => ⟨_, hbody cdv A outer s H E hr, fn_body hN h⟩
end Fv

namespace Fv
open PySem PySem.Spec PyProof.Rows L2
/-! ### statements -/
def sNo : En → Fl := fun _ => .no
def sPar (i j : Nat) (ms : En → Ou (List R)) : En → Fl := fun e =>
  match ms e with
  | .ok rs e1 => match frzs e1 rs with
    | some ([a, b], e2) => if i < e2.length ∧ j < e2.length then .nx ((e2.set i (some (.fr a))).set j (some (.fr b))) else .no
    | _ => .no
  | .ex x e1 => .ex x e1
  | .no => .no
section
variable {T : Tb} {W : WX} {p : Nat → Bool} {G H : Hp} {σ : SV} {Dn : Ends} {e : En}
theorem Sl.setFr (x : Sl T G H σ e) {i : Nat} {v : V} {d : D} (hi : i < e.length) (r : RepF T G v d) : Sl T G H (σ.set i (some v)) (e.set i (some (.fr d))) ∧ ∀ b ∈ fps (σ.set i (some v)) (e.set i (some (.fr d))), b ∈ fps σ e := by
  refine ⟨(x.out i).put hi (.fr r) fun b hb => by rw [fp_fr] at hb; simp at hb, fun b hb => ?_⟩
  rcases (fps_set_mem hi x.len b).mp hb with z | z
  · rw [fp_fr] at z; simp at z
  · exact fps_sub b z
theorem tS_par {i j : Nat} (hi : p i = false) (hj : p j = false) {ms : En → Ou (List R)} : tS T W p (sPar i j ms) Dn σ H → tPar i j (tEs T W ms) Dn σ H := by
  rintro ⟨G, e, sl, q⟩
  refine ⟨G, e, [], [], sl.md, ?_⟩
  rw [As_nil]
  unfold sPar at q
  cases hm : ms e with
  | no => rw [hm] at q; exact q
  | ex x e1 =>
    rw [hm] at q
    exact fun G1 H1 c dx ev md rx => q σ c dx G1 H1 (by rw [As_nil] at ev; exact ev) md.base rfl .refl rx
  | ok rs e1 =>
    rw [hm] at q
    intro G1 H1 vs τ' u' ev md hr
    simp only at q
    split at q
    · rename_i a b e2 hf
      split at q
      · rename_i hij
        obtain ⟨G2, u2, ev2, md2, r⟩ := hr.freeze (τ := []) (u := []) md rfl hf
        cases r with
        | @cons v vs d ds r1 r2 => cases r2 with
          | @cons w vs2 d2 ds2 r2 r3 =>
            cases r3
            refine ⟨v, w, rfl, ?_⟩
            obtain ⟨s1, f1⟩ := md2.base.setFr hij.1 r1
            obtain ⟨s2, f2⟩ := s1.setFr (i := j) (by rw [List.length_set]; exact hij.2) r2
            exact q _ G2 H1 ((ev.trans ev2).less fun b hb => As_base md2.l1 b (f1 b (f2 b hb))) s2 (by simp) ((Keeps.set hi).trans (Keeps.set hj))
      · exact q.elim
    · exact q.elim
end
section
variable {X : Cx} {T : Tb} {W : WX} {p : Nat → Bool} {np : Nat} {e c tg : Expr} {es : List Expr} {a b rest : List Stmt} {st : Stmt} {m : En → Ou R} {ms : En → Ou (List R)} {t : En → Ou Bool} {ma mb : En → Fl} {g : S → En → Fl} {pos : Pos}
theorem pss_nilF : PSs X [] (tS T W p sNil) := PSs.imp pss_nil fun _ _ _ h => tS_nil h
theorem pss_consF (h1 : PS X st (tS T W p ma)) (h2 : PSs X rest (tS T W p mb)) : PSs X (st :: rest) (tS T W p (sCons ma mb)) := PSs.imp (pss_cons h1 h2) fun _ _ _ h => tS_cons h
theorem pss_noF : PSs X a (tS T W p sNo) := PSs.imp pss_never fun _ _ _ h => by obtain ⟨_, _, _, h⟩ := h; exact h.elim
theorem ps_exprF (he : PE X e (tE T W m)) (hs : swapsWith e none pos.line X.env = pure false) : PS X (.Expr e pos) (tS T W p (sExpr m)) := PS.imp (ps_expr he hs) fun _ _ _ h => tS_expr h
theorem ps_retF (he : PE X e (tE T W m)) : PS X (.Return (some e) pos) (tS T W p (sRet np m)) := PS.imp (ps_ret he) fun _ _ _ h => tS_ret h
theorem ps_retNF : PS X (.Return none pos) (tS T W p sRetN) := PS.imp ps_retN fun _ _ _ h => tS_retN h
theorem ps_ifF (hc : PT X c (tB T W t)) (ha : PSs X a (tS T W p ma)) (hb : PSs X b (tS T W p mb)) : PS X (.If c a b pos) (tS T W p (sIf t ma mb)) := PS.imp (ps_if hc ha hb) fun _ _ _ h => tS_if h
theorem ps_whileF (hp : PassesOwn (model X.prog X.w) X.A X.env X.xe) (hc : PT X c (tB T W t)) (hb : PSs X a (tS T W p ma)) : PS X (.While c a [] pos) (tS T W p (sWh t ma)) := PS.imp (ps_while hp hc hb) fun _ _ _ h => tS_while h
theorem ps_forF {iter : Expr} {it : En → Ou (List D)} (hp : PassesOwn (model X.prog X.w) X.A X.env X.xe) (hc : X.calm = true) (hi : PI X tg iter (tI T W it)) (hg : PG X tg (tG T W p g)) (gg : GoG g) (hb : PSs X a (tS T W p ma))
    (hs : ∀ x, foldedSetIterable iter X.env x = pure x) : PS X (.For tg iter a [] pos) (tS T W p (sFor it g ma)) := PS.imp (ps_for hp hc hi hg hb hs) fun _ _ _ h => tS_for gg h
theorem ps_asgF (he : PE X e (tE T W m)) (hg : PG X tg (tG T W p g)) (gg : GoG g) (hs : swapsWithSole [tg] e pos.line X.env = pure false) (hw : swappedStores [tg] e X.env = pure none)
    (h1 : (assignEach [tg] X.env).map (·.2) = [assign tg X.env]) : PS X (.Assign [tg] e pos) (tS T W p (sAsg g m)) := PS.imp (ps_asg he hg hs hw h1) fun _ _ _ h => tS_asg gg h
theorem ps_setF {i : Nat} {x : Str} {pos' : Pos} (hN : X.N.Nodup) (hi : X.N[i]? = some x) (hx : Loc X.env.scope x) (hp : p i = false) (he : PE X e (tE T W m)) (hs : swapsWith e (some (.Name x pos')) pos.line X.env = pure false) (hf : X.fn x = true ∨ X.env.scope.names.lookup x = some .local) :
    PS X (.Assign [.Name x pos'] e pos) (tS T W p (sAsg (gNm i) m)) := PS.imp (ps_set hN hi hx he hs hf) fun D σ H h => tE.mono (fun v H1 k => tG_name hp k) (tS_asg GoG.nm h)
theorem ps_parF {i j : Nat} {x y : Str} {ea eb : Expr} {px py pt : Pos} {kt k2 pt2} (hc : X.calm = true) (hN : X.N.Nodup) (hi : X.N[i]? = some x) (hj : X.N[j]? = some y) (hij : i ≠ j)
    (hx : X.env.scope.names.lookup x = some .local) (hy : X.env.scope.names.lookup y = some .local) (pi : p i = false) (pj : p j = false) (ha : PA X [ea, eb] (tEs T W ms))
    (hw : swappedStores [.Tuple [.Name x px, .Name y py] kt pt] (.Tuple [ea, eb] k2 pt2) X.env = pure (some [x, y]))
    (hs : swapsWithSole [.Tuple [.Name x px, .Name y py] kt pt] (.Tuple [ea, eb] k2 pt2) pos.line X.env = pure false) :
    PS X (.Assign [.Tuple [.Name x px, .Name y py] kt pt] (.Tuple [ea, eb] k2 pt2) pos) (tS T W p (sPar i j ms)) := PS.imp (ps_par hc hN hi hj hij hx hy ha hw hs) fun _ _ _ h => tS_par pi pj h
theorem ps_passF : PS X (.Pass pos) (tS T W p sNil) := PS.imp ps_pass fun _ _ _ h => tS_nil h
theorem pg_nameF {i : Nat} {x : Str} (hN : X.N.Nodup) (hi : X.N[i]? = some x) (hx : Loc X.env.scope x) (hp : p i = false) (hf : X.fn x = true ∨ X.env.scope.names.lookup x = some .local) : PG X (.Name x pos) (tG T W p (gNm i)) := PG.imp (pg_name hN hi hx hf) fun _ _ _ _ h => tG_name hp h
def gSeqF (K : PySem.W.Frag) (n : Nat) (t : TGs) : TG := fun v σ H Q => gTup K n t v σ H Q ∨ gUnl K n t v σ H Q
theorem PostG.wide {G H : Hp} {σ : SV} {A A' : List Addr} {o : Fl} {Q : SV → Hp → Prop} (q : PostG T W p G H σ A' o Q) (h : ∀ b ∈ A, b ∈ A') : PostG T W p G H σ A o Q := by
  cases o with
  | nx e => exact fun σ' G' H' ev sl l kp => q σ' G' H' (ev.wide h) sl l kp
  | ex x e => exact fun σ' c dx G' H' ev sl l kp => q σ' c dx G' H' (ev.wide h) sl l kp
  | _ => exact q
theorem tG_tup {gs : List (S → En → Fl)} {n : Nat} (hn : gs.length = n) {v : V} {σ : SV} {H : Hp} {Q : SV → Hp → Prop} : tG T W p (gTupF gs) v σ H Q → gSeqF T.K n (tGs T W p gs) v σ H Q := by
  rintro ⟨G, e, s, hl, sl, q⟩
  obtain ⟨w, hw, ro⟩ := (sl.right hl).rep 0 _ rfl
  cases hw
  replace q := q.wide (A := fps σ e) fun b hb => by rw [fps_append _ _ hl]; exact List.mem_append_left _ hb
  unfold gTupF at q
  split at q
  · rename_i ds
    split at q
    · rename_i hd
      obtain ⟨a, xs, rfl, q1, _, k1⟩ := ro.tup sl.sub rfl
      exact .inl ⟨a, xs, rfl, q1, by rw [k1.length, hd, hn], G, e, ds, sl.left hl, k1, q⟩
    · exact q.elim
  · rename_i ds
    split at q
    · rename_i hd
      obtain ⟨a, xs, rfl, q1, k1⟩ := ro.lst sl.sub rfl
      exact .inr ⟨a, xs, rfl, q1, by rw [k1.length, hd, hn], G, e, ds, sl.left hl, k1, q⟩
    · exact q.elim
  · rename_i ds
    split at q
    · rename_i hd
      obtain ⟨a, xs, rfl, q1, k1⟩ := ro.lst sl.sub rfl
      exact .inr ⟨a, xs, rfl, q1, by rw [k1.length, hd, hn], G, e, ds, sl.left hl, k1, q⟩
    · exact q.elim
  · exact q.elim
theorem pg_tupF {k n : Nat} {gs : List (S → En → Fl)} (hK : T.K = X.K) (hc : X.calm = true) (h : PGs X es (tGs T W p gs)) (hn : gs.length = n) (hl : (assignEach es X.env).length = n) (hst : (assignEach es X.env).findIdx? (·.1) = none) : PG X (.Tuple es k pos) (tG T W p (gTupF gs)) :=
  ⟨fun pins s σ H v u Q I r q => by
    replace q := tG_tup hn q
    rw [hK] at q
    rcases q with q | q
    · exact (pg_tup hc h hl hst).run pins s σ H v u Q I r q
    · exact (pg_unl hc h hl hst).run pins s σ H v u Q I r q⟩
theorem PGs.imp {t t' : TGs} (h : PGs X es t) (k : ∀ vs σ H Q, t' vs σ H Q → t vs σ H Q) : PGs X es t' := ⟨fun pins s σ H vs us Q I r q => h.run pins s σ H vs us Q I r (k vs σ H Q q)⟩
theorem pgs_nilF : PGs X [] (tGs T W p []) := PGs.imp pgs_nil fun _ _ _ _ h => tGs_nil h
theorem pgs_consF {gs : List (S → En → Fl)} (gg : GoG g) (h1 : PG X e (tG T W p g)) (h2 : PGs X es (tGs T W p gs)) (hs : (assignEach (e :: es) X.env).map (·.2) = assign e X.env :: (assignEach es X.env).map (·.2)) : PGs X (e :: es) (tGs T W p (g :: gs)) :=
  PGs.imp (pgs_cons h1 h2 hs) fun _ _ _ _ h => tGs_cons gg h
/-! ### calls of built-in functions -/
theorem pe_bi {id : String} {r : List V → Hp → VK → Prop} {f : List D → Option S} {x : Str} {px : Pos} (hc : CallR X (.builtin id) r) (hf : FunOk T r f) (hg : Gl X x) (hm : X.mg x = none) (hv : bootBuiltins x = some (.builtin id)) (ha : PA X (e :: es) (tEs T W ms)) (hn : x ≠ "__name__") (hdb : (x == ("__debug__" : Str)) = false)
    (he : starEach (e :: es) X.env = (false, eval e X.env) :: starEach es X.env) (hpl : (backTo pos (starEach es X.env)).any (·.1) = false) : PE X (.Call (.Name x px) (e :: es) [] pos) (tE T W (bP (pS f) ms)) :=
  PE.imp (pe_callB hc hg hm hv ha hn hdb he hpl) fun σ H Q h => tE_prim (prim_S hf) h
theorem pe_ty {id : String} {r : List V → Hp → VK → Prop} {f : List D → Option S} {x : Str} {px : Pos} (hc : CallR X (.type id) r) (hf : FunOk T r f) (hg : Gl X x) (hm : X.mg x = none) (hv : bootBuiltins x = some (.type id)) (ha : PA X (e :: es) (tEs T W ms)) (hn : x ≠ "__name__") (hdb : (x == ("__debug__" : Str)) = false)
    (he : starEach (e :: es) X.env = (false, eval e X.env) :: starEach es X.env) (hpl : (backTo pos (starEach es X.env)).any (·.1) = false) : PE X (.Call (.Name x px) (e :: es) [] pos) (tE T W (bP (pS f) ms)) :=
  PE.imp (pe_callTy hc hg hm hv ha hn hdb he hpl) fun σ H Q h => tE_prim (prim_S hf) h
end
end Fv

namespace Fv
open PySem PySem.Spec PyProof.Rows L2
/-! ### dict displays with constant keys -/
def bDic (ks : List Key) (ms : En → Ou (List R)) : En → Ou R := fun e =>
  match ms e with
  | .ok rs e1 => match frzs e1 rs with
    | some (ds, e2) => if ks.length = ds.length ∧ ks.Nodup ∧ ks.length ≤ 15 then .ok (.vl (.od ks ds)) e2 else .no
    | none => .no
  | .ex x e1 => .ex x e1
  | .no => .no
theorem putK_new {ks : List Key} {vs : List V} {k : Key} {v : V} (h : k ∉ ks) (hl : ks.length = vs.length) : putK (ks.zip vs) k v = (ks ++ [k]).zip (vs ++ [v]) := by
  unfold putK
  have : ((ks.zip vs).any fun kv => decide (kv.1 = k)) = false := by
    rw [List.any_eq_false]
    rintro ⟨a, b⟩ hab
    have := (List.of_mem_zip hab).1
    simp only [decide_eq_true_eq]
    rintro rfl; exact h this
  rw [this, List.zip_append hl]
  simp
theorem mergeK_new : ∀ {ks ks0 : List Key} {vs vs0 : List V}, (ks0 ++ ks).Nodup → ks.length = vs.length → ks0.length = vs0.length → mergeK (ks0.zip vs0) (ks.zip vs) = (ks0 ++ ks).zip (vs0 ++ vs)
  | [], ks0, [], vs0, _, _, _ => by simp [mergeK]
  | [], _, _ :: _, _, _, h, _ => by simp at h
  | _ :: _, _, [], _, _, h, _ => by simp at h
  | k :: ks, ks0, v :: vs, vs0, hn, hl, hl0 => by
    have hk : k ∉ ks0 := fun hc => by
      rw [List.nodup_append] at hn
      exact hn.2.2 k hc k (by simp) rfl
    have ih := mergeK_new (ks := ks) (ks0 := ks0 ++ [k]) (vs := vs) (vs0 := vs0 ++ [v]) (by simpa using hn) (by simpa using hl) (by simp [hl0])
    unfold mergeK at ih ⊢
    rw [List.zip_cons_cons, List.foldl_cons]
    show List.foldl _ (putK (ks0.zip vs0) k v) _ = _
    rw [putK_new hk hl0, ih]
    simp
section
variable {T : Tb} {W : WX} {H : Hp} {σ : SV}
/-- the row of readings -/
inductive Trs (T : Tb) (W : WX) : List Key → (En → Ou (List R)) → List (TE × TE) → Prop
  | nil : Trs T W [] aNil []
  | cons {k ks m ms trs} : Trs T W ks ms trs → Trs T W (k :: ks) (aCons m ms) ((tC (kV k), tE T W m) :: trs)
theorem Trs.go {ks : List Key} {ms : En → Ou (List R)} {trs : List (TE × TE)} (h : Trs T W ks ms trs) : ∀ {σ : SV} {H : Hp} {Q : List (V × V) → Hp → Prop}, tEs T W ms σ H (fun vs H2 => vs.length = ks.length → Q ((ks.map kV).zip vs) H2) → tPairs trs σ H Q := by
  induction h with
  | nil => intro σ H Q q; exact tEs_nil q rfl
  | @cons k ks m ms trs h ih =>
    intro σ H Q q
    show tE T W m σ H fun y H2 => tPairs trs σ H2 fun ps H3 => Q ((kV k, y) :: ps) H3
    exact tE.mono (fun y H1 q => ih (tEs.mono (fun vs H2 q hl => q (by simp [hl])) q)) (tEs_cons q)
theorem tE_dic {ks : List Key} {ms : En → Ou (List R)} {trs : List (TE × TE)} (h : Trs T W ks ms trs) {Q : VK} : tE T W (bDic ks ms) σ H Q → tDisp trs σ H Q := by
  rintro ⟨G, e, τ, u, md, q⟩ p hp
  have hG : G p = none := md.sl.sub.none hp
  have g := Grow.own md.sl.sub (p := p) (o := HO.dK []) hp
  have md1 := (md.grow g).push (v := .ref p) (s := .od [] []) (.od (ks := []) (vs := []) upd_same hG rfl .nil) fun b hb hc => by
    simp [fp] at hb; subst hb
    obtain ⟨_, o, ho⟩ := md.sl.own b hc
    rw [hp] at ho; cases ho
  have ev1 : Evo G H (As σ e τ u) G (upd H p (.dK [])) (As σ e (τ ++ [.ref p]) (u ++ [.od [] []])) := ⟨.refl _, fun b o z _ => g.keep b o z, fun b hb => by
    rcases (As_push md.l1 md.l2 b).mp hb with z | z
    · exact .inl z
    · simp [fp] at z; subst z; exact .inr hp, fun _ _ z => .inl z⟩
  refine h.go ⟨G, e, τ ++ [.ref p], u ++ [.od [] []], md1, ?_⟩
  unfold bDic at q
  cases hm : ms e with
  | no => rw [hm] at q; exact q
  | ex x e1 =>
    rw [hm] at q
    exact fun G2 H2 c dx ev2 md2 rx => q G2 H2 c dx ((ev1.trans ev2).less (As_drop md2.l1 md.l2)) (md2.dropT md.l2) rx
  | ok rs e1 =>
    rw [hm] at q
    simp only at q
    intro G2 H2 vs τ2 u2 ev2 md2 hr2 hlen
    cases hf : frzs e1 rs with
    | none => rw [hf] at q; exact q.elim
    | some z =>
      obtain ⟨ds, e2⟩ := z
      rw [hf] at q
      simp only at q
      split at q
      · rename_i hks
        have hl1 : (τ ++ [V.ref p]).length = (u ++ [S.od [] []]).length := by simp [md.l2]
        obtain ⟨G3, u3, ev3, md3, r3⟩ := hr2.freeze md2 hl1 hf
        have md4 := md3.dropT hl1
        have ro := md4.last md.l2
        have hp2 : H2 p = some (.dK []) := by
          cases ro with
          | od h1 _ _ r => cases r; exact h1
        have hG3 : G3 p = none := (ro.own p (by simp [fp])).1
        refine ⟨hp2, ks.zip vs, ?_, by simp [hlen]; omega, ?_⟩
        · clear q ev1 md1 h g hks r3 hr2 md4 md3 hm
          induction ks generalizing vs with
          | nil => rfl
          | cons k ks ih => cases vs with
            | nil => simp at hlen
            | cons v vs => simp only [List.map_cons, List.zip_cons_cons]; rw [ih]; simpa using hlen
        · have em : mergeK [] (ks.zip vs) = ks.zip vs := mergeK_new (ks0 := []) (vs0 := []) (by simpa using hks.2.1) hlen.symm rfl
          rw [em]
          obtain ⟨md5, ev5⟩ := md4.wrT (s' := .od ks ds) (o' := .dK (ks.zip vs)) md.l2 (by simp [fp]) (.od upd_same hG3 hlen.symm r3) fun b hb => by simpa [fp] using hb
          exact q G3 _ (.ref p) [.ref p] [.od ks ds] ((((ev1.trans ev2).trans ev3).less (As_drop md3.l1 hl1)).trans ev5) md5 (.vl .nil)
      · exact q.elim
theorem tE_dic0 {Q : VK} : tE T W (bDic [] aNil) σ H Q → tDNewK σ H Q := by
  rintro ⟨G, e, τ, u, md, q⟩ p hp
  exact post_new (G' := G) (s := .od [] []) q .refl md (.own md.sl.sub hp) (.od (ks := []) (vs := []) upd_same (md.sl.sub.none hp) rfl .nil) fun b hb => by simp [fp] at hb; subst hb; exact hp
end
section
variable {X : Cx} {T : Tb} {W : WX} {pos : Pos}
theorem pe_dic0F : PE X (.Dict [] [] pos) (tE T W (bDic [] aNil)) := PE.imp pe_dnewK fun _ _ _ h => tE_dic0 h
/-- the row of pairs -/
structure PDs (X : Cx) (T : Tb) (W : WX) (pos : Pos) (keys : List (Option Expr)) (values : List Expr) (ks : List Key) (ms : En → Ou (List R)) : Prop where
  ex : ∃ trs, PPs X pos keys values trs ∧ Trs T W ks ms trs
theorem pd_nil : PDs X T W pos [] [] [] aNil := ⟨[], pps_nil, .nil⟩
theorem pd_cons {k v : Expr} {key : Key} {keys : List (Option Expr)} {values : List Expr} {ks : List Key} {m : En → Ou R} {ms : En → Ou (List R)} (hk : PE X k (tC (kV key))) (hv : PE X v (tE T W m)) (hr : PDs X T W pos keys values ks ms) :
    PDs X T W pos (some k :: keys) (v :: values) (key :: ks) (aCons m ms) := by
  obtain ⟨trs, a, b⟩ := hr.ex
  exact ⟨_, pps_cons hk hv a, .cons b⟩
theorem pe_dicF {keys : List (Option Expr)} {values : List Expr} {ks : List Key} {ms : En → Ou (List R)} (h : PDs X T W pos keys values ks ms) (hall : keys.all (·.isSome) = true) (hl : keys.length = values.length) (h0 : keys ≠ []) (h15 : keys.length ≤ 15) : PE X (.Dict keys values pos) (tE T W (bDic ks ms)) := by
  obtain ⟨trs, a, b⟩ := h.ex
  exact PE.imp (pe_disp a hall hl h0 h15) fun _ _ _ h => tE_dic b h
end
end Fv

namespace Fv
open PySem PySem.Spec PyProof.Rows L2
abbrev tb (K : PySem.W.Frag) (ca fa : Nat → Addr) : Tb := { K := K, ca := ca, fa := fa }
def AllG (gs : List (S → En → Fl)) : Prop := ∀ g ∈ gs, GoG g
theorem allg_nil : AllG [] := fun g h => by cases h
theorem allg_cons {g : S → En → Fl} {gs : List (S → En → Fl)} (h : GoG g) (k : AllG gs) : AllG (g :: gs) := fun x hx => by
  cases hx with
  | head => exact h
  | tail _ z => exact k x z
theorem hu65 {k : Nat} {A : Around} (hr : Room k A) : A.units + 65 < cLine := by have := hr.un; omega
theorem ps_noF {X : Cx} {T : Tb} {W : WX} {p : Nat → Bool} {st : Stmt} : PS X st (tS T W p sNo) := ⟨fun _ _ _ _ _ _ h => by obtain ⟨_, _, _, h⟩ := h; exact h.elim⟩
theorem kwb_of {K : PySem.W.Frag} {x qual : Str} {st : Stmt} {f : Addr} {fd : FuncData} {ps ks : List Str} (F : Fun K x qual st f fd)
    (h : ∀ (kV doc pm : Value) (an : Option Addr) (cdv ct : Value) (us zs : List Value), us.length = ks.length → arrG ks ps us = some zs → bindArgs (PySem.W.fnOf x qual (defArgs st) (defBody st) (defScope st) .none kV doc pm an cdv ct) ⟨[], ks.zip us⟩ = pure (ps.zip zs)) : KwB K fd ps ks := by
  obtain ⟨oc, od, kV, doc, pm, an, cdv, ct, osl, rfl, lk, hcd⟩ := F.ex
  exact fun s us zs _ hl hz => .of_eq (h kV doc pm an cdv ct us zs hl hz)
theorem kw_nil {K : PySem.W.Frag} {fd : FuncData} {ps : List Str} : ∀ ks ∈ ([] : List (List Str)), KwB K fd ps ks := fun _ h => by cases h
theorem kw_cons {K : PySem.W.Frag} {fd : FuncData} {ps k : List Str} {l : List (List Str)} (h : KwB K fd ps k) (t : ∀ ks ∈ l, KwB K fd ps ks) : ∀ ks ∈ k :: l, KwB K fd ps ks := fun ks hk => by
  cases hk with
  | head => exact h
  | tail _ z => exact t ks z
theorem ints_repF {T : Tb} {G : Hp} : ∀ ns : List Int, RepFs T G (ns.map V.int) (ns.map D.int)
  | [] => .nil
  | n :: ns => .cons (.int n) (ints_repF ns)
/-- the law's own head: the script is a list of numbers, what it answers is True -/
theorem law_sp {T : Tb} {H : Hp} {a : Addr} {ns : List Int} {fn : List S → FO} {ss' : List S} (q : SqL T.K H a (ns.map V.int)) (h : fn [.fr (.lst (ns.map D.int))] = .ok (.fr (.bl true)) ss') :
    spD T 1 fn [.ref a] H (fun v _ => v = .bl true) fun _ _ _ => False := by
  refine ⟨H, [.fr (.lst (ns.map D.int))], rfl, Sl.one (.refl _) (.fr (.lst q (ints_repF ns))), ?_⟩
  rw [h]
  intro v G' H' ev sl
  have hl : (sv [V.ref a]).length = (se ss').length := by have := sl.len; simp at this; simp; omega
  rw [sv_app, se_app] at sl
  obtain ⟨w, hw, r⟩ := (sl.right hl).rep 0 _ rfl
  cases hw
  exact r.bl rfl
end Fv

namespace Fv
open PySem PySem.Spec PyProof.Rows L2
def dStr : List D → Option S
  | [.int i] => if i.natAbs.log2 < 1920 then some (.fr (.str (toString i))) else none
  | _ => none
theorem fo_str {T : Tb} : FunOk T (fun xs H Q => ∃ i, xs = [.int i] ∧ i.natAbs.log2 < 1920 ∧ Q (.str (toString i)) H) dStr := fun G H vs ss s Q hs r h k => by
  unfold dStr at h
  split at h
  · rename_i i heq
    split at h
    · rename_i hz
      cases h
      obtain ⟨v, s1, rfl, r1, e1⟩ := repOs1 r heq
      obtain rfl := r1.int e1
      exact ⟨i, rfl, hz, done_fr (W := True) hs k (.str _)⟩
    · cases h
  · cases h
/-! ### calls that leave out what stands as a default -/
def pCallD (dfl : List D) (np : Nat) (fn : List S → FO) : List R → En → Ou R := fun rs e =>
  match frzs e rs with
  | some (ds, e1) => if (ds ++ dfl).length = np then match fn ((ds ++ dfl).map .fr) with
      | .ok s _ => .ok (.vl s) e1
      | .ex x _ => .ex x e1
      | .no => .no
    else .no
  | none => .no
structure Fdd (T : Tb) (P : Program) (w : World) (K : PySem.W.Frag) (mg : Str → Option Value) (base : Heap) (x : Str) (ps : List Str) (dfl : List D) (k : Nat) (fn : List S → FO) : Prop where
  ex : ∃ (f : Addr) (fd : FuncData) (dvs : List V) (ds : List Value), FnOk P w K mg base (L2.CX P w) k f fd ps (spD T ps.length fn) ∧ mg x = some (.ref f) ∧ PySem.W.keepIn K (.ref f) = true ∧ Vals dvs ds ∧ Binds K fd ps ds ∧ ∀ G, RepFs T G dvs dfl
section
variable {X : Cx} {T : Tb} {W : WX} {k j : Nat} {ps : List Str} {fn : List S → FO} {x : Str} {p pos : Pos} {e : Expr} {es : List Expr} {ms : En → Ou (List R)} {dfl : List D}
theorem prim_callD {dvs : List V} (hd : ∀ G, RepFs T G dvs dfl) {np : Nat} : PrimOk T W (fun σ vs H Q => spD T np fn (vs ++ dvs) H Q fun c dx H' => W c dx σ H') (pCallD dfl np fn) := by
  intro G H σ e τ τ1 u u1 rs vs Q md hl hr q
  unfold pCallD at q
  cases h1 : frzs e rs with
  | none => rw [h1] at q; exact q.elim
  | some p =>
    obtain ⟨ds, e1⟩ := p
    rw [h1] at q
    simp only at q
    split at q
    · rename_i hn
      obtain ⟨G1, u1', ev, m1, r⟩ := hr.freeze md hl h1
      exact spD_frs hn (m1.dropT hl) (r.append (hd G1)) (Post.after q (ev.less (As_drop m1.l1 hl)))
    · exact q.elim
theorem pe_callDF (F : Fdd T X.prog X.w X.K X.mg X.base x ps dfl j fn) {np : Nat} (hr : Room k X.A) (hj : j ≤ k) (hg : Gl X x) (tk : Takes X W) (hnp : ps.length = np) (ha : PA X (e :: es) (tEs T W ms)) (hdb : (x == ("__debug__" : Str)) = false)
    (he : starEach (e :: es) X.env = (false, eval e X.env) :: starEach es X.env) (hpl : (backTo pos (starEach es X.env)).any (·.1) = false) :
    PE X (.Call (.Name x p) (e :: es) [] pos) (tE T W (bP (pCallD dfl np fn) ms)) := by
  subst hnp
  obtain ⟨f, fd, dvs, ds, F, hm, hk, hv, hb, hd⟩ := F.ex
  exact PE.imp (pe_callSD (E := WE W) (dvs := dvs) (ds := ds) F (hr.mono hj) hg hm hk hb hv (passAt tk) ha hdb he hpl) fun σ H Q h => tE_prim (prim_callD (T := T) (W := W) hd) h
end
section
variable {K : PySem.W.Frag} {x qual : Str} {st : Stmt} {dvs : List V} {f : Addr} {fd : FuncData} {ps : List Str}
abbrev FnD (K : PySem.W.Frag) (x : Str) (st : Stmt) (dvs : List V) (f : Addr) (fd : FuncData) : Prop := FunD K x x (defArgs st) (defBody st) (defScope st) dvs [] f fd
theorem fnd_mk {T : Addr} {oc ocT : Value} {od odT an : Option Addr} {osl slT : Array (Option Value)} {kV doc pm cdv ct : Value} {its : Array Value} {n : Nat}
    (l : K.lookup f = some ⟨oc, od, .func (PySem.W.fnOf x x (defArgs st) (defBody st) (defScope st) (.ref T) kV doc pm an cdv ct), osl⟩)
    (c : PySem.W.codeIn K cdv x = true) (k : PySem.W.keepIn K (.ref f) = true) (lT : K.lookup T = some ⟨ocT, odT, .seq its n, slT⟩) (hd : dvs ≠ []) (hv : Vals dvs its.toList) :
    FnD K x st dvs f (PySem.W.fnOf x x (defArgs st) (defBody st) (defScope st) (.ref T) kV doc pm an cdv ct) :=
  ⟨⟨oc, od, .ref T, kV, doc, pm, an, cdv, ct, osl, rfl, l, c, .inr ⟨hd, T, _, its.toList, n, rfl, lT, by simp, hv⟩, .inl rfl⟩, k⟩
/-- keywords alone, all of them given -/
theorem kwb_ofD (F : FnD K x st dvs f fd) (hd : dvs ≠ []) {ks : List Str}
    (h : ∀ (T : Addr) (kV doc pm : Value) (an : Option Addr) (cdv ct : Value) (us zs its : List Value), us.length = ks.length → its.length = dvs.length → arrG ks ps us = some zs →
      ∃ k, bindArgs (PySem.W.fnOf x x (defArgs st) (defBody st) (defScope st) (.ref T) kV doc pm an cdv ct) ⟨[], ks.zip us⟩ = seqItems? (.ref T) >>= k ∧ k (some its.toArray) = pure (ps.zip zs)) : KwB K fd ps ks := by
  obtain ⟨oc, od, dV, kV, doc, pm, an, cdv, ct, osl, rfl, lk, hcd, hD, hK⟩ := F.ex
  rcases hD with ⟨e, _⟩ | ⟨_, T, o, its, m, rfl, lT, oT, rT⟩
  · exact absurd e hd
  · intro s us zs X hl hz
    obtain ⟨k, e1, e2⟩ := h T kV doc pm an cdv ct us zs its hl rT.length.symm hz
    refine BindsTo.of_looks fun M => ?_
    rw [e1]
    exact looks_items X lT oT (.of_pure e2)
theorem fn_okD {T : Tb} {P : Program} {w : World} {mg : Str → Option Value} {base : Heap} {N : List Str} {k : Nat} {nl : Nat} {p : Nat → Bool} {body : En → Fl}
    (F : FnD K x st dvs f fd) (S : FnScope N ps (defScope st)) (hN : N.length = nl)
    (hbody : ∀ (cdv : Value) (A : Around) (outer : List Env) (s : Shared) (H : Hp) (E : XK), Room k (A.deeper (envOfC x (defScope st) s.heap.objs.size f cdv)) →
      PSs (cxOf (L2.CX P w) P w K mg base N x (defScope st) f cdv A outer s H E) (defBody st) (tS T (fun c d _ H => E c d H) p body)) : FnOk P w K mg base (L2.CX P w) (k + 1) f fd ps (spD T ps.length (fnOf nl p body)) :=
  F.ok S (fun vs H Q E h => h.len) fun cdv A outer s H vs Q E hr h => ⟨_, hbody cdv A outer s H E hr, fn_body hN h⟩
end
end Fv

namespace Fv
open PySem PySem.Spec PyProof.Rows L2
def blkB (N : List Str) (sn : List (Str × NameKind)) (scope : Scope) (own : List (Str × Nat)) : Bool :=
  (match scope.kind with | .function => true | _ => false) && (own.all fun p => decide (N[p.2]? = some p.1)) &&
  (scope.names.all fun y => decide (scope.names.lookup y.1 = some y.2) && (match y.2 with
    | .free => decide (sn.lookup y.1 = some .cell) || decide (sn.lookup y.1 = some .free)
    | .local => decide (y.1 ∈ own.map (·.1)) || decide (y.1 ∉ N)
    | .cell => decide (y.1 ∈ own.map (·.1)) || decide (y.1 ∉ N)
    | _ => true))
theorem blk_of {N : List Str} {sc scope : Scope} {own : List (Str × Nat)} (h : blkB N sc.names scope own = true) : BlkOk N sc scope own := by
  unfold blkB at h
  simp only [Bool.and_eq_true, List.all_eq_true, decide_eq_true_eq] at h
  obtain ⟨⟨h1, h2⟩, h3⟩ := h
  refine ⟨?_, fun y hy => (h3 y hy).1, h2, fun y hy e => ?_, fun y hy e => ?_⟩
  · cases hk : scope.kind <;> rw [hk] at h1 <;> first | rfl | cases h1
  · have := (h3 y hy).2
    rw [e] at this
    simpa using this
  · have := (h3 y hy).2
    rcases e with e | e <;> rw [e] at this <;> simpa using this
def bYes : En → Ou Bool := fun e => .ok true e
section
variable {X : Cx} {T : Tb} {W : WX} {p : Nat → Bool} {c : Expr}
theorem pts_nilF : PTs X [] (tB T W bYes) := ⟨fun pins s σ H Q I h => pts_nil.run pins s σ H Q I (by
  obtain ⟨G, e, τ, u, md, q⟩ := h
  exact q G H .refl md)⟩
theorem pts_oneF {t : En → Ou Bool} (h : PT X c (tB T W t)) : PTs X [c] (tB T W t) := pts_one h
variable {elt tg iter : Expr} {ifs : List Expr} {scope : Scope} {own : List (Str × Nat)} {pos : Pos} {it : En → Ou (List D)} {g : S → En → Fl} {t : En → Ou Bool} {m : En → Ou R} {vs : List Nat}
theorem pe_lcF (hc : X.calm = true) (hN : X.N.Nodup) (ok : BlkOk X.N X.env.scope scope own) (hv : own.map (·.2) = vs) (nd : vs.Nodup) (gg : GoG g) (hi : PI X tg iter (tI T W it))
    (hg : ∀ (s : Shared) (H : Hp) (C : Addr) (cl : List (Str × Addr)) (fp : List Addr), PG (X.blk s H scope (compEnvC scope cl C X.env) fp) tg (tG T WF (pC vs) g))
    (ht : ∀ (s : Shared) (H : Hp) (C : Addr) (cl : List (Str × Addr)) (fp : List Addr), PTs (X.blk s H scope (compEnvC scope cl C X.env) fp) ifs (tB T WF t))
    (he : ∀ (s : Shared) (H : Hp) (C : Addr) (cl : List (Str × Addr)) (fp : List Addr), PE (X.blk s H scope (compEnvC scope cl C X.env) fp) elt (tE T WF m)) (hs : ∀ x, foldedSetIterable iter X.env x = pure x) :
    PE X (.ListComp elt [⟨tg, iter, ifs, 0⟩] scope pos) (tE T W (bLc it g t m vs)) := by
  subst hv
  exact PE.imp (pe_lc hc hN hi ok hg ht he hs) fun σ H Q h => tE_lc gg nd h
theorem ps_setLcF {i : Nat} {y : Str} {py spos : Pos} (hc : X.calm = true) (hN : X.N.Nodup) (hy : X.N[i]? = some y) (hyl : X.env.scope.names.lookup y = some .local) (hp : p i = false)
    (hsw : swapsWith (.ListComp elt [⟨tg, iter, ifs, 0⟩] scope pos) (some (.Name y py)) spos.line X.env = pure true) (ok : BlkOk X.N X.env.scope scope own) (hv : own.map (·.2) = vs) (nd : vs.Nodup) (gg : GoG g) (hi : PI X tg iter (tI T W it))
    (hg : ∀ (s : Shared) (H : Hp) (C : Addr) (cl : List (Str × Addr)) (fp : List Addr), PG (X.blk s H scope (compEnvC scope cl C X.env) fp) tg (tG T WF (pC vs) g))
    (ht : ∀ (s : Shared) (H : Hp) (C : Addr) (cl : List (Str × Addr)) (fp : List Addr), PTs (X.blk s H scope (compEnvC scope cl C X.env) fp) ifs (tB T WF t))
    (he : ∀ (s : Shared) (H : Hp) (C : Addr) (cl : List (Str × Addr)) (fp : List Addr), PE (X.blk s H scope (compEnvC scope cl C X.env) fp) elt (tE T WF m)) (hs : ∀ x, foldedSetIterable iter X.env x = pure x) :
    PS X (.Assign [.Name y py] (.ListComp elt [⟨tg, iter, ifs, 0⟩] scope pos) spos) (tS T W p (sAsg (gNm i) (bLc it g t m vs))) := by
  subst hv
  exact PS.imp (ps_setLc hc hN hy hyl hsw hi ok hg ht he hs) fun D σ H h => tE_lc gg nd (tE.mono (fun v H1 k => tG_name hp k) (tS_asg GoG.nm h))
end
end Fv

namespace K04
open PySem PySem.Spec PyProof.Rows L2 Fv
def topS (i : Nat) : Stmt := PySem.Challenge.pw_boughswap_k04_sums_and_products_of_fract.main.body.getD i (.Pass ⟨0, 0, 0, 0⟩)
abbrev s_Lwell : Stmt := topS 15
theorem sc_Lwell : FnScope ["_law_cell"] ["_law_cell"] (defScope s_Lwell) := ⟨rfl, rfl, rfl, by decide +kernel, rfl, by decide +kernel, by decide +kernel⟩
def b_Lwell : En → Fl :=
  (sCons (sRet 1 (bLst (aCons (bBin .Mult (bVar 0) (bP (pS dInt) (aCons (bCmp .GtE (bVar 0) (bBin .Pow (bCon (.int 10)) (bCon (.int 18)))) aNil))) (aCons (bBin .Mod (bVar 0) (bCon (.int 2147483647))) (aCons (bCon (.int 0)) aNil)))))
  sNil)
def d_Lwell : List S → FO := fnOf 1 (fun i => i == 0) b_Lwell
abbrev s_Ldraw : Stmt := topS 16
theorem sc_Ldraw : FnScope ["_law_well_here", "_law_many", "_law_this", "_law_found"] ["_law_well_here", "_law_many"] (defScope s_Ldraw) := ⟨rfl, rfl, rfl, by decide +kernel, rfl, by decide +kernel, by decide +kernel⟩
def b_Ldraw : En → Fl :=
  (sCons (sIf (bTb (bCmp .Gt (bIx (bVar 0) (bCon (.int 0))) (bCon (.int 0))))
  (sCons (sAsg (gTupF [(gIx 0 (bCon (.int 0))), (gNm 3)]) (bP (pS dDivmod) (aCons (bIx (bVar 0) (bCon (.int 0))) (aCons (bVar 1) aNil))))
  (sCons (sRet 2 (bVar 3))
  sNil))
  sNil)
  (sCons (sAsg (gIx 0 (bCon (.int 2))) (bBin .Add (bIx (bVar 0) (bCon (.int 2))) (bCon (.int 1))))
  (sCons (sAsg (gNm 2) (bBin .Mod (bBin .Add (bBin .Add (bBin .Mult (bIx (bVar 0) (bCon (.int 1))) (bBin .Add (bBin .Mult (bCon (.int 2)) (bIx (bVar 0) (bCon (.int 2)))) (bCon (.int 1)))) (bBin .Mult (bCon (.int 104729)) (bIx (bVar 0) (bCon (.int 2))))) (bCon (.int 17))) (bCon (.int 2147483629))))
  (sCons (sAsg (gNm 2) (bBin .Mod (bBin .Pow (bVar 2) (bCon (.int 5))) (bCon (.int 2147483587))))
  (sCons (sAsg (gNm 2) (bBin .Mod (bBin .Mult (bVar 2) (bBin .Add (bBin .FloorDiv (bVar 2) (bCon (.int 1301))) (bCon (.int 50021)))) (bCon (.int 2147483647))))
  (sCons (sRet 2 (bBin .Mod (bBin .FloorDiv (bVar 2) (bCon (.int 7))) (bVar 1)))
  sNil))))))
def d_Ldraw : List S → FO := fnOf 4 (fun i => i == 0 || i == 1) b_Ldraw
abbrev s_Lnumber : Stmt := topS 17
theorem sc_Lnumber : FnScope ["_law_well_here", "_law_most", "_law_kind", "_law_sign", "_law_number_here", "_law_k"] ["_law_well_here", "_law_most"] (defScope s_Lnumber) := ⟨rfl, rfl, rfl, by decide +kernel, rfl, by decide +kernel, by decide +kernel⟩
def b_Lnumber_1 : En → Fl :=
  (sCons (sAsg (gNm 4) (bBin .Add (bBin .Mult (bVar 4) (bBin .Pow (bCon (.int 10)) (bCon (.int 8)))) (bP (pCall 2 d_Ldraw) (aCons (bVar 0) (aCons (bBin .Pow (bCon (.int 10)) (bCon (.int 8))) aNil)))))
  sNil)
def b_Lnumber : En → Fl :=
  (sCons (sAsg (gNm 2) (bP (pCall 2 d_Ldraw) (aCons (bVar 0) (aCons (bCon (.int 6)) aNil))))
  (sCons (sAsg (gNm 3) (bIx (bLst (aCons (bCon (.int 1)) (aCons (b1 (pS dNeg) (bCon (.int 1))) aNil))) (bP (pCall 2 d_Ldraw) (aCons (bVar 0) (aCons (bCon (.int 2)) aNil)))))
  (sCons (sIf (bTb (bCmp .Lt (bVar 2) (bCon (.int 3))))
  (sCons (sRet 2 (bBin .Mult (bVar 3) (bP (pCall 2 d_Ldraw) (aCons (bVar 0) (aCons (bIx (bLst (aCons (bCon (.int 1)) (aCons (bCon (.int 13)) (aCons (bCon (.int 1009)) aNil)))) (bVar 2)) aNil)))))
  sNil)
  sNil)
  (sCons (sIf (bTb (bCmp .Eq (bVar 2) (bCon (.int 3))))
  (sCons (sRet 2 (bBin .Mult (bBin .Mult (bVar 3) (bCon (.int 210))) (bP (pCall 2 d_Ldraw) (aCons (bVar 0) (aCons (bCon (.int 1013)) aNil)))))
  sNil)
  sNil)
  (sCons (sIf (bTb (bCmp .Eq (bVar 2) (bCon (.int 4))))
  (sCons (sRet 2 (bBin .Mult (bVar 3) (bBin .Sub (bVar 1) (bP (pCall 2 d_Ldraw) (aCons (bVar 0) (aCons (bCon (.int 1019)) aNil))))))
  sNil)
  sNil)
  (sCons (sAsg (gNm 4) (bCon (.int 0)))
  (sCons (sFor (mPs (fun ds => if ds.length = 1 then rngOf ds else none) (aCons (bBin .Add (bCon (.int 1)) (bP (pCall 2 d_Ldraw) (aCons (bVar 0) (aCons (bCon (.int 6)) aNil)))) aNil)) (gNm 5)
  b_Lnumber_1)
  (sCons (sRet 2 (bBin .Mult (bVar 3) (bVar 4)))
  sNil))))))))
def d_Lnumber : List S → FO := fnOf 6 (fun i => i == 0 || i == 1) b_Lnumber
abbrev s_divisor_of : Stmt := topS 6
theorem sc_divisor_of : FnScope ["one", "other"] ["one", "other"] (defScope s_divisor_of) := ⟨rfl, rfl, rfl, by decide +kernel, rfl, by decide +kernel, by decide +kernel⟩
noncomputable def b_divisor_of_1 : En → Fl :=
  (sCons (sPar 0 1 (aCons (bVar 1) (aCons (bBin .Mod (bVar 0) (bVar 1)) aNil)))
  sNil)
noncomputable def t_divisor_of_1 : En → Ou Bool :=
  (bTb (bCmp .Gt (bVar 1) (bCon (.int 0))))
noncomputable def b_divisor_of : En → Fl :=
  (sCons (sAsg (gNm 0) (bP (pS dAbs) (aCons (bVar 0) aNil)))
  (sCons (sAsg (gNm 1) (bP (pS dAbs) (aCons (bVar 1) aNil)))
  (sCons (sWh t_divisor_of_1
  b_divisor_of_1)
  (sCons (sRet 2 (bVar 0))
  sNil))))
noncomputable def d_divisor_of : List S → FO := fnOf 2 (fun i => false) b_divisor_of
abbrev s_is_whole : Stmt := topS 4
theorem sc_is_whole : FnScope ["thing", "low", "high"] ["thing", "low", "high"] (defScope s_is_whole) := ⟨rfl, rfl, rfl, by decide +kernel, rfl, by decide +kernel, by decide +kernel⟩
def b_is_whole : En → Fl :=
  (sCons (sIf (bOr (bNot (bTr (bP (pS dIsi) (aCons (bVar 0) (aCons (bCon (.ty "int")) aNil))))) (bTr (bP (pS dIsi) (aCons (bVar 0) (aCons (bCon (.ty "bool")) aNil)))))
  (sCons (sRet 3 (bCon (.bl false)))
  sNil)
  sNil)
  (sCons (sIf (bAnd (bTb (bCmp .IsNot (bVar 1) (bCon .non))) (bTb (bCmp .Lt (bVar 0) (bVar 1))))
  (sCons (sRet 3 (bCon (.bl false)))
  sNil)
  sNil)
  (sCons (sRet 3 (bOrV (bCmp .Is (bVar 2) (bCon .non)) (bCmp .LtE (bVar 0) (bVar 2))))
  sNil)))
def d_is_whole : List S → FO := fnOf 3 (fun i => i == 0 || i == 1 || i == 2) b_is_whole
abbrev s_fraction : Stmt := topS 7
theorem sc_fraction : FnScope ["top", "bottom", "share"] ["top", "bottom"] (defScope s_fraction) := ⟨rfl, rfl, rfl, by decide +kernel, rfl, by decide +kernel, by decide +kernel⟩
noncomputable def b_fraction : En → Fl :=
  (sCons (sIf (bOr (bNot (bTr (bP (pCall 3 d_is_whole) (aCons (bVar 0) (aCons (bCon .non) (aCons (bCon .non) aNil)))))) (bOr (bNot (bTr (bP (pCall 3 d_is_whole) (aCons (bVar 1) (aCons (bCon .non) (aCons (bCon .non) aNil)))))) (bTb (bCmp .Eq (bVar 1) (bCon (.int 0))))))
  (sCons sNo
  sNil)
  sNil)
  (sCons (sAsg (gNm 2) (bP (pCall 2 d_divisor_of) (aCons (bVar 0) (aCons (bVar 1) aNil))))
  (sCons (sIf (bTb (bCmp .Lt (bVar 1) (bCon (.int 0))))
  (sCons (sAsg (gNm 2) (b1 (pS dNeg) (bVar 2)))
  sNil)
  sNil)
  (sCons (sRet 2 (bTup (aCons (bBin .FloorDiv (bVar 0) (bVar 2)) (aCons (bBin .FloorDiv (bVar 1) (bVar 2)) aNil))))
  sNil))))
noncomputable def d_fraction : List S → FO := fnOf 3 (fun i => i == 0 || i == 1) b_fraction
abbrev s_Lfraction : Stmt := topS 21
theorem sc_Lfraction : FnScope ["_law_well_here", "_law_bottom", "_law_top"] ["_law_well_here", "_law_bottom"] (defScope s_Lfraction) := ⟨rfl, rfl, rfl, by decide +kernel, rfl, by decide +kernel, by decide +kernel⟩
noncomputable def b_Lfraction : En → Fl :=
  (sCons (sAsg (gNm 2) (bP (pCall 2 d_Lnumber) (aCons (bVar 0) (aCons (bBin .Sub (bBin .Pow (bCon (.int 10)) (bCon (.int 60))) (bCon (.int 1))) aNil))))
  (sCons (sIf (bTb (bCmp .Gt (bP (pCall 2 d_Ldraw) (aCons (bVar 0) (aCons (bCon (.int 3)) aNil))) (bCon (.int 0))))
  (sCons (sAsg (gNm 1) (bBin .Add (bCon (.int 1)) (bP (pS dAbs) (aCons (bP (pCall 2 d_Lnumber) (aCons (bVar 0) (aCons (bBin .Pow (bCon (.int 10)) (bCon (.int 59))) aNil))) aNil))))
  sNil)
  sNil)
  (sCons (sRet 2 (bP (pCall 2 d_fraction) (aCons (bVar 2) (aCons (bVar 1) aNil))))
  sNil)))
noncomputable def d_Lfraction : List S → FO := fnOf 3 (fun i => i == 0) b_Lfraction
abbrev s_is_fraction : Stmt := topS 8
theorem sc_is_fraction : FnScope ["thing"] ["thing"] (defScope s_is_fraction) := ⟨rfl, rfl, rfl, by decide +kernel, rfl, by decide +kernel, by decide +kernel⟩
noncomputable def b_is_fraction : En → Fl :=
  (sCons (sIf (bOr (bNot (bTr (bP (pS dIsi) (aCons (bVar 0) (aCons (bCon (.ty "tuple")) aNil))))) (bTb (bCmp .NotEq (bP (pS dLen) (aCons (bVar 0) aNil)) (bCon (.int 2)))))
  (sCons (sRet 1 (bCon (.bl false)))
  sNil)
  sNil)
  (sCons (sIf (bOr (bNot (bTr (bP (pCall 3 d_is_whole) (aCons (bIx (bVar 0) (bCon (.int 0))) (aCons (bCon .non) (aCons (bCon .non) aNil)))))) (bNot (bTr (bP (pCall 3 d_is_whole) (aCons (bIx (bVar 0) (bCon (.int 1))) (aCons (bCon (.int 1)) (aCons (bCon .non) aNil)))))))
  (sCons (sRet 1 (bCon (.bl false)))
  sNil)
  sNil)
  (sCons (sRet 1 (bCmp .Eq (bP (pCall 2 d_divisor_of) (aCons (bIx (bVar 0) (bCon (.int 0))) (aCons (bIx (bVar 0) (bCon (.int 1))) aNil))) (bCon (.int 1))))
  sNil)))
noncomputable def d_is_fraction : List S → FO := fnOf 1 (fun i => i == 0) b_is_fraction
abbrev s_asked_fractions : Stmt := topS 9
theorem sc_asked_fractions : FnScope ["one", "other"] ["one", "other"] (defScope s_asked_fractions) := ⟨rfl, rfl, rfl, by decide +kernel, rfl, by decide +kernel, by decide +kernel⟩
noncomputable def b_asked_fractions : En → Fl :=
  (sCons (sIf (bOr (bNot (bTr (bP (pCall 1 d_is_fraction) (aCons (bVar 0) aNil)))) (bNot (bTr (bP (pCall 1 d_is_fraction) (aCons (bVar 1) aNil)))))
  (sCons sNo
  sNil)
  sNil)
  sNil)
noncomputable def d_asked_fractions : List S → FO := fnOf 2 (fun i => i == 0 || i == 1) b_asked_fractions
abbrev s_times : Stmt := topS 12
theorem sc_times : FnScope ["one", "other"] ["one", "other"] (defScope s_times) := ⟨rfl, rfl, rfl, by decide +kernel, rfl, by decide +kernel, by decide +kernel⟩
noncomputable def b_times : En → Fl :=
  (sCons (sExpr (bP (pCall 2 d_asked_fractions) (aCons (bVar 0) (aCons (bVar 1) aNil))))
  (sCons (sRet 2 (bP (pCall 2 d_fraction) (aCons (bBin .Mult (bIx (bVar 0) (bCon (.int 0))) (bIx (bVar 1) (bCon (.int 0)))) (aCons (bBin .Mult (bIx (bVar 0) (bCon (.int 1))) (bIx (bVar 1) (bCon (.int 1)))) aNil))))
  sNil))
noncomputable def d_times : List S → FO := fnOf 2 (fun i => i == 0 || i == 1) b_times
abbrev s_plus : Stmt := topS 10
theorem sc_plus : FnScope ["one", "other"] ["one", "other"] (defScope s_plus) := ⟨rfl, rfl, rfl, by decide +kernel, rfl, by decide +kernel, by decide +kernel⟩
noncomputable def b_plus : En → Fl :=
  (sCons (sExpr (bP (pCall 2 d_asked_fractions) (aCons (bVar 0) (aCons (bVar 1) aNil))))
  (sCons (sRet 2 (bP (pCall 2 d_fraction) (aCons (bBin .Add (bBin .Mult (bIx (bVar 0) (bCon (.int 0))) (bIx (bVar 1) (bCon (.int 1)))) (bBin .Mult (bIx (bVar 1) (bCon (.int 0))) (bIx (bVar 0) (bCon (.int 1))))) (aCons (bBin .Mult (bIx (bVar 0) (bCon (.int 1))) (bIx (bVar 1) (bCon (.int 1)))) aNil))))
  sNil))
noncomputable def d_plus : List S → FO := fnOf 2 (fun i => i == 0 || i == 1) b_plus
abbrev s_Lwhole : Stmt := topS 19
theorem sc_Lwhole : FnScope ["_law_thing"] ["_law_thing"] (defScope s_Lwhole) := ⟨rfl, rfl, rfl, by decide +kernel, rfl, by decide +kernel, by decide +kernel⟩
def b_Lwhole : En → Fl :=
  (sCons (sRet 1 (bAndV (bP (pS dIsi) (aCons (bVar 0) (aCons (bCon (.ty "int")) aNil))) (bNotV (bP (pS dIsi) (aCons (bVar 0) (aCons (bCon (.ty "bool")) aNil))))))
  sNil)
def d_Lwhole : List S → FO := fnOf 1 (fun i => i == 0) b_Lwhole
abbrev s_Lshared : Stmt := topS 18
theorem sc_Lshared : FnScope ["_law_this", "_law_that"] ["_law_this", "_law_that"] (defScope s_Lshared) := ⟨rfl, rfl, rfl, by decide +kernel, rfl, by decide +kernel, by decide +kernel⟩
noncomputable def b_Lshared_1 : En → Fl :=
  (sCons (sPar 0 1 (aCons (bVar 1) (aCons (bBin .Mod (bVar 0) (bVar 1)) aNil)))
  sNil)
noncomputable def t_Lshared_1 : En → Ou Bool :=
  (bTb (bCmp .Gt (bVar 1) (bCon (.int 0))))
noncomputable def b_Lshared : En → Fl :=
  (sCons (sAsg (gNm 0) (bP (pS dAbs) (aCons (bVar 0) aNil)))
  (sCons (sAsg (gNm 1) (bP (pS dAbs) (aCons (bVar 1) aNil)))
  (sCons (sWh t_Lshared_1
  b_Lshared_1)
  (sCons (sRet 2 (bVar 0))
  sNil))))
noncomputable def d_Lshared : List S → FO := fnOf 2 (fun i => false) b_Lshared
abbrev s_Lworth : Stmt := topS 20
theorem sc_Lworth : FnScope ["_law_found", "_law_top", "_law_bottom"] ["_law_found", "_law_top", "_law_bottom"] (defScope s_Lworth) := ⟨rfl, rfl, rfl, by decide +kernel, rfl, by decide +kernel, by decide +kernel⟩
noncomputable def b_Lworth : En → Fl :=
  (sCons (sIf (bOr (bNot (bTr (bP (pS dIsi) (aCons (bVar 0) (aCons (bCon (.ty "tuple")) aNil))))) (bOr (bTb (bCmp .NotEq (bP (pS dLen) (aCons (bVar 0) aNil)) (bCon (.int 2)))) (bOr (bNot (bTr (bP (pCall 1 d_Lwhole) (aCons (bIx (bVar 0) (bCon (.int 0))) aNil)))) (bNot (bTr (bP (pCall 1 d_Lwhole) (aCons (bIx (bVar 0) (bCon (.int 1))) aNil)))))))
  (sCons (sRet 3 (bCon (.bl false)))
  sNil)
  sNil)
  (sCons (sIf (bOr (bTb (bCmp .Lt (bIx (bVar 0) (bCon (.int 1))) (bCon (.int 1)))) (bTb (bCmp .NotEq (bP (pCall 2 d_Lshared) (aCons (bIx (bVar 0) (bCon (.int 0))) (aCons (bIx (bVar 0) (bCon (.int 1))) aNil))) (bCon (.int 1)))))
  (sCons (sRet 3 (bCon (.bl false)))
  sNil)
  sNil)
  (sCons (sRet 3 (bCmp .Eq (bBin .Mult (bIx (bVar 0) (bCon (.int 0))) (bVar 2)) (bBin .Mult (bVar 1) (bIx (bVar 0) (bCon (.int 1))))))
  sNil)))
noncomputable def d_Lworth : List S → FO := fnOf 3 (fun i => i == 0 || i == 1 || i == 2) b_Lworth
abbrev s_minus : Stmt := topS 11
theorem sc_minus : FnScope ["one", "other"] ["one", "other"] (defScope s_minus) := ⟨rfl, rfl, rfl, by decide +kernel, rfl, by decide +kernel, by decide +kernel⟩
noncomputable def b_minus : En → Fl :=
  (sCons (sExpr (bP (pCall 2 d_asked_fractions) (aCons (bVar 0) (aCons (bVar 1) aNil))))
  (sCons (sRet 2 (bP (pCall 2 d_fraction) (aCons (bBin .Sub (bBin .Mult (bIx (bVar 0) (bCon (.int 0))) (bIx (bVar 1) (bCon (.int 1)))) (bBin .Mult (bIx (bVar 1) (bCon (.int 0))) (bIx (bVar 0) (bCon (.int 1))))) (aCons (bBin .Mult (bIx (bVar 0) (bCon (.int 1))) (bIx (bVar 1) (bCon (.int 1)))) aNil))))
  sNil))
noncomputable def d_minus : List S → FO := fnOf 2 (fun i => i == 0 || i == 1) b_minus
abbrev s_shared : Stmt := topS 13
theorem sc_shared : FnScope ["one", "other"] ["one", "other"] (defScope s_shared) := ⟨rfl, rfl, rfl, by decide +kernel, rfl, by decide +kernel, by decide +kernel⟩
noncomputable def b_shared : En → Fl :=
  (sCons (sExpr (bP (pCall 2 d_asked_fractions) (aCons (bVar 0) (aCons (bVar 1) aNil))))
  (sCons (sRet 2 (bP (pCall 2 d_fraction) (aCons (bBin .Mult (bIx (bVar 0) (bCon (.int 0))) (bIx (bVar 1) (bCon (.int 1)))) (aCons (bBin .Mult (bIx (bVar 0) (bCon (.int 1))) (bIx (bVar 1) (bCon (.int 0)))) aNil))))
  sNil))
noncomputable def d_shared : List S → FO := fnOf 2 (fun i => i == 0 || i == 1) b_shared
abbrev s_Lpair : Stmt := topS 22
theorem sc_Lpair : FnScope ["_law_this", "_law_two", "_law_a", "_law_b", "_law_c", "_law_d"] ["_law_this", "_law_two"] (defScope s_Lpair) := ⟨rfl, rfl, rfl, by decide +kernel, rfl, by decide +kernel, by decide +kernel⟩
noncomputable def b_Lpair : En → Fl :=
  (sCons (sAsg (gTupF [(gNm 2), (gNm 3)]) (bVar 0))
  (sCons (sAsg (gTupF [(gNm 4), (gNm 5)]) (bVar 1))
  (sCons (sIf (bOr (bNot (bTr (bP (pCall 3 d_Lworth) (aCons (bP (pCall 2 d_plus) (aCons (bVar 0) (aCons (bVar 1) aNil))) (aCons (bBin .Add (bBin .Mult (bVar 2) (bVar 5)) (bBin .Mult (bVar 4) (bVar 3))) (aCons (bBin .Mult (bVar 3) (bVar 5)) aNil)))))) (bTb (bCmp .NotEq (bP (pCallZ ["other", "one"] ["one", "other"] d_plus) (aCons (bVar 0) (aCons (bVar 1) aNil))) (bP (pCall 2 d_plus) (aCons (bVar 0) (aCons (bVar 1) aNil))))))
  (sCons (sRet 2 (bCon (.bl false)))
  sNil)
  sNil)
  (sCons (sIf (bOr (bNot (bTr (bP (pCall 3 d_Lworth) (aCons (bP (pCall 2 d_minus) (aCons (bVar 0) (aCons (bVar 1) aNil))) (aCons (bBin .Sub (bBin .Mult (bVar 2) (bVar 5)) (bBin .Mult (bVar 4) (bVar 3))) (aCons (bBin .Mult (bVar 3) (bVar 5)) aNil)))))) (bTb (bCmp .NotEq (bP (pCall 2 d_minus) (aCons (bP (pCall 2 d_plus) (aCons (bVar 0) (aCons (bVar 1) aNil))) (aCons (bVar 1) aNil))) (bVar 0))))
  (sCons (sRet 2 (bCon (.bl false)))
  sNil)
  sNil)
  (sCons (sIf (bOr (bNot (bTr (bP (pCall 3 d_Lworth) (aCons (bP (pCall 2 d_times) (aCons (bVar 0) (aCons (bVar 1) aNil))) (aCons (bBin .Mult (bVar 2) (bVar 4)) (aCons (bBin .Mult (bVar 3) (bVar 5)) aNil)))))) (bTb (bCmp .NotEq (bP (pCall 2 d_times) (aCons (bVar 1) (aCons (bVar 0) aNil))) (bP (pCallZ ["other", "one"] ["one", "other"] d_times) (aCons (bVar 1) (aCons (bVar 0) aNil))))))
  (sCons (sRet 2 (bCon (.bl false)))
  sNil)
  sNil)
  (sCons (sIf (bTb (bCmp .Eq (bVar 4) (bCon (.int 0))))
  (sCons (sRet 2 (bCon (.bl true)))
  sNil)
  sNil)
  (sCons (sIf (bOr (bNot (bTr (bP (pCall 3 d_Lworth) (aCons (bP (pCall 2 d_shared) (aCons (bVar 0) (aCons (bVar 1) aNil))) (aCons (bBin .Mult (bVar 2) (bVar 5)) (aCons (bBin .Mult (bVar 3) (bVar 4)) aNil)))))) (bTb (bCmp .NotEq (bP (pCall 2 d_shared) (aCons (bP (pCall 2 d_times) (aCons (bVar 0) (aCons (bVar 1) aNil))) (aCons (bVar 1) aNil))) (bVar 0))))
  (sCons (sRet 2 (bCon (.bl false)))
  sNil)
  sNil)
  (sCons (sRet 2 (bAndV (bCmp .Eq (bP (pCallZ ["other", "one"] ["one", "other"] d_shared) (aCons (bVar 1) (aCons (bVar 0) aNil))) (bP (pCall 2 d_shared) (aCons (bVar 0) (aCons (bVar 1) aNil)))) (bCmp .Eq (bP (pCallZ ["other", "one"] ["one", "other"] d_minus) (aCons (bVar 1) (aCons (bVar 0) aNil))) (bP (pCall 2 d_minus) (aCons (bVar 0) (aCons (bVar 1) aNil))))))
  sNil))))))))
noncomputable def d_Lpair : List S → FO := fnOf 6 (fun i => i == 0 || i == 1) b_Lpair
abbrev s_law : Stmt := topS 23
theorem sc_law : FnScope ["_law_script", "_law_cell", "_law_well_here", "_law_bottom", "_law_some", "_law_this", "_law_two", "_law_three", "_law_k"] ["_law_script"] (defScope s_law) := ⟨rfl, rfl, rfl, by decide +kernel, rfl, by decide +kernel, by decide +kernel⟩
noncomputable def b_law_1 : En → Fl :=
  (sCons (sIf (bNot (bTr (bP (pCall 2 d_Lpair) (aCons (bVar 5) (aCons (bVar 6) aNil)))))
  (sCons (sRet 1 (bCon (.bl false)))
  sNil)
  sNil)
  sNil)
noncomputable def m_law_2 : En → Ou R :=
  (bP (pCall 2 d_Lfraction) (aCons (bVar 2) (aCons (bVar 3) aNil)))
noncomputable def b_law_3 : En → Fl :=
  (sCons (sAsg (gNm 2) (bP (pCall 1 d_Lwell) (aCons (bVar 1) aNil)))
  (sCons (sAsg (gNm 3) (bBin .Add (bCon (.int 1)) (bP (pCall 2 d_Ldraw) (aCons (bVar 2) (aCons (bCon (.int 997)) aNil)))))
  (sCons (sAsg (gNm 4) (bLc (mPs (fun ds => if ds.length = 1 then rngOf ds else none) (aCons (bCon (.int 3)) aNil)) (gNm 8) bYes m_law_2 [8]))
  (sCons (sFor (mSeq (bLst (aCons (bTup (aCons (bIx (bVar 4) (bCon (.int 0))) (aCons (bIx (bVar 4) (bCon (.int 1))) aNil))) (aCons (bTup (aCons (bIx (bVar 4) (bCon (.int 1))) (aCons (bIx (bVar 4) (bCon (.int 0))) aNil))) (aCons (bTup (aCons (bIx (bVar 4) (bCon (.int 2))) (aCons (bIx (bVar 4) (bCon (.int 2))) aNil))) (aCons (bTup (aCons (bIx (bVar 4) (bCon (.int 2))) (aCons (bTup (aCons (bCon (.int 0)) (aCons (bCon (.int 1)) aNil))) aNil))) aNil)))))) (gTupF [(gNm 5), (gNm 6)])
  b_law_1)
  (sCons (sAsg (gTupF [(gNm 5), (gNm 6), (gNm 7)]) (bVar 4))
  (sCons (sIf (bTb (bCmp .NotEq (bP (pCall 2 d_times) (aCons (bVar 5) (aCons (bP (pCall 2 d_plus) (aCons (bVar 6) (aCons (bVar 7) aNil))) aNil))) (bP (pCall 2 d_plus) (aCons (bP (pCall 2 d_times) (aCons (bVar 5) (aCons (bVar 6) aNil))) (aCons (bP (pCall 2 d_times) (aCons (bVar 5) (aCons (bVar 7) aNil))) aNil)))))
  (sCons (sRet 1 (bCon (.bl false)))
  sNil)
  sNil)
  (sCons (sIf (bOr (bTb (bCmp .NotEq (bP (pCall 2 d_plus) (aCons (bP (pCall 2 d_plus) (aCons (bVar 5) (aCons (bVar 6) aNil))) (aCons (bVar 7) aNil))) (bP (pCall 2 d_plus) (aCons (bVar 5) (aCons (bP (pCall 2 d_plus) (aCons (bVar 6) (aCons (bVar 7) aNil))) aNil))))) (bTb (bCmp .NotEq (bP (pCall 2 d_plus) (aCons (bVar 5) (aCons (bTup (aCons (bCon (.int 0)) (aCons (bCon (.int 1)) aNil))) aNil))) (bVar 5))))
  (sCons (sRet 1 (bCon (.bl false)))
  sNil)
  sNil)
  (sCons (sIf (bOr (bTb (bCmp .NotEq (bP (pCall 2 d_times) (aCons (bP (pCall 2 d_times) (aCons (bVar 5) (aCons (bVar 6) aNil))) (aCons (bVar 7) aNil))) (bP (pCall 2 d_times) (aCons (bVar 5) (aCons (bP (pCall 2 d_times) (aCons (bVar 6) (aCons (bVar 7) aNil))) aNil))))) (bTb (bCmp .NotEq (bP (pCall 2 d_times) (aCons (bVar 5) (aCons (bTup (aCons (bCon (.int 1)) (aCons (bCon (.int 1)) aNil))) aNil))) (bVar 5))))
  (sCons (sRet 1 (bCon (.bl false)))
  sNil)
  sNil)
  sNil))))))))
noncomputable def b_law : En → Fl :=
  (sCons (sFor (mSeq (bSl (bBin .Add (bVar 0) (bLst (aCons (bCon (.int 0)) aNil))) none (some (bCon (.int 8))))) (gNm 1)
  b_law_3)
  (sCons (sRet 1 (bCon (.bl true)))
  sNil))
noncomputable def d_law : List S → FO := fnOf 9 (fun i => i == 0) b_law
section
variable {P : Program} {w : World} {K : PySem.W.Frag} {mg : Str → Option Value} {base : Heap} {ca fa : Nat → Addr}
theorem ok_Lwell {f : Addr} {fd : FuncData} (F : Fun K "_law_well" "_law_well" s_Lwell f fd) (hm : mg "_law_well" = some (.ref f)) (m_int : mg "int" = none)  :
    Fd (tb K ca fa) P w K mg base "_law_well" ["_law_cell"] [] 1 d_Lwell := by
  refine ⟨f, fd, fn_okF (k := 0) F sc_Lwell rfl (fun cdv A outer s H E hr => ?_), hm, F.kp, F.binds (fun _ _ _ _ _ _ us hl => match us, hl with | [_], _ => rfl), kw_nil⟩
  have S := sc_Lwell
  unfold b_Lwell
  exact (pss_consF (ps_retF (pe_lstF (pa_consF (pe_bin rfl (pe_varF (i := 0) rfl (.inl rfl) rfl rfl) (pe_ty call_int1 fo_int rfl m_int PyProof.Rows.boot_int (pa_consF (pe_cmpF rfl (hu65 hr) rfl (pe_varF (i := 0) rfl (.inl rfl) rfl rfl) (pe_bin rfl (pe_conF pe_int (fun _ => .int _)) (pe_conF pe_int (fun _ => .int _)))) pa_nilF rfl) (by decide) rfl rfl rfl)) (pa_consF (pe_bin rfl (pe_varF (i := 0) rfl (.inl rfl) rfl rfl) (pe_conF pe_int (fun _ => .int _))) (pa_consF (pe_conF pe_int (fun _ => .int _)) pa_nilF rfl) rfl) rfl)))
  pss_nilF)
theorem ok_Ldraw {f : Addr} {fd : FuncData} (F : Fun K "_law_draw" "_law_draw" s_Ldraw f fd) (hm : mg "_law_draw" = some (.ref f)) (m_divmod : mg "divmod" = none)  :
    Fd (tb K ca fa) P w K mg base "_law_draw" ["_law_well_here", "_law_many"] [] 1 d_Ldraw := by
  refine ⟨f, fd, fn_okF (k := 0) F sc_Ldraw rfl (fun cdv A outer s H E hr => ?_), hm, F.kp, F.binds (fun _ _ _ _ _ _ us hl => match us, hl with | [_, _], _ => rfl), kw_nil⟩
  have S := sc_Ldraw
  unfold b_Ldraw
  exact (pss_consF (ps_ifF (pt_cmpF rfl (hu65 hr) rfl (pe_ixF rfl (pe_varF (i := 0) rfl (.inl rfl) rfl rfl) (pe_conF pe_int (fun _ => .int _)) (fun _ _ => rfl)) (pe_conF pe_int (fun _ => .int _)))
  (pss_consF (ps_asgF (pe_bi call_divmodG fo_divmod rfl m_divmod PyProof.Rows.boot_divmod (pa_consF (pe_ixF rfl (pe_varF (i := 0) rfl (.inl rfl) rfl rfl) (pe_conF pe_int (fun _ => .int _)) (fun _ _ => rfl)) (pa_consF (pe_varF (i := 1) rfl (.inl rfl) rfl rfl) pa_nilF rfl) rfl) (by decide) rfl rfl rfl) (pg_tupF rfl rfl (pgs_consF GoG.ix (pg_ixF (pe_varF (i := 0) rfl (.inl rfl) rfl rfl) (pe_conF pe_int (fun _ => .int _)) (fun _ => rfl)) (pgs_consF GoG.nm (pg_nameF (i := 3) S.nd rfl (.inl rfl) rfl (.inl rfl)) pgs_nilF rfl) rfl) rfl rfl rfl) (GoG.tup (allg_cons GoG.ix (allg_cons GoG.nm allg_nil))) rfl rfl rfl)
  (pss_consF (ps_retF (pe_varF (i := 3) rfl (.inl rfl) rfl rfl))
  pss_nilF))
  pss_nilF)
  (pss_consF (ps_asgF (pe_bin rfl (pe_ixF rfl (pe_varF (i := 0) rfl (.inl rfl) rfl rfl) (pe_conF pe_int (fun _ => .int _)) (fun _ _ => rfl)) (pe_conF pe_int (fun _ => .int _))) (pg_ixF (pe_varF (i := 0) rfl (.inl rfl) rfl rfl) (pe_conF pe_int (fun _ => .int _)) (fun _ => rfl)) GoG.ix rfl rfl rfl)
  (pss_consF (ps_setF (i := 2) S.nd rfl (.inl rfl) rfl (pe_bin rfl (pe_bin rfl (pe_bin rfl (pe_bin rfl (pe_ixF rfl (pe_varF (i := 0) rfl (.inl rfl) rfl rfl) (pe_conF pe_int (fun _ => .int _)) (fun _ _ => rfl)) (pe_bin rfl (pe_bin rfl (pe_conF pe_int (fun _ => .int _)) (pe_ixF rfl (pe_varF (i := 0) rfl (.inl rfl) rfl rfl) (pe_conF pe_int (fun _ => .int _)) (fun _ _ => rfl))) (pe_conF pe_int (fun _ => .int _)))) (pe_bin rfl (pe_conF pe_int (fun _ => .int _)) (pe_ixF rfl (pe_varF (i := 0) rfl (.inl rfl) rfl rfl) (pe_conF pe_int (fun _ => .int _)) (fun _ _ => rfl)))) (pe_conF pe_int (fun _ => .int _))) (pe_conF pe_int (fun _ => .int _))) rfl (.inl rfl))
  (pss_consF (ps_setF (i := 2) S.nd rfl (.inl rfl) rfl (pe_bin rfl (pe_bin rfl (pe_varF (i := 2) rfl (.inl rfl) rfl rfl) (pe_conF pe_int (fun _ => .int _))) (pe_conF pe_int (fun _ => .int _))) rfl (.inl rfl))
  (pss_consF (ps_setF (i := 2) S.nd rfl (.inl rfl) rfl (pe_bin rfl (pe_bin rfl (pe_varF (i := 2) rfl (.inl rfl) rfl rfl) (pe_bin rfl (pe_bin rfl (pe_varF (i := 2) rfl (.inl rfl) rfl rfl) (pe_conF pe_int (fun _ => .int _))) (pe_conF pe_int (fun _ => .int _)))) (pe_conF pe_int (fun _ => .int _))) rfl (.inl rfl))
  (pss_consF (ps_retF (pe_bin rfl (pe_bin rfl (pe_varF (i := 2) rfl (.inl rfl) rfl rfl) (pe_conF pe_int (fun _ => .int _))) (pe_varF (i := 1) rfl (.inl rfl) rfl rfl)))
  pss_nilF))))))
theorem ok_Lnumber {f : Addr} {fd : FuncData} (F : Fun K "_law_number" "_law_number" s_Lnumber f fd) (hm : mg "_law_number" = some (.ref f)) (m_range : mg "range" = none) (F_Ldraw : Fd (tb K ca fa) P w K mg base "_law_draw" ["_law_well_here", "_law_many"] [] 1 d_Ldraw) :
    Fd (tb K ca fa) P w K mg base "_law_number" ["_law_well_here", "_law_most"] [] 2 d_Lnumber := by
  refine ⟨f, fd, fn_okF (k := 1) F sc_Lnumber rfl (fun cdv A outer s H E hr => ?_), hm, F.kp, F.binds (fun _ _ _ _ _ _ us hl => match us, hl with | [_, _], _ => rfl), kw_nil⟩
  have S := sc_Lnumber
  unfold b_Lnumber
  exact (pss_consF (ps_setF (i := 2) S.nd rfl (.inl rfl) rfl (pe_callF F_Ldraw hr (by decide) rfl (takes_of rfl rfl rfl rfl) rfl (pa_consF (pe_varF (i := 0) rfl (.inl rfl) rfl rfl) (pa_consF (pe_conF pe_int (fun _ => .int _)) pa_nilF rfl) rfl) rfl rfl rfl) rfl (.inl rfl))
  (pss_consF (ps_setF (i := 3) S.nd rfl (.inl rfl) rfl (pe_ixF rfl (pe_lstF (pa_consF (pe_conF pe_int (fun _ => .int _)) (pa_consF (pe_neg (pe_conF pe_int (fun _ => .int _))) pa_nilF rfl) rfl)) (pe_callF F_Ldraw hr (by decide) rfl (takes_of rfl rfl rfl rfl) rfl (pa_consF (pe_varF (i := 0) rfl (.inl rfl) rfl rfl) (pa_consF (pe_conF pe_int (fun _ => .int _)) pa_nilF rfl) rfl) rfl rfl rfl) (fun _ _ => rfl)) rfl (.inl rfl))
  (pss_consF (ps_ifF (pt_cmpF rfl (hu65 hr) rfl (pe_varF (i := 2) rfl (.inl rfl) rfl rfl) (pe_conF pe_int (fun _ => .int _)))
  (pss_consF (ps_retF (pe_bin rfl (pe_varF (i := 3) rfl (.inl rfl) rfl rfl) (pe_callF F_Ldraw hr (by decide) rfl (takes_of rfl rfl rfl rfl) rfl (pa_consF (pe_varF (i := 0) rfl (.inl rfl) rfl rfl) (pa_consF (pe_ixF rfl (pe_lstF (pa_consF (pe_conF pe_int (fun _ => .int _)) (pa_consF (pe_conF pe_int (fun _ => .int _)) (pa_consF (pe_conF pe_int (fun _ => .int _)) pa_nilF rfl) rfl) rfl)) (pe_varF (i := 2) rfl (.inl rfl) rfl rfl) (fun _ _ => rfl)) pa_nilF rfl) rfl) rfl rfl rfl)))
  pss_nilF)
  pss_nilF)
  (pss_consF (ps_ifF (pt_cmpF rfl (hu65 hr) rfl (pe_varF (i := 2) rfl (.inl rfl) rfl rfl) (pe_conF pe_int (fun _ => .int _)))
  (pss_consF (ps_retF (pe_bin rfl (pe_bin rfl (pe_varF (i := 3) rfl (.inl rfl) rfl rfl) (pe_conF pe_int (fun _ => .int _))) (pe_callF F_Ldraw hr (by decide) rfl (takes_of rfl rfl rfl rfl) rfl (pa_consF (pe_varF (i := 0) rfl (.inl rfl) rfl rfl) (pa_consF (pe_conF pe_int (fun _ => .int _)) pa_nilF rfl) rfl) rfl rfl rfl)))
  pss_nilF)
  pss_nilF)
  (pss_consF (ps_ifF (pt_cmpF rfl (hu65 hr) rfl (pe_varF (i := 2) rfl (.inl rfl) rfl rfl) (pe_conF pe_int (fun _ => .int _)))
  (pss_consF (ps_retF (pe_bin rfl (pe_varF (i := 3) rfl (.inl rfl) rfl rfl) (pe_bin rfl (pe_varF (i := 1) rfl (.inl rfl) rfl rfl) (pe_callF F_Ldraw hr (by decide) rfl (takes_of rfl rfl rfl rfl) rfl (pa_consF (pe_varF (i := 0) rfl (.inl rfl) rfl rfl) (pa_consF (pe_conF pe_int (fun _ => .int _)) pa_nilF rfl) rfl) rfl rfl rfl))))
  pss_nilF)
  pss_nilF)
  (pss_consF (ps_setF (i := 4) S.nd rfl (.inl rfl) rfl (pe_conF pe_int (fun _ => .int _)) rfl (.inl rfl))
  (pss_consF (ps_forF (passes_of rfl) rfl (pi_rng1F rfl m_range (pa_consF (pe_bin rfl (pe_conF pe_int (fun _ => .int _)) (pe_callF F_Ldraw hr (by decide) rfl (takes_of rfl rfl rfl rfl) rfl (pa_consF (pe_varF (i := 0) rfl (.inl rfl) rfl rfl) (pa_consF (pe_conF pe_int (fun _ => .int _)) pa_nilF rfl) rfl) rfl rfl rfl)) pa_nilF rfl) rfl) (pg_nameF (i := 5) S.nd rfl (.inl rfl) rfl (.inl rfl)) GoG.nm
  (pss_consF (ps_setF (i := 4) S.nd rfl (.inl rfl) rfl (pe_bin rfl (pe_bin rfl (pe_varF (i := 4) rfl (.inl rfl) rfl rfl) (pe_bin rfl (pe_conF pe_int (fun _ => .int _)) (pe_conF pe_int (fun _ => .int _)))) (pe_callF F_Ldraw hr (by decide) rfl (takes_of rfl rfl rfl rfl) rfl (pa_consF (pe_varF (i := 0) rfl (.inl rfl) rfl rfl) (pa_consF (pe_bin rfl (pe_conF pe_int (fun _ => .int _)) (pe_conF pe_int (fun _ => .int _))) pa_nilF rfl) rfl) rfl rfl rfl)) rfl (.inl rfl))
  pss_nilF) (fun _ => rfl))
  (pss_consF (ps_retF (pe_bin rfl (pe_varF (i := 3) rfl (.inl rfl) rfl rfl) (pe_varF (i := 4) rfl (.inl rfl) rfl rfl)))
  pss_nilF))))))))
theorem ok_divisor_of {f : Addr} {fd : FuncData} (F : Fun K "divisor_of" "divisor_of" s_divisor_of f fd) (hm : mg "divisor_of" = some (.ref f)) (m_abs : mg "abs" = none)  :
    Fd (tb K ca fa) P w K mg base "divisor_of" ["one", "other"] [] 1 d_divisor_of := by
  refine ⟨f, fd, fn_okF (k := 0) F sc_divisor_of rfl (fun cdv A outer s H E hr => ?_), hm, F.kp, F.binds (fun _ _ _ _ _ _ us hl => match us, hl with | [_, _], _ => rfl), kw_nil⟩
  have S := sc_divisor_of
  unfold b_divisor_of
  exact (pss_consF (ps_setF (i := 0) S.nd rfl (.inl rfl) rfl (pe_bi call_abs fo_abs rfl m_abs PyProof.Rows.boot_abs (pa_consF (pe_varF (i := 0) rfl (.inl rfl) rfl rfl) pa_nilF rfl) (by decide) rfl rfl rfl) rfl (.inl rfl))
  (pss_consF (ps_setF (i := 1) S.nd rfl (.inl rfl) rfl (pe_bi call_abs fo_abs rfl m_abs PyProof.Rows.boot_abs (pa_consF (pe_varF (i := 1) rfl (.inl rfl) rfl rfl) pa_nilF rfl) (by decide) rfl rfl rfl) rfl (.inl rfl))
  (pss_consF (ps_whileF (passes_of rfl) (pt_cmpF rfl (hu65 hr) rfl (pe_varF (i := 1) rfl (.inl rfl) rfl rfl) (pe_conF pe_int (fun _ => .int _)))
  (pss_consF (ps_parF (i := 0) (j := 1) rfl S.nd rfl rfl (by decide) rfl rfl rfl rfl (pa_consF (pe_varF (i := 1) rfl (.inl rfl) rfl rfl) (pa_consF (pe_bin rfl (pe_varF (i := 0) rfl (.inl rfl) rfl rfl) (pe_varF (i := 1) rfl (.inl rfl) rfl rfl)) pa_nilF rfl) rfl) rfl rfl)
  pss_nilF))
  (pss_consF (ps_retF (pe_varF (i := 0) rfl (.inl rfl) rfl rfl))
  pss_nilF))))
theorem ok_is_whole {f : Addr} {fd : FuncData} (F : Fun K "is_whole" "is_whole" s_is_whole f fd) (hm : mg "is_whole" = some (.ref f)) (m_isinstance : mg "isinstance" = none) (m_bool : mg "bool" = none) (m_int : mg "int" = none)  :
    Fd (tb K ca fa) P w K mg base "is_whole" ["thing", "low", "high"] [] 1 d_is_whole := by
  refine ⟨f, fd, fn_okF (k := 0) F sc_is_whole rfl (fun cdv A outer s H E hr => ?_), hm, F.kp, F.binds (fun _ _ _ _ _ _ us hl => match us, hl with | [_, _, _], _ => rfl), kw_nil⟩
  have S := sc_is_whole
  unfold b_is_whole
  exact (pss_consF (ps_ifF (PW.pt (pw_orF (pt_notF (pt_truthF rfl (pe_bi call_isiA fo_isi rfl m_isinstance PyProof.Rows.boot_isinstance (pa_consF (pe_varF (i := 0) rfl (.inl rfl) rfl rfl) (pa_consF (pe_conF (pe_bltn (v := .ty "int") rfl m_int PyProof.Rows.boot_int rfl) (fun _ => .ty _)) pa_nilF rfl) rfl) (by decide) rfl rfl rfl) (fun _ => rfl))) (pw_or1 (pt_truthF rfl (pe_bi call_isiA fo_isi rfl m_isinstance PyProof.Rows.boot_isinstance (pa_consF (pe_varF (i := 0) rfl (.inl rfl) rfl rfl) (pa_consF (pe_conF (pe_bltn (v := .ty "bool") rfl m_bool PyProof.Rows.boot_bool rfl) (fun _ => .ty _)) pa_nilF rfl) rfl) (by decide) rfl rfl rfl) (fun _ => rfl)))))
  (pss_consF (ps_retF (pe_conF pe_bl (fun _ => .bl _)))
  pss_nilF)
  pss_nilF)
  (pss_consF (ps_ifF (PW.pt (pw_andF (pt_cmpF rfl (hu65 hr) rfl (pe_varF (i := 1) rfl (.inl rfl) rfl rfl) (pe_conF pe_non (fun _ => .non))) (pw_and1 (pt_cmpF rfl (hu65 hr) rfl (pe_varF (i := 0) rfl (.inl rfl) rfl rfl) (pe_varF (i := 1) rfl (.inl rfl) rfl rfl)))))
  (pss_consF (ps_retF (pe_conF pe_bl (fun _ => .bl _)))
  pss_nilF)
  pss_nilF)
  (pss_consF (ps_retF (pe_orF (pe_cmpF rfl (hu65 hr) rfl (pe_varF (i := 2) rfl (.inl rfl) rfl rfl) (pe_conF pe_non (fun _ => .non))) (pe_one (pe_cmpF rfl (hu65 hr) rfl (pe_varF (i := 0) rfl (.inl rfl) rfl rfl) (pe_varF (i := 2) rfl (.inl rfl) rfl rfl)))))
  pss_nilF)))
theorem ok_fraction {f : Addr} {fd : FuncData} (F : FnD K "fraction" s_fraction [.int 1] f fd) (hm : mg "fraction" = some (.ref f))  (F_divisor_of : Fd (tb K ca fa) P w K mg base "divisor_of" ["one", "other"] [] 1 d_divisor_of) (F_is_whole : Fd (tb K ca fa) P w K mg base "is_whole" ["thing", "low", "high"] [] 1 d_is_whole) :
    Fd (tb K ca fa) P w K mg base "fraction" ["top", "bottom"] [] 2 d_fraction := by
  obtain ⟨ds, hv, hb⟩ := FunD.binds1 (ps := ["top", "bottom"]) F 2 1 (by decide) rfl fun _ _ _ _ _ _ _ us its hl h2 => match us, its, hl, h2 with | [_, _], [_], _, _ => ⟨_, rfl, rfl⟩
  have S := sc_fraction
  cases hv
  refine ⟨f, fd, fn_okD (k := 1) F sc_fraction rfl (fun cdv A outer s H E hr => ?_), hm, F.kp, hb, kw_nil⟩
  unfold b_fraction
  exact (pss_consF (ps_ifF (PW.pt (pw_orF (pt_notF (pt_truthF rfl (pe_callF F_is_whole hr (by decide) rfl (takes_of rfl rfl rfl rfl) rfl (pa_consF (pe_varF (i := 0) rfl (.inl rfl) rfl rfl) (pa_consF (pe_conF pe_non (fun _ => .non)) (pa_consF (pe_conF pe_non (fun _ => .non)) pa_nilF rfl) rfl) rfl) rfl rfl rfl) (fun _ => rfl))) (pw_orF (pt_notF (pt_truthF rfl (pe_callF F_is_whole hr (by decide) rfl (takes_of rfl rfl rfl rfl) rfl (pa_consF (pe_varF (i := 1) rfl (.inl rfl) rfl rfl) (pa_consF (pe_conF pe_non (fun _ => .non)) (pa_consF (pe_conF pe_non (fun _ => .non)) pa_nilF rfl) rfl) rfl) rfl rfl rfl) (fun _ => rfl))) (pw_or1 (pt_cmpF rfl (hu65 hr) rfl (pe_varF (i := 1) rfl (.inl rfl) rfl rfl) (pe_conF pe_int (fun _ => .int _)))))))
  (pss_consF ps_noF
  pss_nilF)
  pss_nilF)
  (pss_consF (ps_setF (i := 2) S.nd rfl (.inl rfl) rfl (pe_callF F_divisor_of hr (by decide) rfl (takes_of rfl rfl rfl rfl) rfl (pa_consF (pe_varF (i := 0) rfl (.inl rfl) rfl rfl) (pa_consF (pe_varF (i := 1) rfl (.inl rfl) rfl rfl) pa_nilF rfl) rfl) rfl rfl rfl) rfl (.inl rfl))
  (pss_consF (ps_ifF (pt_cmpF rfl (hu65 hr) rfl (pe_varF (i := 1) rfl (.inl rfl) rfl rfl) (pe_conF pe_int (fun _ => .int _)))
  (pss_consF (ps_setF (i := 2) S.nd rfl (.inl rfl) rfl (pe_neg (pe_varF (i := 2) rfl (.inl rfl) rfl rfl)) rfl (.inl rfl))
  pss_nilF)
  pss_nilF)
  (pss_consF (ps_retF (pe_tupF (pa_consF (pe_bin rfl (pe_varF (i := 0) rfl (.inl rfl) rfl rfl) (pe_varF (i := 2) rfl (.inl rfl) rfl rfl)) (pa_consF (pe_bin rfl (pe_varF (i := 1) rfl (.inl rfl) rfl rfl) (pe_varF (i := 2) rfl (.inl rfl) rfl rfl)) pa_nilF rfl) rfl)))
  pss_nilF))))
theorem okd_fraction {f : Addr} {fd : FuncData} (F : FnD K "fraction" s_fraction [.int 1] f fd) (hm : mg "fraction" = some (.ref f))  (F_divisor_of : Fd (tb K ca fa) P w K mg base "divisor_of" ["one", "other"] [] 1 d_divisor_of) (F_is_whole : Fd (tb K ca fa) P w K mg base "is_whole" ["thing", "low", "high"] [] 1 d_is_whole) :
    Fdd (tb K ca fa) P w K mg base "fraction" ["top", "bottom"] [.int 1] 2 d_fraction := by
  obtain ⟨ds, hv, hb⟩ := FunD.binds1 (ps := ["top", "bottom"]) F 1 0 (by decide) rfl fun _ _ _ _ _ _ _ us its hl h2 => match us, its, hl, h2 with | [_], [_], _, _ => ⟨_, rfl, rfl⟩
  have S := sc_fraction
  refine ⟨f, fd, _, ds, fn_okD (k := 1) F sc_fraction rfl (fun cdv A outer s H E hr => ?_), hm, F.kp, hv, hb, fun G => (.cons (.int _) .nil)⟩
  unfold b_fraction
  exact (pss_consF (ps_ifF (PW.pt (pw_orF (pt_notF (pt_truthF rfl (pe_callF F_is_whole hr (by decide) rfl (takes_of rfl rfl rfl rfl) rfl (pa_consF (pe_varF (i := 0) rfl (.inl rfl) rfl rfl) (pa_consF (pe_conF pe_non (fun _ => .non)) (pa_consF (pe_conF pe_non (fun _ => .non)) pa_nilF rfl) rfl) rfl) rfl rfl rfl) (fun _ => rfl))) (pw_orF (pt_notF (pt_truthF rfl (pe_callF F_is_whole hr (by decide) rfl (takes_of rfl rfl rfl rfl) rfl (pa_consF (pe_varF (i := 1) rfl (.inl rfl) rfl rfl) (pa_consF (pe_conF pe_non (fun _ => .non)) (pa_consF (pe_conF pe_non (fun _ => .non)) pa_nilF rfl) rfl) rfl) rfl rfl rfl) (fun _ => rfl))) (pw_or1 (pt_cmpF rfl (hu65 hr) rfl (pe_varF (i := 1) rfl (.inl rfl) rfl rfl) (pe_conF pe_int (fun _ => .int _)))))))
  (pss_consF ps_noF
  pss_nilF)
  pss_nilF)
  (pss_consF (ps_setF (i := 2) S.nd rfl (.inl rfl) rfl (pe_callF F_divisor_of hr (by decide) rfl (takes_of rfl rfl rfl rfl) rfl (pa_consF (pe_varF (i := 0) rfl (.inl rfl) rfl rfl) (pa_consF (pe_varF (i := 1) rfl (.inl rfl) rfl rfl) pa_nilF rfl) rfl) rfl rfl rfl) rfl (.inl rfl))
  (pss_consF (ps_ifF (pt_cmpF rfl (hu65 hr) rfl (pe_varF (i := 1) rfl (.inl rfl) rfl rfl) (pe_conF pe_int (fun _ => .int _)))
  (pss_consF (ps_setF (i := 2) S.nd rfl (.inl rfl) rfl (pe_neg (pe_varF (i := 2) rfl (.inl rfl) rfl rfl)) rfl (.inl rfl))
  pss_nilF)
  pss_nilF)
  (pss_consF (ps_retF (pe_tupF (pa_consF (pe_bin rfl (pe_varF (i := 0) rfl (.inl rfl) rfl rfl) (pe_varF (i := 2) rfl (.inl rfl) rfl rfl)) (pa_consF (pe_bin rfl (pe_varF (i := 1) rfl (.inl rfl) rfl rfl) (pe_varF (i := 2) rfl (.inl rfl) rfl rfl)) pa_nilF rfl) rfl)))
  pss_nilF))))
theorem ok_Lfraction {f : Addr} {fd : FuncData} (F : Fun K "_law_fraction" "_law_fraction" s_Lfraction f fd) (hm : mg "_law_fraction" = some (.ref f)) (m_abs : mg "abs" = none) (F_Lnumber : Fd (tb K ca fa) P w K mg base "_law_number" ["_law_well_here", "_law_most"] [] 2 d_Lnumber) (F_fraction : Fd (tb K ca fa) P w K mg base "fraction" ["top", "bottom"] [] 2 d_fraction) (F_Ldraw : Fd (tb K ca fa) P w K mg base "_law_draw" ["_law_well_here", "_law_many"] [] 1 d_Ldraw) (G_fraction : Fdd (tb K ca fa) P w K mg base "fraction" ["top", "bottom"] [.int 1] 2 d_fraction) :
    Fd (tb K ca fa) P w K mg base "_law_fraction" ["_law_well_here", "_law_bottom"] [] 3 d_Lfraction := by
  refine ⟨f, fd, fn_okF (k := 2) F sc_Lfraction rfl (fun cdv A outer s H E hr => ?_), hm, F.kp, F.binds (fun _ _ _ _ _ _ us hl => match us, hl with | [_, _], _ => rfl), kw_nil⟩
  have S := sc_Lfraction
  unfold b_Lfraction
  exact (pss_consF (ps_setF (i := 2) S.nd rfl (.inl rfl) rfl (pe_callF F_Lnumber hr (by decide) rfl (takes_of rfl rfl rfl rfl) rfl (pa_consF (pe_varF (i := 0) rfl (.inl rfl) rfl rfl) (pa_consF (pe_bin rfl (pe_bin rfl (pe_conF pe_int (fun _ => .int _)) (pe_conF pe_int (fun _ => .int _))) (pe_conF pe_int (fun _ => .int _))) pa_nilF rfl) rfl) rfl rfl rfl) rfl (.inl rfl))
  (pss_consF (ps_ifF (pt_cmpF rfl (hu65 hr) rfl (pe_callF F_Ldraw hr (by decide) rfl (takes_of rfl rfl rfl rfl) rfl (pa_consF (pe_varF (i := 0) rfl (.inl rfl) rfl rfl) (pa_consF (pe_conF pe_int (fun _ => .int _)) pa_nilF rfl) rfl) rfl rfl rfl) (pe_conF pe_int (fun _ => .int _)))
  (pss_consF (ps_setF (i := 1) S.nd rfl (.inl rfl) rfl (pe_bin rfl (pe_conF pe_int (fun _ => .int _)) (pe_bi call_abs fo_abs rfl m_abs PyProof.Rows.boot_abs (pa_consF (pe_callF F_Lnumber hr (by decide) rfl (takes_of rfl rfl rfl rfl) rfl (pa_consF (pe_varF (i := 0) rfl (.inl rfl) rfl rfl) (pa_consF (pe_bin rfl (pe_conF pe_int (fun _ => .int _)) (pe_conF pe_int (fun _ => .int _))) pa_nilF rfl) rfl) rfl rfl rfl) pa_nilF rfl) (by decide) rfl rfl rfl)) rfl (.inl rfl))
  pss_nilF)
  pss_nilF)
  (pss_consF (ps_retF (pe_callF F_fraction hr (by decide) rfl (takes_of rfl rfl rfl rfl) rfl (pa_consF (pe_varF (i := 2) rfl (.inl rfl) rfl rfl) (pa_consF (pe_varF (i := 1) rfl (.inl rfl) rfl rfl) pa_nilF rfl) rfl) rfl rfl rfl))
  pss_nilF)))
theorem ok_is_fraction {f : Addr} {fd : FuncData} (F : Fun K "is_fraction" "is_fraction" s_is_fraction f fd) (hm : mg "is_fraction" = some (.ref f)) (m_isinstance : mg "isinstance" = none) (m_tuple : mg "tuple" = none) (m_len : mg "len" = none) (F_divisor_of : Fd (tb K ca fa) P w K mg base "divisor_of" ["one", "other"] [] 1 d_divisor_of) (F_is_whole : Fd (tb K ca fa) P w K mg base "is_whole" ["thing", "low", "high"] [] 1 d_is_whole) :
    Fd (tb K ca fa) P w K mg base "is_fraction" ["thing"] [] 2 d_is_fraction := by
  refine ⟨f, fd, fn_okF (k := 1) F sc_is_fraction rfl (fun cdv A outer s H E hr => ?_), hm, F.kp, F.binds (fun _ _ _ _ _ _ us hl => match us, hl with | [_], _ => rfl), kw_nil⟩
  have S := sc_is_fraction
  unfold b_is_fraction
  exact (pss_consF (ps_ifF (PW.pt (pw_orF (pt_notF (pt_truthF rfl (pe_bi call_isiA fo_isi rfl m_isinstance PyProof.Rows.boot_isinstance (pa_consF (pe_varF (i := 0) rfl (.inl rfl) rfl rfl) (pa_consF (pe_conF (pe_bltn (v := .ty "tuple") rfl m_tuple PyProof.Rows.boot_tuple rfl) (fun _ => .ty _)) pa_nilF rfl) rfl) (by decide) rfl rfl rfl) (fun _ => rfl))) (pw_or1 (pt_cmpF rfl (hu65 hr) rfl (pe_bi call_len (fo_len _ rfl) rfl m_len boot_len (pa_consF (pe_varF (i := 0) rfl (.inl rfl) rfl rfl) pa_nilF rfl) (by decide) rfl rfl rfl) (pe_conF pe_int (fun _ => .int _))))))
  (pss_consF (ps_retF (pe_conF pe_bl (fun _ => .bl _)))
  pss_nilF)
  pss_nilF)
  (pss_consF (ps_ifF (PW.pt (pw_orF (pt_notF (pt_truthF rfl (pe_callF F_is_whole hr (by decide) rfl (takes_of rfl rfl rfl rfl) rfl (pa_consF (pe_ixF rfl (pe_varF (i := 0) rfl (.inl rfl) rfl rfl) (pe_conF pe_int (fun _ => .int _)) (fun _ _ => rfl)) (pa_consF (pe_conF pe_non (fun _ => .non)) (pa_consF (pe_conF pe_non (fun _ => .non)) pa_nilF rfl) rfl) rfl) rfl rfl rfl) (fun _ => rfl))) (pw_or1 (pt_notF (pt_truthF rfl (pe_callF F_is_whole hr (by decide) rfl (takes_of rfl rfl rfl rfl) rfl (pa_consF (pe_ixF rfl (pe_varF (i := 0) rfl (.inl rfl) rfl rfl) (pe_conF pe_int (fun _ => .int _)) (fun _ _ => rfl)) (pa_consF (pe_conF pe_int (fun _ => .int _)) (pa_consF (pe_conF pe_non (fun _ => .non)) pa_nilF rfl) rfl) rfl) rfl rfl rfl) (fun _ => rfl))))))
  (pss_consF (ps_retF (pe_conF pe_bl (fun _ => .bl _)))
  pss_nilF)
  pss_nilF)
  (pss_consF (ps_retF (pe_cmpF rfl (hu65 hr) rfl (pe_callF F_divisor_of hr (by decide) rfl (takes_of rfl rfl rfl rfl) rfl (pa_consF (pe_ixF rfl (pe_varF (i := 0) rfl (.inl rfl) rfl rfl) (pe_conF pe_int (fun _ => .int _)) (fun _ _ => rfl)) (pa_consF (pe_ixF rfl (pe_varF (i := 0) rfl (.inl rfl) rfl rfl) (pe_conF pe_int (fun _ => .int _)) (fun _ _ => rfl)) pa_nilF rfl) rfl) rfl rfl rfl) (pe_conF pe_int (fun _ => .int _))))
  pss_nilF)))
theorem ok_asked_fractions {f : Addr} {fd : FuncData} (F : Fun K "asked_fractions" "asked_fractions" s_asked_fractions f fd) (hm : mg "asked_fractions" = some (.ref f))  (F_is_fraction : Fd (tb K ca fa) P w K mg base "is_fraction" ["thing"] [] 2 d_is_fraction) :
    Fd (tb K ca fa) P w K mg base "asked_fractions" ["one", "other"] [] 3 d_asked_fractions := by
  refine ⟨f, fd, fn_okF (k := 2) F sc_asked_fractions rfl (fun cdv A outer s H E hr => ?_), hm, F.kp, F.binds (fun _ _ _ _ _ _ us hl => match us, hl with | [_, _], _ => rfl), kw_nil⟩
  have S := sc_asked_fractions
  unfold b_asked_fractions
  exact (pss_consF (ps_ifF (PW.pt (pw_orF (pt_notF (pt_truthF rfl (pe_callF F_is_fraction hr (by decide) rfl (takes_of rfl rfl rfl rfl) rfl (pa_consF (pe_varF (i := 0) rfl (.inl rfl) rfl rfl) pa_nilF rfl) rfl rfl rfl) (fun _ => rfl))) (pw_or1 (pt_notF (pt_truthF rfl (pe_callF F_is_fraction hr (by decide) rfl (takes_of rfl rfl rfl rfl) rfl (pa_consF (pe_varF (i := 1) rfl (.inl rfl) rfl rfl) pa_nilF rfl) rfl rfl rfl) (fun _ => rfl))))))
  (pss_consF ps_noF
  pss_nilF)
  pss_nilF)
  pss_nilF)
theorem ok_times {f : Addr} {fd : FuncData} (F : Fun K "times" "times" s_times f fd) (hm : mg "times" = some (.ref f))  (F_asked_fractions : Fd (tb K ca fa) P w K mg base "asked_fractions" ["one", "other"] [] 3 d_asked_fractions) (F_fraction : Fd (tb K ca fa) P w K mg base "fraction" ["top", "bottom"] [] 2 d_fraction) (G_fraction : Fdd (tb K ca fa) P w K mg base "fraction" ["top", "bottom"] [.int 1] 2 d_fraction) :
    Fd (tb K ca fa) P w K mg base "times" ["one", "other"] [["other", "one"]] 4 d_times := by
  refine ⟨f, fd, fn_okF (k := 3) F sc_times rfl (fun cdv A outer s H E hr => ?_), hm, F.kp, F.binds (fun _ _ _ _ _ _ us hl => match us, hl with | [_, _], _ => rfl), (kw_cons (kwb_of F fun _ _ _ _ _ _ us zs hl hz => match us, hl, hz with | [_, _], _, hz => by cases hz; rfl) kw_nil)⟩
  have S := sc_times
  unfold b_times
  exact (pss_consF (ps_exprF (pe_callF F_asked_fractions hr (by decide) rfl (takes_of rfl rfl rfl rfl) rfl (pa_consF (pe_varF (i := 0) rfl (.inl rfl) rfl rfl) (pa_consF (pe_varF (i := 1) rfl (.inl rfl) rfl rfl) pa_nilF rfl) rfl) rfl rfl rfl) rfl)
  (pss_consF (ps_retF (pe_callF F_fraction hr (by decide) rfl (takes_of rfl rfl rfl rfl) rfl (pa_consF (pe_bin rfl (pe_ixF rfl (pe_varF (i := 0) rfl (.inl rfl) rfl rfl) (pe_conF pe_int (fun _ => .int _)) (fun _ _ => rfl)) (pe_ixF rfl (pe_varF (i := 1) rfl (.inl rfl) rfl rfl) (pe_conF pe_int (fun _ => .int _)) (fun _ _ => rfl))) (pa_consF (pe_bin rfl (pe_ixF rfl (pe_varF (i := 0) rfl (.inl rfl) rfl rfl) (pe_conF pe_int (fun _ => .int _)) (fun _ _ => rfl)) (pe_ixF rfl (pe_varF (i := 1) rfl (.inl rfl) rfl rfl) (pe_conF pe_int (fun _ => .int _)) (fun _ _ => rfl))) pa_nilF rfl) rfl) rfl rfl rfl))
  pss_nilF))
theorem ok_plus {f : Addr} {fd : FuncData} (F : Fun K "plus" "plus" s_plus f fd) (hm : mg "plus" = some (.ref f))  (F_asked_fractions : Fd (tb K ca fa) P w K mg base "asked_fractions" ["one", "other"] [] 3 d_asked_fractions) (F_fraction : Fd (tb K ca fa) P w K mg base "fraction" ["top", "bottom"] [] 2 d_fraction) (G_fraction : Fdd (tb K ca fa) P w K mg base "fraction" ["top", "bottom"] [.int 1] 2 d_fraction) :
    Fd (tb K ca fa) P w K mg base "plus" ["one", "other"] [["other", "one"]] 4 d_plus := by
  refine ⟨f, fd, fn_okF (k := 3) F sc_plus rfl (fun cdv A outer s H E hr => ?_), hm, F.kp, F.binds (fun _ _ _ _ _ _ us hl => match us, hl with | [_, _], _ => rfl), (kw_cons (kwb_of F fun _ _ _ _ _ _ us zs hl hz => match us, hl, hz with | [_, _], _, hz => by cases hz; rfl) kw_nil)⟩
  have S := sc_plus
  unfold b_plus
  exact (pss_consF (ps_exprF (pe_callF F_asked_fractions hr (by decide) rfl (takes_of rfl rfl rfl rfl) rfl (pa_consF (pe_varF (i := 0) rfl (.inl rfl) rfl rfl) (pa_consF (pe_varF (i := 1) rfl (.inl rfl) rfl rfl) pa_nilF rfl) rfl) rfl rfl rfl) rfl)
  (pss_consF (ps_retF (pe_callF F_fraction hr (by decide) rfl (takes_of rfl rfl rfl rfl) rfl (pa_consF (pe_bin rfl (pe_bin rfl (pe_ixF rfl (pe_varF (i := 0) rfl (.inl rfl) rfl rfl) (pe_conF pe_int (fun _ => .int _)) (fun _ _ => rfl)) (pe_ixF rfl (pe_varF (i := 1) rfl (.inl rfl) rfl rfl) (pe_conF pe_int (fun _ => .int _)) (fun _ _ => rfl))) (pe_bin rfl (pe_ixF rfl (pe_varF (i := 1) rfl (.inl rfl) rfl rfl) (pe_conF pe_int (fun _ => .int _)) (fun _ _ => rfl)) (pe_ixF rfl (pe_varF (i := 0) rfl (.inl rfl) rfl rfl) (pe_conF pe_int (fun _ => .int _)) (fun _ _ => rfl)))) (pa_consF (pe_bin rfl (pe_ixF rfl (pe_varF (i := 0) rfl (.inl rfl) rfl rfl) (pe_conF pe_int (fun _ => .int _)) (fun _ _ => rfl)) (pe_ixF rfl (pe_varF (i := 1) rfl (.inl rfl) rfl rfl) (pe_conF pe_int (fun _ => .int _)) (fun _ _ => rfl))) pa_nilF rfl) rfl) rfl rfl rfl))
  pss_nilF))
theorem ok_Lwhole {f : Addr} {fd : FuncData} (F : Fun K "_law_whole" "_law_whole" s_Lwhole f fd) (hm : mg "_law_whole" = some (.ref f)) (m_isinstance : mg "isinstance" = none) (m_int : mg "int" = none) (m_bool : mg "bool" = none)  :
    Fd (tb K ca fa) P w K mg base "_law_whole" ["_law_thing"] [] 1 d_Lwhole := by
  refine ⟨f, fd, fn_okF (k := 0) F sc_Lwhole rfl (fun cdv A outer s H E hr => ?_), hm, F.kp, F.binds (fun _ _ _ _ _ _ us hl => match us, hl with | [_], _ => rfl), kw_nil⟩
  have S := sc_Lwhole
  unfold b_Lwhole
  exact (pss_consF (ps_retF (pe_andF (pe_bi call_isiA fo_isi rfl m_isinstance PyProof.Rows.boot_isinstance (pa_consF (pe_varF (i := 0) rfl (.inl rfl) rfl rfl) (pa_consF (pe_conF (pe_bltn (v := .ty "int") rfl m_int PyProof.Rows.boot_int rfl) (fun _ => .ty _)) pa_nilF rfl) rfl) (by decide) rfl rfl rfl) (pe_one (pe_notF (pe_bi call_isiA fo_isi rfl m_isinstance PyProof.Rows.boot_isinstance (pa_consF (pe_varF (i := 0) rfl (.inl rfl) rfl rfl) (pa_consF (pe_conF (pe_bltn (v := .ty "bool") rfl m_bool PyProof.Rows.boot_bool rfl) (fun _ => .ty _)) pa_nilF rfl) rfl) (by decide) rfl rfl rfl)))))
  pss_nilF)
theorem ok_Lshared {f : Addr} {fd : FuncData} (F : Fun K "_law_shared" "_law_shared" s_Lshared f fd) (hm : mg "_law_shared" = some (.ref f)) (m_abs : mg "abs" = none)  :
    Fd (tb K ca fa) P w K mg base "_law_shared" ["_law_this", "_law_that"] [] 1 d_Lshared := by
  refine ⟨f, fd, fn_okF (k := 0) F sc_Lshared rfl (fun cdv A outer s H E hr => ?_), hm, F.kp, F.binds (fun _ _ _ _ _ _ us hl => match us, hl with | [_, _], _ => rfl), kw_nil⟩
  have S := sc_Lshared
  unfold b_Lshared
  exact (pss_consF (ps_setF (i := 0) S.nd rfl (.inl rfl) rfl (pe_bi call_abs fo_abs rfl m_abs PyProof.Rows.boot_abs (pa_consF (pe_varF (i := 0) rfl (.inl rfl) rfl rfl) pa_nilF rfl) (by decide) rfl rfl rfl) rfl (.inl rfl))
  (pss_consF (ps_setF (i := 1) S.nd rfl (.inl rfl) rfl (pe_bi call_abs fo_abs rfl m_abs PyProof.Rows.boot_abs (pa_consF (pe_varF (i := 1) rfl (.inl rfl) rfl rfl) pa_nilF rfl) (by decide) rfl rfl rfl) rfl (.inl rfl))
  (pss_consF (ps_whileF (passes_of rfl) (pt_cmpF rfl (hu65 hr) rfl (pe_varF (i := 1) rfl (.inl rfl) rfl rfl) (pe_conF pe_int (fun _ => .int _)))
  (pss_consF (ps_parF (i := 0) (j := 1) rfl S.nd rfl rfl (by decide) rfl rfl rfl rfl (pa_consF (pe_varF (i := 1) rfl (.inl rfl) rfl rfl) (pa_consF (pe_bin rfl (pe_varF (i := 0) rfl (.inl rfl) rfl rfl) (pe_varF (i := 1) rfl (.inl rfl) rfl rfl)) pa_nilF rfl) rfl) rfl rfl)
  pss_nilF))
  (pss_consF (ps_retF (pe_varF (i := 0) rfl (.inl rfl) rfl rfl))
  pss_nilF))))
theorem ok_Lworth {f : Addr} {fd : FuncData} (F : Fun K "_law_worth" "_law_worth" s_Lworth f fd) (hm : mg "_law_worth" = some (.ref f)) (m_isinstance : mg "isinstance" = none) (m_tuple : mg "tuple" = none) (m_len : mg "len" = none) (F_Lwhole : Fd (tb K ca fa) P w K mg base "_law_whole" ["_law_thing"] [] 1 d_Lwhole) (F_Lshared : Fd (tb K ca fa) P w K mg base "_law_shared" ["_law_this", "_law_that"] [] 1 d_Lshared) :
    Fd (tb K ca fa) P w K mg base "_law_worth" ["_law_found", "_law_top", "_law_bottom"] [] 2 d_Lworth := by
  refine ⟨f, fd, fn_okF (k := 1) F sc_Lworth rfl (fun cdv A outer s H E hr => ?_), hm, F.kp, F.binds (fun _ _ _ _ _ _ us hl => match us, hl with | [_, _, _], _ => rfl), kw_nil⟩
  have S := sc_Lworth
  unfold b_Lworth
  exact (pss_consF (ps_ifF (PW.pt (pw_orF (pt_notF (pt_truthF rfl (pe_bi call_isiA fo_isi rfl m_isinstance PyProof.Rows.boot_isinstance (pa_consF (pe_varF (i := 0) rfl (.inl rfl) rfl rfl) (pa_consF (pe_conF (pe_bltn (v := .ty "tuple") rfl m_tuple PyProof.Rows.boot_tuple rfl) (fun _ => .ty _)) pa_nilF rfl) rfl) (by decide) rfl rfl rfl) (fun _ => rfl))) (pw_orF (pt_cmpF rfl (hu65 hr) rfl (pe_bi call_len (fo_len _ rfl) rfl m_len boot_len (pa_consF (pe_varF (i := 0) rfl (.inl rfl) rfl rfl) pa_nilF rfl) (by decide) rfl rfl rfl) (pe_conF pe_int (fun _ => .int _))) (pw_orF (pt_notF (pt_truthF rfl (pe_callF F_Lwhole hr (by decide) rfl (takes_of rfl rfl rfl rfl) rfl (pa_consF (pe_ixF rfl (pe_varF (i := 0) rfl (.inl rfl) rfl rfl) (pe_conF pe_int (fun _ => .int _)) (fun _ _ => rfl)) pa_nilF rfl) rfl rfl rfl) (fun _ => rfl))) (pw_or1 (pt_notF (pt_truthF rfl (pe_callF F_Lwhole hr (by decide) rfl (takes_of rfl rfl rfl rfl) rfl (pa_consF (pe_ixF rfl (pe_varF (i := 0) rfl (.inl rfl) rfl rfl) (pe_conF pe_int (fun _ => .int _)) (fun _ _ => rfl)) pa_nilF rfl) rfl rfl rfl) (fun _ => rfl))))))))
  (pss_consF (ps_retF (pe_conF pe_bl (fun _ => .bl _)))
  pss_nilF)
  pss_nilF)
  (pss_consF (ps_ifF (PW.pt (pw_orF (pt_cmpF rfl (hu65 hr) rfl (pe_ixF rfl (pe_varF (i := 0) rfl (.inl rfl) rfl rfl) (pe_conF pe_int (fun _ => .int _)) (fun _ _ => rfl)) (pe_conF pe_int (fun _ => .int _))) (pw_or1 (pt_cmpF rfl (hu65 hr) rfl (pe_callF F_Lshared hr (by decide) rfl (takes_of rfl rfl rfl rfl) rfl (pa_consF (pe_ixF rfl (pe_varF (i := 0) rfl (.inl rfl) rfl rfl) (pe_conF pe_int (fun _ => .int _)) (fun _ _ => rfl)) (pa_consF (pe_ixF rfl (pe_varF (i := 0) rfl (.inl rfl) rfl rfl) (pe_conF pe_int (fun _ => .int _)) (fun _ _ => rfl)) pa_nilF rfl) rfl) rfl rfl rfl) (pe_conF pe_int (fun _ => .int _))))))
  (pss_consF (ps_retF (pe_conF pe_bl (fun _ => .bl _)))
  pss_nilF)
  pss_nilF)
  (pss_consF (ps_retF (pe_cmpF rfl (hu65 hr) rfl (pe_bin rfl (pe_ixF rfl (pe_varF (i := 0) rfl (.inl rfl) rfl rfl) (pe_conF pe_int (fun _ => .int _)) (fun _ _ => rfl)) (pe_varF (i := 2) rfl (.inl rfl) rfl rfl)) (pe_bin rfl (pe_varF (i := 1) rfl (.inl rfl) rfl rfl) (pe_ixF rfl (pe_varF (i := 0) rfl (.inl rfl) rfl rfl) (pe_conF pe_int (fun _ => .int _)) (fun _ _ => rfl)))))
  pss_nilF)))
theorem ok_minus {f : Addr} {fd : FuncData} (F : Fun K "minus" "minus" s_minus f fd) (hm : mg "minus" = some (.ref f))  (F_asked_fractions : Fd (tb K ca fa) P w K mg base "asked_fractions" ["one", "other"] [] 3 d_asked_fractions) (F_fraction : Fd (tb K ca fa) P w K mg base "fraction" ["top", "bottom"] [] 2 d_fraction) (G_fraction : Fdd (tb K ca fa) P w K mg base "fraction" ["top", "bottom"] [.int 1] 2 d_fraction) :
    Fd (tb K ca fa) P w K mg base "minus" ["one", "other"] [["other", "one"]] 4 d_minus := by
  refine ⟨f, fd, fn_okF (k := 3) F sc_minus rfl (fun cdv A outer s H E hr => ?_), hm, F.kp, F.binds (fun _ _ _ _ _ _ us hl => match us, hl with | [_, _], _ => rfl), (kw_cons (kwb_of F fun _ _ _ _ _ _ us zs hl hz => match us, hl, hz with | [_, _], _, hz => by cases hz; rfl) kw_nil)⟩
  have S := sc_minus
  unfold b_minus
  exact (pss_consF (ps_exprF (pe_callF F_asked_fractions hr (by decide) rfl (takes_of rfl rfl rfl rfl) rfl (pa_consF (pe_varF (i := 0) rfl (.inl rfl) rfl rfl) (pa_consF (pe_varF (i := 1) rfl (.inl rfl) rfl rfl) pa_nilF rfl) rfl) rfl rfl rfl) rfl)
  (pss_consF (ps_retF (pe_callF F_fraction hr (by decide) rfl (takes_of rfl rfl rfl rfl) rfl (pa_consF (pe_bin rfl (pe_bin rfl (pe_ixF rfl (pe_varF (i := 0) rfl (.inl rfl) rfl rfl) (pe_conF pe_int (fun _ => .int _)) (fun _ _ => rfl)) (pe_ixF rfl (pe_varF (i := 1) rfl (.inl rfl) rfl rfl) (pe_conF pe_int (fun _ => .int _)) (fun _ _ => rfl))) (pe_bin rfl (pe_ixF rfl (pe_varF (i := 1) rfl (.inl rfl) rfl rfl) (pe_conF pe_int (fun _ => .int _)) (fun _ _ => rfl)) (pe_ixF rfl (pe_varF (i := 0) rfl (.inl rfl) rfl rfl) (pe_conF pe_int (fun _ => .int _)) (fun _ _ => rfl)))) (pa_consF (pe_bin rfl (pe_ixF rfl (pe_varF (i := 0) rfl (.inl rfl) rfl rfl) (pe_conF pe_int (fun _ => .int _)) (fun _ _ => rfl)) (pe_ixF rfl (pe_varF (i := 1) rfl (.inl rfl) rfl rfl) (pe_conF pe_int (fun _ => .int _)) (fun _ _ => rfl))) pa_nilF rfl) rfl) rfl rfl rfl))
  pss_nilF))
theorem ok_shared {f : Addr} {fd : FuncData} (F : Fun K "shared" "shared" s_shared f fd) (hm : mg "shared" = some (.ref f))  (F_asked_fractions : Fd (tb K ca fa) P w K mg base "asked_fractions" ["one", "other"] [] 3 d_asked_fractions) (F_fraction : Fd (tb K ca fa) P w K mg base "fraction" ["top", "bottom"] [] 2 d_fraction) (G_fraction : Fdd (tb K ca fa) P w K mg base "fraction" ["top", "bottom"] [.int 1] 2 d_fraction) :
    Fd (tb K ca fa) P w K mg base "shared" ["one", "other"] [["other", "one"]] 4 d_shared := by
  refine ⟨f, fd, fn_okF (k := 3) F sc_shared rfl (fun cdv A outer s H E hr => ?_), hm, F.kp, F.binds (fun _ _ _ _ _ _ us hl => match us, hl with | [_, _], _ => rfl), (kw_cons (kwb_of F fun _ _ _ _ _ _ us zs hl hz => match us, hl, hz with | [_, _], _, hz => by cases hz; rfl) kw_nil)⟩
  have S := sc_shared
  unfold b_shared
  exact (pss_consF (ps_exprF (pe_callF F_asked_fractions hr (by decide) rfl (takes_of rfl rfl rfl rfl) rfl (pa_consF (pe_varF (i := 0) rfl (.inl rfl) rfl rfl) (pa_consF (pe_varF (i := 1) rfl (.inl rfl) rfl rfl) pa_nilF rfl) rfl) rfl rfl rfl) rfl)
  (pss_consF (ps_retF (pe_callF F_fraction hr (by decide) rfl (takes_of rfl rfl rfl rfl) rfl (pa_consF (pe_bin rfl (pe_ixF rfl (pe_varF (i := 0) rfl (.inl rfl) rfl rfl) (pe_conF pe_int (fun _ => .int _)) (fun _ _ => rfl)) (pe_ixF rfl (pe_varF (i := 1) rfl (.inl rfl) rfl rfl) (pe_conF pe_int (fun _ => .int _)) (fun _ _ => rfl))) (pa_consF (pe_bin rfl (pe_ixF rfl (pe_varF (i := 0) rfl (.inl rfl) rfl rfl) (pe_conF pe_int (fun _ => .int _)) (fun _ _ => rfl)) (pe_ixF rfl (pe_varF (i := 1) rfl (.inl rfl) rfl rfl) (pe_conF pe_int (fun _ => .int _)) (fun _ _ => rfl))) pa_nilF rfl) rfl) rfl rfl rfl))
  pss_nilF))
theorem ok_Lpair {f : Addr} {fd : FuncData} (F : Fun K "_law_pair" "_law_pair" s_Lpair f fd) (hm : mg "_law_pair" = some (.ref f))  (F_Lworth : Fd (tb K ca fa) P w K mg base "_law_worth" ["_law_found", "_law_top", "_law_bottom"] [] 2 d_Lworth) (F_plus : Fd (tb K ca fa) P w K mg base "plus" ["one", "other"] [["other", "one"]] 4 d_plus) (F_minus : Fd (tb K ca fa) P w K mg base "minus" ["one", "other"] [["other", "one"]] 4 d_minus) (F_times : Fd (tb K ca fa) P w K mg base "times" ["one", "other"] [["other", "one"]] 4 d_times) (F_shared : Fd (tb K ca fa) P w K mg base "shared" ["one", "other"] [["other", "one"]] 4 d_shared) :
    Fd (tb K ca fa) P w K mg base "_law_pair" ["_law_this", "_law_two"] [] 5 d_Lpair := by
  refine ⟨f, fd, fn_okF (k := 4) F sc_Lpair rfl (fun cdv A outer s H E hr => ?_), hm, F.kp, F.binds (fun _ _ _ _ _ _ us hl => match us, hl with | [_, _], _ => rfl), kw_nil⟩
  have S := sc_Lpair
  unfold b_Lpair
  exact (pss_consF (ps_asgF (pe_varF (i := 0) rfl (.inl rfl) rfl rfl) (pg_tupF rfl rfl (pgs_consF GoG.nm (pg_nameF (i := 2) S.nd rfl (.inl rfl) rfl (.inl rfl)) (pgs_consF GoG.nm (pg_nameF (i := 3) S.nd rfl (.inl rfl) rfl (.inl rfl)) pgs_nilF rfl) rfl) rfl rfl rfl) (GoG.tup (allg_cons GoG.nm (allg_cons GoG.nm allg_nil))) rfl rfl rfl)
  (pss_consF (ps_asgF (pe_varF (i := 1) rfl (.inl rfl) rfl rfl) (pg_tupF rfl rfl (pgs_consF GoG.nm (pg_nameF (i := 4) S.nd rfl (.inl rfl) rfl (.inl rfl)) (pgs_consF GoG.nm (pg_nameF (i := 5) S.nd rfl (.inl rfl) rfl (.inl rfl)) pgs_nilF rfl) rfl) rfl rfl rfl) (GoG.tup (allg_cons GoG.nm (allg_cons GoG.nm allg_nil))) rfl rfl rfl)
  (pss_consF (ps_ifF (PW.pt (pw_orF (pt_notF (pt_truthF rfl (pe_callF F_Lworth hr (by decide) rfl (takes_of rfl rfl rfl rfl) rfl (pa_consF (pe_callF F_plus hr (by decide) rfl (takes_of rfl rfl rfl rfl) rfl (pa_consF (pe_varF (i := 0) rfl (.inl rfl) rfl rfl) (pa_consF (pe_varF (i := 1) rfl (.inl rfl) rfl rfl) pa_nilF rfl) rfl) rfl rfl rfl) (pa_consF (pe_bin rfl (pe_bin rfl (pe_varF (i := 2) rfl (.inl rfl) rfl rfl) (pe_varF (i := 5) rfl (.inl rfl) rfl rfl)) (pe_bin rfl (pe_varF (i := 4) rfl (.inl rfl) rfl rfl) (pe_varF (i := 3) rfl (.inl rfl) rfl rfl))) (pa_consF (pe_bin rfl (pe_varF (i := 3) rfl (.inl rfl) rfl rfl) (pe_varF (i := 5) rfl (.inl rfl) rfl rfl)) pa_nilF rfl) rfl) rfl) rfl rfl rfl) (fun _ => rfl))) (pw_or1 (pt_cmpF rfl (hu65 hr) rfl (pe_callKF (ks := ["other", "one"]) F_plus hr (by decide) rfl (takes_of rfl rfl rfl rfl) (.head _) (pk_consF (pe_varF (i := 0) rfl (.inl rfl) rfl rfl) (pk_consF (pe_varF (i := 1) rfl (.inl rfl) rfl rfl) pk_nilF)) rfl rfl rfl rfl) (pe_callF F_plus hr (by decide) rfl (takes_of rfl rfl rfl rfl) rfl (pa_consF (pe_varF (i := 0) rfl (.inl rfl) rfl rfl) (pa_consF (pe_varF (i := 1) rfl (.inl rfl) rfl rfl) pa_nilF rfl) rfl) rfl rfl rfl)))))
  (pss_consF (ps_retF (pe_conF pe_bl (fun _ => .bl _)))
  pss_nilF)
  pss_nilF)
  (pss_consF (ps_ifF (PW.pt (pw_orF (pt_notF (pt_truthF rfl (pe_callF F_Lworth hr (by decide) rfl (takes_of rfl rfl rfl rfl) rfl (pa_consF (pe_callF F_minus hr (by decide) rfl (takes_of rfl rfl rfl rfl) rfl (pa_consF (pe_varF (i := 0) rfl (.inl rfl) rfl rfl) (pa_consF (pe_varF (i := 1) rfl (.inl rfl) rfl rfl) pa_nilF rfl) rfl) rfl rfl rfl) (pa_consF (pe_bin rfl (pe_bin rfl (pe_varF (i := 2) rfl (.inl rfl) rfl rfl) (pe_varF (i := 5) rfl (.inl rfl) rfl rfl)) (pe_bin rfl (pe_varF (i := 4) rfl (.inl rfl) rfl rfl) (pe_varF (i := 3) rfl (.inl rfl) rfl rfl))) (pa_consF (pe_bin rfl (pe_varF (i := 3) rfl (.inl rfl) rfl rfl) (pe_varF (i := 5) rfl (.inl rfl) rfl rfl)) pa_nilF rfl) rfl) rfl) rfl rfl rfl) (fun _ => rfl))) (pw_or1 (pt_cmpF rfl (hu65 hr) rfl (pe_callF F_minus hr (by decide) rfl (takes_of rfl rfl rfl rfl) rfl (pa_consF (pe_callF F_plus hr (by decide) rfl (takes_of rfl rfl rfl rfl) rfl (pa_consF (pe_varF (i := 0) rfl (.inl rfl) rfl rfl) (pa_consF (pe_varF (i := 1) rfl (.inl rfl) rfl rfl) pa_nilF rfl) rfl) rfl rfl rfl) (pa_consF (pe_varF (i := 1) rfl (.inl rfl) rfl rfl) pa_nilF rfl) rfl) rfl rfl rfl) (pe_varF (i := 0) rfl (.inl rfl) rfl rfl)))))
  (pss_consF (ps_retF (pe_conF pe_bl (fun _ => .bl _)))
  pss_nilF)
  pss_nilF)
  (pss_consF (ps_ifF (PW.pt (pw_orF (pt_notF (pt_truthF rfl (pe_callF F_Lworth hr (by decide) rfl (takes_of rfl rfl rfl rfl) rfl (pa_consF (pe_callF F_times hr (by decide) rfl (takes_of rfl rfl rfl rfl) rfl (pa_consF (pe_varF (i := 0) rfl (.inl rfl) rfl rfl) (pa_consF (pe_varF (i := 1) rfl (.inl rfl) rfl rfl) pa_nilF rfl) rfl) rfl rfl rfl) (pa_consF (pe_bin rfl (pe_varF (i := 2) rfl (.inl rfl) rfl rfl) (pe_varF (i := 4) rfl (.inl rfl) rfl rfl)) (pa_consF (pe_bin rfl (pe_varF (i := 3) rfl (.inl rfl) rfl rfl) (pe_varF (i := 5) rfl (.inl rfl) rfl rfl)) pa_nilF rfl) rfl) rfl) rfl rfl rfl) (fun _ => rfl))) (pw_or1 (pt_cmpF rfl (hu65 hr) rfl (pe_callF F_times hr (by decide) rfl (takes_of rfl rfl rfl rfl) rfl (pa_consF (pe_varF (i := 1) rfl (.inl rfl) rfl rfl) (pa_consF (pe_varF (i := 0) rfl (.inl rfl) rfl rfl) pa_nilF rfl) rfl) rfl rfl rfl) (pe_callKF (ks := ["other", "one"]) F_times hr (by decide) rfl (takes_of rfl rfl rfl rfl) (.head _) (pk_consF (pe_varF (i := 1) rfl (.inl rfl) rfl rfl) (pk_consF (pe_varF (i := 0) rfl (.inl rfl) rfl rfl) pk_nilF)) rfl rfl rfl rfl)))))
  (pss_consF (ps_retF (pe_conF pe_bl (fun _ => .bl _)))
  pss_nilF)
  pss_nilF)
  (pss_consF (ps_ifF (pt_cmpF rfl (hu65 hr) rfl (pe_varF (i := 4) rfl (.inl rfl) rfl rfl) (pe_conF pe_int (fun _ => .int _)))
  (pss_consF (ps_retF (pe_conF pe_bl (fun _ => .bl _)))
  pss_nilF)
  pss_nilF)
  (pss_consF (ps_ifF (PW.pt (pw_orF (pt_notF (pt_truthF rfl (pe_callF F_Lworth hr (by decide) rfl (takes_of rfl rfl rfl rfl) rfl (pa_consF (pe_callF F_shared hr (by decide) rfl (takes_of rfl rfl rfl rfl) rfl (pa_consF (pe_varF (i := 0) rfl (.inl rfl) rfl rfl) (pa_consF (pe_varF (i := 1) rfl (.inl rfl) rfl rfl) pa_nilF rfl) rfl) rfl rfl rfl) (pa_consF (pe_bin rfl (pe_varF (i := 2) rfl (.inl rfl) rfl rfl) (pe_varF (i := 5) rfl (.inl rfl) rfl rfl)) (pa_consF (pe_bin rfl (pe_varF (i := 3) rfl (.inl rfl) rfl rfl) (pe_varF (i := 4) rfl (.inl rfl) rfl rfl)) pa_nilF rfl) rfl) rfl) rfl rfl rfl) (fun _ => rfl))) (pw_or1 (pt_cmpF rfl (hu65 hr) rfl (pe_callF F_shared hr (by decide) rfl (takes_of rfl rfl rfl rfl) rfl (pa_consF (pe_callF F_times hr (by decide) rfl (takes_of rfl rfl rfl rfl) rfl (pa_consF (pe_varF (i := 0) rfl (.inl rfl) rfl rfl) (pa_consF (pe_varF (i := 1) rfl (.inl rfl) rfl rfl) pa_nilF rfl) rfl) rfl rfl rfl) (pa_consF (pe_varF (i := 1) rfl (.inl rfl) rfl rfl) pa_nilF rfl) rfl) rfl rfl rfl) (pe_varF (i := 0) rfl (.inl rfl) rfl rfl)))))
  (pss_consF (ps_retF (pe_conF pe_bl (fun _ => .bl _)))
  pss_nilF)
  pss_nilF)
  (pss_consF (ps_retF (pe_andF (pe_cmpF rfl (hu65 hr) rfl (pe_callKF (ks := ["other", "one"]) F_shared hr (by decide) rfl (takes_of rfl rfl rfl rfl) (.head _) (pk_consF (pe_varF (i := 1) rfl (.inl rfl) rfl rfl) (pk_consF (pe_varF (i := 0) rfl (.inl rfl) rfl rfl) pk_nilF)) rfl rfl rfl rfl) (pe_callF F_shared hr (by decide) rfl (takes_of rfl rfl rfl rfl) rfl (pa_consF (pe_varF (i := 0) rfl (.inl rfl) rfl rfl) (pa_consF (pe_varF (i := 1) rfl (.inl rfl) rfl rfl) pa_nilF rfl) rfl) rfl rfl rfl)) (pe_one (pe_cmpF rfl (hu65 hr) rfl (pe_callKF (ks := ["other", "one"]) F_minus hr (by decide) rfl (takes_of rfl rfl rfl rfl) (.head _) (pk_consF (pe_varF (i := 1) rfl (.inl rfl) rfl rfl) (pk_consF (pe_varF (i := 0) rfl (.inl rfl) rfl rfl) pk_nilF)) rfl rfl rfl rfl) (pe_callF F_minus hr (by decide) rfl (takes_of rfl rfl rfl rfl) rfl (pa_consF (pe_varF (i := 0) rfl (.inl rfl) rfl rfl) (pa_consF (pe_varF (i := 1) rfl (.inl rfl) rfl rfl) pa_nilF rfl) rfl) rfl rfl rfl)))))
  pss_nilF))))))))
theorem ok_law {f : Addr} {fd : FuncData} (F : Fun K "law" "law" s_law f fd) (m_range : mg "range" = none) (F_Lwell : Fd (tb K ca fa) P w K mg base "_law_well" ["_law_cell"] [] 1 d_Lwell) (F_Ldraw : Fd (tb K ca fa) P w K mg base "_law_draw" ["_law_well_here", "_law_many"] [] 1 d_Ldraw) (F_Lfraction : Fd (tb K ca fa) P w K mg base "_law_fraction" ["_law_well_here", "_law_bottom"] [] 3 d_Lfraction) (F_times : Fd (tb K ca fa) P w K mg base "times" ["one", "other"] [["other", "one"]] 4 d_times) (F_plus : Fd (tb K ca fa) P w K mg base "plus" ["one", "other"] [["other", "one"]] 4 d_plus) (F_Lpair : Fd (tb K ca fa) P w K mg base "_law_pair" ["_law_this", "_law_two"] [] 5 d_Lpair) :
    FnOk P w K mg base (L2.CX P w) 6 f fd ["_law_script"] (spD (tb K ca fa) 1 d_law) := by
  refine fn_okF (k := 5) F sc_law rfl (fun cdv A outer s H E hr => ?_)
  have S := sc_law
  unfold b_law
  exact (pss_consF (ps_forF (passes_of rfl) rfl (pi_seqF rfl (pe_sliceF rfl (pe_bin rfl (pe_varF (i := 0) rfl (.inl rfl) rfl rfl) (pe_lstF (pa_consF (pe_conF pe_int (fun _ => .int _)) pa_nilF rfl))) (po_F (.inl ⟨rfl, rfl⟩)) (po_F (.inr ⟨_, _, rfl, rfl, (pe_conF pe_int (fun _ => .int _))⟩)))) (pg_nameF (i := 1) S.nd rfl (.inl rfl) rfl (.inl rfl)) GoG.nm
  (pss_consF (ps_setF (i := 2) S.nd rfl (.inr rfl) rfl (pe_callF F_Lwell hr (by decide) rfl (takes_of rfl rfl rfl rfl) rfl (pa_consF (pe_varF (i := 1) rfl (.inl rfl) rfl rfl) pa_nilF rfl) rfl rfl rfl) rfl (.inl rfl))
  (pss_consF (ps_setF (i := 3) S.nd rfl (.inr rfl) rfl (pe_bin rfl (pe_conF pe_int (fun _ => .int _)) (pe_callF F_Ldraw hr (by decide) rfl (takes_of rfl rfl rfl rfl) rfl (pa_consF (pe_varF (i := 2) rfl (.inr (.inl rfl)) rfl rfl) (pa_consF (pe_conF pe_int (fun _ => .int _)) pa_nilF rfl) rfl) rfl rfl rfl)) rfl (.inl rfl))
  (pss_consF (ps_setLcF (i := 4) rfl S.nd rfl rfl rfl rfl (own := [("_law_k", 8)]) (blk_of (by rfl)) rfl (by decide) GoG.nm (pi_rng1F rfl m_range (pa_consF (pe_conF pe_int (fun _ => .int _)) pa_nilF rfl) rfl) (fun _ _ _ _ _ => (pg_nameF (i := 8) S.nd rfl (.inl rfl) rfl (.inr rfl))) (fun _ _ _ _ _ => pts_nilF) (fun _ _ _ _ _ => (pe_callF F_Lfraction hr (by decide) rfl takes0 rfl (pa_consF (pe_varF (i := 2) rfl (.inr (.inl rfl)) rfl rfl) (pa_consF (pe_varF (i := 3) rfl (.inr (.inl rfl)) rfl rfl) pa_nilF rfl) rfl) rfl rfl rfl)) (fun _ => rfl))
  (pss_consF (ps_forF (passes_of rfl) rfl (pi_seqF rfl (pe_lstF (pa_consF (pe_tupF (pa_consF (pe_ixF rfl (pe_varF (i := 4) rfl (.inl rfl) rfl rfl) (pe_conF pe_int (fun _ => .int _)) (fun _ _ => rfl)) (pa_consF (pe_ixF rfl (pe_varF (i := 4) rfl (.inl rfl) rfl rfl) (pe_conF pe_int (fun _ => .int _)) (fun _ _ => rfl)) pa_nilF rfl) rfl)) (pa_consF (pe_tupF (pa_consF (pe_ixF rfl (pe_varF (i := 4) rfl (.inl rfl) rfl rfl) (pe_conF pe_int (fun _ => .int _)) (fun _ _ => rfl)) (pa_consF (pe_ixF rfl (pe_varF (i := 4) rfl (.inl rfl) rfl rfl) (pe_conF pe_int (fun _ => .int _)) (fun _ _ => rfl)) pa_nilF rfl) rfl)) (pa_consF (pe_tupF (pa_consF (pe_ixF rfl (pe_varF (i := 4) rfl (.inl rfl) rfl rfl) (pe_conF pe_int (fun _ => .int _)) (fun _ _ => rfl)) (pa_consF (pe_ixF rfl (pe_varF (i := 4) rfl (.inl rfl) rfl rfl) (pe_conF pe_int (fun _ => .int _)) (fun _ _ => rfl)) pa_nilF rfl) rfl)) (pa_consF (pe_tupF (pa_consF (pe_ixF rfl (pe_varF (i := 4) rfl (.inl rfl) rfl rfl) (pe_conF pe_int (fun _ => .int _)) (fun _ _ => rfl)) (pa_consF (pe_tupF (pa_consF (pe_conF pe_int (fun _ => .int _)) (pa_consF (pe_conF pe_int (fun _ => .int _)) pa_nilF rfl) rfl)) pa_nilF rfl) rfl)) pa_nilF rfl) rfl) rfl) rfl))) (pg_tupF rfl rfl (pgs_consF GoG.nm (pg_nameF (i := 5) S.nd rfl (.inl rfl) rfl (.inl rfl)) (pgs_consF GoG.nm (pg_nameF (i := 6) S.nd rfl (.inl rfl) rfl (.inl rfl)) pgs_nilF rfl) rfl) rfl rfl rfl) (GoG.tup (allg_cons GoG.nm (allg_cons GoG.nm allg_nil)))
  (pss_consF (ps_ifF (pt_notF (pt_truthF rfl (pe_callF F_Lpair hr (by decide) rfl (takes_of rfl rfl rfl rfl) rfl (pa_consF (pe_varF (i := 5) rfl (.inl rfl) rfl rfl) (pa_consF (pe_varF (i := 6) rfl (.inl rfl) rfl rfl) pa_nilF rfl) rfl) rfl rfl rfl) (fun _ => rfl)))
  (pss_consF (ps_retF (pe_conF pe_bl (fun _ => .bl _)))
  pss_nilF)
  pss_nilF)
  pss_nilF) (fun _ => rfl))
  (pss_consF (ps_asgF (pe_varF (i := 4) rfl (.inl rfl) rfl rfl) (pg_tupF rfl rfl (pgs_consF GoG.nm (pg_nameF (i := 5) S.nd rfl (.inl rfl) rfl (.inl rfl)) (pgs_consF GoG.nm (pg_nameF (i := 6) S.nd rfl (.inl rfl) rfl (.inl rfl)) (pgs_consF GoG.nm (pg_nameF (i := 7) S.nd rfl (.inl rfl) rfl (.inl rfl)) pgs_nilF rfl) rfl) rfl) rfl rfl rfl) (GoG.tup (allg_cons GoG.nm (allg_cons GoG.nm (allg_cons GoG.nm allg_nil)))) rfl rfl rfl)
  (pss_consF (ps_ifF (pt_cmpF rfl (hu65 hr) rfl (pe_callF F_times hr (by decide) rfl (takes_of rfl rfl rfl rfl) rfl (pa_consF (pe_varF (i := 5) rfl (.inl rfl) rfl rfl) (pa_consF (pe_callF F_plus hr (by decide) rfl (takes_of rfl rfl rfl rfl) rfl (pa_consF (pe_varF (i := 6) rfl (.inl rfl) rfl rfl) (pa_consF (pe_varF (i := 7) rfl (.inl rfl) rfl rfl) pa_nilF rfl) rfl) rfl rfl rfl) pa_nilF rfl) rfl) rfl rfl rfl) (pe_callF F_plus hr (by decide) rfl (takes_of rfl rfl rfl rfl) rfl (pa_consF (pe_callF F_times hr (by decide) rfl (takes_of rfl rfl rfl rfl) rfl (pa_consF (pe_varF (i := 5) rfl (.inl rfl) rfl rfl) (pa_consF (pe_varF (i := 6) rfl (.inl rfl) rfl rfl) pa_nilF rfl) rfl) rfl rfl rfl) (pa_consF (pe_callF F_times hr (by decide) rfl (takes_of rfl rfl rfl rfl) rfl (pa_consF (pe_varF (i := 5) rfl (.inl rfl) rfl rfl) (pa_consF (pe_varF (i := 7) rfl (.inl rfl) rfl rfl) pa_nilF rfl) rfl) rfl rfl rfl) pa_nilF rfl) rfl) rfl rfl rfl))
  (pss_consF (ps_retF (pe_conF pe_bl (fun _ => .bl _)))
  pss_nilF)
  pss_nilF)
  (pss_consF (ps_ifF (PW.pt (pw_orF (pt_cmpF rfl (hu65 hr) rfl (pe_callF F_plus hr (by decide) rfl (takes_of rfl rfl rfl rfl) rfl (pa_consF (pe_callF F_plus hr (by decide) rfl (takes_of rfl rfl rfl rfl) rfl (pa_consF (pe_varF (i := 5) rfl (.inl rfl) rfl rfl) (pa_consF (pe_varF (i := 6) rfl (.inl rfl) rfl rfl) pa_nilF rfl) rfl) rfl rfl rfl) (pa_consF (pe_varF (i := 7) rfl (.inl rfl) rfl rfl) pa_nilF rfl) rfl) rfl rfl rfl) (pe_callF F_plus hr (by decide) rfl (takes_of rfl rfl rfl rfl) rfl (pa_consF (pe_varF (i := 5) rfl (.inl rfl) rfl rfl) (pa_consF (pe_callF F_plus hr (by decide) rfl (takes_of rfl rfl rfl rfl) rfl (pa_consF (pe_varF (i := 6) rfl (.inl rfl) rfl rfl) (pa_consF (pe_varF (i := 7) rfl (.inl rfl) rfl rfl) pa_nilF rfl) rfl) rfl rfl rfl) pa_nilF rfl) rfl) rfl rfl rfl)) (pw_or1 (pt_cmpF rfl (hu65 hr) rfl (pe_callF F_plus hr (by decide) rfl (takes_of rfl rfl rfl rfl) rfl (pa_consF (pe_varF (i := 5) rfl (.inl rfl) rfl rfl) (pa_consF (pe_tupF (pa_consF (pe_conF pe_int (fun _ => .int _)) (pa_consF (pe_conF pe_int (fun _ => .int _)) pa_nilF rfl) rfl)) pa_nilF rfl) rfl) rfl rfl rfl) (pe_varF (i := 5) rfl (.inl rfl) rfl rfl)))))
  (pss_consF (ps_retF (pe_conF pe_bl (fun _ => .bl _)))
  pss_nilF)
  pss_nilF)
  (pss_consF (ps_ifF (PW.pt (pw_orF (pt_cmpF rfl (hu65 hr) rfl (pe_callF F_times hr (by decide) rfl (takes_of rfl rfl rfl rfl) rfl (pa_consF (pe_callF F_times hr (by decide) rfl (takes_of rfl rfl rfl rfl) rfl (pa_consF (pe_varF (i := 5) rfl (.inl rfl) rfl rfl) (pa_consF (pe_varF (i := 6) rfl (.inl rfl) rfl rfl) pa_nilF rfl) rfl) rfl rfl rfl) (pa_consF (pe_varF (i := 7) rfl (.inl rfl) rfl rfl) pa_nilF rfl) rfl) rfl rfl rfl) (pe_callF F_times hr (by decide) rfl (takes_of rfl rfl rfl rfl) rfl (pa_consF (pe_varF (i := 5) rfl (.inl rfl) rfl rfl) (pa_consF (pe_callF F_times hr (by decide) rfl (takes_of rfl rfl rfl rfl) rfl (pa_consF (pe_varF (i := 6) rfl (.inl rfl) rfl rfl) (pa_consF (pe_varF (i := 7) rfl (.inl rfl) rfl rfl) pa_nilF rfl) rfl) rfl rfl rfl) pa_nilF rfl) rfl) rfl rfl rfl)) (pw_or1 (pt_cmpF rfl (hu65 hr) rfl (pe_callF F_times hr (by decide) rfl (takes_of rfl rfl rfl rfl) rfl (pa_consF (pe_varF (i := 5) rfl (.inl rfl) rfl rfl) (pa_consF (pe_tupF (pa_consF (pe_conF pe_int (fun _ => .int _)) (pa_consF (pe_conF pe_int (fun _ => .int _)) pa_nilF rfl) rfl)) pa_nilF rfl) rfl) rfl rfl rfl) (pe_varF (i := 5) rfl (.inl rfl) rfl rfl)))))
  (pss_consF (ps_retF (pe_conF pe_bl (fun _ => .bl _)))
  pss_nilF)
  pss_nilF)
  pss_nilF)))))))) (fun _ => rfl))
  (pss_consF (ps_retF (pe_conF pe_bl (fun _ => .bl _)))
  pss_nilF))
end
theorem all_mk {l : PySem.W.OpenLaw} {w : World} {K : PySem.W.Frag} {h : Heap} {mg : Str → Option Value} {fa0 : Addr} (X : K.In h) (G : h.Ns mainGlobals mg) (hfa : mg "law" = some (.ref fa0))
    {od0 an0 : Option Addr} {sl0 : Array (Option Value)} {oc0 kV0 dc0 pm0 cd0 ct0 : Value} {f0 : Addr}
    (a0 : PySem.W.nsIn K mainGlobals "_law_well" = some (some (.ref f0))) (l0 : K.lookup f0 = some ⟨oc0, od0, .func (PySem.W.fnOf "_law_well" "_law_well" (defArgs s_Lwell) (defBody s_Lwell) (defScope s_Lwell) .none kV0 dc0 pm0 an0 cd0 ct0), sl0⟩) (c0 : PySem.W.codeIn K cd0 "_law_well" = true) (k0 : PySem.W.keepIn K (.ref f0) = true)
    {od1 an1 : Option Addr} {sl1 : Array (Option Value)} {oc1 kV1 dc1 pm1 cd1 ct1 : Value} {f1 : Addr}
    (a1 : PySem.W.nsIn K mainGlobals "_law_draw" = some (some (.ref f1))) (l1 : K.lookup f1 = some ⟨oc1, od1, .func (PySem.W.fnOf "_law_draw" "_law_draw" (defArgs s_Ldraw) (defBody s_Ldraw) (defScope s_Ldraw) .none kV1 dc1 pm1 an1 cd1 ct1), sl1⟩) (c1 : PySem.W.codeIn K cd1 "_law_draw" = true) (k1 : PySem.W.keepIn K (.ref f1) = true)
    {od2 an2 : Option Addr} {sl2 : Array (Option Value)} {oc2 kV2 dc2 pm2 cd2 ct2 : Value} {f2 : Addr}
    (a2 : PySem.W.nsIn K mainGlobals "_law_number" = some (some (.ref f2))) (l2 : K.lookup f2 = some ⟨oc2, od2, .func (PySem.W.fnOf "_law_number" "_law_number" (defArgs s_Lnumber) (defBody s_Lnumber) (defScope s_Lnumber) .none kV2 dc2 pm2 an2 cd2 ct2), sl2⟩) (c2 : PySem.W.codeIn K cd2 "_law_number" = true) (k2 : PySem.W.keepIn K (.ref f2) = true)
    {od3 an3 : Option Addr} {sl3 : Array (Option Value)} {oc3 kV3 dc3 pm3 cd3 ct3 : Value} {f3 : Addr}
    (a3 : PySem.W.nsIn K mainGlobals "divisor_of" = some (some (.ref f3))) (l3 : K.lookup f3 = some ⟨oc3, od3, .func (PySem.W.fnOf "divisor_of" "divisor_of" (defArgs s_divisor_of) (defBody s_divisor_of) (defScope s_divisor_of) .none kV3 dc3 pm3 an3 cd3 ct3), sl3⟩) (c3 : PySem.W.codeIn K cd3 "divisor_of" = true) (k3 : PySem.W.keepIn K (.ref f3) = true)
    {od4 an4 : Option Addr} {sl4 : Array (Option Value)} {oc4 kV4 dc4 pm4 cd4 ct4 : Value} {f4 : Addr}
    (a4 : PySem.W.nsIn K mainGlobals "is_whole" = some (some (.ref f4))) (l4 : K.lookup f4 = some ⟨oc4, od4, .func (PySem.W.fnOf "is_whole" "is_whole" (defArgs s_is_whole) (defBody s_is_whole) (defScope s_is_whole) .none kV4 dc4 pm4 an4 cd4 ct4), sl4⟩) (c4 : PySem.W.codeIn K cd4 "is_whole" = true) (k4 : PySem.W.keepIn K (.ref f4) = true)
    {od5 an5 odT5 : Option Addr} {sl5 slT5 : Array (Option Value)} {oc5 kV5 dc5 pm5 cd5 ct5 ocT5 : Value} {f5 T5 : Addr} {its5 : Array Value} {nT5 : Nat}
    (a5 : PySem.W.nsIn K mainGlobals "fraction" = some (some (.ref f5))) (l5 : K.lookup f5 = some ⟨oc5, od5, .func (PySem.W.fnOf "fraction" "fraction" (defArgs s_fraction) (defBody s_fraction) (defScope s_fraction) (.ref T5) kV5 dc5 pm5 an5 cd5 ct5), sl5⟩) (c5 : PySem.W.codeIn K cd5 "fraction" = true) (k5 : PySem.W.keepIn K (.ref f5) = true)
    (lT5 : K.lookup T5 = some ⟨ocT5, odT5, .seq its5 nT5, slT5⟩) (rT5 : ∃ t5_0, its5.toList = [Value.int 1 t5_0])
    {od6 an6 : Option Addr} {sl6 : Array (Option Value)} {oc6 kV6 dc6 pm6 cd6 ct6 : Value} {f6 : Addr}
    (a6 : PySem.W.nsIn K mainGlobals "_law_fraction" = some (some (.ref f6))) (l6 : K.lookup f6 = some ⟨oc6, od6, .func (PySem.W.fnOf "_law_fraction" "_law_fraction" (defArgs s_Lfraction) (defBody s_Lfraction) (defScope s_Lfraction) .none kV6 dc6 pm6 an6 cd6 ct6), sl6⟩) (c6 : PySem.W.codeIn K cd6 "_law_fraction" = true) (k6 : PySem.W.keepIn K (.ref f6) = true)
    {od7 an7 : Option Addr} {sl7 : Array (Option Value)} {oc7 kV7 dc7 pm7 cd7 ct7 : Value} {f7 : Addr}
    (a7 : PySem.W.nsIn K mainGlobals "is_fraction" = some (some (.ref f7))) (l7 : K.lookup f7 = some ⟨oc7, od7, .func (PySem.W.fnOf "is_fraction" "is_fraction" (defArgs s_is_fraction) (defBody s_is_fraction) (defScope s_is_fraction) .none kV7 dc7 pm7 an7 cd7 ct7), sl7⟩) (c7 : PySem.W.codeIn K cd7 "is_fraction" = true) (k7 : PySem.W.keepIn K (.ref f7) = true)
    {od8 an8 : Option Addr} {sl8 : Array (Option Value)} {oc8 kV8 dc8 pm8 cd8 ct8 : Value} {f8 : Addr}
    (a8 : PySem.W.nsIn K mainGlobals "asked_fractions" = some (some (.ref f8))) (l8 : K.lookup f8 = some ⟨oc8, od8, .func (PySem.W.fnOf "asked_fractions" "asked_fractions" (defArgs s_asked_fractions) (defBody s_asked_fractions) (defScope s_asked_fractions) .none kV8 dc8 pm8 an8 cd8 ct8), sl8⟩) (c8 : PySem.W.codeIn K cd8 "asked_fractions" = true) (k8 : PySem.W.keepIn K (.ref f8) = true)
    {od9 an9 : Option Addr} {sl9 : Array (Option Value)} {oc9 kV9 dc9 pm9 cd9 ct9 : Value} {f9 : Addr}
    (a9 : PySem.W.nsIn K mainGlobals "times" = some (some (.ref f9))) (l9 : K.lookup f9 = some ⟨oc9, od9, .func (PySem.W.fnOf "times" "times" (defArgs s_times) (defBody s_times) (defScope s_times) .none kV9 dc9 pm9 an9 cd9 ct9), sl9⟩) (c9 : PySem.W.codeIn K cd9 "times" = true) (k9 : PySem.W.keepIn K (.ref f9) = true)
    {od10 an10 : Option Addr} {sl10 : Array (Option Value)} {oc10 kV10 dc10 pm10 cd10 ct10 : Value} {f10 : Addr}
    (a10 : PySem.W.nsIn K mainGlobals "plus" = some (some (.ref f10))) (l10 : K.lookup f10 = some ⟨oc10, od10, .func (PySem.W.fnOf "plus" "plus" (defArgs s_plus) (defBody s_plus) (defScope s_plus) .none kV10 dc10 pm10 an10 cd10 ct10), sl10⟩) (c10 : PySem.W.codeIn K cd10 "plus" = true) (k10 : PySem.W.keepIn K (.ref f10) = true)
    {od11 an11 : Option Addr} {sl11 : Array (Option Value)} {oc11 kV11 dc11 pm11 cd11 ct11 : Value} {f11 : Addr}
    (a11 : PySem.W.nsIn K mainGlobals "_law_whole" = some (some (.ref f11))) (l11 : K.lookup f11 = some ⟨oc11, od11, .func (PySem.W.fnOf "_law_whole" "_law_whole" (defArgs s_Lwhole) (defBody s_Lwhole) (defScope s_Lwhole) .none kV11 dc11 pm11 an11 cd11 ct11), sl11⟩) (c11 : PySem.W.codeIn K cd11 "_law_whole" = true) (k11 : PySem.W.keepIn K (.ref f11) = true)
    {od12 an12 : Option Addr} {sl12 : Array (Option Value)} {oc12 kV12 dc12 pm12 cd12 ct12 : Value} {f12 : Addr}
    (a12 : PySem.W.nsIn K mainGlobals "_law_shared" = some (some (.ref f12))) (l12 : K.lookup f12 = some ⟨oc12, od12, .func (PySem.W.fnOf "_law_shared" "_law_shared" (defArgs s_Lshared) (defBody s_Lshared) (defScope s_Lshared) .none kV12 dc12 pm12 an12 cd12 ct12), sl12⟩) (c12 : PySem.W.codeIn K cd12 "_law_shared" = true) (k12 : PySem.W.keepIn K (.ref f12) = true)
    {od13 an13 : Option Addr} {sl13 : Array (Option Value)} {oc13 kV13 dc13 pm13 cd13 ct13 : Value} {f13 : Addr}
    (a13 : PySem.W.nsIn K mainGlobals "_law_worth" = some (some (.ref f13))) (l13 : K.lookup f13 = some ⟨oc13, od13, .func (PySem.W.fnOf "_law_worth" "_law_worth" (defArgs s_Lworth) (defBody s_Lworth) (defScope s_Lworth) .none kV13 dc13 pm13 an13 cd13 ct13), sl13⟩) (c13 : PySem.W.codeIn K cd13 "_law_worth" = true) (k13 : PySem.W.keepIn K (.ref f13) = true)
    {od14 an14 : Option Addr} {sl14 : Array (Option Value)} {oc14 kV14 dc14 pm14 cd14 ct14 : Value} {f14 : Addr}
    (a14 : PySem.W.nsIn K mainGlobals "minus" = some (some (.ref f14))) (l14 : K.lookup f14 = some ⟨oc14, od14, .func (PySem.W.fnOf "minus" "minus" (defArgs s_minus) (defBody s_minus) (defScope s_minus) .none kV14 dc14 pm14 an14 cd14 ct14), sl14⟩) (c14 : PySem.W.codeIn K cd14 "minus" = true) (k14 : PySem.W.keepIn K (.ref f14) = true)
    {od15 an15 : Option Addr} {sl15 : Array (Option Value)} {oc15 kV15 dc15 pm15 cd15 ct15 : Value} {f15 : Addr}
    (a15 : PySem.W.nsIn K mainGlobals "shared" = some (some (.ref f15))) (l15 : K.lookup f15 = some ⟨oc15, od15, .func (PySem.W.fnOf "shared" "shared" (defArgs s_shared) (defBody s_shared) (defScope s_shared) .none kV15 dc15 pm15 an15 cd15 ct15), sl15⟩) (c15 : PySem.W.codeIn K cd15 "shared" = true) (k15 : PySem.W.keepIn K (.ref f15) = true)
    {od16 an16 : Option Addr} {sl16 : Array (Option Value)} {oc16 kV16 dc16 pm16 cd16 ct16 : Value} {f16 : Addr}
    (a16 : PySem.W.nsIn K mainGlobals "_law_pair" = some (some (.ref f16))) (l16 : K.lookup f16 = some ⟨oc16, od16, .func (PySem.W.fnOf "_law_pair" "_law_pair" (defArgs s_Lpair) (defBody s_Lpair) (defScope s_Lpair) .none kV16 dc16 pm16 an16 cd16 ct16), sl16⟩) (c16 : PySem.W.codeIn K cd16 "_law_pair" = true) (k16 : PySem.W.keepIn K (.ref f16) = true)
    {od17 an17 : Option Addr} {sl17 : Array (Option Value)} {oc17 kV17 dc17 pm17 cd17 ct17 : Value} {f17 : Addr}
    (a17 : PySem.W.nsIn K mainGlobals "law" = some (some (.ref f17))) (l17 : K.lookup f17 = some ⟨oc17, od17, .func (PySem.W.fnOf "law" "law" (defArgs s_law) (defBody s_law) (defScope s_law) .none kV17 dc17 pm17 an17 cd17 ct17), sl17⟩) (c17 : PySem.W.codeIn K cd17 "law" = true) (k17 : PySem.W.keepIn K (.ref f17) = true)
    (z_int : PySem.W.nsIn K mainGlobals "int" = some none)
    (z_divmod : PySem.W.nsIn K mainGlobals "divmod" = some none)
    (z_range : PySem.W.nsIn K mainGlobals "range" = some none)
    (z_abs : PySem.W.nsIn K mainGlobals "abs" = some none)
    (z_isinstance : PySem.W.nsIn K mainGlobals "isinstance" = some none)
    (z_bool : PySem.W.nsIn K mainGlobals "bool" = some none)
    (z_tuple : PySem.W.nsIn K mainGlobals "tuple" = some none)
    (z_len : PySem.W.nsIn K mainGlobals "len" = some none) :
    ∃ fd : FuncData, (∀ (s : Shared) (v : Value), BindsTo s fd ⟨[v], []⟩ [("_law_script", v)]) ∧ ∀ base : Heap, K.In base → base.Ns mainGlobals mg → FnOk l.prog w K mg base (L2.CX l.prog w) 6 fa0 fd ["_law_script"] (spD (tb K (fun _ => 0) (fun _ => 0)) 1 d_law) := by
  have e := hfa.symm.trans (PySem.W.mg_of X G a17)
  cases e
  refine ⟨PySem.W.fnOf "law" "law" (defArgs s_law) (defBody s_law) (defScope s_law) .none kV17 dc17 pm17 an17 cd17 ct17, fun s v => .of_eq rfl, fun base _ _ => ?_⟩
  have m_int := PySem.W.mg_none_of X G z_int
  have m_divmod := PySem.W.mg_none_of X G z_divmod
  have m_range := PySem.W.mg_none_of X G z_range
  have m_abs := PySem.W.mg_none_of X G z_abs
  have m_isinstance := PySem.W.mg_none_of X G z_isinstance
  have m_bool := PySem.W.mg_none_of X G z_bool
  have m_tuple := PySem.W.mg_none_of X G z_tuple
  have m_len := PySem.W.mg_none_of X G z_len
  have F_Lwell := ok_Lwell (P := l.prog) (w := w) (base := base) (ca := fun _ => 0) (fa := fun _ => 0) (fun_mk (st := s_Lwell) l0 c0 k0) (PySem.W.mg_of X G a0) m_int
  have F_Ldraw := ok_Ldraw (P := l.prog) (w := w) (base := base) (ca := fun _ => 0) (fa := fun _ => 0) (fun_mk (st := s_Ldraw) l1 c1 k1) (PySem.W.mg_of X G a1) m_divmod
  have F_Lnumber := ok_Lnumber (P := l.prog) (w := w) (base := base) (ca := fun _ => 0) (fa := fun _ => 0) (fun_mk (st := s_Lnumber) l2 c2 k2) (PySem.W.mg_of X G a2) m_range F_Ldraw
  have F_divisor_of := ok_divisor_of (P := l.prog) (w := w) (base := base) (ca := fun _ => 0) (fa := fun _ => 0) (fun_mk (st := s_divisor_of) l3 c3 k3) (PySem.W.mg_of X G a3) m_abs
  have F_is_whole := ok_is_whole (P := l.prog) (w := w) (base := base) (ca := fun _ => 0) (fa := fun _ => 0) (fun_mk (st := s_is_whole) l4 c4 k4) (PySem.W.mg_of X G a4) m_isinstance m_bool m_int
  obtain ⟨t0, hT5⟩ := rT5
  have D_fraction := fnd_mk (dvs := [.int 1]) (st := s_fraction) l5 c5 k5 lT5 (by decide) (by rw [hT5]; exact (.cons ⟨_, rfl⟩ .nil))
  have F_fraction := ok_fraction (P := l.prog) (w := w) (base := base) (ca := fun _ => 0) (fa := fun _ => 0) D_fraction (PySem.W.mg_of X G a5) F_divisor_of F_is_whole
  have G_fraction := okd_fraction (P := l.prog) (w := w) (base := base) (ca := fun _ => 0) (fa := fun _ => 0) D_fraction (PySem.W.mg_of X G a5) F_divisor_of F_is_whole
  have F_Lfraction := ok_Lfraction (P := l.prog) (w := w) (base := base) (ca := fun _ => 0) (fa := fun _ => 0) (fun_mk (st := s_Lfraction) l6 c6 k6) (PySem.W.mg_of X G a6) m_abs F_Lnumber F_fraction F_Ldraw G_fraction
  have F_is_fraction := ok_is_fraction (P := l.prog) (w := w) (base := base) (ca := fun _ => 0) (fa := fun _ => 0) (fun_mk (st := s_is_fraction) l7 c7 k7) (PySem.W.mg_of X G a7) m_isinstance m_tuple m_len F_divisor_of F_is_whole
  have F_asked_fractions := ok_asked_fractions (P := l.prog) (w := w) (base := base) (ca := fun _ => 0) (fa := fun _ => 0) (fun_mk (st := s_asked_fractions) l8 c8 k8) (PySem.W.mg_of X G a8) F_is_fraction
  have F_times := ok_times (P := l.prog) (w := w) (base := base) (ca := fun _ => 0) (fa := fun _ => 0) (fun_mk (st := s_times) l9 c9 k9) (PySem.W.mg_of X G a9) F_asked_fractions F_fraction G_fraction
  have F_plus := ok_plus (P := l.prog) (w := w) (base := base) (ca := fun _ => 0) (fa := fun _ => 0) (fun_mk (st := s_plus) l10 c10 k10) (PySem.W.mg_of X G a10) F_asked_fractions F_fraction G_fraction
  have F_Lwhole := ok_Lwhole (P := l.prog) (w := w) (base := base) (ca := fun _ => 0) (fa := fun _ => 0) (fun_mk (st := s_Lwhole) l11 c11 k11) (PySem.W.mg_of X G a11) m_isinstance m_int m_bool
  have F_Lshared := ok_Lshared (P := l.prog) (w := w) (base := base) (ca := fun _ => 0) (fa := fun _ => 0) (fun_mk (st := s_Lshared) l12 c12 k12) (PySem.W.mg_of X G a12) m_abs
  have F_Lworth := ok_Lworth (P := l.prog) (w := w) (base := base) (ca := fun _ => 0) (fa := fun _ => 0) (fun_mk (st := s_Lworth) l13 c13 k13) (PySem.W.mg_of X G a13) m_isinstance m_tuple m_len F_Lwhole F_Lshared
  have F_minus := ok_minus (P := l.prog) (w := w) (base := base) (ca := fun _ => 0) (fa := fun _ => 0) (fun_mk (st := s_minus) l14 c14 k14) (PySem.W.mg_of X G a14) F_asked_fractions F_fraction G_fraction
  have F_shared := ok_shared (P := l.prog) (w := w) (base := base) (ca := fun _ => 0) (fa := fun _ => 0) (fun_mk (st := s_shared) l15 c15 k15) (PySem.W.mg_of X G a15) F_asked_fractions F_fraction G_fraction
  have F_Lpair := ok_Lpair (P := l.prog) (w := w) (base := base) (ca := fun _ => 0) (fa := fun _ => 0) (fun_mk (st := s_Lpair) l16 c16 k16) (PySem.W.mg_of X G a16) F_Lworth F_plus F_minus F_times F_shared
  exact ok_law (P := l.prog) (w := w) (base := base) (ca := fun _ => 0) (fa := fun _ => 0) (fun_mk (st := s_law) l17 c17 k17) m_range F_Lwell F_Ldraw F_Lfraction F_times F_plus F_Lpair
end K04

namespace K04
open PySem PySem.Spec PyProof.Rows L2 Fv
theorem shaped_int (i : Int) : SeqAt.shaped (D.int i).pd = true := by
  simp [D.pd, SeqAt.shaped, PyData.canLay0, PyData.depth]
theorem eqv_int (i j : Int) : dEqv (.int i) (.int j) = some (decide (i = j)) := by
  unfold dEqv
  rw [shaped_int, shaped_int]
  simp only [Bool.and_self, if_true]
  congr 1
theorem shaped_tup2 (i j : Int) : SeqAt.shaped (D.tup [.int i, .int j]).pd = true := by
  simp [D.pd, D.pds, SeqAt.shaped, PyData.canLay0, PyData.canLayAll0, PyData.depth, PyData.depthAll]
theorem eqv_tup2 (i j k l : Int) : dEqv (.tup [.int i, .int j]) (.tup [.int k, .int l]) = some (decide (i = k) && decide (j = l)) := by
  unfold dEqv
  rw [shaped_tup2, shaped_tup2]
  simp only [Bool.and_self, if_true]
  simp [D.pd, D.pds, PyData.eqv, PyData.eqvAll]
  rfl
theorem mulB_l {i j : Int} (h : i.natAbs < 18446744073709551616) : mulB i j = false := by
  have : IntMulOk i j := IntMulOk.of_left (intBits_le_iff.mpr h)
  unfold IntMulOk at this
  unfold mulB
  simpa using this
theorem mulB_r {i j : Int} (h : j.natAbs < 18446744073709551616) : mulB i j = false := by
  have := mulB_l (i := j) (j := i) h
  unfold mulB at *
  rw [Bool.and_comm (decide (Builtin.Int.intBits i > shortFactorBits))]
  rw [show ((Builtin.Int.intBits i : Int) + Builtin.Int.intBits j) = (Builtin.Int.intBits j : Int) + Builtin.Int.intBits i from Int.add_comm _ _]
  exact this
theorem divB_s {i j : Int} (h : j.natAbs < 18446744073709551616) : Builtin.divisionGoesByPylong i j = false := by
  unfold Builtin.divisionGoesByPylong
  simp only [Bool.and_eq_false_imp, decide_eq_true_eq, decide_eq_false_iff_not]
  intro h1
  exfalso
  split at h1
  · omega
  · have : j.natAbs.log2 < 64 := (Nat.log2_lt (by rename_i z; simpa using z)).mpr h
    omega
theorem finS_nil (p : Nat → Bool) (i : Nat) (e : En) : finS p i [] e = some [] := by unfold finS; rfl
theorem finS_t {p : Nat → Bool} {i : Nat} (h : p i = true) (s : S) (ss : List S) (t : S) (e : En) : finS p i (s :: ss) (some t :: e) = (finS p (i + 1) ss e).map (t :: ·) := by
  show (if p i = true then _ else _) = _
  rw [if_pos h]
  cases finS p (i + 1) ss e <;> rfl
theorem finS_f {p : Nat → Bool} {i : Nat} (h : p i = false) (d : D) (ss : List S) (y : Option S) (e : En) : finS p i (.fr d :: ss) (y :: e) = (finS p (i + 1) ss e).map (.fr d :: ·) := by
  show (if p i = true then _ else _) = _
  rw [if_neg (by rw [h]; decide)]
  cases finS p (i + 1) ss e <;> rfl
def dv1 (b c : Int) : Int := ((b * (2 * c + 1) + 104729 * c + 17) % 2147483629) ^ 5 % 2147483587
def dv2 (b c m : Int) : Int := (dv1 b c * (dv1 b c / 1301 + 50021) % 2147483647) / 7 % m
theorem draw_ok (a b c m : Int) (hb : 0 ≤ b) (hb2 : b < 2147483648) (hm : 0 < m) (hm2 : m < 1000000000) : ∃ r a' b' c', d_Ldraw [.ol [.int a, .int b, .int c], .fr (.int m)] = .ok (.fr (.int r)) [.ol [.int a', .int b', .int c'], .fr (.int m)] ∧ 0 ≤ r ∧ r < m ∧ 0 ≤ b' ∧ b' < 2147483648 := by
  have dm : ∀ i, Builtin.divisionGoesByPylong i m = false := fun i => divB_s (by omega)
  have m0 : m ≠ 0 := by omega
  unfold d_Ldraw fnOf b_Ldraw
  by_cases ha : 0 < a
  · refine ⟨a % m, a / m, b, c, ?_, Int.emod_nonneg _ m0, Int.emod_lt_of_pos _ hm, hb, hb2⟩
    simp [sCons, sIf, sAsg, sRet, sNil, bTb, bCmp, dCmp, dGt, b2, bP, aCons, aNil, bIx, bVar, bCon, pS, pks, pk, dIx, atI, ixN, gTupF, gIx, gNm, gAll, ha, dDivmod, m0, dm, hm, Fv.own1, fRet, finS_nil, finS_t, finS_f, S.d]
  · have h7 : ∀ i, Builtin.divisionGoesByPylong i 7 = false := fun i => divB_s (by decide)
    have h1301 : ∀ i, Builtin.divisionGoesByPylong i 1301 = false := fun i => divB_s (by decide)
    have e1 : ∀ j, mulB b j = false := fun j => mulB_l (by omega)
    have e2 : ∀ j, mulB 2 j = false := fun j => mulB_l (by decide)
    have e3 : ∀ j, mulB 104729 j = false := fun j => mulB_l (by decide)
    have e4 : ∀ i j, mulB (i % 2147483587) j = false := fun i j => mulB_l (by omega)
    have e5 : ∀ i : Int, (i % 2147483629).natAbs < 18446744073709551616 := fun i => by omega
    refine ⟨dv2 b (c + 1) m, a, b, c + 1, ?_, ?_, ?_, hb, hb2⟩
    · simp [sCons, sIf, sAsg, sRet, sNil, bTb, bCmp, dCmp, dGt, b2, bP, aCons, aNil, bIx, bVar, bCon, pS, pSS, dMulS, pks, pk, dIx, atI, ixN, gTupF, gIx, gNm, gAll, ha, dDivmod, m0, dm, hm, Fv.own1, fRet, finS_nil, finS_t, finS_f, S.d, bBin, dAdd, dMod, dDiv, dPow, e1, e2, e3, e4, e5, h7, h1301]
      rfl
    · exact Int.emod_nonneg _ m0
    · exact Int.emod_lt_of_pos _ hm
theorem well_ok (x : Int) : d_Lwell [.fr (.int x)] = .ok (.ol [.int (x * if 10 ^ 18 ≤ x then 1 else 0), .int (x % 2147483647), .int 0]) [.fr (.int x)] := by
  have e1 : mulB x (if 1000000000000000000 ≤ x then 1 else 0) = false := mulB_r (by split <;> decide)
  unfold d_Lwell fnOf b_Lwell
  simp [sCons, sIf, sAsg, sRet, sRetN, sNil, sNo, sExpr, sPar, bTb, bTr, bAnd, bOr, bNot, bAndV, bOrV, bNotV, bIfE, bChain, truthD, bCmp, dCmp, dGt, dLt, dLe, dGe, dEq, dNe, dIs, D.isNon, eqv_int, eqv_tup2, Fv.b1, Fv.b2, bP, aCons, aNil, bIx, bVar, bCon, bTup, bLst, dTupN, dLstN, bDic, bSl, bPart, bInt, Ou.bnd, dSl, pS, pSS, pZ, frz1, frzs, pks, pk, dIx, atI, ixN, gTupF, gIx, gNm, gAll, dDivmod, dInt, dAbs, dLen, dIsi, D.tyN, Fv.own1, fRet, finS_nil, finS_t, finS_f, S.d, bBin, dAdd, dSub, dMulS, dMod, dDiv, dPow, dNeg, pCall, pCallZ, movs, mov1, puts, put1, sFor, mPs, mSeq, seqD, e1]
theorem loop_ok : ∀ (ds : List D) (a b c x : Int) (y M Kd Sg : Option S), 0 ≤ b → b < 2147483648 → 0 ≤ x →
    ∃ a' b' c' x' y', forL (gNm 5) b_Lnumber_1 ds [some (.ol [.int a, .int b, .int c]), M, Kd, Sg, some (.fr (.int x)), y] = .nx [some (.ol [.int a', .int b', .int c']), M, Kd, Sg, some (.fr (.int x')), y'] ∧ 0 ≤ b' ∧ b' < 2147483648 ∧ 0 ≤ x' ∧ x' < (x + 1) * 100000000 ^ ds.length
  | [], a, b, c, x, y, M, Kd, Sg, h1, h2, h3 => ⟨a, b, c, x, y, rfl, h1, h2, h3, by simp; omega⟩
  | d :: ds, a, b, c, x, y, M, Kd, Sg, h1, h2, h3 => by
    obtain ⟨r, a1, b1, c1, e, r0, r1, h4, h5⟩ := draw_ok a b c 100000000 h1 h2 (by decide) (by decide)
    obtain ⟨a2, b2, c2, x2, y2, e2, h6, h7, h8, h9⟩ := loop_ok ds a1 b1 c1 (x * 100000000 + r) (some (.fr d)) M Kd Sg h4 h5 (by omega)
    refine ⟨a2, b2, c2, x2, y2, ?_, h6, h7, h8, ?_⟩
    · have em : mulB x 100000000 = false := mulB_r (by decide)
      rw [← e2]
      simp [forL, b_Lnumber_1, sCons, sIf, sAsg, sRet, sRetN, sNil, sNo, sExpr, sPar, bTb, bTr, bAnd, bOr, bNot, bAndV, bOrV, bNotV, bIfE, bChain, truthD, bCmp, dCmp, dGt, dLt, dLe, dGe, dEq, dNe, dIs, D.isNon, eqv_int, eqv_tup2, Fv.b1, Fv.b2, bP, aCons, aNil, bIx, bVar, bCon, bTup, bLst, dTupN, dLstN, bDic, bSl, bPart, bInt, Ou.bnd, dSl, pS, pSS, pZ, frz1, frzs, pks, pk, dIx, atI, ixN, gTupF, gIx, gNm, gAll, dDivmod, dInt, dAbs, dLen, dIsi, D.tyN, Fv.own1, fRet, finS_nil, finS_t, finS_f, S.d, bBin, dAdd, dSub, dMulS, dMod, dDiv, dPow, dNeg, pCall, pCallZ, movs, mov1, puts, put1, sFor, mPs, mSeq, seqD, e, em]
    · refine Int.lt_of_lt_of_le h9 ?_
      have hp : (0 : Int) ≤ 100000000 ^ ds.length := Int.pow_nonneg (by decide)
      have := Int.mul_le_mul_of_nonneg_right (show x * 100000000 + r + 1 ≤ (x + 1) * 100000000 by omega) hp
      rw [List.length_cons, Int.pow_succ, Int.mul_comm (100000000 ^ ds.length), ← Int.mul_assoc]
      exact this
theorem loop_ok6 {n : Nat} (hn : n ≤ 6) {x : Int} (h : x < (0 + 1) * 100000000 ^ n) : x < 10 ^ 50 := by
  have : n = 0 ∨ n = 1 ∨ n = 2 ∨ n = 3 ∨ n = 4 ∨ n = 5 ∨ n = 6 := by omega
  rcases this with rfl | rfl | rfl | rfl | rfl | rfl | rfl <;> omega
theorem number_ok (a b c most : Int) (hb : 0 ≤ b) (hb2 : b < 2147483648) (hm : most.natAbs < 10 ^ 70) : ∃ r a' b' c', d_Lnumber [.ol [.int a, .int b, .int c], .fr (.int most)] = .ok (.fr (.int r)) [.ol [.int a', .int b', .int c'], .fr (.int most)] ∧ r.natAbs < 10 ^ 71 ∧ 0 ≤ b' ∧ b' < 2147483648 := by
  obtain ⟨k, a1, b1, c1, h1, k0, k1, w0, w1⟩ := draw_ok a b c 6 hb hb2 (by decide) (by decide)
  obtain ⟨g, a2, b2, c2, h2, g0, g1, w2, w3⟩ := draw_ok a1 b1 c1 2 w0 w1 (by decide) (by decide)
  obtain ⟨sg, hsg, sg1⟩ : ∃ sg : Int, atI [D.int 1, D.int (-1)] g = some (.int sg) ∧ (sg = 1 ∨ sg = -1) := by
    have : g = 0 ∨ g = 1 := by omega
    rcases this with rfl | rfl
    · exact ⟨1, rfl, .inl rfl⟩
    · exact ⟨-1, rfl, .inr rfl⟩
  have es : ∀ j, mulB sg j = false := fun j => mulB_l (by omega)
  have abs : ∀ z : Int, (sg * z).natAbs = z.natAbs := fun z => by rcases sg1 with rfl | rfl <;> omega
  unfold d_Lnumber fnOf b_Lnumber
  by_cases hk : k < 3
  · have : ∃ m : Int, atI [D.int 1, D.int 13, D.int 1009] k = some (.int m) ∧ 0 < m ∧ m < 1000000000 := by
      have : k = 0 ∨ k = 1 ∨ k = 2 := by omega
      rcases this with rfl | rfl | rfl
      · exact ⟨1, rfl, by decide, by decide⟩
      · exact ⟨13, rfl, by decide, by decide⟩
      · exact ⟨1009, rfl, by decide, by decide⟩
    obtain ⟨m, hm1, m0, m1⟩ := this
    obtain ⟨r, a3, b3, c3, h3, r0, r1, w4, w5⟩ := draw_ok a2 b2 c2 m w2 w3 m0 m1
    refine ⟨sg * r, a3, b3, c3, ?_, by rw [abs]; omega, w4, w5⟩
    simp [sCons, sIf, sAsg, sRet, sRetN, sNil, sNo, sExpr, sPar, bTb, bTr, bAnd, bOr, bNot, bAndV, bOrV, bNotV, bIfE, bChain, truthD, bCmp, dCmp, dGt, dLt, dLe, dGe, dEq, dNe, dIs, D.isNon, eqv_int, eqv_tup2, Fv.b1, Fv.b2, bP, aCons, aNil, bIx, bVar, bCon, bTup, bLst, dTupN, dLstN, bDic, bSl, bPart, bInt, Ou.bnd, dSl, pS, pSS, pZ, frz1, frzs, pks, pk, dIx, ixN, gTupF, gIx, gNm, gAll, dDivmod, dInt, dAbs, dLen, dIsi, D.tyN, Fv.own1, fRet, finS_nil, finS_t, finS_f, S.d, bBin, dAdd, dSub, dMulS, dMod, dDiv, dPow, dNeg, pCall, pCallZ, movs, mov1, puts, put1, sFor, mPs, mSeq, seqD, h1, h2, hsg, hk, hm1, h3, es]
  · by_cases hk3 : k = 3
    · obtain ⟨r, a3, b3, c3, h3, r0, r1, w4, w5⟩ := draw_ok a2 b2 c2 1013 w2 w3 (by decide) (by decide)
      refine ⟨sg * 210 * r, a3, b3, c3, ?_, by rw [Int.mul_assoc, abs]; omega, w4, w5⟩
      have em : mulB (sg * 210) r = false := mulB_r (by omega)
      subst hk3
      simp [sCons, sIf, sAsg, sRet, sRetN, sNil, sNo, sExpr, sPar, bTb, bTr, bAnd, bOr, bNot, bAndV, bOrV, bNotV, bIfE, bChain, truthD, bCmp, dCmp, dGt, dLt, dLe, dGe, dEq, dNe, dIs, D.isNon, eqv_int, eqv_tup2, Fv.b1, Fv.b2, bP, aCons, aNil, bIx, bVar, bCon, bTup, bLst, dTupN, dLstN, bDic, bSl, bPart, bInt, Ou.bnd, dSl, pS, pSS, pZ, frz1, frzs, pks, pk, dIx, ixN, gTupF, gIx, gNm, gAll, dDivmod, dInt, dAbs, dLen, dIsi, D.tyN, Fv.own1, fRet, finS_nil, finS_t, finS_f, S.d, bBin, dAdd, dSub, dMulS, dMod, dDiv, dPow, dNeg, pCall, pCallZ, movs, mov1, puts, put1, sFor, mPs, mSeq, seqD, h1, h2, hsg, h3, es, em]
    · by_cases hk4 : k = 4
      · obtain ⟨r, a3, b3, c3, h3, r0, r1, w4, w5⟩ := draw_ok a2 b2 c2 1019 w2 w3 (by decide) (by decide)
        refine ⟨sg * (most - r), a3, b3, c3, ?_, by rw [abs]; omega, w4, w5⟩
        subst hk4
        simp [sCons, sIf, sAsg, sRet, sRetN, sNil, sNo, sExpr, sPar, bTb, bTr, bAnd, bOr, bNot, bAndV, bOrV, bNotV, bIfE, bChain, truthD, bCmp, dCmp, dGt, dLt, dLe, dGe, dEq, dNe, dIs, D.isNon, eqv_int, eqv_tup2, Fv.b1, Fv.b2, bP, aCons, aNil, bIx, bVar, bCon, bTup, bLst, dTupN, dLstN, bDic, bSl, bPart, bInt, Ou.bnd, dSl, pS, pSS, pZ, frz1, frzs, pks, pk, dIx, ixN, gTupF, gIx, gNm, gAll, dDivmod, dInt, dAbs, dLen, dIsi, D.tyN, Fv.own1, fRet, finS_nil, finS_t, finS_f, S.d, bBin, dAdd, dSub, dMulS, dMod, dDiv, dPow, dNeg, pCall, pCallZ, movs, mov1, puts, put1, sFor, mPs, mSeq, seqD, h1, h2, hsg, h3, es]
      · have hk5 : k = 5 := by omega
        subst hk5
        obtain ⟨r, a3, b3, c3, h3, r0, r1, w4, w5⟩ := draw_ok a2 b2 c2 6 w2 w3 (by decide) (by decide)
        obtain ⟨a4, b4, c4, x, y, h4, w6, w7, x0, x1⟩ := loop_ok (rngD 0 (1 + r).toNat) a3 b3 c3 0 none (some (.fr (.int most))) (some (.fr (.int 5))) (some (.fr (.int sg))) w4 w5 (by decide)
        have hx : x < 10 ^ 50 := loop_ok6 (n := (rngD 0 (1 + r).toNat).length) (by simp [rngD]; omega) x1
        refine ⟨sg * x, a4, b4, c4, ?_, by rw [abs]; omega, w6, w7⟩
        have hr : -4611686018427387904 ≤ 1 + r ∧ 1 + r < 4611686018427387904 := by omega
        simp [sCons, sIf, sAsg, sRet, sRetN, sNil, sNo, sExpr, sPar, bTb, bTr, bAnd, bOr, bNot, bAndV, bOrV, bNotV, bIfE, bChain, truthD, bCmp, dCmp, dGt, dLt, dLe, dGe, dEq, dNe, dIs, D.isNon, eqv_int, eqv_tup2, Fv.b1, Fv.b2, bP, aCons, aNil, bIx, bVar, bCon, bTup, bLst, dTupN, dLstN, bDic, bSl, bPart, bInt, Ou.bnd, dSl, pS, pSS, pZ, frz1, frzs, pks, pk, dIx, ixN, gTupF, gIx, gNm, gAll, dDivmod, dInt, dAbs, dLen, dIsi, D.tyN, Fv.own1, fRet, finS_nil, finS_t, finS_f, S.d, bBin, dAdd, dSub, dMulS, dMod, dDiv, dPow, dNeg, pCall, pCallZ, movs, mov1, puts, put1, sFor, mPs, mSeq, seqD, rngOf, h1, h2, hsg, h3, es, hr, h4]


def Bd (d : D) : Prop := d = .non ∨ ∃ i, d = .int i
def loB (x : Int) : D → Bool
  | .int l => decide (l ≤ x)
  | _ => true
def hiB (x : Int) : D → Bool
  | .int l => decide (x ≤ l)
  | _ => true
theorem kit_ii : kitB "int" "int" = some true := by decide +kernel
theorem kit_ib : kitB "int" "bool" = some false := by decide +kernel
theorem kit_bi : kitB "bool" "int" = some true := by decide +kernel
theorem kit_bb : kitB "bool" "bool" = some true := by decide +kernel
theorem whole_int (x : Int) (lo hi : D) (hl : Bd lo) (hh : Bd hi) : d_is_whole [.fr (.int x), .fr lo, .fr hi] = .ok (.fr (.bl (loB x lo && hiB x hi))) [.fr (.int x), .fr lo, .fr hi] := by
  unfold d_is_whole fnOf b_is_whole
  rcases hl with rfl | ⟨l, rfl⟩ <;> rcases hh with rfl | ⟨h, rfl⟩
  · simp [sCons, sIf, sAsg, sRet, sRetN, sNil, sNo, sExpr, sPar, bTb, bTr, bAnd, bOr, bNot, bAndV, bOrV, bNotV, bIfE, bChain, truthD, bCmp, dCmp, dGt, dLt, dLe, dGe, dEq, dNe, dIs, D.isNon, eqv_int, eqv_tup2, Fv.b1, Fv.b2, bP, aCons, aNil, bIx, bVar, bCon, bTup, bLst, dTupN, dLstN, bDic, bSl, bPart, bInt, Ou.bnd, dSl, pS, pSS, pZ, frz1, frzs, pks, pk, dIx, atI, ixN, gTupF, gIx, gNm, gAll, dDivmod, dInt, dAbs, dLen, dIsi, D.tyN, Fv.own1, fRet, finS_nil, finS_t, finS_f, S.d, bBin, dAdd, dSub, dMulS, dMod, dDiv, dPow, dNeg, pCall, pCallZ, movs, mov1, puts, put1, sFor, mPs, mSeq, seqD, kit_ii, kit_ib, loB, hiB]
  · simp [sCons, sIf, sAsg, sRet, sRetN, sNil, sNo, sExpr, sPar, bTb, bTr, bAnd, bOr, bNot, bAndV, bOrV, bNotV, bIfE, bChain, truthD, bCmp, dCmp, dGt, dLt, dLe, dGe, dEq, dNe, dIs, D.isNon, eqv_int, eqv_tup2, Fv.b1, Fv.b2, bP, aCons, aNil, bIx, bVar, bCon, bTup, bLst, dTupN, dLstN, bDic, bSl, bPart, bInt, Ou.bnd, dSl, pS, pSS, pZ, frz1, frzs, pks, pk, dIx, atI, ixN, gTupF, gIx, gNm, gAll, dDivmod, dInt, dAbs, dLen, dIsi, D.tyN, Fv.own1, fRet, finS_nil, finS_t, finS_f, S.d, bBin, dAdd, dSub, dMulS, dMod, dDiv, dPow, dNeg, pCall, pCallZ, movs, mov1, puts, put1, sFor, mPs, mSeq, seqD, kit_ii, kit_ib, loB, hiB]
  · by_cases hx : x < l <;> simp [sCons, sIf, sAsg, sRet, sRetN, sNil, sNo, sExpr, sPar, bTb, bTr, bAnd, bOr, bNot, bAndV, bOrV, bNotV, bIfE, bChain, truthD, bCmp, dCmp, dGt, dLt, dLe, dGe, dEq, dNe, dIs, D.isNon, eqv_int, eqv_tup2, Fv.b1, Fv.b2, bP, aCons, aNil, bIx, bVar, bCon, bTup, bLst, dTupN, dLstN, bDic, bSl, bPart, bInt, Ou.bnd, dSl, pS, pSS, pZ, frz1, frzs, pks, pk, dIx, atI, ixN, gTupF, gIx, gNm, gAll, dDivmod, dInt, dAbs, dLen, dIsi, D.tyN, Fv.own1, fRet, finS_nil, finS_t, finS_f, S.d, bBin, dAdd, dSub, dMulS, dMod, dDiv, dPow, dNeg, pCall, pCallZ, movs, mov1, puts, put1, sFor, mPs, mSeq, seqD, kit_ii, kit_ib, loB, hiB, hx] <;> omega
  · by_cases hx : x < l
    · have : ¬ l ≤ x := by omega
      simp [sCons, sIf, sAsg, sRet, sRetN, sNil, sNo, sExpr, sPar, bTb, bTr, bAnd, bOr, bNot, bAndV, bOrV, bNotV, bIfE, bChain, truthD, bCmp, dCmp, dGt, dLt, dLe, dGe, dEq, dNe, dIs, D.isNon, eqv_int, eqv_tup2, Fv.b1, Fv.b2, bP, aCons, aNil, bIx, bVar, bCon, bTup, bLst, dTupN, dLstN, bDic, bSl, bPart, bInt, Ou.bnd, dSl, pS, pSS, pZ, frz1, frzs, pks, pk, dIx, atI, ixN, gTupF, gIx, gNm, gAll, dDivmod, dInt, dAbs, dLen, dIsi, D.tyN, Fv.own1, fRet, finS_nil, finS_t, finS_f, S.d, bBin, dAdd, dSub, dMulS, dMod, dDiv, dPow, dNeg, pCall, pCallZ, movs, mov1, puts, put1, sFor, mPs, mSeq, seqD, kit_ii, kit_ib, loB, hiB, hx, this]
    · have : l ≤ x := by omega
      simp [sCons, sIf, sAsg, sRet, sRetN, sNil, sNo, sExpr, sPar, bTb, bTr, bAnd, bOr, bNot, bAndV, bOrV, bNotV, bIfE, bChain, truthD, bCmp, dCmp, dGt, dLt, dLe, dGe, dEq, dNe, dIs, D.isNon, eqv_int, eqv_tup2, Fv.b1, Fv.b2, bP, aCons, aNil, bIx, bVar, bCon, bTup, bLst, dTupN, dLstN, bDic, bSl, bPart, bInt, Ou.bnd, dSl, pS, pSS, pZ, frz1, frzs, pks, pk, dIx, atI, ixN, gTupF, gIx, gNm, gAll, dDivmod, dInt, dAbs, dLen, dIsi, D.tyN, Fv.own1, fRet, finS_nil, finS_t, finS_f, S.d, bBin, dAdd, dSub, dMulS, dMod, dDiv, dPow, dNeg, pCall, pCallZ, movs, mov1, puts, put1, sFor, mPs, mSeq, seqD, kit_ii, kit_ib, loB, hiB, hx, this]
def Odd (d : D) : Prop := ∃ t, d.tyN = some t ∧ (t = "bool" ∨ kitB t "int" = some false)
theorem whole_odd (d lo hi : D) (h : Odd d) : d_is_whole [.fr d, .fr lo, .fr hi] = .ok (.fr (.bl false)) [.fr d, .fr lo, .fr hi] := by
  obtain ⟨t, h1, h2⟩ := h
  unfold d_is_whole fnOf b_is_whole
  rcases h2 with rfl | h2
  · simp [sCons, sIf, sAsg, sRet, sRetN, sNil, sNo, sExpr, sPar, bTb, bTr, bAnd, bOr, bNot, bAndV, bOrV, bNotV, bIfE, bChain, truthD, bCmp, dCmp, dGt, dLt, dLe, dGe, dEq, dNe, dIs, D.isNon, eqv_int, eqv_tup2, Fv.b1, Fv.b2, bP, aCons, aNil, bIx, bVar, bCon, bTup, bLst, dTupN, dLstN, bDic, bSl, bPart, bInt, Ou.bnd, dSl, pS, pSS, pZ, frz1, frzs, pks, pk, dIx, atI, ixN, gTupF, gIx, gNm, gAll, dDivmod, dInt, dAbs, dLen, dIsi, Fv.own1, fRet, finS_nil, finS_t, finS_f, S.d, bBin, dAdd, dSub, dMulS, dMod, dDiv, dPow, dNeg, pCall, pCallZ, movs, mov1, puts, put1, sFor, mPs, mSeq, seqD, kit_bi, kit_bb, h1]
  · simp [sCons, sIf, sAsg, sRet, sRetN, sNil, sNo, sExpr, sPar, bTb, bTr, bAnd, bOr, bNot, bAndV, bOrV, bNotV, bIfE, bChain, truthD, bCmp, dCmp, dGt, dLt, dLe, dGe, dEq, dNe, dIs, D.isNon, eqv_int, eqv_tup2, Fv.b1, Fv.b2, bP, aCons, aNil, bIx, bVar, bCon, bTup, bLst, dTupN, dLstN, bDic, bSl, bPart, bInt, Ou.bnd, dSl, pS, pSS, pZ, frz1, frzs, pks, pk, dIx, atI, ixN, gTupF, gIx, gNm, gAll, dDivmod, dInt, dAbs, dLen, dIsi, Fv.own1, fRet, finS_nil, finS_t, finS_f, S.d, bBin, dAdd, dSub, dMulS, dMod, dDiv, dPow, dNeg, pCall, pCallZ, movs, mov1, puts, put1, sFor, mPs, mSeq, seqD, h1, h2]

def Z (k : Nat) (x : Int) : Prop := x.natAbs < 10 ^ k
theorem Z.mono {j k : Nat} {x : Int} (h : Z j x) (hjk : j ≤ k) : Z k x := Nat.lt_of_lt_of_le h (Nat.pow_le_pow_right (by decide) hjk)
theorem Z.mul {j k : Nat} {x y : Int} (h : Z j x) (h2 : Z k y) : Z (j + k) (x * y) := by
  unfold Z at *
  rw [Int.natAbs_mul, Nat.pow_add]
  exact Nat.mul_lt_mul'' h h2
theorem Z.add {j : Nat} {x y : Int} (h : Z j x) (h2 : Z j y) : Z (j + 1) (x + y) := by
  unfold Z at *
  rw [Nat.pow_succ]
  omega
theorem Z.sub {j : Nat} {x y : Int} (h : Z j x) (h2 : Z j y) : Z (j + 1) (x - y) := by
  unfold Z at *
  rw [Nat.pow_succ]
  omega
theorem Z.le {j : Nat} {x y : Int} (h : Z j x) (h2 : y.natAbs ≤ x.natAbs) : Z j y := Nat.lt_of_le_of_lt h2 h
theorem Z2 {x : Int} (h : Z 2000 x) : x.natAbs < 2 ^ 8000 := by
  have e : (2 : Nat) ^ 8000 = 16 ^ 2000 := by rw [show (16 : Nat) = 2 ^ 4 from rfl, ← Nat.pow_mul]
  rw [e]
  exact Nat.lt_of_lt_of_le h (Nat.pow_le_pow_left (by decide) 2000)
theorem divB {i j : Int} (h : Z 2000 j) : Builtin.divisionGoesByPylong i j = false := by
  unfold Builtin.divisionGoesByPylong
  simp only [Bool.and_eq_false_imp, decide_eq_true_eq, decide_eq_false_iff_not]
  intro h1
  exfalso
  split at h1
  · omega
  · have : j.natAbs.log2 < 8000 := (Nat.log2_lt (by rename_i z; simpa using z)).mpr (Z2 h)
    omega
theorem mulZ {i j : Int} (h : Z 2000 i) (k : Z 2000 j) : mulB i j = false := by
  have : IntMulOk i j := IntMulOk.of_le (m := 8000) (n := 8000) (intBits_le_iff.mpr (Z2 h)) (intBits_le_iff.mpr (Z2 k)) (by decide)
  unfold IntMulOk at this
  unfold mulB
  simpa using this
theorem absI (a : Int) : (if a < 0 then -a else a) = (a.natAbs : Int) := by omega
theorem gcd_wh : ∀ (y x : Nat), sWh t_divisor_of_1 b_divisor_of_1 [some (.fr (.int x)), some (.fr (.int y))] = .nx [some (.fr (.int (Nat.gcd x y))), some (.fr (.int 0))]
  | 0, x => by
    rw [sWh_eq]
    simp [t_divisor_of_1, sCons, sIf, sAsg, sRet, sRetN, sNil, sNo, sExpr, sPar, bTb, bTr, bAnd, bOr, bNot, bAndV, bOrV, bNotV, bIfE, bChain, truthD, bCmp, dCmp, dGt, dLt, dLe, dGe, dEq, dNe, dIs, D.isNon, eqv_int, eqv_tup2, Fv.b1, Fv.b2, bP, aCons, aNil, bIx, bVar, bCon, bTup, bLst, dTupN, dLstN, bDic, bSl, bPart, bInt, Ou.bnd, dSl, pS, pSS, pZ, frz1, frzs, pks, pk, dIx, atI, ixN, gTupF, gIx, gNm, gAll, dDivmod, dInt, dAbs, dLen, dIsi, D.tyN, Fv.own1, fRet, finS_nil, finS_t, finS_f, S.d, bBin, dAdd, dSub, dMulS, dMod, dDiv, dPow, dNeg, pCall, pCallZ, movs, mov1, puts, put1, sFor, mPs, mSeq, seqD]
  | y + 1, x => by
    have ih := gcd_wh (x % (y + 1)) (y + 1)
    rw [sWh_eq]
    have g : Nat.gcd (y + 1) (x % (y + 1)) = Nat.gcd x (y + 1) := by
      rw [Nat.gcd_comm, ← Nat.gcd_rec, Nat.gcd_comm]
    rw [g] at ih
    push_cast at ih
    have p0 : (0 : Int) < (y : Int) + 1 := by omega
    have p1 : (y : Int) + 1 ≠ 0 := by omega
    simp [t_divisor_of_1, b_divisor_of_1, sCons, sIf, sAsg, sRet, sRetN, sNil, sNo, sExpr, sPar, bTb, bTr, bAnd, bOr, bNot, bAndV, bOrV, bNotV, bIfE, bChain, truthD, bCmp, dCmp, dGt, dLt, dLe, dGe, dEq, dNe, dIs, D.isNon, eqv_int, eqv_tup2, Fv.b1, Fv.b2, bP, aCons, aNil, bIx, bVar, bCon, bTup, bLst, dTupN, dLstN, bDic, bSl, bPart, bInt, Ou.bnd, dSl, pS, pSS, pZ, frz1, frzs, pks, pk, dIx, atI, ixN, gTupF, gIx, gNm, gAll, dDivmod, dInt, dAbs, dLen, dIsi, D.tyN, Fv.own1, fRet, finS_nil, finS_t, finS_f, S.d, bBin, dAdd, dSub, dMulS, dMod, dDiv, dPow, dNeg, pCall, pCallZ, movs, mov1, puts, put1, sFor, mPs, mSeq, seqD, p0, p1]
    exact ih
termination_by y => y
decreasing_by exact Nat.mod_lt _ (Nat.succ_pos _)
theorem divisor_ok (a b : Int) : d_divisor_of [.fr (.int a), .fr (.int b)] = .ok (.fr (.int (Int.gcd a b))) [.fr (.int a), .fr (.int b)] := by
  have h := gcd_wh b.natAbs a.natAbs
  unfold d_divisor_of fnOf b_divisor_of
  simp [sCons, sIf, sAsg, sRet, sRetN, sNil, sNo, sExpr, sPar, bTb, bTr, bAnd, bOr, bNot, bAndV, bOrV, bNotV, bIfE, bChain, truthD, bCmp, dCmp, dGt, dLt, dLe, dGe, dEq, dNe, dIs, D.isNon, eqv_int, eqv_tup2, Fv.b1, Fv.b2, bP, aCons, aNil, bIx, bVar, bCon, bTup, bLst, dTupN, dLstN, bDic, bSl, bPart, bInt, Ou.bnd, dSl, pS, pSS, pZ, frz1, frzs, pks, pk, dIx, atI, ixN, gTupF, gIx, gNm, gAll, dDivmod, dInt, dAbs, dLen, dIsi, D.tyN, Fv.own1, fRet, finS_nil, finS_t, finS_f, S.d, bBin, dAdd, dSub, dMulS, dMod, dDiv, dPow, dNeg, pCall, pCallZ, movs, mov1, puts, put1, sFor, mPs, mSeq, seqD, absI, h]
  rfl
def qd (i j : Int) : Int := if 0 < j then i / j else i.fdiv j
def shr (t b : Int) : Int := if b < 0 then -(Int.gcd t b : Int) else (Int.gcd t b : Int)
theorem shr_facts (t b : Int) (hb : b ≠ 0) : shr t b ≠ 0 ∧ (shr t b).natAbs ≤ b.natAbs ∧ 0 < qd b (shr t b) ∧ Int.gcd (qd t (shr t b)) (qd b (shr t b)) = 1 ∧ qd t (shr t b) * b = t * qd b (shr t b) ∧ (qd t (shr t b)).natAbs ≤ t.natAbs ∧ (qd b (shr t b)).natAbs ≤ b.natAbs := by
  have g0 : 0 < Int.gcd t b := Int.gcd_pos_of_ne_zero_right _ hb
  obtain ⟨t', ht⟩ := Int.gcd_dvd_left (a := t) (b := b)
  obtain ⟨b', hb'⟩ := Int.gcd_dvd_right (a := t) (b := b)
  have hg : Int.gcd t' b' = 1 := by
    have h1 : Int.gcd t b = Int.gcd t b * Int.gcd t' b' := by
      have h1 := Int.gcd_mul_left (Int.gcd t b : Int) t' b'
      rw [← ht, ← hb'] at h1
      simpa using h1
    exact Nat.eq_of_mul_eq_mul_left g0 (by rw [← h1, Nat.mul_one])
  have gp : (0 : Int) < Int.gcd t b := by exact_mod_cast g0
  generalize hG : (Int.gcd t b : Int) = g at *
  have bn : b.natAbs = g.natAbs * b'.natAbs := by rw [hb', Int.natAbs_mul]
  have tn : t.natAbs = g.natAbs * t'.natAbs := by rw [ht, Int.natAbs_mul]
  have b0 : b' ≠ 0 := fun z => hb (by rw [hb', z, Int.mul_zero])
  have g1 : 1 ≤ g.natAbs := by omega
  have le1 : ∀ n : Nat, n ≤ g.natAbs * n := fun n => Nat.le_mul_of_pos_left _ (by omega)
  have le2 : g.natAbs ≤ b.natAbs := by rw [bn]; exact Nat.le_mul_of_pos_right _ (by omega)
  unfold shr
  rw [hG]
  by_cases hn : b < 0
  · rw [if_pos hn]
    have q1 : ∀ z, qd (g * z) (-g) = -z := fun z => by
      unfold qd
      rw [if_neg (by omega), show g * z = (-z) * (-g) by rw [Int.neg_mul_neg, Int.mul_comm]]
      exact Int.mul_fdiv_cancel _ (by omega)
    have e1 : qd t (-g) = -t' := by rw [ht]; exact q1 t'
    have e2 : qd b (-g) = -b' := by rw [hb']; exact q1 b'
    rw [e1, e2]
    have : b' < 0 := by
      rcases Int.lt_trichotomy b' 0 with z | z | z
      · exact z
      · exact absurd z b0
      · have := Int.mul_pos gp z
        omega
    refine ⟨by omega, by omega, by omega, by simpa using hg, ?_, by rw [Int.natAbs_neg, tn]; exact le1 _, by rw [Int.natAbs_neg, bn]; exact le1 _⟩
    conv => lhs; rw [hb']
    conv => rhs; rw [ht]
    rw [Int.neg_mul, Int.mul_neg, ← Int.mul_assoc, Int.mul_comm t' g]
  · rw [if_neg hn]
    have q1 : ∀ z, qd (g * z) g = z := fun z => by
      unfold qd
      rw [if_pos gp, Int.mul_ediv_cancel_left _ (by omega)]
    have e1 : qd t g = t' := by rw [ht]; exact q1 t'
    have e2 : qd b g = b' := by rw [hb']; exact q1 b'
    rw [e1, e2]
    have : 0 < b' := by
      rcases Int.lt_trichotomy b' 0 with z | z | z
      · have := Int.mul_neg_of_pos_of_neg gp z
        omega
      · exact absurd z b0
      · exact z
    refine ⟨by omega, by omega, by omega, hg, ?_, by rw [tn]; exact le1 _, by rw [bn]; exact le1 _⟩
    conv => lhs; rw [hb']
    conv => rhs; rw [ht]
    rw [← Int.mul_assoc, Int.mul_comm t' g]
theorem fraction_ok (t b : Int) (hb : b ≠ 0) (hz : Z 2000 b) : d_fraction [.fr (.int t), .fr (.int b)] = .ok (.fr (.tup [.int (qd t (shr t b)), .int (qd b (shr t b))])) [.fr (.int t), .fr (.int b)] := by
  obtain ⟨s0, s1, _⟩ := shr_facts t b hb
  have w1 := whole_int t .non .non (.inl rfl) (.inl rfl)
  have w2 := whole_int b .non .non (.inl rfl) (.inl rfl)
  have w5 : ∀ x, (loB x .non && hiB x .non) = true := fun _ => rfl
  rw [w5] at w1 w2
  have dv := divisor_ok t b
  have dp : ∀ i, Builtin.divisionGoesByPylong i (shr t b) = false := fun i => divB (hz.le s1)
  unfold d_fraction fnOf b_fraction
  unfold shr at s0 dp ⊢
  by_cases hn : b < 0
  · simp only [if_pos hn] at s0 dp ⊢
    simp [sCons, sIf, sAsg, sRet, sRetN, sNil, sNo, sExpr, sPar, bTb, bTr, bAnd, bOr, bNot, bAndV, bOrV, bNotV, bIfE, bChain, truthD, bCmp, dCmp, dGt, dLt, dLe, dGe, dEq, dNe, dIs, D.isNon, eqv_int, eqv_tup2, Fv.b1, Fv.b2, bP, aCons, aNil, bIx, bVar, bCon, bTup, bLst, dTupN, dLstN, bDic, bSl, bPart, bInt, Ou.bnd, dSl, pS, pSS, pZ, frz1, frzs, pks, pk, dIx, atI, ixN, gTupF, gIx, gNm, gAll, dDivmod, dInt, dAbs, dLen, dIsi, D.tyN, Fv.own1, fRet, finS_nil, finS_t, finS_f, S.d, bBin, dAdd, dSub, dMulS, dMod, dDiv, dPow, dNeg, pCall, pCallZ, movs, mov1, puts, put1, sFor, mPs, mSeq, seqD, w1, w2, dv, hb, hn, s0, dp, qd]
  · simp only [if_neg hn] at s0 dp ⊢
    simp [sCons, sIf, sAsg, sRet, sRetN, sNil, sNo, sExpr, sPar, bTb, bTr, bAnd, bOr, bNot, bAndV, bOrV, bNotV, bIfE, bChain, truthD, bCmp, dCmp, dGt, dLt, dLe, dGe, dEq, dNe, dIs, D.isNon, eqv_int, eqv_tup2, Fv.b1, Fv.b2, bP, aCons, aNil, bIx, bVar, bCon, bTup, bLst, dTupN, dLstN, bDic, bSl, bPart, bInt, Ou.bnd, dSl, pS, pSS, pZ, frz1, frzs, pks, pk, dIx, atI, ixN, gTupF, gIx, gNm, gAll, dDivmod, dInt, dAbs, dLen, dIsi, D.tyN, Fv.own1, fRet, finS_nil, finS_t, finS_f, S.d, bBin, dAdd, dSub, dMulS, dMod, dDiv, dPow, dNeg, pCall, pCallZ, movs, mov1, puts, put1, sFor, mPs, mSeq, seqD, w1, w2, dv, hb, hn, s0, dp, qd]

/-! fractions as numbers -/
def R (x : Int × Int) : Prop := 0 < x.2 ∧ Int.gcd x.1 x.2 = 1
def N (t b : Int) : Int × Int := (qd t (shr t b), qd b (shr t b))
def frD (x : Int × Int) : D := .tup [.int x.1, .int x.2]
def val (x : Int × Int) : Rat := (x.1 : Rat) / (x.2 : Rat)
theorem rat_mul {p b t q : Int} (h : p * b = t * q) : (p : Rat) * b = t * q := by
  rw [← Rat.intCast_mul, ← Rat.intCast_mul, h]
theorem rat_ne {b : Int} (h : b ≠ 0) : (b : Rat) ≠ 0 := fun z => h (Rat.intCast_inj.mp (by simpa using z))
theorem rat_div (p q t b : Rat) (hq : q ≠ 0) (hb : b ≠ 0) (h : p * b = t * q) : p / q = t / b := by grind
theorem rat_cross (p q t b : Rat) (hq : q ≠ 0) (hb : b ≠ 0) (h : p / q = t / b) : p * b = t * q := by grind
theorem N_R {t b : Int} (hb : b ≠ 0) : R (N t b) := ⟨(shr_facts t b hb).2.2.1, (shr_facts t b hb).2.2.2.1⟩
theorem N_val {t b : Int} (hb : b ≠ 0) : val (N t b) = (t : Rat) / b := by
  obtain ⟨_, _, h1, _, h2, _⟩ := shr_facts t b hb
  exact rat_div _ _ _ _ (rat_ne (show qd b (shr t b) ≠ 0 by omega)) (rat_ne hb) (rat_mul h2)
theorem cop_dvd {x1 x2 y1 y2 : Int} (gx : Int.gcd x1 x2 = 1) (h : x1 * y2 = y1 * x2) : x2 ∣ y2 := by
  have h1 : x2.natAbs ∣ x1.natAbs * y2.natAbs := by
    rw [← Int.natAbs_mul, h, Int.natAbs_mul]
    exact Nat.dvd_mul_left _ _
  have h2 : Nat.Coprime x2.natAbs x1.natAbs := by
    show Nat.gcd x2.natAbs x1.natAbs = 1
    rw [Nat.gcd_comm]; exact gx
  exact Int.natAbs_dvd_natAbs.mp (h2.dvd_of_dvd_mul_left h1)
theorem uniq {x y : Int × Int} (hx : R x) (hy : R y) (h : val x = val y) : x = y := by
  obtain ⟨x1, x2⟩ := x
  obtain ⟨y1, y2⟩ := y
  have hx2 : x2 ≠ 0 := by have := hx.1; simp at this; omega
  have hy2 : y2 ≠ 0 := by have := hy.1; simp at this; omega
  have c := rat_cross _ _ _ _ (rat_ne hx2) (rat_ne hy2) h
  rw [← Rat.intCast_mul, ← Rat.intCast_mul] at c
  have c : x1 * y2 = y1 * x2 := Rat.intCast_inj.mp c
  have d1 := cop_dvd hx.2 c
  have d2 := cop_dvd hy.2 c.symm
  have e : x2 = y2 := Int.dvd_antisymm (by have := hx.1; simp at this; omega) (by have := hy.1; simp at this; omega) d1 d2
  subst e
  have : x1 = y1 := Int.eq_of_mul_eq_mul_right hx2 c
  subst this; rfl
theorem R.ne {x : Int × Int} (h : R x) : x.2 ≠ 0 := by have := h.1; omega
theorem R.rne {x : Int × Int} (h : R x) : (x.2 : Rat) ≠ 0 := rat_ne h.ne
def plusN (x y : Int × Int) : Int × Int := N (x.1 * y.2 + y.1 * x.2) (x.2 * y.2)
def minusN (x y : Int × Int) : Int × Int := N (x.1 * y.2 - y.1 * x.2) (x.2 * y.2)
def timesN (x y : Int × Int) : Int × Int := N (x.1 * y.1) (x.2 * y.2)
def sharedN (x y : Int × Int) : Int × Int := N (x.1 * y.2) (x.2 * y.1)
theorem r_add (a b c d : Rat) (hq : b ≠ 0) (hb : d ≠ 0) : (a * d + c * b) / (b * d) = a / b + c / d := by grind
theorem r_sub (a b c d : Rat) (hq : b ≠ 0) (hb : d ≠ 0) : (a * d - c * b) / (b * d) = a / b - c / d := by grind
theorem r_mul (a b c d : Rat) (hq : b ≠ 0) (hb : d ≠ 0) : (a * c) / (b * d) = (a / b) * (c / d) := by grind
theorem r_div (a b c d : Rat) (hq : b ≠ 0) (hb : d ≠ 0) (hc : c ≠ 0): (a * d) / (b * c) = (a / b) / (c / d) := by grind
section
variable {x y z : Int × Int} (hx : R x) (hy : R y) (hz : R z)
include hx hy
theorem den_ne : x.2 * y.2 ≠ 0 := Int.mul_ne_zero hx.ne hy.ne
theorem plus_R : R (plusN x y) := N_R (den_ne hx hy)
theorem minus_R : R (minusN x y) := N_R (den_ne hx hy)
theorem times_R : R (timesN x y) := N_R (den_ne hx hy)
theorem plus_val : val (plusN x y) = val x + val y := by
  unfold plusN
  rw [N_val (den_ne hx hy)]
  simp only [Rat.intCast_mul, Rat.intCast_add]
  exact r_add _ _ _ _ hx.rne hy.rne
theorem minus_val : val (minusN x y) = val x - val y := by
  unfold minusN
  rw [N_val (den_ne hx hy)]
  simp only [Rat.intCast_mul, Rat.intCast_sub]
  exact r_sub _ _ _ _ hx.rne hy.rne
theorem times_val : val (timesN x y) = val x * val y := by
  unfold timesN
  rw [N_val (den_ne hx hy)]
  simp only [Rat.intCast_mul]
  exact r_mul _ _ _ _ hx.rne hy.rne
theorem plus_comm : plusN y x = plusN x y := uniq (plus_R hy hx) (plus_R hx hy) (by rw [plus_val hy hx, plus_val hx hy]; exact Rat.add_comm _ _)
theorem times_comm : timesN y x = timesN x y := uniq (times_R hy hx) (times_R hx hy) (by rw [times_val hy hx, times_val hx hy]; exact Rat.mul_comm _ _)
theorem minus_plus : minusN (plusN x y) y = x := uniq (minus_R (plus_R hx hy) hy) hx (by rw [minus_val (plus_R hx hy) hy, plus_val hx hy]; grind)
include hz
theorem plus_assoc : plusN (plusN x y) z = plusN x (plusN y z) := uniq (plus_R (plus_R hx hy) hz) (plus_R hx (plus_R hy hz)) (by rw [plus_val (plus_R hx hy) hz, plus_val hx hy, plus_val hx (plus_R hy hz), plus_val hy hz]; grind)
theorem times_assoc : timesN (timesN x y) z = timesN x (timesN y z) := uniq (times_R (times_R hx hy) hz) (times_R hx (times_R hy hz)) (by rw [times_val (times_R hx hy) hz, times_val hx hy, times_val hx (times_R hy hz), times_val hy hz]; grind)
theorem times_plus : timesN x (plusN y z) = plusN (timesN x y) (timesN x z) := uniq (times_R hx (plus_R hy hz)) (plus_R (times_R hx hy) (times_R hx hz)) (by rw [times_val hx (plus_R hy hz), plus_val hy hz, plus_val (times_R hx hy) (times_R hx hz), times_val hx hy, times_val hx hz]; grind)
end
theorem R01 : R (0, 1) := ⟨by decide, by decide⟩
theorem R11 : R (1, 1) := ⟨by decide, by decide⟩
theorem val01 : val (0, 1) = 0 := by unfold val; simp; grind
theorem val11 : val (1, 1) = 1 := by unfold val; simp; grind
theorem plus_zero {x : Int × Int} (hx : R x) : plusN x (0, 1) = x := uniq (plus_R hx R01) hx (by rw [plus_val hx R01, val01]; grind)
theorem times_one {x : Int × Int} (hx : R x) : timesN x (1, 1) = x := uniq (times_R hx R11) hx (by rw [times_val hx R11, val11]; grind)
section
variable {x y : Int × Int} (hx : R x) (hy : R y) (h0 : y.1 ≠ 0)
include hx hy h0
theorem sden_ne : x.2 * y.1 ≠ 0 := Int.mul_ne_zero hx.ne h0
theorem shared_R : R (sharedN x y) := N_R (sden_ne hx hy h0)
theorem val_ne : val y ≠ 0 := by
  have a := rat_ne h0
  have b := hy.rne
  unfold val
  grind
theorem shared_val : val (sharedN x y) = val x / val y := by
  unfold sharedN
  rw [N_val (sden_ne hx hy h0)]
  simp only [Rat.intCast_mul]
  exact r_div _ _ _ _ hx.rne hy.rne (rat_ne h0)
theorem shared_times : sharedN (timesN x y) y = x := by
  have n := val_ne hx hy h0
  refine uniq (shared_R (times_R hx hy) hy h0) hx ?_
  rw [shared_val (times_R hx hy) hy h0, times_val hx hy]
  grind
end

theorem sh_wh : ∀ (y x : Nat), sWh t_Lshared_1 b_Lshared_1 [some (.fr (.int x)), some (.fr (.int y))] = .nx [some (.fr (.int (Nat.gcd x y))), some (.fr (.int 0))]
  | 0, x => by
    rw [sWh_eq]
    simp [t_Lshared_1, sCons, sIf, sAsg, sRet, sRetN, sNil, sNo, sExpr, sPar, bTb, bTr, bAnd, bOr, bNot, bAndV, bOrV, bNotV, bIfE, bChain, truthD, bCmp, dCmp, dGt, dLt, dLe, dGe, dEq, dNe, dIs, D.isNon, eqv_int, eqv_tup2, Fv.b1, Fv.b2, bP, aCons, aNil, bIx, bVar, bCon, bTup, bLst, dTupN, dLstN, bDic, bSl, bPart, bInt, Ou.bnd, dSl, pS, pSS, pZ, frz1, frzs, pks, pk, dIx, atI, ixN, gTupF, gIx, gNm, gAll, dDivmod, dInt, dAbs, dLen, dIsi, D.tyN, Fv.own1, fRet, finS_nil, finS_t, finS_f, S.d, bBin, dAdd, dSub, dMulS, dMod, dDiv, dPow, dNeg, pCall, pCallZ, movs, mov1, puts, put1, sFor, mPs, mSeq, seqD]
  | y + 1, x => by
    have ih := sh_wh (x % (y + 1)) (y + 1)
    rw [sWh_eq]
    have g : Nat.gcd (y + 1) (x % (y + 1)) = Nat.gcd x (y + 1) := by
      rw [Nat.gcd_comm, ← Nat.gcd_rec, Nat.gcd_comm]
    rw [g] at ih
    push_cast at ih
    have p0 : (0 : Int) < (y : Int) + 1 := by omega
    have p1 : (y : Int) + 1 ≠ 0 := by omega
    simp [t_Lshared_1, b_Lshared_1, sCons, sIf, sAsg, sRet, sRetN, sNil, sNo, sExpr, sPar, bTb, bTr, bAnd, bOr, bNot, bAndV, bOrV, bNotV, bIfE, bChain, truthD, bCmp, dCmp, dGt, dLt, dLe, dGe, dEq, dNe, dIs, D.isNon, eqv_int, eqv_tup2, Fv.b1, Fv.b2, bP, aCons, aNil, bIx, bVar, bCon, bTup, bLst, dTupN, dLstN, bDic, bSl, bPart, bInt, Ou.bnd, dSl, pS, pSS, pZ, frz1, frzs, pks, pk, dIx, atI, ixN, gTupF, gIx, gNm, gAll, dDivmod, dInt, dAbs, dLen, dIsi, D.tyN, Fv.own1, fRet, finS_nil, finS_t, finS_f, S.d, bBin, dAdd, dSub, dMulS, dMod, dDiv, dPow, dNeg, pCall, pCallZ, movs, mov1, puts, put1, sFor, mPs, mSeq, seqD, p0, p1]
    exact ih
termination_by y => y
decreasing_by exact Nat.mod_lt _ (Nat.succ_pos _)
theorem shared_ok (a b : Int) : d_Lshared [.fr (.int a), .fr (.int b)] = .ok (.fr (.int (Int.gcd a b))) [.fr (.int a), .fr (.int b)] := by
  have h := sh_wh b.natAbs a.natAbs
  unfold d_Lshared fnOf b_Lshared
  simp [sCons, sIf, sAsg, sRet, sRetN, sNil, sNo, sExpr, sPar, bTb, bTr, bAnd, bOr, bNot, bAndV, bOrV, bNotV, bIfE, bChain, truthD, bCmp, dCmp, dGt, dLt, dLe, dGe, dEq, dNe, dIs, D.isNon, eqv_int, eqv_tup2, Fv.b1, Fv.b2, bP, aCons, aNil, bIx, bVar, bCon, bTup, bLst, dTupN, dLstN, bDic, bSl, bPart, bInt, Ou.bnd, dSl, pS, pSS, pZ, frz1, frzs, pks, pk, dIx, atI, ixN, gTupF, gIx, gNm, gAll, dDivmod, dInt, dAbs, dLen, dIsi, D.tyN, Fv.own1, fRet, finS_nil, finS_t, finS_f, S.d, bBin, dAdd, dSub, dMulS, dMod, dDiv, dPow, dNeg, pCall, pCallZ, movs, mov1, puts, put1, sFor, mPs, mSeq, seqD, absI, h]
  rfl

theorem kit_tt : kitB "tuple" "tuple" = some true := by decide +kernel
theorem kit_lt : kitB "list" "tuple" = some false := by decide +kernel
theorem isf_int (p q : Int) : d_is_fraction [.fr (.tup [.int p, .int q])] = .ok (.fr (.bl (decide (1 ≤ q) && decide (Int.gcd p q = 1)))) [.fr (.tup [.int p, .int q])] := by
  have w1 := whole_int p .non .non (.inl rfl) (.inl rfl)
  have w2 := whole_int q (.int 1) .non (.inr ⟨_, rfl⟩) (.inl rfl)
  have w5 : (loB p .non && hiB p .non) = true := rfl
  have w6 : (loB q (.int 1) && hiB q .non) = decide (1 ≤ q) := by simp [loB, hiB]
  rw [w5] at w1
  rw [w6] at w2
  have s := divisor_ok p q
  unfold d_is_fraction fnOf b_is_fraction
  by_cases h : 1 ≤ q
  · have e : decide ((Int.gcd p q : Int) = 1) = decide (Int.gcd p q = 1) := by
      congr 1
      simp only [eq_iff_iff]
      omega
    rw [decide_eq_true h] at w2
    simp [sCons, sIf, sAsg, sRet, sRetN, sNil, sNo, sExpr, sPar, bTb, bTr, bAnd, bOr, bNot, bAndV, bOrV, bNotV, bIfE, bChain, truthD, bCmp, dCmp, dGt, dLt, dLe, dGe, dEq, dNe, dIs, D.isNon, eqv_int, eqv_tup2, Fv.b1, Fv.b2, bP, aCons, aNil, bIx, bVar, bCon, bTup, bLst, dTupN, dLstN, bDic, bSl, bPart, bInt, Ou.bnd, dSl, pS, pSS, pZ, frz1, frzs, pks, pk, dIx, atI, ixN, gTupF, gIx, gNm, gAll, dDivmod, dInt, dAbs, dLen, dIsi, D.tyN, Fv.own1, fRet, finS_nil, finS_t, finS_f, S.d, bBin, dAdd, dSub, dMulS, dMod, dDiv, dPow, dNeg, pCall, pCallZ, movs, mov1, puts, put1, sFor, mPs, mSeq, seqD, kit_tt, w1, w2, s, h, e]
  · rw [decide_eq_false h] at w2
    simp [sCons, sIf, sAsg, sRet, sRetN, sNil, sNo, sExpr, sPar, bTb, bTr, bAnd, bOr, bNot, bAndV, bOrV, bNotV, bIfE, bChain, truthD, bCmp, dCmp, dGt, dLt, dLe, dGe, dEq, dNe, dIs, D.isNon, eqv_int, eqv_tup2, Fv.b1, Fv.b2, bP, aCons, aNil, bIx, bVar, bCon, bTup, bLst, dTupN, dLstN, bDic, bSl, bPart, bInt, Ou.bnd, dSl, pS, pSS, pZ, frz1, frzs, pks, pk, dIx, atI, ixN, gTupF, gIx, gNm, gAll, dDivmod, dInt, dAbs, dLen, dIsi, D.tyN, Fv.own1, fRet, finS_nil, finS_t, finS_f, S.d, bBin, dAdd, dSub, dMulS, dMod, dDiv, dPow, dNeg, pCall, pCallZ, movs, mov1, puts, put1, sFor, mPs, mSeq, seqD, kit_tt, w1, w2, s, h]
def Zp (k : Nat) (x : Int × Int) : Prop := Z k x.1 ∧ Z k x.2
theorem Zp.mono {j k : Nat} {x : Int × Int} (h : Zp j x) (hjk : j ≤ k) : Zp k x := ⟨h.1.mono hjk, h.2.mono hjk⟩
theorem N_Z {k : Nat} {t b : Int} (hb : b ≠ 0) (h1 : Z k t) (h2 : Z k b) : Zp k (N t b) := by
  obtain ⟨_, _, _, _, _, h3, h4⟩ := shr_facts t b hb
  exact ⟨h1.le h3, h2.le h4⟩
theorem isf_ok {x : Int × Int} (h : R x) : d_is_fraction [.fr (.tup [.int x.1, .int x.2])] = .ok (.fr (.bl true)) [.fr (.tup [.int x.1, .int x.2])] := by
  have i := isf_int x.1 x.2
  rw [decide_eq_true h.2, decide_eq_true (show 1 ≤ x.2 by have := h.1; omega)] at i
  exact i
theorem asked_ok {x y : Int × Int} (hx : R x) (hy : R y) : d_asked_fractions [.fr (.tup [.int x.1, .int x.2]), .fr (.tup [.int y.1, .int y.2])] = .ok (.fr .non) [.fr (.tup [.int x.1, .int x.2]), .fr (.tup [.int y.1, .int y.2])] := by
  have i := isf_ok hx
  have j := isf_ok hy
  unfold d_asked_fractions fnOf b_asked_fractions
  simp [sCons, sIf, sAsg, sRet, sRetN, sNil, sNo, sExpr, sPar, bTb, bTr, bAnd, bOr, bNot, bAndV, bOrV, bNotV, bIfE, bChain, truthD, bCmp, dCmp, dGt, dLt, dLe, dGe, dEq, dNe, dIs, D.isNon, eqv_int, eqv_tup2, Fv.b1, Fv.b2, bP, aCons, aNil, bIx, bVar, bCon, bTup, bLst, dTupN, dLstN, bDic, bSl, bPart, bInt, Ou.bnd, dSl, pS, pSS, pZ, frz1, frzs, pks, pk, dIx, atI, ixN, gTupF, gIx, gNm, gAll, dDivmod, dInt, dAbs, dLen, dIsi, D.tyN, Fv.own1, fRet, finS_nil, finS_t, finS_f, S.d, bBin, dAdd, dSub, dMulS, dMod, dDiv, dPow, dNeg, pCall, pCallZ, movs, mov1, puts, put1, sFor, mPs, mSeq, seqD, i, j]
theorem atA (x y : D) : atI [x, y] 0 = some x := rfl
theorem atB (x y : D) : atI [x, y] 1 = some y := rfl
section
variable {x y : Int × Int} (hx : R x) (hy : R y) (zx : Zp 900 x) (zy : Zp 900 y)
include hx hy zx zy
theorem plus_ok : d_plus [.fr (.tup [.int x.1, .int x.2]), .fr (.tup [.int y.1, .int y.2])] = .ok (.fr (.tup [.int (plusN x y).1, .int (plusN x y).2])) [.fr (.tup [.int x.1, .int x.2]), .fr (.tup [.int y.1, .int y.2])] := by
  have i := asked_ok hx hy
  have m1 : mulB x.1 y.2 = false := mulZ (zx.1.mono (by decide)) (zy.2.mono (by decide))
  have m2 : mulB y.1 x.2 = false := mulZ (zy.1.mono (by decide)) (zx.2.mono (by decide))
  have m3 : mulB x.2 y.2 = false := mulZ (zx.2.mono (by decide)) (zy.2.mono (by decide))
  have f := fraction_ok (x.1 * y.2 + y.1 * x.2) (x.2 * y.2) (den_ne hx hy) ((zx.2.mul zy.2).mono (by decide))
  unfold d_plus fnOf b_plus
  simp [sCons, sIf, sAsg, sRet, sRetN, sNil, sNo, sExpr, sPar, bTb, bTr, bAnd, bOr, bNot, bAndV, bOrV, bNotV, bIfE, bChain, truthD, bCmp, dCmp, dGt, dLt, dLe, dGe, dEq, dNe, dIs, D.isNon, eqv_int, eqv_tup2, Fv.b1, Fv.b2, bP, aCons, aNil, bIx, bVar, bCon, bTup, bLst, dTupN, dLstN, bDic, bSl, bPart, bInt, Ou.bnd, dSl, pS, pSS, pZ, frz1, frzs, pks, pk, dIx, ixN, gTupF, gIx, gNm, gAll, dDivmod, dInt, dAbs, dLen, dIsi, D.tyN, Fv.own1, fRet, finS_nil, finS_t, finS_f, S.d, bBin, dAdd, dSub, dMulS, dMod, dDiv, dPow, dNeg, pCall, pCallZ, movs, mov1, puts, put1, sFor, mPs, mSeq, seqD, i, m1, m2, m3, f, atA, atB]
  exact ⟨rfl, rfl⟩
theorem minus_ok : d_minus [.fr (.tup [.int x.1, .int x.2]), .fr (.tup [.int y.1, .int y.2])] = .ok (.fr (.tup [.int (minusN x y).1, .int (minusN x y).2])) [.fr (.tup [.int x.1, .int x.2]), .fr (.tup [.int y.1, .int y.2])] := by
  have i := asked_ok hx hy
  have m1 : mulB x.1 y.2 = false := mulZ (zx.1.mono (by decide)) (zy.2.mono (by decide))
  have m2 : mulB y.1 x.2 = false := mulZ (zy.1.mono (by decide)) (zx.2.mono (by decide))
  have m3 : mulB x.2 y.2 = false := mulZ (zx.2.mono (by decide)) (zy.2.mono (by decide))
  have f := fraction_ok (x.1 * y.2 - y.1 * x.2) (x.2 * y.2) (den_ne hx hy) ((zx.2.mul zy.2).mono (by decide))
  unfold d_minus fnOf b_minus
  simp [sCons, sIf, sAsg, sRet, sRetN, sNil, sNo, sExpr, sPar, bTb, bTr, bAnd, bOr, bNot, bAndV, bOrV, bNotV, bIfE, bChain, truthD, bCmp, dCmp, dGt, dLt, dLe, dGe, dEq, dNe, dIs, D.isNon, eqv_int, eqv_tup2, Fv.b1, Fv.b2, bP, aCons, aNil, bIx, bVar, bCon, bTup, bLst, dTupN, dLstN, bDic, bSl, bPart, bInt, Ou.bnd, dSl, pS, pSS, pZ, frz1, frzs, pks, pk, dIx, ixN, gTupF, gIx, gNm, gAll, dDivmod, dInt, dAbs, dLen, dIsi, D.tyN, Fv.own1, fRet, finS_nil, finS_t, finS_f, S.d, bBin, dAdd, dSub, dMulS, dMod, dDiv, dPow, dNeg, pCall, pCallZ, movs, mov1, puts, put1, sFor, mPs, mSeq, seqD, i, m1, m2, m3, f, atA, atB]
  exact ⟨rfl, rfl⟩
theorem times_ok : d_times [.fr (.tup [.int x.1, .int x.2]), .fr (.tup [.int y.1, .int y.2])] = .ok (.fr (.tup [.int (timesN x y).1, .int (timesN x y).2])) [.fr (.tup [.int x.1, .int x.2]), .fr (.tup [.int y.1, .int y.2])] := by
  have i := asked_ok hx hy
  have m1 : mulB x.1 y.1 = false := mulZ (zx.1.mono (by decide)) (zy.1.mono (by decide))
  have m3 : mulB x.2 y.2 = false := mulZ (zx.2.mono (by decide)) (zy.2.mono (by decide))
  have f := fraction_ok (x.1 * y.1) (x.2 * y.2) (den_ne hx hy) ((zx.2.mul zy.2).mono (by decide))
  unfold d_times fnOf b_times
  simp [sCons, sIf, sAsg, sRet, sRetN, sNil, sNo, sExpr, sPar, bTb, bTr, bAnd, bOr, bNot, bAndV, bOrV, bNotV, bIfE, bChain, truthD, bCmp, dCmp, dGt, dLt, dLe, dGe, dEq, dNe, dIs, D.isNon, eqv_int, eqv_tup2, Fv.b1, Fv.b2, bP, aCons, aNil, bIx, bVar, bCon, bTup, bLst, dTupN, dLstN, bDic, bSl, bPart, bInt, Ou.bnd, dSl, pS, pSS, pZ, frz1, frzs, pks, pk, dIx, ixN, gTupF, gIx, gNm, gAll, dDivmod, dInt, dAbs, dLen, dIsi, D.tyN, Fv.own1, fRet, finS_nil, finS_t, finS_f, S.d, bBin, dAdd, dSub, dMulS, dMod, dDiv, dPow, dNeg, pCall, pCallZ, movs, mov1, puts, put1, sFor, mPs, mSeq, seqD, i, m1, m3, f, atA, atB]
  exact ⟨rfl, rfl⟩
theorem shared_ok2 (h0 : y.1 ≠ 0) : d_shared [.fr (.tup [.int x.1, .int x.2]), .fr (.tup [.int y.1, .int y.2])] = .ok (.fr (.tup [.int (sharedN x y).1, .int (sharedN x y).2])) [.fr (.tup [.int x.1, .int x.2]), .fr (.tup [.int y.1, .int y.2])] := by
  have i := asked_ok hx hy
  have m1 : mulB x.1 y.2 = false := mulZ (zx.1.mono (by decide)) (zy.2.mono (by decide))
  have m3 : mulB x.2 y.1 = false := mulZ (zx.2.mono (by decide)) (zy.1.mono (by decide))
  have f := fraction_ok (x.1 * y.2) (x.2 * y.1) (sden_ne hx hy h0) ((zx.2.mul zy.1).mono (by decide))
  unfold d_shared fnOf b_shared
  simp [sCons, sIf, sAsg, sRet, sRetN, sNil, sNo, sExpr, sPar, bTb, bTr, bAnd, bOr, bNot, bAndV, bOrV, bNotV, bIfE, bChain, truthD, bCmp, dCmp, dGt, dLt, dLe, dGe, dEq, dNe, dIs, D.isNon, eqv_int, eqv_tup2, Fv.b1, Fv.b2, bP, aCons, aNil, bIx, bVar, bCon, bTup, bLst, dTupN, dLstN, bDic, bSl, bPart, bInt, Ou.bnd, dSl, pS, pSS, pZ, frz1, frzs, pks, pk, dIx, ixN, gTupF, gIx, gNm, gAll, dDivmod, dInt, dAbs, dLen, dIsi, D.tyN, Fv.own1, fRet, finS_nil, finS_t, finS_f, S.d, bBin, dAdd, dSub, dMulS, dMod, dDiv, dPow, dNeg, pCall, pCallZ, movs, mov1, puts, put1, sFor, mPs, mSeq, seqD, i, m1, m3, f, atA, atB]
  exact ⟨rfl, rfl⟩
end
theorem plus_Z {k : Nat} {x y : Int × Int} (hx : R x) (hy : R y) (zx : Zp k x) (zy : Zp k y) : Zp (k + k + 1) (plusN x y) := N_Z (den_ne hx hy) ((zx.1.mul zy.2).add (zy.1.mul zx.2)) ((zx.2.mul zy.2).mono (by omega))
theorem minus_Z {k : Nat} {x y : Int × Int} (hx : R x) (hy : R y) (zx : Zp k x) (zy : Zp k y) : Zp (k + k + 1) (minusN x y) := N_Z (den_ne hx hy) ((zx.1.mul zy.2).sub (zy.1.mul zx.2)) ((zx.2.mul zy.2).mono (by omega))
theorem times_Z {k : Nat} {x y : Int × Int} (hx : R x) (hy : R y) (zx : Zp k x) (zy : Zp k y) : Zp (k + k + 1) (timesN x y) := N_Z (den_ne hx hy) ((zx.1.mul zy.1).mono (by omega)) ((zx.2.mul zy.2).mono (by omega))
theorem shared_Z {k : Nat} {x y : Int × Int} (hx : R x) (hy : R y) (zx : Zp k x) (zy : Zp k y) (h0 : y.1 ≠ 0) : Zp (k + k + 1) (sharedN x y) := N_Z (sden_ne hx hy h0) ((zx.1.mul zy.2).mono (by omega)) ((zx.2.mul zy.1).mono (by omega))
theorem worth_ok {x : Int × Int} {t b : Int} (hx : R x) (h : x.1 * b = t * x.2) (zx : Zp 2000 x) (zt : Z 2000 t) (zb : Z 2000 b) : d_Lworth [.fr (.tup [.int x.1, .int x.2]), .fr (.int t), .fr (.int b)] = .ok (.fr (.bl true)) [.fr (.tup [.int x.1, .int x.2]), .fr (.int t), .fr (.int b)] := by
  have w : ∀ x : Int, d_Lwhole [.fr (.int x)] = .ok (.fr (.bl true)) [.fr (.int x)] := fun x => by
    unfold d_Lwhole fnOf b_Lwhole
    simp [sCons, sIf, sAsg, sRet, sRetN, sNil, sNo, sExpr, sPar, bTb, bTr, bAnd, bOr, bNot, bAndV, bOrV, bNotV, bIfE, bChain, truthD, bCmp, dCmp, dGt, dLt, dLe, dGe, dEq, dNe, dIs, D.isNon, eqv_int, eqv_tup2, Fv.b1, Fv.b2, bP, aCons, aNil, bIx, bVar, bCon, bTup, bLst, dTupN, dLstN, bDic, bSl, bPart, bInt, Ou.bnd, dSl, pS, pSS, pZ, frz1, frzs, pks, pk, dIx, atI, ixN, gTupF, gIx, gNm, gAll, dDivmod, dInt, dAbs, dLen, dIsi, D.tyN, Fv.own1, fRet, finS_nil, finS_t, finS_f, S.d, bBin, dAdd, dSub, dMulS, dMod, dDiv, dPow, dNeg, pCall, pCallZ, movs, mov1, puts, put1, sFor, mPs, mSeq, seqD, kit_ii, kit_ib]
  have s := shared_ok x.1 x.2
  have m1 : mulB x.1 b = false := mulZ zx.1 zb
  have m2 : mulB t x.2 = false := mulZ zt zx.2
  have g : (Int.gcd x.1 x.2 : Int) = 1 := by have := hx.2; omega
  have q : ¬ x.2 < 1 := by have := hx.1; omega
  rw [g] at s
  unfold d_Lworth fnOf b_Lworth
  simp [sCons, sIf, sAsg, sRet, sRetN, sNil, sNo, sExpr, sPar, bTb, bTr, bAnd, bOr, bNot, bAndV, bOrV, bNotV, bIfE, bChain, truthD, bCmp, dCmp, dGt, dLt, dLe, dGe, dEq, dNe, dIs, D.isNon, eqv_int, eqv_tup2, Fv.b1, Fv.b2, bP, aCons, aNil, bIx, bVar, bCon, bTup, bLst, dTupN, dLstN, bDic, bSl, bPart, bInt, Ou.bnd, dSl, pS, pSS, pZ, frz1, frzs, pks, pk, dIx, ixN, gTupF, gIx, gNm, gAll, dDivmod, dInt, dAbs, dLen, dIsi, D.tyN, Fv.own1, fRet, finS_nil, finS_t, finS_f, S.d, bBin, dAdd, dSub, dMulS, dMod, dDiv, dPow, dNeg, pCall, pCallZ, movs, mov1, puts, put1, sFor, mPs, mSeq, seqD, kit_tt, w, s, q, m1, m2, h, atA, atB]
theorem cross {t b : Int} (hb : b ≠ 0) : (N t b).1 * b = t * (N t b).2 := (shr_facts t b hb).2.2.2.2.1
theorem ar2 (a b : D) : arrG ["other", "one"] ["one", "other"] [a, b] = some [b, a] := rfl
theorem pair_ok {x y : Int × Int} (hx : R x) (hy : R y) (zx : Zp 150 x) (zy : Zp 150 y) : d_Lpair [.fr (.tup [.int x.1, .int x.2]), .fr (.tup [.int y.1, .int y.2])] = .ok (.fr (.bl true)) [.fr (.tup [.int x.1, .int x.2]), .fr (.tup [.int y.1, .int y.2])] := by
  have ZX := zx.mono (show 150 ≤ 900 by decide)
  have ZY := zy.mono (show 150 ≤ 900 by decide)
  have p1 := plus_ok hx hy ZX ZY
  have p2 := plus_ok hy hx ZY ZX
  rw [plus_comm hx hy] at p2
  have n1 := minus_ok hx hy ZX ZY
  have t1 := times_ok hx hy ZX ZY
  have t2 := times_ok hy hx ZY ZX
  rw [times_comm hx hy] at t2
  have n2 := minus_ok (plus_R hx hy) hy ((plus_Z hx hy zx zy).mono (by decide)) ZY
  rw [minus_plus hx hy] at n2
  have zz : ∀ {a b : Int}, Z 150 a → Z 150 b → Z 2000 (a * b) := fun h1 h2 => (h1.mul h2).mono (by decide)
  have w1 := worth_ok (plus_R hx hy) (cross (den_ne hx hy)) ((plus_Z hx hy zx zy).mono (by decide)) (((zx.1.mul zy.2).add (zy.1.mul zx.2)).mono (by decide)) (zz zx.2 zy.2)
  have w2 := worth_ok (minus_R hx hy) (cross (den_ne hx hy)) ((minus_Z hx hy zx zy).mono (by decide)) (((zx.1.mul zy.2).sub (zy.1.mul zx.2)).mono (by decide)) (zz zx.2 zy.2)
  have w3 := worth_ok (times_R hx hy) (cross (den_ne hx hy)) ((times_Z hx hy zx zy).mono (by decide)) (zz zx.1 zy.1) (zz zx.2 zy.2)
  have m : ∀ {a b : Int}, Z 150 a → Z 150 b → mulB a b = false := fun h1 h2 => mulZ (h1.mono (by decide)) (h2.mono (by decide))
  have m1 := m zx.1 zy.2
  have m2 := m zy.1 zx.2
  have m3 := m zx.2 zy.2
  have m4 := m zx.1 zy.1
  have m5 := m zx.2 zy.1
  unfold d_Lpair fnOf b_Lpair
  by_cases h0 : y.1 = 0
  · obtain ⟨c, d⟩ := y
    dsimp only at h0
    subst h0
    dsimp only at p1 p2 n1 n2 t1 t2 w1 w2 w3 m1 m2 m3 m4 m5 ⊢
    simp only [Int.zero_mul, Int.mul_zero, Int.add_zero, Int.sub_zero] at w1 w2 w3
    simp [sCons, sIf, sAsg, sRet, sRetN, sNil, sNo, sExpr, sPar, bTb, bTr, bAnd, bOr, bNot, bAndV, bOrV, bNotV, bIfE, bChain, truthD, bCmp, dCmp, dGt, dLt, dLe, dGe, dEq, dNe, dIs, D.isNon, eqv_int, eqv_tup2, Fv.b1, Fv.b2, bP, aCons, aNil, bIx, bVar, bCon, bTup, bLst, dTupN, dLstN, bDic, bSl, bPart, bInt, Ou.bnd, dSl, pS, pSS, pZ, frz1, frzs, pks, pk, dIx, atI, ixN, gTupF, gIx, gNm, gAll, dDivmod, dInt, dAbs, dLen, dIsi, D.tyN, Fv.own1, fRet, finS_nil, finS_t, finS_f, S.d, bBin, dAdd, dSub, dMulS, dMod, dDiv, dPow, dNeg, pCall, pCallZ, movs, mov1, puts, put1, sFor, mPs, mSeq, seqD, ar2, p1, p2, n1, n2, t1, t2, w1, w2, w3, m1, m2, m3, m4, m5]
  · have s1 := shared_ok2 hx hy ZX ZY h0
    have s2 := shared_ok2 (times_R hx hy) hy ((times_Z hx hy zx zy).mono (by decide)) ZY h0
    rw [shared_times hx hy h0] at s2
    have w4 := worth_ok (shared_R hx hy h0) (cross (sden_ne hx hy h0)) ((shared_Z hx hy zx zy h0).mono (by decide)) (zz zx.1 zy.2) (zz zx.2 zy.1)
    simp [sCons, sIf, sAsg, sRet, sRetN, sNil, sNo, sExpr, sPar, bTb, bTr, bAnd, bOr, bNot, bAndV, bOrV, bNotV, bIfE, bChain, truthD, bCmp, dCmp, dGt, dLt, dLe, dGe, dEq, dNe, dIs, D.isNon, eqv_int, eqv_tup2, Fv.b1, Fv.b2, bP, aCons, aNil, bIx, bVar, bCon, bTup, bLst, dTupN, dLstN, bDic, bSl, bPart, bInt, Ou.bnd, dSl, pS, pSS, pZ, frz1, frzs, pks, pk, dIx, atI, ixN, gTupF, gIx, gNm, gAll, dDivmod, dInt, dAbs, dLen, dIsi, D.tyN, Fv.own1, fRet, finS_nil, finS_t, finS_f, S.d, bBin, dAdd, dSub, dMulS, dMod, dDiv, dPow, dNeg, pCall, pCallZ, movs, mov1, puts, put1, sFor, mPs, mSeq, seqD, ar2, p1, p2, n1, n2, t1, t2, w1, w2, w3, w4, s1, s2, m1, m2, m3, m4, m5, h0]
theorem frac_ok (a b c bt : Int) (hb : 0 ≤ b) (hb2 : b < 2147483648) (h1 : 0 < bt) (h2 : bt < 1000) : ∃ (x : Int × Int) (a' b' c' : Int), d_Lfraction [.ol [.int a, .int b, .int c], .fr (.int bt)] = .ok (.fr (.tup [.int x.1, .int x.2])) [.ol [.int a', .int b', .int c'], .fr (.int bt)] ∧ R x ∧ Zp 150 x ∧ 0 ≤ b' ∧ b' < 2147483648 := by
  obtain ⟨t, a1, b1, c1, e1, tz, w0, w1⟩ := number_ok a b c (10 ^ 60 - 1) hb hb2 (by decide)
  obtain ⟨k, a2, b2, c2, e2, k0, k1, w2, w3⟩ := draw_ok a1 b1 c1 3 w0 w1 (by decide) (by decide)
  have zt : Z 71 t := tz
  simp at e1
  by_cases hk : 0 < k
  · obtain ⟨r, a3, b3, c3, e3, rz, w4, w5⟩ := number_ok a2 b2 c2 (10 ^ 59) w2 w3 (by decide)
    have zr : Z 72 (1 + (r.natAbs : Int)) := by unfold Z; omega
    have nz : (1 + (r.natAbs : Int)) ≠ 0 := by omega
    refine ⟨N t (1 + (r.natAbs : Int)), a3, b3, c3, ?_, N_R nz, (N_Z nz (zt.mono (by decide)) zr).mono (by decide), w4, w5⟩
    have f := fraction_ok t (1 + (r.natAbs : Int)) nz (zr.mono (by decide))
    simp at e3
    unfold d_Lfraction fnOf b_Lfraction
    simp [sCons, sIf, sAsg, sRet, sRetN, sNil, sNo, sExpr, sPar, bTb, bTr, bAnd, bOr, bNot, bAndV, bOrV, bNotV, bIfE, bChain, truthD, bCmp, dCmp, dGt, dLt, dLe, dGe, dEq, dNe, dIs, D.isNon, eqv_int, eqv_tup2, Fv.b1, Fv.b2, bP, aCons, aNil, bIx, bVar, bCon, bTup, bLst, dTupN, dLstN, bDic, bSl, bPart, bInt, Ou.bnd, dSl, pS, pSS, pZ, frz1, frzs, pks, pk, dIx, atI, ixN, gTupF, gIx, gNm, gAll, dDivmod, dInt, dAbs, dLen, dIsi, D.tyN, Fv.own1, fRet, finS_nil, finS_t, finS_f, S.d, bBin, dAdd, dSub, dMulS, dMod, dDiv, dPow, dNeg, pCall, pCallZ, movs, mov1, puts, put1, sFor, mPs, mSeq, seqD, e1, e2, hk, e3, absI, f]
    exact ⟨rfl, rfl⟩
  · have zb : Z 72 bt := by unfold Z; omega
    have nz : bt ≠ 0 := by omega
    refine ⟨N t bt, a2, b2, c2, ?_, N_R nz, (N_Z nz (zt.mono (by decide)) zb).mono (by decide), w2, w3⟩
    have f := fraction_ok t bt nz (zb.mono (by decide))
    unfold d_Lfraction fnOf b_Lfraction
    simp [sCons, sIf, sAsg, sRet, sRetN, sNil, sNo, sExpr, sPar, bTb, bTr, bAnd, bOr, bNot, bAndV, bOrV, bNotV, bIfE, bChain, truthD, bCmp, dCmp, dGt, dLt, dLe, dGe, dEq, dNe, dIs, D.isNon, eqv_int, eqv_tup2, Fv.b1, Fv.b2, bP, aCons, aNil, bIx, bVar, bCon, bTup, bLst, dTupN, dLstN, bDic, bSl, bPart, bInt, Ou.bnd, dSl, pS, pSS, pZ, frz1, frzs, pks, pk, dIx, atI, ixN, gTupF, gIx, gNm, gAll, dDivmod, dInt, dAbs, dLen, dIsi, D.tyN, Fv.own1, fRet, finS_nil, finS_t, finS_f, S.d, bBin, dAdd, dSub, dMulS, dMod, dDiv, dPow, dNeg, pCall, pCallZ, movs, mov1, puts, put1, sFor, mPs, mSeq, seqD, e1, e2, hk, f]
    exact ⟨rfl, rfl⟩
theorem atX0 (x y z : D) : atI [x, y, z] 0 = some x := rfl
theorem atX1 (x y z : D) : atI [x, y, z] 1 = some y := rfl
theorem atX2 (x y z : D) : atI [x, y, z] 2 = some z := rfl
theorem turn_ok (s0 : Option S) (z : Int) (y2 y3 y4 y5 y6 y7 : Option S) : ∃ y2' y3' y4' y5' y6' y7', b_law_3 [s0, some (.fr (.int z)), y2, y3, y4, y5, y6, y7, none] = .nx [s0, some (.fr (.int z)), y2', y3', y4', y5', y6', y7', none] := by
  have hw := well_ok z
  have w1 : 0 ≤ z % 2147483647 := by omega
  have w2 : z % 2147483647 < 2147483648 := by omega
  generalize z % 2147483647 = wb at hw w1 w2
  generalize (z * if 10 ^ 18 ≤ z then 1 else 0) = wa at hw
  obtain ⟨r, a1, b1, c1, e1, r0, r1, u0, u1⟩ := draw_ok wa wb 0 997 w1 w2 (by decide) (by decide)
  obtain ⟨x, a2, b2, c2, e2, hx, zx, u2, u3⟩ := frac_ok a1 b1 c1 (1 + r) u0 u1 (by omega) (by omega)
  obtain ⟨y, a3, b3, c3, e3, hy, zy, u4, u5⟩ := frac_ok a2 b2 c2 (1 + r) u2 u3 (by omega) (by omega)
  obtain ⟨q, a4, b4, c4, e4, hq, zq, u6, u7⟩ := frac_ok a3 b3 c3 (1 + r) u4 u5 (by omega) (by omega)
  have z01 : Zp 150 (0, 1) := ⟨by unfold Z; decide, by unfold Z; decide⟩
  have z11 : Zp 150 (1, 1) := ⟨by unfold Z; decide, by unfold Z; decide⟩
  have p1 := pair_ok hx hy zx zy
  have p2 := pair_ok hy hx zy zx
  have p3 := pair_ok hq hq zq zq
  have p4 := pair_ok hq R01 zq z01
  have up : ∀ {v : Int × Int}, Zp 150 v → Zp 900 v := fun h => h.mono (by decide)
  have pyz := plus_ok hy hq (up zy) (up zq)
  have pxy := plus_ok hx hy (up zx) (up zy)
  have txy := times_ok hx hy (up zx) (up zy)
  have txz := times_ok hx hq (up zx) (up zq)
  have tyz := times_ok hy hq (up zy) (up zq)
  have zyz := (plus_Z hy hq zy zq).mono (show 150 + 150 + 1 ≤ 301 by decide)
  have zxy := (plus_Z hx hy zx zy).mono (show 150 + 150 + 1 ≤ 301 by decide)
  have vxy := (times_Z hx hy zx zy).mono (show 150 + 150 + 1 ≤ 301 by decide)
  have vxz := (times_Z hx hq zx zq).mono (show 150 + 150 + 1 ≤ 301 by decide)
  have vyz := (times_Z hy hq zy zq).mono (show 150 + 150 + 1 ≤ 301 by decide)
  have up2 : ∀ {v : Int × Int}, Zp 301 v → Zp 900 v := fun h => h.mono (by decide)
  have q1 := times_ok hx (plus_R hy hq) (up zx) (up2 zyz)
  have q2 := plus_ok (times_R hx hy) (times_R hx hq) (up2 vxy) (up2 vxz)
  rw [times_plus hx hy hq] at q1
  have q3 := plus_ok (plus_R hx hy) hq (up2 zxy) (up zq)
  have q4 := plus_ok hx (plus_R hy hq) (up zx) (up2 zyz)
  rw [plus_assoc hx hy hq] at q3
  have q5 := plus_ok hx R01 (up zx) (up z01)
  rw [plus_zero hx] at q5
  have q6 := times_ok (times_R hx hy) hq (up2 vxy) (up zq)
  have q7 := times_ok hx (times_R hy hq) (up zx) (up2 vyz)
  rw [times_assoc hx hy hq] at q6
  have q8 := times_ok hx R11 (up zx) (up z11)
  rw [times_one hx] at q8
  dsimp only at p4 q5 q8
  have rg : rngD 0 3 = [.int 0, .int 1, .int 2] := rfl
  unfold b_law_3
  simp [sCons, sIf, sAsg, sRet, sRetN, sNil, sNo, sExpr, sPar, bTb, bTr, bAnd, bOr, bNot, bAndV, bOrV, bNotV, bIfE, bChain, truthD, bCmp, dCmp, dGt, dLt, dLe, dGe, dEq, dNe, dIs, D.isNon, eqv_int, eqv_tup2, Fv.b1, Fv.b2, bP, aCons, aNil, bIx, bVar, bCon, bTup, bLst, dTupN, dLstN, bDic, bSl, bPart, bInt, Ou.bnd, dSl, pS, pSS, pZ, frz1, frzs, pks, pk, dIx, ixN, gTupF, gIx, gNm, gAll, dDivmod, dInt, dAbs, dLen, dIsi, D.tyN, Fv.own1, fRet, finS_nil, finS_t, finS_f, S.d, bBin, dAdd, dSub, dMulS, dMod, dDiv, dPow, dNeg, pCall, pCallZ, movs, mov1, puts, put1, sFor, mPs, mSeq, seqD, hw, e1, e2, e3, e4, bLc, okW, lcL, wipeE, backE, bYes, m_law_2, rngOf, rg, atX0, atX1, atX2, forL, b_law_1, p1, p2, p3, p4, pyz, pxy, txy, txz, tyz, q1, q2, q3, q4, q5, q6, q7, q8]
theorem loop_law : ∀ (ds : List D), (∀ d ∈ ds, ∃ i, d = .int i) → ∀ (s0 y1 y2 y3 y4 y5 y6 y7 : Option S), ∃ y1' y2' y3' y4' y5' y6' y7', forL (gNm 1) b_law_3 ds [s0, y1, y2, y3, y4, y5, y6, y7, none] = .nx [s0, y1', y2', y3', y4', y5', y6', y7', none]
  | [], _, s0, y1, y2, y3, y4, y5, y6, y7 => ⟨y1, y2, y3, y4, y5, y6, y7, rfl⟩
  | d :: ds, hd, s0, y1, y2, y3, y4, y5, y6, y7 => by
    obtain ⟨i, rfl⟩ := hd d (by simp)
    obtain ⟨z2, z3, z4, z5, z6, z7, h1⟩ := turn_ok s0 i y2 y3 y4 y5 y6 y7
    obtain ⟨v1, v2, v3, v4, v5, v6, v7, h2⟩ := loop_law ds (fun d h => hd d (by simp [h])) s0 (some (.fr (.int i))) z2 z3 z4 z5 z6 z7
    refine ⟨v1, v2, v3, v4, v5, v6, v7, ?_⟩
    rw [← h2]
    simp [forL, gNm, h1]
theorem law_pure (ns : List Int) (h : ns.length ≤ 63) (hb : ∀ z ∈ ns, Builtin.Int.intBits z ≤ 1048576) : ∃ ss', d_law [.fr (.lst (ns.map D.int))] = .ok (.fr (.bl true)) ss' := by
  have hc : ∀ d ∈ cutD (ns.map D.int ++ [D.int 0]) none (some 8), ∃ i, d = .int i := fun d hd => by
    have := List.mem_of_mem_drop (List.mem_of_mem_take hd)
    simp at this
    rcases this with ⟨i, _, rfl⟩ | rfl
    · exact ⟨i, rfl⟩
    · exact ⟨0, rfl⟩
  obtain ⟨v1, v2, v3, v4, v5, v6, v7, h2⟩ := loop_law _ hc (some (.fr (.lst (ns.map D.int)))) none none none none none none none
  have hl : ns.length + 1 ≤ 16777216 := by omega
  unfold d_law fnOf b_law
  simp [sCons, sIf, sAsg, sRet, sRetN, sNil, sNo, sExpr, sPar, bTb, bTr, bAnd, bOr, bNot, bAndV, bOrV, bNotV, bIfE, bChain, truthD, bCmp, dCmp, dGt, dLt, dLe, dGe, dEq, dNe, dIs, D.isNon, eqv_int, eqv_tup2, Fv.b1, Fv.b2, bP, aCons, aNil, bIx, bVar, bCon, bTup, bLst, dTupN, dLstN, bDic, bSl, bPart, bInt, Ou.bnd, dSl, pS, pSS, pZ, frz1, frzs, pks, pk, dIx, atI, ixN, gTupF, gIx, gNm, gAll, dDivmod, dInt, dAbs, dLen, dIsi, D.tyN, Fv.own1, fRet, finS_nil, finS_t, finS_f, S.d, bBin, dAdd, dSub, dMulS, dMod, dDiv, dPow, dNeg, pCall, pCallZ, movs, mov1, puts, put1, sFor, mPs, mSeq, seqD, h2, hl]
end K04

open PySem PySem.W PyProof.Rows
set_option maxHeartbeats 0 in
theorem PySem.Challenge.cw_boughswap_k04_sums_and_products_of_fract_holds : PySem.Challenge.rw_boughswap_k04_sums_and_products_of_fract.Holds := by
  w_on; o_law; k_head; (case hw => w_witness2)
  k_fill
  refine L2.walk_ofB (l := PySem.Challenge.rw_boughswap_k04_sums_and_products_of_fract) (n := 63) (k := 6) (x := "_law_script") (CX := fun w => L2.CX PySem.Challenge.pw_boughswap_k04_sums_and_products_of_fract w) (sp := fun w => Fv.spD (Fv.tb _ (fun _ => 0) (fun _ => 0)) 1 K04.d_law) rfl (by decide) rfl ⟨rfl, by decide, by decide⟩ (fun w h Y => PySem.W.kIn_of Y) ?F (fun w H a ns hl hb _ hS => let ⟨_, h⟩ := K04.law_pure ns hl hb; Fv.law_sp hS h) (fun _ _ _ _ _ ⟨_, _, _, _, _, _, _, _, _, _, _, _, h⟩ => h)
  case F =>
    intro w mg fa h KX G hmg
    refine' K04.all_mk KX G hmg ?a0 ?l0 ?c0 ?k0 ?a1 ?l1 ?c1 ?k1 ?a2 ?l2 ?c2 ?k2 ?a3 ?l3 ?c3 ?k3 ?a4 ?l4 ?c4 ?k4 ?a5 ?l5 ?c5 ?k5 ?lT5 ?rT5 ?a6 ?l6 ?c6 ?k6 ?a7 ?l7 ?c7 ?k7 ?a8 ?l8 ?c8 ?k8 ?a9 ?l9 ?c9 ?k9 ?a10 ?l10 ?c10 ?k10 ?a11 ?l11 ?c11 ?k11 ?a12 ?l12 ?c12 ?k12 ?a13 ?l13 ?c13 ?k13 ?a14 ?l14 ?c14 ?k14 ?a15 ?l15 ?c15 ?k15 ?a16 ?l16 ?c16 ?k16 ?a17 ?l17 ?c17 ?k17 ?z_int ?z_divmod ?z_range ?z_abs ?z_isinstance ?z_bool ?z_tuple ?z_len
    (case a0 => k_is); (case l0 => k_is); (case c0 => k_is); (case k0 => k_is); (case a1 => k_is); (case l1 => k_is); (case c1 => k_is); (case k1 => k_is); (case a2 => k_is); (case l2 => k_is); (case c2 => k_is); (case k2 => k_is); (case a3 => k_is); (case l3 => k_is); (case c3 => k_is); (case k3 => k_is); (case a4 => k_is); (case l4 => k_is); (case c4 => k_is); (case k4 => k_is); (case a5 => k_is); (case l5 => k_is); (case c5 => k_is); (case k5 => k_is); (case lT5 => k_is); (case rT5 => exact ⟨_, rfl⟩); (case a6 => k_is); (case l6 => k_is); (case c6 => k_is); (case k6 => k_is); (case a7 => k_is); (case l7 => k_is); (case c7 => k_is); (case k7 => k_is); (case a8 => k_is); (case l8 => k_is); (case c8 => k_is); (case k8 => k_is); (case a9 => k_is); (case l9 => k_is); (case c9 => k_is); (case k9 => k_is); (case a10 => k_is); (case l10 => k_is); (case c10 => k_is); (case k10 => k_is); (case a11 => k_is); (case l11 => k_is); (case c11 => k_is); (case k11 => k_is); (case a12 => k_is); (case l12 => k_is); (case c12 => k_is); (case k12 => k_is); (case a13 => k_is); (case l13 => k_is); (case c13 => k_is); (case k13 => k_is); (case a14 => k_is); (case l14 => k_is); (case c14 => k_is); (case k14 => k_is); (case a15 => k_is); (case l15 => k_is); (case c15 => k_is); (case k15 => k_is); (case a16 => k_is); (case l16 => k_is); (case c16 => k_is); (case k16 => k_is); (case a17 => k_is); (case l17 => k_is); (case c17 => k_is); (case k17 => k_is); (case z_int => k_is); (case z_divmod => k_is); (case z_range => k_is); (case z_abs => k_is); (case z_isinstance => k_is); (case z_bool => k_is); (case z_tuple => k_is); (case z_len => k_is)
