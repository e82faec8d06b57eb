import PyProof.Rows.All
import Wide.All
import OpenK.AllK
import Wide.FinOn
import Lean
import PySem.Challenge.RW_nu0268_01
set_option Elab.async false
set_option maxRecDepth 100000
set_option maxHeartbeats 8000000
set_option linter.all false
section
open PySem
namespace Lay

inductive V where
  | none
  | bool (b : Bool)
  | int (i : Int)
  | str (s : Str)
  | tup (xs : List V)
  | lst (xs : List V)
  | ref (a : Addr)

noncomputable abbrev Fz := Addr → Option (Bool × Obj)
noncomputable abbrev Vars := Str → Option V
noncomputable def Vars.set (vs : Vars) (x : Str) (v : V) : Vars := fun y => if y = x then some v else vs y

mutual
inductive Rep (G : Fz) : Value → V → Prop
  | none : Rep G .none .none
  | bool (b : Bool) : Rep G (.bool b) (.bool b)
  | int (i : Int) (t : Tok) : Rep G (.int i t) (.int i)
  | str (x : Str) (t : Tok) : Rep G (.str x t) (.str x)
  | tup {a : Addr} {o : Obj} {vs : Array Value} {n : Nat} {xs : List V} : G a = some (true, o) → o.cls = .type "tuple" → o.data = .seq vs n → (o.dict = Option.none ∧ o.slots = #[]) → RepL G vs.toList xs → Rep G (.ref a) (.tup xs)
  | lst {a : Addr} {o : Obj} {vs : Array Value} {n : Nat} {xs : List V} : G a = some (true, o) → o.cls = .type "list" → o.data = .seq vs n → (o.dict = Option.none ∧ o.slots = #[]) → RepL G vs.toList xs → Rep G (.ref a) (.lst xs)
  | ref (a : Addr) : Rep G (.ref a) (.ref a)
inductive RepL (G : Fz) : List Value → List V → Prop
  | nil : RepL G [] []
  | cons {v : Value} {vs : List Value} {x : V} {xs : List V} : Rep G v x → RepL G vs xs → RepL G (v :: vs) (x :: xs)
end

noncomputable def SeqLe (G G' : Fz) : Prop := ∀ a o vs n, G a = some (true, o) → o.data = .seq vs n → G' a = some (true, o)
noncomputable def Le (G G' : Fz) : Prop := ∀ a p, G a = some p → G' a = some p
theorem Le.refl (G : Fz) : Le G G := fun _ _ e => e
theorem Le.trans {G₁ G₂ G₃ : Fz} (x : Le G₁ G₂) (y : Le G₂ G₃) : Le G₁ G₃ := fun a o e => y a o (x a o e)
theorem Le.seq {G G' : Fz} (x : Le G G') : SeqLe G G' := fun a o _ _ e _ => x a _ e

mutual
theorem Rep.imp {G G' : Fz} (hs : SeqLe G G') : ∀ {v : Value} {x : V}, Rep G v x → Rep G' v x
  | _, _, .none => .none
  | _, _, .bool b => .bool b
  | _, _, .int i t => .int i t
  | _, _, .str x t => .str x t
  | _, _, .tup h1 h2 h3 h4 r => .tup (hs _ _ _ _ h1 h3) h2 h3 h4 (RepL.imp hs r)
  | _, _, .lst h1 h2 h3 h4 r => .lst (hs _ _ _ _ h1 h3) h2 h3 h4 (RepL.imp hs r)
  | _, _, .ref a => .ref a
theorem RepL.imp {G G' : Fz} (hs : SeqLe G G') : ∀ {vs : List Value} {xs : List V}, RepL G vs xs → RepL G' vs xs
  | _, _, .nil => .nil
  | _, _, .cons h r => .cons (Rep.imp hs h) (RepL.imp hs r)
end
section
variable {G : Fz} {v : Value} {x : V} {vs ws : List Value} {xs ys : List V}
theorem RepL.length (h : RepL G vs xs) : vs.length = xs.length := by
  induction vs generalizing xs with
  | nil => cases h; rfl
  | cons v vs ih =>
    cases h with
    | cons _ r => rw [List.length_cons, List.length_cons, ih r]
theorem RepL.append (h : RepL G vs xs) (k : RepL G ws ys) : RepL G (vs ++ ws) (xs ++ ys) := by
  induction vs generalizing xs with
  | nil => cases h; exact k
  | cons v vs ih =>
    cases h with
    | cons h r => exact .cons h (ih r)
theorem RepL.get (h : RepL G vs xs) {k : Nat} {x : V} (hk : xs[k]? = some x) : ∃ v, vs[k]? = some v ∧ Rep G v x := by
  induction vs generalizing xs k with
  | nil => cases h; simp at hk
  | cons v vs ih =>
    cases h with
    | cons h r =>
      cases k with
      | zero => simp at hk; subst hk; exact ⟨v, rfl, h⟩
      | succ k => exact ih r (by simpa using hk)
theorem RepL.get' (h : RepL G vs xs) {k : Nat} {v : Value} (hk : vs[k]? = some v) : ∃ x, xs[k]? = some x ∧ Rep G v x := by
  induction vs generalizing xs k with
  | nil => simp at hk
  | cons u vs ih =>
    cases h with
    | cons h r =>
      cases k with
      | zero => simp at hk; subst hk; exact ⟨_, rfl, h⟩
      | succ k => simpa using ih r (by simpa using hk)
theorem RepL.take (h : RepL G vs xs) (k : Nat) : RepL G (vs.take k) (xs.take k) := by
  induction vs generalizing xs k with
  | nil => cases h; simp; exact .nil
  | cons v vs ih =>
    cases h with
    | cons h r =>
      cases k with
      | zero => exact .nil
      | succ k => exact .cons h (ih r k)
theorem RepL.drop (h : RepL G vs xs) (k : Nat) : RepL G (vs.drop k) (xs.drop k) := by
  induction vs generalizing xs k with
  | nil => cases h; simp; exact .nil
  | cons v vs ih =>
    cases h with
    | cons h r =>
      cases k with
      | zero => exact .cons h r
      | succ k => exact ih r k
theorem RepL.reverse (h : RepL G vs xs) : RepL G vs.reverse xs.reverse := by
  induction vs generalizing xs with
  | nil => cases h; exact .nil
  | cons v vs ih =>
    cases h with
    | cons h r => rw [List.reverse_cons, List.reverse_cons]; exact (ih r).append (.cons h .nil)
end

inductive M where
  | list (xs : List V)
  | dI (kvs : List (Int × V))
  | dS (kvs : List (Str × V))
  | dT (b : Bool) (kvs : List (V × V))
  | inst (C dx : Addr) (fs : List (Str × V))
noncomputable abbrev Store := List (Addr × M)
noncomputable def M.fp (a : Addr) : M → List Addr
  | .inst _ dx _ => [a, dx]
  | _ => [a]
noncomputable def fpS (st : Store) : List Addr := st.flatMap fun p => p.2.fp p.1

structure Cx where
  prog : Program
  w : World
  h₀ : Heap
  K : W.Frag
  mg : Str → Option Value
  mb : Str → Option Value
  kin : K.In h₀
  topg : h₀.Ns mainGlobals mg
  topb : h₀.Ns builtinsNs mb
  lim : h₀.NoLimit
  blt : ∀ x : Str, x ≠ "__name__" → mb x = bootBuiltins x
  sysm : ∃ o, h₀.get? sysModules = some o

inductive PairsRep (G : Fz) {K : Type} : List (K × Value) → List (K × V) → Prop
  | nil : PairsRep G [] []
  | cons {k : K} {v : Value} {x : V} {r : List (K × Value)} {s : List (K × V)} : Rep G v x → PairsRep G r s → PairsRep G ((k, v) :: r) ((k, x) :: s)
inductive TRep (G : Fz) : List (V × Addr × Value) → List (V × V) → Prop
  | nil : TRep G [] []
  | cons {k : V} {a : Addr} {v : Value} {x : V} {r : List (V × Addr × Value)} {s : List (V × V)} : Rep G (.ref a) k → Rep G v x → TRep G r s → TRep G ((k, a, v) :: r) ((k, x) :: s)
noncomputable def NsRep (G : Fz) (m : Str → Option Value) (fs : List (Str × V)) : Prop := ∀ n, (∀ x, fs.lookup n = some x → ∃ v, m n = some v ∧ Rep G v x) ∧ (fs.lookup n = none → m n = none)
theorem PairsRep.imp {K : Type} {G G' : Fz} (hs : SeqLe G G') {r : List (K × Value)} {s : List (K × V)} (h : PairsRep G r s) : PairsRep G' r s := by
  induction h with
  | nil => exact .nil
  | cons h _ ih => exact .cons (h.imp hs) ih
theorem TRep.imp {G G' : Fz} (hs : SeqLe G G') {r : List (V × Addr × Value)} {s : List (V × V)} (h : TRep G r s) : TRep G' r s := by
  induction h with
  | nil => exact .nil
  | cons h k _ ih => exact .cons (h.imp hs) (k.imp hs) ih
theorem NsRep.imp {G G' : Fz} (hs : SeqLe G G') {m : Str → Option Value} {fs : List (Str × V)} (h : NsRep G m fs) : NsRep G' m fs := fun n =>
  ⟨fun x e => let ⟨v, e', r⟩ := (h n).1 x e; ⟨v, e', r.imp hs⟩, (h n).2⟩

end Lay
end
section
open PySem PySem.SeqAt
namespace Lay

mutual
noncomputable def V.pu : V → Bool
  | .tup xs => puL xs
  | .lst xs => puL xs
  | .ref _ => false
  | _ => true
noncomputable def puL : List V → Bool
  | [] => true
  | x :: xs => x.pu && puL xs
end
theorem puL_mem : ∀ {xs : List V} {x : V}, puL xs = true → x ∈ xs → x.pu = true
  | [], _, _, h => nomatch h
  | y :: ys, x, h, hm => by
    simp only [puL, Bool.and_eq_true] at h
    rcases List.mem_cons.mp hm with rfl | hm
    · exact h.1
    · exact puL_mem h.2 hm

mutual
theorem Rep.inj {G : Fz} : ∀ {v : Value} {x y : V}, Rep G v x → Rep G v y → x.pu = true → y.pu = true → x = y
  | _, _, _, .none, k, _, _ => by cases k; rfl
  | _, _, _, .bool b, k, _, _ => by cases k; rfl
  | _, _, _, .int i t, k, _, _ => by cases k; rfl
  | _, _, _, .str i t, k, _, _ => by cases k; rfl
  | _, _, _, .ref a, _, h, _ => by simp [V.pu] at h
  | _, _, _, .tup h1 h2 h3 _ r, .tup k1 k2 k3 _ r', h, k => by
    rw [h1] at k1; cases k1; rw [h3] at k3; cases k3
    simp only [V.pu] at h k
    rw [RepL.inj r r' h k]
  | _, _, _, .tup h1 h2 h3 _ r, .lst k1 k2 k3 _ r', h, k => by
    rw [h1] at k1; cases k1; rw [h2] at k2; simp at k2
  | _, _, _, .tup h1 h2 h3 _ r, .ref _, h, k => by simp [V.pu] at k
  | _, _, _, .lst h1 h2 h3 _ r, .lst k1 k2 k3 _ r', h, k => by
    rw [h1] at k1; cases k1; rw [h3] at k3; cases k3
    simp only [V.pu] at h k
    rw [RepL.inj r r' h k]
  | _, _, _, .lst h1 h2 h3 _ r, .tup k1 k2 k3 _ r', h, k => by
    rw [h1] at k1; cases k1; rw [h2] at k2; simp at k2
  | _, _, _, .lst h1 h2 h3 _ r, .ref _, h, k => by simp [V.pu] at k
theorem RepL.inj {G : Fz} : ∀ {vs : List Value} {xs ys : List V}, RepL G vs xs → RepL G vs ys → puL xs = true → puL ys = true → xs = ys
  | _, _, _, .nil, k, _, _ => by cases k; rfl
  | _, _, _, .cons h r, .cons k r', p, q => by
    simp only [puL, Bool.and_eq_true] at p q
    rw [Rep.inj h k p.1 q.1, RepL.inj r r' p.2 q.2]
end

mutual
noncomputable def V.beq : V → V → Bool
  | .none, .none => true
  | .bool a, .bool b => a == b
  | .int a, .int b => a == b
  | .str a, .str b => a == b
  | .tup xs, .tup ys => beqL xs ys
  | .lst xs, .lst ys => beqL xs ys
  | .ref a, .ref b => a == b
  | _, _ => false
noncomputable def beqL : List V → List V → Bool
  | [], [] => true
  | x :: xs, y :: ys => x.beq y && beqL xs ys
  | _, _ => false
end
mutual
theorem V.beq_iff : ∀ x y : V, x.beq y = true ↔ x = y
  | .none, y => by cases y <;> simp [V.beq]
  | .bool a, y => by cases y <;> simp [V.beq]
  | .int a, y => by cases y <;> simp [V.beq]
  | .str a, y => by cases y <;> simp [V.beq]
  | .ref a, y => by cases y <;> simp [V.beq]
  | .tup xs, y => by cases y <;> simp [V.beq, beqL_iff xs]
  | .lst xs, y => by cases y <;> simp [V.beq, beqL_iff xs]
theorem beqL_iff : ∀ xs ys : List V, beqL xs ys = true ↔ xs = ys
  | [], ys => by cases ys <;> simp [beqL]
  | x :: xs, ys => by cases ys <;> simp [beqL, V.beq_iff x, beqL_iff xs]
end
open Classical in
theorem V.beq_eq (x y : V) : x.beq y = decide (x = y) := by
  by_cases h : x = y
  · rw [decide_eq_true h]; exact (V.beq_iff x y).mpr h
  · rw [decide_eq_false h]
    cases hb : x.beq y with
    | false => rfl
    | true => exact absurd ((V.beq_iff x y).mp hb) h

mutual
noncomputable def V.cmp : V → V → Bool
  | .none, .none => true
  | .bool _, .bool _ => true
  | .int _, .int _ => true
  | .str _, .str _ => true
  | .tup xs, .tup ys => cmpL xs ys
  | .lst xs, .lst ys => xs.length != ys.length || cmpL xs ys
  | _, _ => false
noncomputable def cmpL : List V → List V → Bool
  | x :: xs, y :: ys => x.cmp y && cmpL xs ys
  | _, _ => true
end
mutual
noncomputable def V.dep : V → Nat
  | .tup xs => depL xs + 1
  | .lst xs => depL xs + 1
  | _ => 0
noncomputable def depL : List V → Nat
  | [] => 0
  | x :: xs => max x.dep (depL xs)
end
theorem depL_mem : ∀ {xs : List V} {x : V}, x ∈ xs → x.dep ≤ depL xs
  | [], _, h => nomatch h
  | y :: ys, x, hm => by
    rcases List.mem_cons.mp hm with rfl | hm
    · exact Nat.le_max_left ..
    · exact Nat.le_trans (depL_mem hm) (Nat.le_max_right ..)
theorem cmpL_get : ∀ {xs ys : List V}, cmpL xs ys = true → ∀ {k : Nat} {x y : V}, xs[k]? = some x → ys[k]? = some y → x.cmp y = true
  | [], _, _, k, x, y, hx, _ => by simp at hx
  | _ :: _, [], _, k, x, y, _, hy => by simp at hy
  | u :: us, z :: zs, h, k, x, y, hx, hy => by
    simp only [cmpL, Bool.and_eq_true] at h
    cases k with
    | zero => simp at hx hy; subst hx hy; exact h.1
    | succ k => exact cmpL_get h.2 (by simpa using hx) (by simpa using hy)
theorem beqL_all : ∀ (xs ys : List V) (e : Nat → Bool), (∀ (k : Nat) x y, xs[k]? = some x → ys[k]? = some y → e k = x.beq y) →
    ((List.range (min xs.length ys.length)).all e && xs.length == ys.length) = beqL xs ys
  | [], [], e, _ => by simp [beqL]
  | [], _ :: _, e, _ => by simp [beqL]
  | _ :: _, [], e, _ => by simp [beqL]
  | x :: xs, y :: ys, e, h => by
    have ih := beqL_all xs ys (fun k => e (k + 1)) (fun k a b ha hb => h (k + 1) a b (by simpa using ha) (by simpa using hb))
    have h0 := h 0 x y rfl rfl
    simp only [List.length_cons, beqL]
    rw [← ih, ← h0, Nat.succ_min_succ, List.range_succ_eq_map, List.all_cons, List.all_map, Bool.and_assoc]
    congr 1
    congr 1
    simp
theorem eqAt_V : ∀ (d : Nat) {A : Around} {s : Shared} {G : Fz} {u v : Value} {x y : V}, (∀ a p, G a = some p → s.heap.get? a = some p.2) → A.units + d < cLine →
    x.dep ≤ d → x.cmp y = true → x.pu = true → y.pu = true → Rep G u x → Rep G v y → EqAt A s u v (x.beq y) := by
  intro d
  induction d with
  | zero =>
    intro A s G u v x y hG hu hd hc hp hq hx hy
    cases x with
    | none => cases y <;> simp [V.cmp] at hc; cases hx; cases hy; exact EqAt.same _
    | bool a =>
      cases y with
      | bool b => cases hx; cases hy; simpa [V.beq] using EqAt.bool_bool a b
      | _ => simp [V.cmp] at hc
    | int a =>
      cases y with
      | int b => cases hx; cases hy; simpa [V.beq] using EqAt.int_int a _ b _
      | _ => simp [V.cmp] at hc
    | str a =>
      cases y with
      | str b => cases hx; cases hy; simpa [V.beq] using EqAt.str_str a _ b _
      | _ => simp [V.cmp] at hc
    | tup xs => simp [V.dep] at hd
    | lst xs => simp [V.dep] at hd
    | ref a => simp [V.pu] at hp
  | succ d ih =>
    intro A s G u v x y hG hu hd hc hp hq hx hy
    have hu' : A.in1.units + d < cLine := by show A.units + 1 + d < cLine; omega
    cases x with
    | none => cases y <;> simp [V.cmp] at hc; cases hx; cases hy; exact EqAt.same _
    | bool a =>
      cases y with
      | bool b => cases hx; cases hy; simpa [V.beq] using EqAt.bool_bool a b
      | _ => simp [V.cmp] at hc
    | int a =>
      cases y with
      | int b => cases hx; cases hy; simpa [V.beq] using EqAt.int_int a _ b _
      | _ => simp [V.cmp] at hc
    | str a =>
      cases y with
      | str b => cases hx; cases hy; simpa [V.beq] using EqAt.str_str a _ b _
      | _ => simp [V.cmp] at hc
    | ref a => simp [V.pu] at hp
    | tup xs =>
      cases y with
      | tup ys =>
        have hx0 := hx
        have hy0 := hy
        cases hx with
        | @tup a o vs n _ h1 h2 h3 _ r =>
        cases hy with
        | @tup b o' ws n' _ k1 k2 k3 _ r' =>
        by_cases hab : a = b
        · subst hab
          have e : V.tup xs = V.tup ys := Rep.inj hx0 hy0 hp hq
          rw [e, (V.beq_iff _ _).mpr rfl]
          exact EqAt.same _
        · refine EqAt.of_refs hab ?_
          simp only [V.cmp] at hc
          simp only [V.pu] at hp hq
          simp only [V.dep] at hd
          have l1 := r.length
          have l2 := r'.length
          have hl1 : vs.size = xs.length := by simpa using l1
          have hl2 : ws.size = ys.length := by simpa using l2
          have key := RcAt.tuples (A := A) (s := s) (l := a) (b := b) (items := vs) (items2 := ws) (e := fun k => match xs[k]?, ys[k]? with | some x, some y => x.beq y | _, _ => true)
            ⟨o, hG _ _ h1, h2, n, h3⟩ ⟨o', hG _ _ k1, k2, n', k3⟩ (by omega) (fun j h1' h2' => by
              have g1 : xs[j]? = some (xs[j]'(by omega)) := List.getElem?_eq_getElem _
              have g2 : ys[j]? = some (ys[j]'(by omega)) := List.getElem?_eq_getElem _
              obtain ⟨v1, e1, q1⟩ := r.get g1
              obtain ⟨v2, e2, q2⟩ := r'.get g2
              have e1' : vs[j] = v1 := by rw [Array.getElem?_toList, Array.getElem?_eq_getElem h1'] at e1; exact Option.some.inj e1
              have e2' : ws[j] = v2 := by rw [Array.getElem?_toList, Array.getElem?_eq_getElem h2'] at e2; exact Option.some.inj e2
              rw [e1', e2']
              show EqAt A.in1 s v1 v2 (match xs[j]?, ys[j]? with | some x, some y => x.beq y | _, _ => true)
              rw [g1, g2]
              have m1 : xs[j]'(by omega) ∈ xs := List.getElem_mem _
              have m2 : ys[j]'(by omega) ∈ ys := List.getElem_mem _
              exact ih hG hu' (by have := depL_mem m1; omega) (cmpL_get hc g1 g2) (puL_mem hp m1) (puL_mem hq m2) q1 q2)
          rw [hl1, hl2, beqL_all xs ys _ (fun k x y hx hy => by simp only [hx, hy])] at key
          simpa [V.beq] using key
      | _ => simp [V.cmp] at hc
    | lst xs =>
      cases y with
      | lst ys =>
        have hx0 := hx
        have hy0 := hy
        cases hx with
        | @lst a o vs n _ h1 h2 h3 _ r =>
        cases hy with
        | @lst b o' ws n' _ k1 k2 k3 _ r' =>
        by_cases hab : a = b
        · subst hab
          have e : V.lst xs = V.lst ys := Rep.inj hx0 hy0 hp hq
          rw [e, (V.beq_iff _ _).mpr rfl]
          exact EqAt.same _
        · refine EqAt.of_refs hab ?_
          simp only [V.cmp, Bool.or_eq_true, bne_iff_ne] at hc
          simp only [V.pu] at hp hq
          simp only [V.dep] at hd
          have l1 := r.length
          have l2 := r'.length
          have hl1 : vs.size = xs.length := by simpa using l1
          have hl2 : ws.size = ys.length := by simpa using l2
          by_cases hlen : xs.length = ys.length
          · have hc' := hc.resolve_left (fun h => h hlen)
            have key := RcAt.lists (A := A) (s := s) (l := a) (b := b) (items := vs) (items2 := ws) (e := fun k => match xs[k]?, ys[k]? with | some x, some y => x.beq y | _, _ => true)
              ⟨o, hG _ _ h1, h2, n, h3⟩ ⟨o', hG _ _ k1, k2, n', k3⟩ (by omega) (by omega) (fun j h1' h2' => by
                have g1 : xs[j]? = some (xs[j]'(by omega)) := List.getElem?_eq_getElem _
                have g2 : ys[j]? = some (ys[j]'(by omega)) := List.getElem?_eq_getElem _
                obtain ⟨v1, e1, q1⟩ := r.get g1
                obtain ⟨v2, e2, q2⟩ := r'.get g2
                have e1' : vs[j] = v1 := by rw [Array.getElem?_toList, Array.getElem?_eq_getElem h1'] at e1; exact Option.some.inj e1
                have e2' : ws[j] = v2 := by rw [Array.getElem?_toList, Array.getElem?_eq_getElem h2'] at e2; exact Option.some.inj e2
                rw [e1', e2']
                show EqAt A.in1 s v1 v2 (match xs[j]?, ys[j]? with | some x, some y => x.beq y | _, _ => true)
                rw [g1, g2]
                have m1 : xs[j]'(by omega) ∈ xs := List.getElem_mem _
                have m2 : ys[j]'(by omega) ∈ ys := List.getElem_mem _
                exact ih hG hu' (by have := depL_mem m1; omega) (cmpL_get hc' g1 g2) (puL_mem hp m1) (puL_mem hq m2) q1 q2)
            have hb := beqL_all xs ys (fun k => match xs[k]?, ys[k]? with | some x, some y => x.beq y | _, _ => true) (fun k x y hx hy => by simp only [hx, hy])
            rw [hlen, Nat.min_self, beq_self_eq_true, Bool.and_true] at hb
            rw [hl1, hlen, hb] at key
            simpa [V.beq] using key
          · have key := RcAt.lists_lengths (A := A) (s := s) (l := a) (b := b) (items := vs) (items2 := ws) ⟨o, hG _ _ h1, h2, n, h3⟩ ⟨o', hG _ _ k1, k2, n', k3⟩ (by simp; omega) (by omega)
            have : (V.lst xs).beq (V.lst ys) = false := by
              cases hb : (V.lst xs).beq (V.lst ys) with
              | false => rfl
              | true =>
                have := (V.beq_iff _ _).mp hb
                injection this with this
                exact absurd (by rw [this]) hlen
            rw [this]; exact key
      | _ => simp [V.cmp] at hc
end Lay
end
section
open PySem PySem.SeqAt
namespace Lay

mutual
noncomputable def V.hb : V → Bool
  | .int _ => true
  | .tup xs => hbL xs
  | _ => false
noncomputable def hbL : List V → Bool
  | [] => true
  | x :: xs => x.hb && hbL xs
end
theorem hbL_mem : ∀ {xs : List V} {x : V}, hbL xs = true → x ∈ xs → x.hb = true
  | [], _, _, h => nomatch h
  | y :: ys, x, h, hm => by
    simp only [hbL, Bool.and_eq_true] at h
    rcases List.mem_cons.mp hm with rfl | hm
    · exact h.1
    · exact hbL_mem h.2 hm
mutual
theorem V.pu_of_hb : ∀ {x : V}, x.hb = true → x.pu = true
  | .int _, _ => rfl
  | .tup xs, h => by simp only [V.hb] at h; simp only [V.pu]; exact puL_of_hb h
  | .none, h => by simp [V.hb] at h
  | .bool _, h => by simp [V.hb] at h
  | .str _, h => by simp [V.hb] at h
  | .lst _, h => by simp [V.hb] at h
  | .ref _, h => by simp [V.hb] at h
theorem puL_of_hb : ∀ {xs : List V}, hbL xs = true → puL xs = true
  | [], _ => rfl
  | x :: xs, h => by simp only [hbL, Bool.and_eq_true] at h; simp only [puL, Bool.and_eq_true]; exact ⟨V.pu_of_hb h.1, puL_of_hb h.2⟩
end
mutual
noncomputable def V.hash : V → Int
  | .int i => hashInt i
  | .tup xs => reduceHash (Builtin.Tuple.tupleHashOf (hashL xs))
  | _ => 0
noncomputable def hashL : List V → List Int
  | [] => []
  | x :: xs => x.hash :: hashL xs
end
theorem hashL_append : ∀ xs ys : List V, hashL (xs ++ ys) = hashL xs ++ hashL ys
  | [], _ => rfl
  | x :: xs, ys => by simp [hashL, hashL_append xs ys]
mutual
noncomputable def V.drs : V → Nat
  | .int _ => 1
  | .tup xs => drsL xs + 1
  | _ => 0
noncomputable def drsL : List V → Nat
  | [] => 0
  | x :: xs => x.drs + drsL xs
end
theorem drsL_append : ∀ xs ys : List V, drsL (xs ++ ys) = drsL xs + drsL ys
  | [], _ => by simp [drsL]
  | x :: xs, ys => by simp [drsL, drsL_append xs ys]; omega

theorem wp_pyHash {prog : Program} {w : World} : ∀ (d : Nat) {A : Around} {E : Value → Shared → Prop} {s : Shared} {G : Fz} {v : Value} {x : V} {Q : Int → Shared → Prop}, (∀ a p, G a = some p → s.heap.get? a = some p.2) →
    x.hb = true → x.dep ≤ d → A.units + d < cLine → Rep G v x → Q x.hash { s with toks := s.toks + x.drs } → wpAny (model prog w) A (pyHash v) Q E s := by
  intro d
  induction d with
  | zero =>
    intro A E s G v x Q hG hb hd hu hx h
    cases x with
    | int i => cases hx; exact wpAny_pyHash_int h
    | tup xs => simp [V.dep] at hd
    | _ => simp [V.hb] at hb
  | succ d ih =>
    intro A E s G v x Q hG hb hd hu hx h
    cases x with
    | int i => cases hx; exact wpAny_pyHash_int h
    | tup xs =>
      cases hx with
      | @tup a o vs n _ h1 h2 h3 _ r =>
      have ho := hG _ _ h1
      have hT : s.TypeIs (.ref a) "tuple" := ⟨o, ho, h2⟩
      simp only [V.hb] at hb
      simp only [V.dep] at hd
      unfold pyHash
      first | unfold pyHashByItsType | skip
      first | refine wpAny_bind (wpAny_cRoomFor_or (.inr (by omega)) ?_) | skip
      refine wpAny_bind (wpAny_specialOf hT F.slot_tuple_hash.lookup ?_)
      show wpAny _ _ (if (some (Value.builtin "tuple.__hash__") == some Value.none) = true then _ else _) Q E s
      rw [if_neg (by rw [beq_builtin_none]; exact Bool.false_ne_true)]
      refine wpAny_bind (wpAny_specialOf hT F.slot_tuple_hash.lookup ?_)
      show wpAny _ _ (callSpecialIfBoundUnlessNone? (.ref a) "__hash__" _ >>= _) Q E s
      refine wpAny_bind (wpAny_callSpecialIfBoundUnlessNone?_slot hT F.slot_tuple_hash (wpAny_call_entry F.slot_tuple_hash hT F.entry_tuple_hash ?_ (F.args_tuple_hash_1 _)))
      show wpAny _ _ (Builtin.Tuple.tupleItemsOf (.ref a) >>= _) _ _ s
      refine wpAny_bind (wpAny_tupleItemsOf ho h3 ?_)
      refine wpAny_bind ?_
      rw [← Array.forIn_toList]
      have hu' : A.in1.units + d < cLine := by show A.units + 1 + d < cLine; omega
      refine wpAny_forIn_list _
        (fun rest (b : Array Int) s' => ∃ done left, xs = done ++ left ∧ RepL G rest left ∧ b.toList = hashL done ∧ s' = { s with toks := s.toks + drsL done })
        _ ?_ ?_ _ _ ⟨[], xs, rfl, r, rfl, rfl⟩
      · rintro y rest b s' ⟨done, left, rfl, hl, hb', rfl⟩
        cases hl with
        | @cons _ _ k ks' h1 hl' =>
          refine wpAny_bind (ih (s := { s with toks := s.toks + drsL done }) hG (hbL_mem hb (by simp)) (by have := depL_mem (xs := done ++ k :: ks') (x := k) (by simp); omega) hu' h1 ?_)
          first
            | exact wpAny_pure ⟨done ++ [k], ks', by simp, hl', by simp [hb', hashL_append, hashL], by simp [drsL_append, drsL, Nat.add_assoc]⟩
            | exact wpAny_bind (wpAny_pure (wpAny_pure ⟨done ++ [k], ks', by simp, hl', by simp [hb', hashL_append, hashL], by simp [drsL_append, drsL, Nat.add_assoc]⟩))
      · rintro b s' ⟨done, left, rfl, hl, hb', rfl⟩
        cases hl
        rw [List.append_nil] at h
        show wpAny _ _ (retInt (Builtin.Tuple.tupleHashOf b.toList)) _ _ _
        rw [hb']
        refine wpAny_ret_mkInt ?_
        show wpAny _ _ (if (decide (-(2 : Int) ^ 63 ≤ Builtin.Tuple.tupleHashOf (hashL done)) && decide (Builtin.Tuple.tupleHashOf (hashL done) < 2 ^ 63)) = true then _ else _) Q E _
        simp only [V.hash, V.drs] at h
        unfold reduceHash at h
        by_cases hr : (decide (-(2 : Int) ^ 63 ≤ Builtin.Tuple.tupleHashOf (hashL done)) && decide (Builtin.Tuple.tupleHashOf (hashL done) < 2 ^ 63)) = true
        · rw [if_pos hr]
          rw [if_pos hr] at h
          exact wpAny_pure (by simpa [Nat.add_assoc] using h)
        · rw [if_neg hr]
          rw [if_neg hr] at h
          exact wpAny_bind (wpAny_rule (wpAny_pure (by simpa [Nat.add_assoc] using h)))
    | _ => simp [V.hb] at hb

noncomputable def isK : Bool → V → Prop
  | false, x => ∃ is : List Int, x = .tup (is.map .int)
  | true, x => ∃ (r : Int) (is : List Int), x = .tup [.int r, .tup (is.map .int)]
theorem hbL_ints : ∀ is : List Int, hbL (is.map .int) = true
  | [] => rfl
  | i :: r => by simp [hbL, V.hb, hbL_ints r]
theorem depL_ints : ∀ is : List Int, depL (is.map .int) = 0
  | [] => rfl
  | i :: r => by simp [depL, V.dep, depL_ints r]
theorem cmpL_ints : ∀ is js : List Int, cmpL (is.map .int) (js.map .int) = true
  | [], js => by cases js <;> rfl
  | i :: r, [] => rfl
  | i :: r, j :: q => by simp [cmpL, V.cmp, cmpL_ints r q]
theorem isK.hb {b : Bool} {x : V} (h : isK b x) : x.hb = true := by
  cases b with
  | false => obtain ⟨is, rfl⟩ := h; simp [V.hb, hbL_ints]
  | true => obtain ⟨r, is, rfl⟩ := h; simp [V.hb, hbL, hbL_ints]
theorem isK.dep {b : Bool} {x : V} (h : isK b x) : x.dep ≤ 2 := by
  cases b with
  | false => obtain ⟨is, rfl⟩ := h; simp [V.dep, depL_ints]
  | true => obtain ⟨r, is, rfl⟩ := h; simp [V.dep, depL, depL_ints]
theorem isK.cmp {b : Bool} {x y : V} (h : isK b x) (k : isK b y) : x.cmp y = true := by
  cases b with
  | false => obtain ⟨is, rfl⟩ := h; obtain ⟨js, rfl⟩ := k; simp [V.cmp, cmpL_ints]
  | true => obtain ⟨r, is, rfl⟩ := h; obtain ⟨q, js, rfl⟩ := k; simp [V.cmp, cmpL, cmpL_ints]
noncomputable def full (h : Heap) : Fz := fun a => (h.get? a).map (Prod.mk true)
theorem full_iff {h : Heap} {a : Addr} {b : Bool} {o : Obj} : full h a = some (b, o) ↔ b = true ∧ h.get? a = some o := by
  unfold full
  cases e : h.get? a with
  | none => simp
  | some o' => simp [eq_comm]
theorem full_sub {h : Heap} {a : Addr} {p : Bool × Obj} (e : full h a = some p) : h.get? a = some p.2 := (full_iff (b := p.1) (o := p.2)).mp e |>.2
theorem rep_sameBut {h h' : Heap} {v : Value} {x : V} {d : Addr} {o : Obj} {es : Array DictEntry} {ep : Nat} (r : Rep (full h) v x) (ho : h.get? d = some o) (hd : o.data = .dict es ep) (hs : Heap.SameBut d h h') : Rep (full h') v x := by
  refine r.imp fun a o' vs n e e' => ?_
  have e0 := (full_iff.mp e).2
  have : a ≠ d := by rintro rfl; rw [ho] at e0; cases e0; rw [hd] at e'; cases e'
  exact full_iff.mpr ⟨rfl, by rw [hs.2 a this]; exact e0⟩
open Classical in
noncomputable def vKind (prog : Program) (w : World) (b : Bool) : HeapKind prog w V where
  is := fun h x a => isK b x ∧ Rep (full h) (.ref a) x
  hash := V.hash
  draws := V.drs
  room := fun A => A.units + 3 < cLine
  inj := fun hx hy => Rep.inj hx.2 hy.2 (V.pu_of_hb hx.1.hb) (V.pu_of_hb hy.1.hb)
  keeps := fun x ho hd hs => ⟨x.1, rep_sameBut x.2 ho hd hs⟩
  pyHash := fun hu hk h => wp_pyHash 2 (fun _ _ e => full_sub e) hk.1.hb hk.1.dep (by omega) hk.2 h
  eqBool := fun {A E s x y a b' Q} hu hx hy h => by
    have := eqAt_V 2 (A := A) (s := s) (fun _ _ e => full_sub e) (by omega) hx.1.dep (hx.1.cmp hy.1) (V.pu_of_hb hx.1.hb) (V.pu_of_hb hy.1.hb) hx.2 hy.2
    rw [V.beq_eq] at this
    exact this prog w E Q h
  quiet := fun {A E s k a Q} hk h => by
    obtain ⟨hk, r⟩ := hk
    have hb := hk.hb
    cases k with
    | int i => cases r
    | tup xs =>
      cases r with
      | @tup _ o vs n _ h1 h2 h3 _ r =>
      have hT : s.TypeIs (.ref a) "tuple" := ⟨o, full_sub h1, h2⟩
      have quietInt : ∀ (n : Nat) (v : Value), (∃ i t, v = .int i t) → eqIsQuiet n v = pure true := fun n v ⟨i, t, e⟩ => eqIsQuiet_byValue n (by rw [e]; rfl)
      have flat : ∀ (m : Nat) (a : Addr) (o : Obj) (vs : Array Value) (n : Nat) (Q' : Bool → Shared → Prop) (E' : Value → Shared → Prop), s.heap.get? a = some o → o.cls = .type "tuple" → o.data = .seq vs n →
          (∀ v ∈ vs.toList, ∀ Q'' E'', Q'' true s → wpAny (model prog w) A (eqIsQuiet m v) Q'' E'' s) → Q' true s → wpAny (model prog w) A (eqIsQuiet (m + 1) (.ref a)) Q' E' s := by
        intro m a o vs n Q' E' ho hc hd hall hq
        have hT : s.TypeIs (.ref a) "tuple" := ⟨o, ho, hc⟩
        unfold eqIsQuiet
        refine wpAny_bind (wpAny_specialOf hT F.slot_tuple_eq.lookup ?_)
        show wpAny _ _ (isInstance (.ref a) (.type "tuple") >>= _) _ _ s
        refine wpAny_bind (wpAny_isInstance hT isSubtype_tuple_tuple ?_)
        simp only [Bool.not_true, Bool.false_eq_true, if_false]
        refine wpAny_bind (wpAny_seqItems ho hd ?_)
        refine wpAny_bind ?_
        show wpAny _ _ (forIn vs _ _) _ _ s
        rw [← Array.forIn_toList]
        refine wpAny_forIn_list _ (fun rest r s' => r.1 = none ∧ s' = s ∧ ∀ v ∈ rest, v ∈ vs.toList) _ ?_ ?_ _ _ ⟨rfl, rfl, fun _ h => h⟩
        · rintro v rest r s' ⟨hr, rfl, hm⟩
          refine wpAny_bind (hall v (hm v List.mem_cons_self) _ _ ?_)
          simp only [Bool.not_true, Bool.false_eq_true, if_false]
          exact wpAny_pure ⟨rfl, rfl, fun u hu' => hm u (List.mem_cons_of_mem _ hu')⟩
        · rintro ⟨r1, r2⟩ s' ⟨hr, rfl, _⟩
          simp only at hr
          subst hr
          exact wpAny_pure hq
      have item : ∀ (m : Nat) (v : Value) (x : V), Rep (full s.heap) v x → (∃ i, x = .int i) → ∀ Q'' E'', Q'' true s → wpAny (model prog w) A (eqIsQuiet m v) Q'' E'' s := by
        rintro m v x r ⟨i, rfl⟩ Q'' E'' hq
        cases r
        rw [quietInt m _ ⟨_, _, rfl⟩]; exact wpAny_pure hq
      refine flat 7 a o vs n Q E (full_sub h1) h2 h3 (fun v hv Q'' E'' hq => ?_) h
      obtain ⟨k, hk'⟩ := List.mem_iff_getElem?.mp hv
      obtain ⟨x, hx, rx⟩ := r.get' hk'
      have hmem : x ∈ xs := List.mem_of_getElem? hx
      cases b with
      | false =>
        obtain ⟨is, e⟩ := hk
        injection e with e
        subst e
        obtain ⟨i, _, rfl⟩ := List.mem_map.mp hmem
        exact item 7 v _ rx ⟨i, rfl⟩ Q'' E'' hq
      | true =>
        obtain ⟨r0, is, e⟩ := hk
        injection e with e
        subst e
        rcases List.mem_cons.mp hmem with rfl | hmem
        · exact item 7 v _ rx ⟨_, rfl⟩ Q'' E'' hq
        · rw [List.mem_singleton.mp hmem] at rx
          cases rx with
          | @tup a2 o2 vs2 n2 _ k1 k2 k3 _ r2 =>
          refine flat 6 a2 o2 vs2 n2 Q'' E'' (full_sub k1) k2 k3 (fun v hv Q'' E'' hq => ?_) hq
          obtain ⟨k, hk'⟩ := List.mem_iff_getElem?.mp hv
          obtain ⟨x, hx, rx⟩ := r2.get' hk'
          obtain ⟨i, _, rfl⟩ := List.mem_map.mp (List.mem_of_getElem? hx)
          exact item 6 v _ rx ⟨i, rfl⟩ Q'' E'' hq
    | _ => simp [V.hb] at hb
end Lay
end
section
open PySem PySem.SeqAt
namespace Lay

open Classical in
noncomputable def DH (c : Cx) (b : Bool) (h : Heap) (a : Addr) (l : List (V × Addr × Value)) : Prop := h.DictOfH (vKind c.prog c.w b) a l

noncomputable def NsN (h : Heap) (a : Addr) (k : Nat) (m : Str → Option Value) : Prop := ∃ o es ep, h.get? a = some o ∧ o.data = .dict es ep ∧ (StrKeys es ∧ ∀ name, nsFind es name = m name) ∧ es.size ≤ k
theorem NsN.ns {h : Heap} {a : Addr} {k : Nat} {m : Str → Option Value} (x : NsN h a k m) : h.Ns a m := let ⟨o, es, ep, e, d, r, _⟩ := x; ⟨o, es, ep, e, d, r⟩
noncomputable def IsM (c : Cx) (G : Fz) (h : Heap) (a : Addr) : M → Prop
  | .list xs => ∃ o vs n, h.get? a = some o ∧ o.cls = .type "list" ∧ o.data = .seq vs n ∧ (o.dict = none ∧ o.slots = #[]) ∧ RepL G vs.toList xs
  | .dI kvs => ∃ l, h.DictOf (intKind c.prog c.w) a l ∧ PairsRep G l kvs
  | .dS kvs => ∃ l, h.DictOf (strKind c.prog c.w) a l ∧ PairsRep G l kvs
  | .dT b kvs => ∃ l, DH c b h a l ∧ TRep G l kvs
  | .inst C dx fs => h.get? a = some (W.instObj C dx) ∧ ∃ m, NsN h dx fs.length m ∧ NsRep G m fs

theorem TRep.mem {G : Fz} {l : List (V × Addr × Value)} {kvs : List (V × V)} (h : TRep G l kvs) : ∀ p ∈ l, Rep G (.ref p.2.1) p.1 := by
  induction h with
  | nil => intro _ h; cases h
  | cons h k _ ih =>
    intro p hp
    rcases List.mem_cons.mp hp with rfl | hp
    · exact h
    · exact ih p hp

theorem IsM.to {c : Cx} {G G' : Fz} {h h' : Heap} {a : Addr} {m : M} (x : IsM c G h a m) (hs : SeqLe G G') (hsub : ∀ b p, G' b = some p → h'.get? b = some p.2) (hk : ∀ b ∈ m.fp a, ∀ o, h.get? b = some o → h'.get? b = some o) :
    IsM c G' h' a m := by
  cases m with
  | list xs =>
    obtain ⟨o, vs, n, ho, hc, hd, hn, r⟩ := x
    exact ⟨o, vs, n, hk a (by simp [M.fp]) _ ho, hc, hd, hn, r.imp hs⟩
  | dI kvs =>
    obtain ⟨l, ⟨o, es, ep, ho, r⟩, p⟩ := x
    exact ⟨l, ⟨o, es, ep, hk a (by simp [M.fp]) _ ho, r⟩, p.imp hs⟩
  | dS kvs =>
    obtain ⟨l, ⟨o, es, ep, ho, r⟩, p⟩ := x
    exact ⟨l, ⟨o, es, ep, hk a (by simp [M.fp]) _ ho, r⟩, p.imp hs⟩
  | dT b kvs =>
    obtain ⟨l, ⟨o, es, ep, ho, h1, h2, h3, h4, h5⟩, p⟩ := x
    exact ⟨l, ⟨o, es, ep, hk a (by simp [M.fp]) _ ho, h1, h2, h3, fun q hq => ⟨(h4 q hq).1, (p.mem q hq).imp fun b o vs n e e' => full_iff.mpr ⟨rfl, hsub b _ (hs b o vs n e e')⟩⟩, h5⟩, p.imp hs⟩
  | inst C dx fs =>
    obtain ⟨h1, m, ⟨o, es, ep, h2, h3⟩, r⟩ := x
    exact ⟨hk a (by simp [M.fp]) _ h1, m, ⟨o, es, ep, hk dx (by simp [M.fp]) _ h2, h3⟩, r.imp hs⟩
theorem IsM.there {c : Cx} {G : Fz} {h : Heap} {a : Addr} {m : M} (x : IsM c G h a m) : ∀ b ∈ m.fp a, ∃ o, h.get? b = some o := by
  intro b hb
  cases m with
  | list xs => obtain ⟨o, vs, n, ho, _⟩ := x; simp [M.fp] at hb; subst hb; exact ⟨o, ho⟩
  | dI kvs => obtain ⟨l, ⟨o, es, ep, ho, r⟩, p⟩ := x; simp [M.fp] at hb; subst hb; exact ⟨o, ho⟩
  | dS kvs => obtain ⟨l, ⟨o, es, ep, ho, r⟩, p⟩ := x; simp [M.fp] at hb; subst hb; exact ⟨o, ho⟩
  | dT k kvs => obtain ⟨l, ⟨o, es, ep, ho, r⟩, p⟩ := x; simp [M.fp] at hb; subst hb; exact ⟨o, ho⟩
  | inst C dx fs =>
    obtain ⟨h1, m, ⟨o, es, ep, h2, h3⟩, r⟩ := x
    simp [M.fp] at hb
    rcases hb with rfl | rfl
    · exact ⟨_, h1⟩
    · exact ⟨_, h2⟩

structure HS (c : Cx) (G : Fz) (st : Store) (h : Heap) : Prop where
  sub : ∀ a p, G a = some p → h.get? a = some p.2
  base : ∀ a o, c.h₀.get? a = some o → G a = some (true, o)
  objs : ∀ p ∈ st, IsM c G h p.1 p.2
  nod : (fpS st).Nodup
  apart : ∀ b ∈ fpS st, G b = none

structure FS (c : Cx) (G : Fz) (env : Env) (oc : List Addr) (vs : Vars) (h : Heap) : Prop where
  kind : env.scope.kind = .function
  glob : env.globals = mainGlobals
  bltn : env.builtins = builtinsNs
  loc : ∃ m, h.Ns env.locals m ∧ ∀ x v, vs x = some v → ∃ a, Rep G a v ∧
    ((env.kindOf x = some .local ∧ m x = some a) ∨ (env.kindOf x = some .cell ∧ ∃ k, env.cells.lookup x = some k ∧ h.IsCell k (some a)))
  cells : ∀ x k, env.cells.lookup x = some k → (∃ v, h.IsCell k v) ∧ (k ∈ oc ∨ ∃ o, G k = some o)
  inj : ∀ x y k, env.cells.lookup x = some k → env.cells.lookup y = some k → x = y
  own : ∀ k ∈ oc, ∃ v, h.IsCell k v
  nod : env.locals ∉ oc
  apart : ∀ b ∈ env.locals :: oc, G b = none

structure St (c : Cx) (G : Fz) (env : Env) (oc : List Addr) (vs : Vars) (st : Store) (h : Heap) : Prop where
  hs : HS c G st h
  fs : FS c G env oc vs h
  dis : ∀ b ∈ env.locals :: oc, b ∉ fpS st

theorem fpS_append (a b : Store) : fpS (a ++ b) = fpS a ++ fpS b := by simp [fpS]
theorem fpS_sub {st st' : Store} (h : st'.Sublist st) : (fpS st').Sublist (fpS st) := by
  induction h with
  | slnil => exact .slnil
  | @cons l₁ l₂ a _ ih => exact ih.trans (List.sublist_append_right (a.2.fp a.1) (fpS l₂))
  | @cons_cons l₁ l₂ a _ ih => exact (List.Sublist.refl (a.2.fp a.1)).append ih
theorem mem_fpS {st : Store} {a : Addr} {m : M} {b : Addr} (h : (a, m) ∈ st) (hb : b ∈ m.fp a) : b ∈ fpS st := List.mem_flatMap.mpr ⟨(a, m), h, hb⟩

theorem HS.there {c : Cx} {G : Fz} {st : Store} {h : Heap} (H : HS c G st h) : ∀ b ∈ fpS st, ∃ o, h.get? b = some o := by
  intro b hb
  obtain ⟨p, hp, hb⟩ := List.mem_flatMap.mp hb
  exact (H.objs p hp).there b hb
theorem FS.there {c : Cx} {G : Fz} {env : Env} {oc : List Addr} {vs : Vars} {h : Heap} (F : FS c G env oc vs h) : ∀ b ∈ env.locals :: oc, ∃ o, h.get? b = some o ∧ ∀ vs n, o.data ≠ .seq vs n := by
  intro b hb
  rcases List.mem_cons.mp hb with rfl | hb
  · obtain ⟨m, ⟨o, es, ep, ho, hd, _⟩, _⟩ := F.loc
    exact ⟨o, ho, fun _ _ e => by rw [hd] at e; cases e⟩
  · obtain ⟨v, o, ho, hd⟩ := F.own b hb
    exact ⟨o, ho, fun _ _ e => by rw [hd] at e; cases e⟩

theorem HS.to {c : Cx} {G G' : Fz} {st : Store} {h h' : Heap} (H : HS c G st h) (hb : ∀ a o, c.h₀.get? a = some o → G' a = some (true, o)) (hle : SeqLe G G') (hsub : ∀ a p, G' a = some p → h'.get? a = some p.2)
    (hk : ∀ b ∈ fpS st, ∀ o, h.get? b = some o → h'.get? b = some o) (hap : ∀ b ∈ fpS st, G' b = none) : HS c G' st h' where
  sub := hsub
  base := hb
  objs := fun p hp => (H.objs p hp).to hle hsub fun b hb => hk b (mem_fpS hp hb)
  nod := H.nod
  apart := hap

theorem FS.to {c : Cx} {G G' : Fz} {env : Env} {oc : List Addr} {vs : Vars} {h h' : Heap} (F : FS c G env oc vs h) (hG : ∀ a p, G a = some p → h.get? a = some p.2) (hle : Le G G') (hsub : ∀ a p, G' a = some p → h'.get? a = some p.2)
    (hk : ∀ b ∈ env.locals :: oc, ∀ o, h.get? b = some o → h'.get? b = some o) (hap : ∀ b ∈ env.locals :: oc, G' b = none) : FS c G' env oc vs h' := by
  have cellk : ∀ x k, env.cells.lookup x = some k → ∀ o, h.get? k = some o → h'.get? k = some o := by
    intro x k hx o ho
    rcases (F.cells x k hx).2 with hk' | ⟨o', ho'⟩
    · exact hk k (List.mem_cons_of_mem _ hk') o ho
    · have := hG _ _ ho'
      rw [ho] at this
      cases this
      exact hsub _ _ (hle _ _ ho')
  refine ⟨F.kind, F.glob, F.bltn, ?_, ?_, F.inj, ?_, F.nod, hap⟩
  · obtain ⟨m, hn, hv⟩ := F.loc
    obtain ⟨o, es, ep, ho, r⟩ := hn
    refine ⟨m, ⟨o, es, ep, hk _ List.mem_cons_self _ ho, r⟩, fun x v hx => ?_⟩
    obtain ⟨a, ra, hd⟩ := hv x v hx
    refine ⟨a, ra.imp hle.seq, hd.imp id ?_⟩
    rintro ⟨h1, k, h2, o, h3, h4⟩
    exact ⟨h1, k, h2, o, cellk x k h2 _ h3, h4⟩
  · intro x k hx
    obtain ⟨⟨v, o, ho, hd⟩, r⟩ := F.cells x k hx
    exact ⟨⟨v, o, cellk x k hx _ ho, hd⟩, r.imp id fun ⟨o, e⟩ => ⟨o, hle _ _ e⟩⟩
  · intro k hk'
    obtain ⟨v, o, ho, hd⟩ := F.own k hk'
    exact ⟨v, o, hk k (List.mem_cons_of_mem _ hk') _ ho, hd⟩

section
variable {c : Cx} {G G' : Fz} {env : Env} {oc : List Addr} {vs : Vars} {st : Store} {h h' : Heap}
theorem St.to (S : St c G env oc vs st h) (hle : Le G G') (hsub : ∀ a p, G' a = some p → h'.get? a = some p.2)
    (hk : ∀ b, b ∈ env.locals :: oc ∨ b ∈ fpS st → ∀ o, h.get? b = some o → h'.get? b = some o) (hap : ∀ b, b ∈ env.locals :: oc ∨ b ∈ fpS st → G' b = none) : St c G' env oc vs st h' :=
  ⟨S.hs.to (fun a o e => hle _ _ (S.hs.base a o e)) hle.seq hsub (fun b hb => hk b (.inr hb)) fun b hb => hap b (.inr hb),
    S.fs.to S.hs.sub hle hsub (fun b hb => hk b (.inl hb)) fun b hb => hap b (.inl hb), S.dis⟩
theorem St.there (S : St c G env oc vs st h) : ∀ b, b ∈ env.locals :: oc ∨ b ∈ fpS st → ∃ o, h.get? b = some o := fun b hb =>
  hb.elim (fun hb => let ⟨o, e, _⟩ := S.fs.there b hb; ⟨o, e⟩) (S.hs.there b)
theorem St.off (S : St c G env oc vs st h) : ∀ b, b ∈ env.locals :: oc ∨ b ∈ fpS st → G b = none := fun b hb => hb.elim (S.fs.apart b) (S.hs.apart b)

theorem St.grow (S : St c G env oc vs st h) (hk : ∀ b o, h.get? b = some o → h'.get? b = some o) : St c G env oc vs st h' :=
  S.to (Le.refl _) (fun a o e => hk _ _ (S.hs.sub a o e)) (fun b _ o e => hk b o e) S.off

noncomputable def put (G : Fz) (a : Addr) (o : Obj) : Fz := fun b => if b = a then some (true, o) else G b
theorem put_self {a : Addr} {o : Obj} : put G a o a = some (true, o) := if_pos rfl
theorem put_le {a : Addr} {o : Obj} (h : G a = none) : Le G (put G a o) := fun b o' e => by
  unfold put
  by_cases hb : b = a
  · subst hb; rw [h] at e; cases e
  · rw [if_neg hb]; exact e

theorem St.frz {a : Addr} {o : Obj} (S : St c G env oc vs st h) (hn : h.get? a = none) (ha : h'.get? a = some o) (hk : ∀ b o, h.get? b = some o → h'.get? b = some o) : Le G (put G a o) ∧ St c (put G a o) env oc vs st h' := by
  have hG : G a = none := by
    cases e : G a with
    | none => rfl
    | some o' => have := S.hs.sub _ _ e; rw [hn] at this; cases this
  refine ⟨put_le hG, S.to (put_le hG) (fun b o' e => ?_) (fun b _ o e => hk b o e) fun b hb => ?_⟩
  · unfold put at e
    by_cases hba : b = a
    · subst hba; rw [if_pos rfl] at e; cases e; exact ha
    · rw [if_neg hba] at e; exact hk _ _ (S.hs.sub _ _ e)
  · unfold put
    have hba : b ≠ a := by rintro rfl; obtain ⟨o', e⟩ := S.there b hb; rw [hn] at e; cases e
    rw [if_neg hba]; exact S.off b hb

theorem St.new {a : Addr} {m : M} (S : St c G env oc vs st h) (hm : IsM c G h' a m) (hf : ∀ b ∈ m.fp a, h.get? b = none) (hn : (m.fp a).Nodup) (hk : ∀ b o, h.get? b = some o → h'.get? b = some o) :
    St c G env oc vs ((a, m) :: st) h' := by
  have S' := S.grow hk
  refine ⟨⟨S'.hs.sub, S'.hs.base, ?_, ?_, ?_⟩, S'.fs, ?_⟩
  · intro p hp
    rcases List.mem_cons.mp hp with rfl | hp
    · exact hm
    · exact S'.hs.objs p hp
  · show (m.fp a ++ fpS st).Nodup
    refine List.nodup_append.mpr ⟨hn, S'.hs.nod, fun x hx y hy => ?_⟩
    rintro rfl
    obtain ⟨o, e⟩ := S.hs.there x hy
    rw [hf x hx] at e; cases e
  · intro b hb
    rcases List.mem_append.mp (show b ∈ m.fp a ++ fpS st from hb) with hb | hb
    · cases e : G b with
      | none => rfl
      | some o' => have := S.hs.sub _ _ e; rw [hf b hb] at this; cases this
    · exact S'.hs.apart b hb
  · intro b hb hb'
    rcases List.mem_append.mp (show b ∈ m.fp a ++ fpS st from hb') with hb' | hb'
    · obtain ⟨o, e, _⟩ := S.fs.there b hb
      rw [hf b hb'] at e; cases e
    · exact S'.dis b hb hb'

inductive Upd (a : Addr) (m m' : M) : Store → Store → Prop
  | head {r : Store} : Upd a m m' ((a, m) :: r) ((a, m') :: r)
  | tail {p : Addr × M} {r r' : Store} : Upd a m m' r r' → Upd a m m' (p :: r) (p :: r')
theorem Upd.split {a : Addr} {m m' : M} {st st' : Store} (u : Upd a m m' st st') : ∃ pre post, st = pre ++ (a, m) :: post ∧ st' = pre ++ (a, m') :: post := by
  induction u with
  | head => exact ⟨[], _, rfl, rfl⟩
  | @tail p r r' _ ih => obtain ⟨pre, post, e, e'⟩ := ih; exact ⟨p :: pre, post, by rw [e]; rfl, by rw [e']; rfl⟩
theorem Upd.mem {a : Addr} {m m' : M} {st st' : Store} (u : Upd a m m' st st') : (a, m) ∈ st := by
  obtain ⟨pre, post, rfl, _⟩ := u.split
  simp
theorem Upd.fp {a : Addr} {m m' : M} {st st' : Store} (u : Upd a m m' st st') (hf : m'.fp a = m.fp a) : fpS st' = fpS st := by
  obtain ⟨pre, post, rfl, rfl⟩ := u.split
  rw [fpS_append, fpS_append]
  show fpS pre ++ (m'.fp a ++ fpS post) = fpS pre ++ (m.fp a ++ fpS post)
  rw [hf]

theorem St.drop {st' : Store} (S : St c G env oc vs st h) (hs : st'.Sublist st) : St c G env oc vs st' h := by
  have hf : (fpS st').Sublist (fpS st) := fpS_sub hs
  exact ⟨⟨S.hs.sub, S.hs.base, fun p hp => S.hs.objs p (hs.subset hp), S.hs.nod.sublist hf, fun b hb => S.hs.apart b (hf.subset hb)⟩, S.fs, fun b hb hb' => S.dis b hb (hf.subset hb')⟩
theorem HS.drop {st' : Store} (S : HS c G st h) (hs : st'.Sublist st) : HS c G st' h := by
  have hf : (fpS st').Sublist (fpS st) := fpS_sub hs
  exact ⟨S.sub, S.base, fun p hp => S.objs p (hs.subset hp), S.nod.sublist hf, fun b hb => S.apart b (hf.subset hb)⟩
theorem St.vars {vs' : Vars} (S : St c G env oc vs st h) (hv : ∀ x v, vs' x = some v → vs x = some v) : St c G env oc vs' st h :=
  ⟨S.hs, { S.fs with loc := let ⟨m, hn, hr⟩ := S.fs.loc; ⟨m, hn, fun x v e => hr x v (hv x v e)⟩ }, S.dis⟩

theorem HS.freeze {a : Addr} {xs : List V} {pre post : Store} (S : HS c G (pre ++ (a, .list xs) :: post) h) : ∃ G', Le G G' ∧ Rep G' (.ref a) (.lst xs) ∧ HS c G' (pre ++ post) h ∧ ∀ b, b ≠ a → G' b = G b := by
  obtain ⟨o, vs', n, ho, hc, hd, hdn, r⟩ := S.objs (a, .list xs) (by simp)
  have nd := S.nod
  rw [fpS_append] at nd
  have nd' : (fpS pre ++ (a :: fpS post)).Nodup := nd
  obtain ⟨q1, q2, q3⟩ := List.nodup_append.mp nd'
  have hG : G a = none := S.apart a (by rw [fpS_append]; exact List.mem_append.mpr (.inr (List.mem_cons_self)))
  have S1 : HS c G (pre ++ post) h := S.drop (List.Sublist.append (List.Sublist.refl _) (List.sublist_cons_self _ _))
  have hna : a ∉ fpS (pre ++ post) := by
    rw [fpS_append]
    intro hm
    rcases List.mem_append.mp hm with hm | hm
    · exact q3 a hm a List.mem_cons_self rfl
    · exact (List.nodup_cons.mp q2).1 hm
  refine ⟨put G a o, put_le hG, .lst put_self hc hd hdn (r.imp (put_le hG).seq), S1.to (fun b o' e => put_le hG _ _ (S.base b o' e)) (put_le hG).seq (fun b o' e => ?_) (fun b _ o e => e) (fun b hb => ?_), fun b hb => if_neg hb⟩
  · unfold put at e
    by_cases hba : b = a
    · subst hba; rw [if_pos rfl] at e; cases e; exact ho
    · rw [if_neg hba] at e; exact S.sub _ _ e
  · unfold put
    rw [if_neg (by rintro rfl; exact hna hb)]; exact S1.apart b hb
theorem St.freeze {a : Addr} {xs : List V} {pre post : Store} (S : St c G env oc vs (pre ++ (a, .list xs) :: post) h) : ∃ G', Le G G' ∧ Rep G' (.ref a) (.lst xs) ∧ St c G' env oc vs (pre ++ post) h := by
  obtain ⟨G', hle, hr, H, hb⟩ := S.hs.freeze
  have hma : a ∈ fpS (pre ++ (a, .list xs) :: post) := mem_fpS (a := a) (m := .list xs) (by simp) (by simp [M.fp])
  have hf : ∀ b, b ∈ fpS (pre ++ post) → b ∈ fpS (pre ++ (a, .list xs) :: post) := fun b hb => by
    rw [fpS_append] at hb ⊢
    exact List.mem_append.mpr ((List.mem_append.mp hb).imp id fun h => List.mem_append.mpr (.inr h))
  exact ⟨G', hle, hr, H, S.fs.to S.hs.sub hle H.sub (fun _ _ _ e => e) fun b hb' => (hb b (by rintro rfl; exact S.dis _ hb' hma)).trans (S.fs.apart b hb'), fun b hb hb' => S.dis b hb (hf b hb')⟩

theorem St.setL {x : Str} {a : Value} {v : V} {m : Str → Option Value} (S : St c G env oc vs st h) (hl : env.kindOf x = some .local) (ra : Rep G a v) (hm : h.Ns env.locals m) (hn : h'.Ns env.locals (fun y => if y = x then some a else m y)) (hs : Heap.SameBut env.locals h h') :
    St c G env oc (vs.set x v) st h' := by
  have hk : ∀ b o, b ≠ env.locals → h.get? b = some o → h'.get? b = some o := hs.extBut
  have hsub : ∀ b p, G b = some p → h'.get? b = some p.2 := fun b o e => hk b o.2 (by rintro rfl; rw [S.fs.apart _ List.mem_cons_self] at e; cases e) (S.hs.sub b o e)
  have cellne : ∀ y k, env.cells.lookup y = some k → k ≠ env.locals := by
    rintro y k hy rfl
    rcases (S.fs.cells y _ hy).2 with h1 | ⟨o, h1⟩
    · exact S.fs.nod h1
    · rw [S.fs.apart _ List.mem_cons_self] at h1; cases h1
  refine ⟨S.hs.to S.hs.base (Le.refl _).seq hsub (fun b hb o e => hk b o (by rintro rfl; exact S.dis _ List.mem_cons_self hb) e) S.hs.apart, ⟨S.fs.kind, S.fs.glob, S.fs.bltn, ⟨_, hn, ?_⟩, ?_, S.fs.inj, ?_, S.fs.nod, S.fs.apart⟩, S.dis⟩
  · intro y w hy
    unfold Vars.set at hy
    by_cases hyx : y = x
    · subst hyx
      rw [if_pos rfl] at hy; cases hy
      exact ⟨a, ra, .inl ⟨hl, if_pos rfl⟩⟩
    · rw [if_neg hyx] at hy
      obtain ⟨m', hn', hv⟩ := S.fs.loc
      obtain ⟨a', ra', hd⟩ := hv y w hy
      rcases hd with ⟨h1, h2⟩ | ⟨h1, k, h2, o, h3, h4⟩
      · refine ⟨a', ra', .inl ⟨h1, ?_⟩⟩
        rw [if_neg hyx]
        obtain ⟨o, es, ep, ho, hd1, _, hf⟩ := hm
        obtain ⟨o', es', ep', ho', hd', _, hf'⟩ := hn'
        rw [ho] at ho'; cases ho'
        rw [hd1] at hd'; cases hd'
        rw [← hf, hf', h2]
      · exact ⟨a', ra', .inr ⟨h1, k, h2, o, hk k o (cellne y k h2) h3, h4⟩⟩
  · intro y k hy
    obtain ⟨⟨v, o, ho, hd⟩, r⟩ := S.fs.cells y k hy
    exact ⟨⟨v, o, hk k o (cellne y k hy) ho, hd⟩, r⟩
  · intro k hk'
    obtain ⟨v, o, ho, hd⟩ := S.fs.own k hk'
    exact ⟨v, o, hk k o (by rintro rfl; exact S.fs.nod hk') ho, hd⟩

theorem St.setC {x : Str} {k : Addr} {a : Value} {v : V} (S : St c G env oc vs st h) (hl : env.kindOf x = some .cell) (hc : env.cells.lookup x = some k) (hko : k ∈ oc) (ra : Rep G a v) (hn : h'.IsCell k (some a)) (hs : Heap.SameBut k h h') :
    St c G env oc (vs.set x v) st h' := by
  have hk : ∀ b o, b ≠ k → h.get? b = some o → h'.get? b = some o := hs.extBut
  have hsub : ∀ b p, G b = some p → h'.get? b = some p.2 := fun b o e => hk b o.2 (by rintro rfl; rw [S.fs.apart _ (List.mem_cons_of_mem _ hko)] at e; cases e) (S.hs.sub b o e)
  have hkL : env.locals ≠ k := by rintro rfl; exact S.fs.nod hko
  refine ⟨S.hs.to S.hs.base (Le.refl _).seq hsub (fun b hb o e => hk b o (by rintro rfl; exact S.dis _ (List.mem_cons_of_mem _ hko) hb) e) S.hs.apart, ⟨S.fs.kind, S.fs.glob, S.fs.bltn, ?_, ?_, S.fs.inj, ?_, S.fs.nod, S.fs.apart⟩, S.dis⟩
  · obtain ⟨m, hm, hv⟩ := S.fs.loc
    refine ⟨m, hm.extBut hs.extBut hkL, fun y w hy => ?_⟩
    unfold Vars.set at hy
    by_cases hyx : y = x
    · subst hyx
      rw [if_pos rfl] at hy; cases hy
      exact ⟨a, ra, .inr ⟨hl, k, hc, hn⟩⟩
    · rw [if_neg hyx] at hy
      obtain ⟨a', ra', hd⟩ := hv y w hy
      refine ⟨a', ra', hd.imp id ?_⟩
      rintro ⟨h1, k', h2, o, h3, h4⟩
      exact ⟨h1, k', h2, o, hk k' o (by rintro rfl; exact hyx (S.fs.inj _ _ _ h2 hc)) h3, h4⟩
  · intro y k' hy
    obtain ⟨⟨v, o, ho, hd⟩, r⟩ := S.fs.cells y k' hy
    by_cases e : k' = k
    · subst e; exact ⟨⟨_, hn⟩, r⟩
    · exact ⟨⟨v, o, hk k' o e ho, hd⟩, r⟩
  · intro k' hk'
    obtain ⟨v, o, ho, hd⟩ := S.fs.own k' hk'
    by_cases e : k' = k
    · subst e; exact ⟨_, hn⟩
    · exact ⟨v, o, hk k' o e ho, hd⟩
end
end Lay
end
section
open PySem PySem.SeqAt
namespace Lay

noncomputable def Lim (k : Nat) (A : Around) : Prop := A.handled = none ∧ A.depth + k < recursionLimit ∧ A.units + 10 * k + 10 < cLine
theorem Lim.deeper {k : Nat} {A : Around} (h : Lim (k + 1) A) (env : Env) : Lim k (A.deeper env) := ⟨h.1, by have := h.2.1; show A.depth + 1 + k < _; omega, by have := h.2.2; show A.units + 3 + 10 * k + 10 < _; omega⟩
theorem Lim.room {k : Nat} {A : Around} (h : Lim k A) : A.units + 10 < cLine := by have := h.2.2; omega
theorem Lim.depth {k : Nat} {A : Around} (h : Lim k A) : A.depth < recursionLimit := by have := h.2.1; omega

structure Fm where
  c : Cx
  k : Nat
  env : Env
  oc : List Addr

noncomputable def TrV (f : Fm) (t : Sem Value) (vs : Vars) (st : Store) (P : V → Store → Prop) : Prop :=
  ∀ (A : Around) (G : Fz) (s : Shared) (Q : Value → Shared → Prop) (E : Value → Shared → Prop), Lim f.k A → St f.c G f.env f.oc vs st s.heap →
    (∀ v x G' st' h' tk, P x st' → Rep G' v x → Le G G' → St f.c G' f.env f.oc vs st' h' → Q v { s with heap := h', toks := tk }) →
    wpAny (model f.c.prog f.c.w) A t Q E s
noncomputable def Ev (f : Fm) (e : Expr) (vs : Vars) (st : Store) (P : V → Store → Prop) : Prop := TrV f (eval e f.env) vs st P
noncomputable def EvL (f : Fm) (es : List Expr) (vs : Vars) (st : Store) (P : List V → Store → Prop) : Prop :=
  ∀ (pos : Pos) (A : Around) (G : Fz) (s : Shared) (Q : List Value → Shared → Prop) (E : Value → Shared → Prop), Lim f.k A → St f.c G f.env f.oc vs st s.heap →
    (∀ us xs G' st' h' tk, P xs st' → RepL G' us xs → Le G G' → St f.c G' f.env f.oc vs st' h' → Q us { s with heap := h', toks := tk }) →
    wpAny (model f.c.prog f.c.w) A (spliced (backTo pos (starEach es f.env))) Q E s
noncomputable def Tst (f : Fm) (e : Expr) (vs : Vars) (st : Store) (P : Bool → Store → Prop) : Prop :=
  ∀ (A : Around) (G : Fz) (s : Shared) (Q : Bool → Shared → Prop) (E : Value → Shared → Prop), Lim f.k A → St f.c G f.env f.oc vs st s.heap →
    (∀ b G' st' h' tk, P b st' → Le G G' → St f.c G' f.env f.oc vs st' h' → Q b { s with heap := h', toks := tk }) →
    wpAny (model f.c.prog f.c.w) A (isTrue e f.env (eval e f.env)) Q E s

noncomputable def BinT (f : Fm) (op : Operator) (x y z : V) : Prop :=
  ∀ (A : Around) (G : Fz) (s : Shared) (u v : Value) (Q : Value → Shared → Prop) (E : Value → Shared → Prop), Lim f.k A → Rep G u x → Rep G v y →
    (∀ w tk, Rep G w z → Q w { s with toks := tk }) → wpAny (model f.c.prog f.c.w) A (binaryOp op u v) Q E s
noncomputable def CmpT (f : Fm) (op : CmpOp) (x y : V) (st : Store) (b : Bool) : Prop :=
  ∀ (A : Around) (G : Fz) (s : Shared) (u v : Value) (Q : Value → Shared → Prop) (E : Value → Shared → Prop), Lim f.k A → HS f.c G st s.heap → Rep G u x → Rep G v y →
    (∀ tk, Q (.bool b) { s with toks := tk }) → wpAny (model f.c.prog f.c.w) A (compareOp op u v) Q E s

section
variable {f : Fm} {vs : Vars} {st : Store} {P : V → Store → Prop}

theorem TrV.mono {t : Sem Value} {P' : V → Store → Prop} (h : TrV f t vs st P') (hp : ∀ x st', P' x st' → P x st') : TrV f t vs st P :=
  fun A G s Q E hA S hQ => h A G s Q E hA S fun v x G' st' h' tk p => hQ v x G' st' h' tk (hp _ _ p)
theorem Ev.mono {e : Expr} {P' : V → Store → Prop} (h : Ev f e vs st P') (hp : ∀ x st', P' x st' → P x st') : Ev f e vs st P := TrV.mono h hp
theorem TrV.freeze {t : Sem Value} (h : TrV f t vs st fun x st' => ∃ a xs pre post, x = .ref a ∧ st' = pre ++ (a, .list xs) :: post ∧ P (.lst xs) (pre ++ post)) : TrV f t vs st P :=
  fun A G s Q E hA S hQ => h A G s Q E hA S fun v x G' st' h' tk ⟨a, xs, pre, post, e1, e2, p⟩ r le S' => by
    subst e1 e2
    cases r
    obtain ⟨G'', le', r', S''⟩ := S'.freeze
    exact hQ _ _ G'' _ h' tk p r' (le.trans le') S''
theorem Ev.freeze {e : Expr} (h : Ev f e vs st fun x st' => ∃ a xs pre post, x = .ref a ∧ st' = pre ++ (a, .list xs) :: post ∧ P (.lst xs) (pre ++ post)) : Ev f e vs st P := TrV.freeze h
theorem Ev.name {x : Str} {pos : Pos} {v : V} (hv : vs x = some v) (h : P v st) (hd : (x == ("__debug__" : Str)) = false := by decide) : Ev f (.Name x pos) vs st P := by
  intro A G s Q E hA S hQ
  obtain ⟨m, hn, hr⟩ := S.fs.loc
  obtain ⟨a, ra, hd'⟩ := hr x v hv
  refine wpAny_Name ?_ hd
  rcases hd' with ⟨h1, h2⟩ | ⟨h1, k, h2, h3⟩
  · exact wpAny_loadName_local S.fs.kind h1 hn h2 (hQ a v G st s.heap s.toks h ra (Le.refl _) S)
  · exact wpAny_loadName_cell S.fs.kind h1 h2 h3 (hQ a v G st s.heap s.toks h ra (Le.refl _) S)

theorem Ev.int {i : Int} {k : Nat} {pos : Pos} (h : P (.int i) st) : Ev f (.Constant (.int i) k pos) vs st P := fun _A G s _Q _E _hA S hQ =>
  wpAny_Constant_int (hQ _ _ G st s.heap _ h (.int i _) (Le.refl _) S)
theorem Ev.str {x : Str} {k : Nat} {pos : Pos} (h : P (.str x) st) : Ev f (.Constant (.str x) k pos) vs st P := fun _A G s _Q _E _hA S hQ =>
  wpAny_Constant_str (hQ _ _ G st s.heap _ h (.str x _) (Le.refl _) S)
theorem Ev.bool {b : Bool} {k : Nat} {pos : Pos} (h : P (.bool b) st) : Ev f (.Constant (.bool b) k pos) vs st P := fun _A G s _Q _E _hA S hQ =>
  wpAny_Constant_bool (hQ _ _ G st s.heap s.toks h (.bool b) (Le.refl _) S)
theorem Ev.none {k : Nat} {pos : Pos} (h : P .none st) : Ev f (.Constant .none k pos) vs st P := fun _A G s _Q _E _hA S hQ =>
  wpAny_Constant_none (hQ _ _ G st s.heap s.toks h .none (Le.refl _) S)

theorem Ev.binop {l r : Expr} {op : Operator} {pos : Pos} (h : Ev f l vs st fun x st1 => Ev f r vs st1 fun y st2 => ∃ z, BinT f op x y z ∧ P z st2) : Ev f (.BinOp l op r pos) vs st P := by
  intro A G s Q E hA S hQ
  refine wpAny_BinOp (h A G s _ E hA S ?_)
  intro u x G1 st1 h1 tk1 p1 rx le1 S1
  refine p1 A G1 _ _ E hA S1 ?_
  rintro v y G2 st2 h2 tk2 ⟨z, hz, p2⟩ ry le2 S2
  exact hz A G2 _ u v Q E hA (rx.imp le2.seq) ry fun w tk rw' => hQ w z G2 st2 h2 tk p2 rw' (le1.trans le2) S2
theorem BinT.add {i j : Int} : BinT f .Add (.int i) (.int j) (.int (i + j)) := by
  intro A G s u v Q E hA ru rv hQ; cases ru; cases rv
  exact PyProof.Rows.add_int (hQ _ _ (.int _ _))
theorem BinT.sub {i j : Int} : BinT f .Sub (.int i) (.int j) (.int (i - j)) := by
  intro A G s u v Q E hA ru rv hQ; cases ru; cases rv
  exact PyProof.Rows.sub_int (hQ _ _ (.int _ _))
theorem BinT.mul {i j : Int} (hm : IntMulOk i j) : BinT f .Mult (.int i) (.int j) (.int (i * j)) := by
  intro A G s u v Q E hA ru rv hQ; cases ru; cases rv
  exact PyProof.Rows.mul_int (hQ _ _ (.int _ _)) hm
theorem BinT.mod {i j : Int} (hj : j ≠ 0) : BinT f .Mod (.int i) (.int j) (.int (i.fmod j)) := by
  intro A G s u v Q E hA ru rv hQ; cases ru; cases rv
  exact PyProof.Rows.mod_int hj (hQ _ _ (.int _ _))

theorem Ev.neg {e : Expr} {pos : Pos} (h : Ev f e vs st fun x st1 => ∃ i, x = .int i ∧ P (.int (-i)) st1) : Ev f (.UnaryOp .USub e pos) vs st P := by
  intro A G s Q E hA S hQ
  refine wpAny_UnaryOp (h A G s _ E hA S ?_)
  rintro u x G1 st1 h1 tk1 ⟨i, rfl, p⟩ rx le1 S1
  cases rx
  exact PyProof.Rows.neg_int (hQ _ _ G1 st1 h1 _ p (.int _ _) le1 S1)

theorem Ev.compare {l r : Expr} {op : CmpOp} {pos : Pos} (h : Ev f l vs st fun x st1 => Ev f r vs st1 fun y st2 => ∃ b, CmpT f op x y st2 b ∧ P (.bool b) st2)
    (hm : behindInMarks op r = false := by with_unfolding_all rfl) : Ev f (.Compare l [op] [r] pos) vs st P := by
  intro A G s Q E hA S hQ
  refine wpAny_Compare1 (h A G s _ E hA S ?_) hm
  intro u x G1 st1 h1 tk1 p1 rx le1 S1
  refine p1 A G1 _ _ E hA S1 ?_
  rintro v y G2 st2 h2 tk2 ⟨b, hb, p2⟩ ry le2 S2
  exact hb A G2 _ u v Q E hA S2.hs (rx.imp le2.seq) ry fun tk => hQ _ _ G2 st2 h2 tk p2 (.bool b) (le1.trans le2) S2

theorem Ev.ifexp {t b o : Expr} {pos : Pos} (h : Tst f t vs st fun k st1 => if k = true then Ev f b vs st1 P else Ev f o vs st1 P) : Ev f (.IfExp t b o pos) vs st P := by
  intro A G s Q E hA S hQ
  refine wpAny_IfExp (h A G s _ E hA S ?_)
  intro k G1 st1 h1 tk1 p le1 S1
  cases k with
  | true =>
    simp only [if_true] at p ⊢
    exact p A G1 _ _ E hA S1 fun v x G' st' h' tk q r le => hQ v x G' st' h' tk q r (le1.trans le)
  | false =>
    simp only [Bool.false_eq_true, if_false] at p ⊢
    exact p A G1 _ _ E hA S1 fun v x G' st' h' tk q r le => hQ v x G' st' h' tk q r (le1.trans le)

theorem EvL.nil {P : List V → Store → Prop} (h : P [] st) : EvL f [] vs st P := fun _pos _A G s _Q _E _hA S hQ =>
  wpAny_items_nil (hQ _ _ G st s.heap s.toks h .nil (Le.refl _) S)
theorem EvL.cons {e : Expr} {es : List Expr} {P : List V → Store → Prop} (h : Ev f e vs st fun x st1 => EvL f es vs st1 fun xs st2 => P (x :: xs) st2)
    (he : starEach (e :: es) f.env = (false, eval e f.env) :: starEach es f.env := by rfl) : EvL f (e :: es) vs st P := by
  intro pos A G s Q E hA S hQ
  refine wpAny_items_cons (h A G s _ E hA S ?_) he
  intro u x G1 st1 h1 tk1 p1 rx le1 S1
  refine p1 pos A G1 _ _ E hA S1 ?_
  intro us xs G2 st2 h2 tk2 p2 rxs le2 S2
  exact hQ _ _ G2 st2 h2 tk2 p2 (.cons (rx.imp le2.seq) rxs) (le1.trans le2) S2
theorem fresh_none (h : Heap) : h.get? h.objs.size = Option.none := by
  cases e : h.get? h.objs.size with
  | none => rfl
  | some o => exact absurd (Heap.lt_size e) (Nat.lt_irrefl _)

theorem Ev.tuple {es : List Expr} {k : Nat} {pos : Pos} (h : EvL f es vs st fun xs st1 => xs.length ≤ sizeLine ∧ P (.tup xs) st1) : Ev f (.Tuple es k pos) vs st P := by
  intro A G s Q E hA S hQ
  refine PyProof.Rows.Tuple_ (h pos A G s _ E hA S ?_)
  rintro us xs G1 st1 h1 tk1 ⟨hz, p⟩ rxs le1 S1
  refine wpAny_newTuple ?_ (by rw [rxs.length]; exact hz)
  obtain ⟨le2, S2⟩ := S1.frz (fresh_none h1) (Heap.get?_push_size h1 (o := { cls := .type "tuple", data := .seq us.toArray }) rfl) fun b o e => Heap.get?_push_of_some _ e
  exact hQ _ _ _ st1 _ tk1 p (.tup put_self rfl rfl ⟨rfl, rfl⟩ (by simpa using rxs.imp le2.seq)) (le1.trans le2) S2

theorem Ev.list {es : List Expr} {pos : Pos} (h : EvL f es vs st fun xs st1 => xs.length ≤ sizeLine ∧ ∀ a, P (.ref a) ((a, .list xs) :: st1)) : Ev f (.List es pos) vs st P := by
  intro A G s Q E hA S hQ
  refine PyProof.Rows.List_ (h pos A G s _ E hA S ?_)
  rintro us xs G1 st1 h1 tk1 ⟨hz, p⟩ rxs le1 S1
  refine wpAny_newList ?_ (by rw [rxs.length]; exact hz)
  refine hQ _ _ G1 _ _ tk1 (p _) (.ref _) le1 (S1.new (m := .list xs) ⟨_, _, _, Heap.get?_push_size h1 (o := { cls := .type "list", data := .seq us.toArray }) rfl, rfl, rfl, ⟨rfl, rfl⟩, by simpa using rxs⟩ ?_ (by simp [M.fp]) fun b o e => Heap.get?_push_of_some _ e)
  intro b hb
  simp [M.fp] at hb; subst hb; exact fresh_none h1

theorem wp_global {A : Around} {G : Fz} {s : Shared} {Q : Value → Shared → Prop} {E : Value → Shared → Prop} {x : Str} {pos : Pos} {v : Value} (S : St f.c G f.env f.oc vs st s.heap) (hx : f.env.kindOf x = some .globalImplicit)
    (hg : W.nsIn f.c.K mainGlobals x = some (some v)) (h : Q v s) (hd : (x == ("__debug__" : Str)) = false := by decide) : wpAny (model f.c.prog f.c.w) A (eval (.Name x pos) f.env) Q E s :=
  Calls.Name_function_global S.fs.kind hx (Calls.loadGlobal_global (by rw [S.fs.glob]; exact f.c.topg.keeps fun b o e => S.hs.sub _ _ (S.hs.base _ _ e)) (W.mg_of f.c.kin f.c.topg hg) h) hd
theorem wp_builtin {A : Around} {G : Fz} {s : Shared} {Q : Value → Shared → Prop} {E : Value → Shared → Prop} {x : Str} {pos : Pos} {v : Value} (S : St f.c G f.env f.oc vs st s.heap) (hx : f.env.kindOf x = some .globalImplicit)
    (hg : W.nsIn f.c.K mainGlobals x = some Option.none) (hv : bootBuiltins x = some v) (hn : x ≠ "__name__") (h : Q v s) (hd : (x == ("__debug__" : Str)) = false := by decide) : wpAny (model f.c.prog f.c.w) A (eval (.Name x pos) f.env) Q E s :=
  Calls.Name_function_global S.fs.kind hx (Calls.loadGlobal_builtin (by rw [S.fs.glob]; exact f.c.topg.keeps fun b o e => S.hs.sub _ _ (S.hs.base _ _ e)) (W.mg_none_of f.c.kin f.c.topg hg)
    (by rw [S.fs.bltn]; exact f.c.topb.keeps fun b o e => S.hs.sub _ _ (S.hs.base _ _ e)) ((f.c.blt x hn).trans hv) h) hd
end

section
variable {f : Fm} {vs : Vars} {st : Store} {P : Bool → Store → Prop}
theorem Tst.mono {e : Expr} {P' : Bool → Store → Prop} (h : Tst f e vs st P') (hp : ∀ x st', P' x st' → P x st') : Tst f e vs st P :=
  fun A G s Q E hA S hQ => h A G s Q E hA S fun v G' st' h' tk p => hQ v G' st' h' tk (hp _ _ p)
theorem Tst.compare {l r : Expr} {op : CmpOp} {pos : Pos} (h : Ev f l vs st fun x st1 => Ev f r vs st1 fun y st2 => ∃ b, CmpT f op x y st2 b ∧ P b st2)
    (hm : behindInMarks op r = false := by with_unfolding_all rfl) : Tst f (.Compare l [op] [r] pos) vs st P := by
  intro A G s Q E hA S hQ
  refine wpAny_isTrue_Compare1 (h A G s _ E hA S ?_) hm
  intro u x G1 st1 h1 tk1 p1 rx le1 S1
  refine p1 A G1 _ _ E hA S1 ?_
  rintro v y G2 st2 h2 tk2 ⟨b, hb, p2⟩ ry le2 S2
  exact hb A G2 _ u v _ E hA S2.hs (rx.imp le2.seq) ry fun tk => wpAny_truthy_bool (hQ _ G2 st2 h2 tk p2 (le1.trans le2) S2)
theorem Tst.not {e : Expr} {pos : Pos} (h : Tst f e vs st fun b st1 => P (!b) st1) : Tst f (.UnaryOp .Not e pos) vs st P := by
  intro A G s Q E hA S hQ
  exact wpAny_isTrue_Not (h A G s _ E hA S fun b G' st' h' tk p le S' => hQ _ G' st' h' tk p le S')
theorem Tst.value {e : Expr} (h : Ev f e vs st fun x st1 => ∃ b, x = .bool b ∧ P b st1)
    (he : isTrue e f.env (eval e f.env) = (do let v ← eval e f.env; standAt e.pos; holding [v] (truthy v)) := by rfl) : Tst f e vs st P := by
  intro A G s Q E hA S hQ
  refine wpAny_isTrue_value (h A G s _ E hA S ?_) he
  rintro u x G1 st1 h1 tk1 ⟨b, rfl, p⟩ rx le1 S1
  cases rx
  exact wpAny_truthy_bool (hQ _ G1 st1 h1 tk1 p le1 S1)
noncomputable def TstL (f : Fm) (op : BoolOp) (es : List Expr) (vs : Vars) (st : Store) (P : Bool → Store → Prop) : Prop :=
  ∀ (A : Around) (G : Fz) (s : Shared) (Q : Bool → Shared → Prop) (E : Value → Shared → Prop), Lim f.k A → St f.c G f.env f.oc vs st s.heap →
    (∀ b G' st' h' tk, P b st' → Le G G' → St f.c G' f.env f.oc vs st' h' → Q b { s with heap := h', toks := tk }) →
    wpAny (model f.c.prog f.c.w) A (allTrue op es f.env) Q E s
theorem Tst.boolop {op : BoolOp} {es : List Expr} {pos : Pos} (h : TstL f op es vs st P) : Tst f (.BoolOp op es pos) vs st P :=
  fun A G s Q E hA S hQ => wpAny_isTrue_BoolOp (h A G s Q E hA S hQ)
theorem TstL.and_nil (h : P true st) : TstL f .And [] vs st P := fun A G s Q E hA S hQ => wpAny_allTrue_And_nil (hQ _ G st s.heap s.toks h (Le.refl _) S)
theorem TstL.or_nil (h : P false st) : TstL f .Or [] vs st P := fun A G s Q E hA S hQ => wpAny_allTrue_Or_nil (hQ _ G st s.heap s.toks h (Le.refl _) S)
theorem TstL.and_cons {e : Expr} {es : List Expr} (h : Tst f e vs st fun b st1 => if b = true then TstL f .And es vs st1 P else P false st1) : TstL f .And (e :: es) vs st P := by
  intro A G s Q E hA S hQ
  refine wpAny_allTrue_And_cons (h A G s _ E hA S ?_)
  intro b G1 st1 h1 tk1 p le1 S1
  cases b with
  | true => simp only [if_true] at p ⊢; exact p A G1 _ Q E hA S1 fun b G' st' h' tk q le S' => hQ b G' st' h' tk q (le1.trans le) S'
  | false => simp only [Bool.false_eq_true, if_false] at p ⊢; exact hQ _ G1 st1 h1 tk1 p le1 S1
theorem TstL.or_cons {e : Expr} {es : List Expr} (h : Tst f e vs st fun b st1 => if b = true then P true st1 else TstL f .Or es vs st1 P) : TstL f .Or (e :: es) vs st P := by
  intro A G s Q E hA S hQ
  refine wpAny_allTrue_Or_cons (h A G s _ E hA S ?_)
  intro b G1 st1 h1 tk1 p le1 S1
  cases b with
  | true => simp only [if_true] at p ⊢; exact hQ _ G1 st1 h1 tk1 p le1 S1
  | false => simp only [Bool.false_eq_true, if_false] at p ⊢; exact p A G1 _ Q E hA S1 fun b G' st' h' tk q le S' => hQ b G' st' h' tk q (le1.trans le) S'
end
end Lay
end
section
open PySem PySem.SeqAt
namespace Lay

noncomputable def keep (G : Fz) (h : Heap) (L : List Addr) : Fz := fun b => if b ∈ L then (h.get? b).map (Prod.mk false) else G b
noncomputable def unkeep (G : Fz) (L : List Addr) : Fz := fun b => if b ∈ L then none else G b
section
variable {G G2 : Fz} {h h2 : Heap} {L : List Addr}
theorem keep_le (hL : ∀ b ∈ L, G b = none) : Le G (keep G h L) := fun a p e => by
  unfold keep
  by_cases ha : a ∈ L
  · rw [hL a ha] at e; cases e
  · rw [if_neg ha]; exact e
theorem keep_in {b : Addr} {o : Obj} (hb : b ∈ L) (e : h.get? b = some o) : keep G h L b = some (false, o) := by
  unfold keep; rw [if_pos hb, e]; rfl
theorem keep_sub (hs : ∀ a p, G a = some p → h.get? a = some p.2) : ∀ a p, keep G h L a = some p → h.get? a = some p.2 := fun a p e => by
  unfold keep at e
  by_cases ha : a ∈ L
  · rw [if_pos ha] at e
    cases e' : h.get? a with
    | none => rw [e'] at e; cases e
    | some o => rw [e'] at e; cases e; rfl
  · rw [if_neg ha] at e; exact hs a p e
theorem unkeep_le (hL : ∀ b ∈ L, G b = none) (le : Le (keep G h L) G2) : Le G (unkeep G2 L) := fun a p e => by
  unfold unkeep
  by_cases ha : a ∈ L
  · rw [hL a ha] at e; cases e
  · rw [if_neg ha]; exact le a p (keep_le hL a p e)
theorem unkeep_seq (hk : ∀ b ∈ L, ∃ o, G2 b = some (false, o)) : SeqLe G2 (unkeep G2 L) := fun a o vs n e _ => by
  unfold unkeep
  by_cases ha : a ∈ L
  · obtain ⟨o', e'⟩ := hk a ha; rw [e] at e'; cases e'
  · rw [if_neg ha]; exact e
theorem unkeep_sub (hs : ∀ a p, G2 a = some p → h.get? a = some p.2) : ∀ a p, unkeep G2 L a = some p → h.get? a = some p.2 := fun a p e => by
  unfold unkeep at e
  by_cases ha : a ∈ L
  · rw [if_pos ha] at e; cases e
  · rw [if_neg ha] at e; exact hs a p e
theorem unkeep_in {b : Addr} (hb : b ∈ L) : unkeep G2 L b = none := if_pos hb
theorem unkeep_out {b : Addr} (hb : b ∉ L) : unkeep G2 L b = G2 b := if_neg hb
theorem unkeep_none {b : Addr} (hb : G2 b = none) : unkeep G2 L b = none := by
  unfold unkeep; split
  · rfl
  · exact hb

theorem HS.keepL {c : Cx} {st : Store} (H : HS c G st h) (hL : ∀ b ∈ L, G b = none ∧ b ∉ fpS st) : HS c (keep G h L) st h :=
  H.to (fun a o e => keep_le (fun b hb => (hL b hb).1) _ _ (H.base a o e)) (keep_le fun b hb => (hL b hb).1).seq (keep_sub H.sub) (fun _ _ _ e => e) fun b hb => by
    unfold keep; rw [if_neg fun hb' => (hL b hb').2 hb]; exact H.apart b hb
theorem HS.unkeepL {c : Cx} {st : Store} (H : HS c G2 st h) (hk : ∀ b ∈ L, ∃ o, G2 b = some (false, o)) : HS c (unkeep G2 L) st h :=
  H.to (fun a o e => by
    have := H.base a o e
    rw [unkeep_out]
    · exact this
    · intro ha; obtain ⟨o', e'⟩ := hk a ha; rw [this] at e'; cases e') (unkeep_seq hk) (unkeep_sub H.sub) (fun _ _ _ e => e) fun b hb => unkeep_none (H.apart b hb)

theorem kept_of {G2 : Fz} (hex : ∀ b ∈ L, ∃ o, h.get? b = some o) (le : Le (keep G h L) G2) : ∀ b ∈ L, ∃ o, h.get? b = some o ∧ G2 b = some (false, o) := fun b hb =>
  let ⟨o, e⟩ := hex b hb; ⟨o, e, le _ _ (keep_in hb e)⟩
theorem kept_obj {G2 : Fz} (le : Le (keep G h L) G2) (hs : ∀ a p, G2 a = some p → h2.get? a = some p.2) {b : Addr} (hb : b ∈ L) {o : Obj} (e : h.get? b = some o) : h2.get? b = some o :=
  hs _ _ (le _ _ (keep_in hb e))

structure Ap (G : Fz) (env : Env) (oc : List Addr) (st : Store) (L : List Addr) (h : Heap) : Prop where
  off : ∀ b ∈ L, G b = none
  fr : ∀ b ∈ L, b ∉ env.locals :: oc
  fp : ∀ b ∈ L, b ∉ fpS st
  ex : ∀ b ∈ L, ∃ o, h.get? b = some o

theorem St.keepL {c : Cx} {env : Env} {oc : List Addr} {vs : Vars} {st : Store} (S : St c G env oc vs st h) (a : Ap G env oc st L h) : St c (keep G h L) env oc vs st h :=
  ⟨S.hs.keepL fun b hb => ⟨a.off b hb, a.fp b hb⟩, S.fs.to S.hs.sub (keep_le a.off) (keep_sub S.hs.sub) (fun _ _ _ e => e) (fun b hb => by
    unfold keep; rw [if_neg fun hb' => a.fr b hb' hb]; exact S.fs.apart b hb), S.dis⟩
theorem St.unkeepL {c : Cx} {env : Env} {oc : List Addr} {vs vs2 : Vars} {st st2 : Store} (S : St c G env oc vs st h) (a : Ap G env oc st L h) (le : Le (keep G h L) G2) (S2 : St c G2 env oc vs2 st2 h2) :
    St c (unkeep G2 L) env oc vs2 st2 h2 := by
  have hk := kept_of a.ex le
  have hk' : ∀ b ∈ L, ∃ o, G2 b = some (false, o) := fun b hb => let ⟨o, _, e⟩ := hk b hb; ⟨o, e⟩
  refine ⟨S2.hs.unkeepL hk', ⟨S2.fs.kind, S2.fs.glob, S2.fs.bltn, ?_, ?_, S2.fs.inj, S2.fs.own, S2.fs.nod, fun b hb => unkeep_none (S2.fs.apart b hb)⟩, S2.dis⟩
  · obtain ⟨m, hn, hv⟩ := S2.fs.loc
    exact ⟨m, hn, fun x v e => let ⟨u, r, d⟩ := hv x v e; ⟨u, r.imp (unkeep_seq hk'), d⟩⟩
  · intro x k hx
    refine ⟨(S2.fs.cells x k hx).1, ?_⟩
    rcases (S.fs.cells x k hx).2 with h1 | ⟨p, h1⟩
    · exact .inl h1
    · refine .inr ⟨p, ?_⟩
      rw [unkeep_out]
      · exact le _ _ (keep_le a.off _ _ h1)
      · intro hm; rw [a.off k hm] at h1; cases h1
theorem Ap.after {env : Env} {oc : List Addr} {c : Cx} {vs2 : Vars} {st st2 : Store} (a : Ap G env oc st L h) (le : Le (keep G h L) G2) (S2 : St c G2 env oc vs2 st2 h2) : Ap (unkeep G2 L) env oc st2 L h2 where
  off := fun b hb => unkeep_in hb
  fr := a.fr
  fp := fun b hb hm => by obtain ⟨o, _, e⟩ := kept_of a.ex le b hb; rw [S2.hs.apart b hm] at e; cases e
  ex := fun b hb => let ⟨o, e⟩ := a.ex b hb; ⟨o, kept_obj le S2.hs.sub hb e⟩

theorem St.ap {c : Cx} {env : Env} {oc : List Addr} {vs : Vars} {st : Store} (S : St c G env oc vs st h) : (∀ b ∈ env.locals :: oc, G b = none ∧ b ∉ fpS st) ∧ ∀ b ∈ env.locals :: oc, ∃ o, h.get? b = some o :=
  ⟨fun b hb => ⟨S.fs.apart b hb, S.dis b hb⟩, fun b hb => let ⟨o, e, _⟩ := S.fs.there b hb; ⟨o, e⟩⟩
theorem St.leave {c : Cx} {env : Env} {oc : List Addr} {vs : Vars} {st : Store} (S : St c G env oc vs st h) : HS c (keep G h (env.locals :: oc)) st h := S.hs.keepL S.ap.1
theorem St.back {c : Cx} {env : Env} {oc : List Addr} {vs : Vars} {st st2 : Store} (S : St c G env oc vs st h) (le : Le (keep G h (env.locals :: oc)) G2) (H : HS c G2 st2 h2) :
    Le G (unkeep G2 (env.locals :: oc)) ∧ SeqLe G2 (unkeep G2 (env.locals :: oc)) ∧ St c (unkeep G2 (env.locals :: oc)) env oc vs st2 h2 := by
  have hk := kept_of S.ap.2 le
  have hk' : ∀ b ∈ env.locals :: oc, ∃ o, G2 b = some (false, o) := fun b hb => let ⟨o, _, e⟩ := hk b hb; ⟨o, e⟩
  have hle := unkeep_le (fun b hb => (S.ap.1 b hb).1) le
  have H' := H.unkeepL hk'
  refine ⟨hle, unkeep_seq hk', H', S.fs.to S.hs.sub hle H'.sub (fun b hb o e => kept_obj le H.sub hb e) fun b hb => unkeep_in hb, fun b hb hm => ?_⟩
  obtain ⟨o, _, e⟩ := hk b hb
  rw [H.apart b hm] at e; cases e
end

inductive Fl where
  | next (vs : Vars)
  | cont (vs : Vars)
  | ret (x : V)
noncomputable def Out (f : Fm) (G : Fz) (st : Store) (h : Heap) : Flow → Fl → Prop
  | .next, .next vs => St f.c G f.env f.oc vs st h
  | .cont, .cont vs => St f.c G f.env f.oc vs st h
  | .ret v, .ret x => Rep G v x ∧ HS f.c G st h
  | _, _ => False
noncomputable def Ex (f : Fm) (t : Sem Flow) (vs : Vars) (st : Store) (P : Fl → Store → Prop) : Prop :=
  ∀ (A : Around) (G : Fz) (s : Shared) (Q : Flow → Shared → Prop) (E : Value → Shared → Prop), Lim f.k A → St f.c G f.env f.oc vs st s.heap →
    (∀ fl y G' st' h' tk, P y st' → Le G G' → Out f G' st' h' fl y → Q fl { s with heap := h', toks := tk }) →
    wpAny (model f.c.prog f.c.w) A t Q E s
noncomputable def Stm (f : Fm) (t : Stmt) (vs : Vars) (st : Store) (P : Fl → Store → Prop) : Prop := Ex f (exec t f.env) vs st P
noncomputable def Blk (f : Fm) (t : List Stmt) (vs : Vars) (st : Store) (P : Fl → Store → Prop) : Prop := Ex f (execs t f.env) vs st P

section
variable {f : Fm} {vs : Vars} {st : Store} {P : Fl → Store → Prop}
theorem Ex.mono {t : Sem Flow} {P' : Fl → Store → Prop} (h : Ex f t vs st P') (hp : ∀ y st', P' y st' → P y st') : Ex f t vs st P :=
  fun A G s Q E hA S hQ => h A G s Q E hA S fun fl y G' st' h' tk p => hQ fl y G' st' h' tk (hp _ _ p)
theorem Blk.nil (h : P (.next vs) st) : Blk f [] vs st P := fun _A G s _Q _E _hA S hQ => wpAny_execs_nil (hQ .next (.next vs) G st s.heap s.toks h (Le.refl _) S)
theorem Blk.cons {t : Stmt} {ts : List Stmt} (h : Stm f t vs st fun y st1 => match y with | .next vs1 => Blk f ts vs1 st1 P | y => P y st1) : Blk f (t :: ts) vs st P := by
  intro A G s Q E hA S hQ
  refine wpAny_execs_cons (h A G s _ E hA S ?_)
  intro fl y G1 st1 h1 tk1 p le o
  cases fl <;> cases y <;> first | exact o.elim | skip
  · exact p A G1 _ Q E hA o fun fl y G' st' h' tk q le' o' => hQ fl y G' st' h' tk q (le.trans le') o'
  · exact hQ _ _ G1 st1 h1 tk1 p le o
  · exact hQ _ _ G1 st1 h1 tk1 p le o
theorem Ex.vars {t : Sem Flow} {vs' : Vars} (hv : ∀ x v, vs' x = some v → vs x = some v) (h : Ex f t vs' st P) : Ex f t vs st P :=
  fun A G s Q E hA S hQ => h A G s Q E hA (S.vars hv) hQ
theorem Ex.freeze {t : Sem Flow} {pre post : Store} {a : Addr} {xs : List V} (h : Ex f t (fun y => match vs y with | some (.ref b) => if b = a then some (.lst xs) else some (.ref b) | r => r) (pre ++ post) P) :
    Ex f t vs (pre ++ (a, .list xs) :: post) P := fun A G s Q E hA S hQ => by
  obtain ⟨G', le, r, S'⟩ := S.freeze
  refine h A G' s Q E hA ⟨S'.hs, { S'.fs with loc := ?_ }, S'.dis⟩ fun fl y G'' st' h' tk p le' o => hQ fl y G'' st' h' tk p (le.trans le') o
  obtain ⟨m, hn, hv⟩ := S'.fs.loc
  refine ⟨m, hn, fun y v e => ?_⟩
  cases hy : vs y with
  | none => rw [hy] at e; cases e
  | some w =>
    obtain ⟨u, ru, d⟩ := hv y w hy
    refine ⟨u, ?_, d⟩
    rw [hy] at e
    cases w with
    | ref b =>
      simp only at e
      by_cases hb : b = a
      · rw [if_pos hb] at e; cases e; subst hb; cases ru; exact r
      · rw [if_neg hb] at e; cases e; exact ru
    | _ => cases e; exact ru

noncomputable def Sto (f : Fm) (x : Str) : Prop := f.env.kindOf x = some .local ∨ ∃ k, f.env.kindOf x = some .cell ∧ f.env.cells.lookup x = some k ∧ k ∈ f.oc
theorem wp_store {A : Around} {G : Fz} {s : Shared} {Q : Unit → Shared → Prop} {E : Value → Shared → Prop} {x : Str} {a : Value} {v : V} (hx : Sto f x) (S : St f.c G f.env f.oc vs st s.heap) (ra : Rep G a v)
    (h : ∀ h' tk, St f.c G f.env f.oc (vs.set x v) st h' → Q () { s with heap := h', toks := tk }) : wpAny (model f.c.prog f.c.w) A (storeName f.env x a) Q E s := by
  rcases hx with hl | ⟨k, hl, hc, hk⟩
  · obtain ⟨m, hn, hv⟩ := S.fs.loc
    exact wpAny_storeName_local hl hn (fun h' hn' hs => h h' _ (S.setL hl ra hn hn' hs)) (by rw [S.fs.kind]; rfl)
  · obtain ⟨v0, hc0⟩ := S.fs.own k hk
    exact wpAny_storeName_cell S.fs.kind hl hc hc0 fun h' hc' hs => h h' s.toks (S.setC hl hc hk ra hc' hs)
noncomputable def Vars.sets (vs : Vars) : List Str → List V → Vars
  | x :: xs, v :: us => (vs.set x v).sets xs us
  | _, _ => vs
theorem wp_inOrder {A : Around} {E : Value → Shared → Prop} : ∀ {xs : List Str} {ts : List (Value → Sem Unit)} {us : List Value} {vals : List V} {vs : Vars} {G : Fz} {s : Shared} {Q : Unit → Shared → Prop},
    (∀ x ∈ xs, Sto f x) → ts.length = xs.length → (∀ (i : Nat) t x, ts[i]? = some t → xs[i]? = some x → ∀ u (Q : Unit → Shared → Prop) s, wpAny (model f.c.prog f.c.w) A (storeName f.env x u) Q E s → wpAny (model f.c.prog f.c.w) A (t u) Q E s) →
    vals.length = xs.length → RepL G us vals → St f.c G f.env f.oc vs st s.heap →
    (∀ h' tk, St f.c G f.env f.oc (vs.sets xs vals) st h' → Q () { s with heap := h', toks := tk }) → wpAny (model f.c.prog f.c.w) A (assignInOrder ts us) Q E s
  | [], ts, us, vals, vs, G, s, Q, _, hl, _, _, hr, S, h => by
    have : ts = [] := List.length_eq_zero_iff.mp hl
    subst this
    unfold assignInOrder
    exact wpAny_pure (h s.heap s.toks (by simpa [Vars.sets] using S))
  | x :: xs, ts, us, vals, vs, G, s, Q, hs, hl, ht, hv, hr, S, h => by
    cases ts with
    | nil => simp at hl
    | cons t ts =>
    cases vals with
    | nil => simp at hv
    | cons v vals =>
    cases hr with
    | @cons u us' _ _ r rs =>
    unfold assignInOrder
    refine wpAny_bind (wpAny_holding (ht 0 t x rfl rfl u _ _ (wp_store (hs x List.mem_cons_self) S r fun h1 tk1 S1 => ?_)))
    exact wp_inOrder (xs := xs) (fun y hy => hs y (List.mem_cons_of_mem _ hy)) (by simpa using hl) (fun i t' x' e1 e2 => ht (i + 1) t' x' (by simpa using e1) (by simpa using e2)) (by simpa using hv) rs S1 h

theorem Stm.ret {e : Expr} {pos : Pos} (h : Ev f e vs st fun x st' => P (.ret x) st') : Stm f (.Return (some e) pos) vs st P := fun A G s Q E hA S hQ =>
  wpAny_Return_some (h A G s _ E hA S fun v x G' st' h' tk p r le S' => hQ (.ret v) (.ret x) G' st' h' tk p le ⟨r, S'.hs⟩)
theorem Stm.cont {pos : Pos} (h : P (.cont vs) st) : Stm f (.Continue pos) vs st P := fun _A G s _Q _E _hA S hQ =>
  wpAny_bind (wpAny_standAt (wpAny_pure (hQ .cont (.cont vs) G st s.heap s.toks h (Le.refl _) S)))
theorem Stm.assign {x : Str} {p pos : Pos} {e : Expr} (hx : Sto f x) (h : Ev f e vs st fun v st' => P (.next (vs.set x v)) st') (hs : swapsWith e (some (.Name x p)) pos.line f.env = pure false := by rfl) :
    Stm f (.Assign [.Name x p] e pos) vs st P := fun A G s Q E hA S hQ =>
  wpAny_Assign_Name (h A G s _ E hA S fun v u G' st' h' tk p r le S' => wp_store hx S' r fun h2 tk2 S2 => hQ .next (.next _) G' st' h2 tk2 p le S2) hs
theorem Stm.if {t : Expr} {b o : List Stmt} {pos : Pos} (h : Tst f t vs st fun k st1 => if k = true then Blk f b vs st1 P else Blk f o vs st1 P) : Stm f (.If t b o pos) vs st P := by
  intro A G s Q E hA S hQ
  refine wpAny_If (h A G s _ E hA S ?_)
  intro k G1 st1 h1 tk1 p le S1
  cases k with
  | true => simp only [if_true] at p ⊢; exact p A G1 _ Q E hA S1 fun fl y G' st' h' tk q le' o => hQ fl y G' st' h' tk q (le.trans le') o
  | false => simp only [Bool.false_eq_true, if_false] at p ⊢; exact p A G1 _ Q E hA S1 fun fl y G' st' h' tk q le' o => hQ fl y G' st' h' tk q (le.trans le') o
theorem Stm.expr {e : Expr} {pos : Pos} (h : Ev f e vs st fun x st' => ((∃ i, x = .int i) ∨ x = .none) ∧ P (.next vs) st') (hs : swapsWith e none pos.line f.env = pure false := by rfl) : Stm f (.Expr e pos) vs st P := by
  intro A G s Q E hA S hQ
  refine wpAny_Expr (h A G s _ E hA S ?_) (by unfold interactive; rw [S.fs.kind]; rfl) hs
  rintro v x G1 st1 h1 tk1 ⟨hx, p⟩ r le S1
  have q := hQ .next (.next vs) G1 st1 h1 tk1 p le S1
  rcases hx with ⟨i, rfl⟩ | rfl <;> cases r <;> exact q

theorem Stm.assignT {elts : List Expr} {k : Nat} {tpos pos : Pos} {e : Expr} {names : List Str} (hx : ∀ x ∈ names, Sto f x) (ht : (assignEach elts f.env).length = names.length := by rfl)
    (hstar : (assignEach elts f.env).findIdx? (·.1) = none := by rfl)
    (hn : ∀ (i : Nat) t x, ((assignEach elts f.env).map (·.2))[i]? = some t → names[i]? = some x → ∀ u (Q : Unit → Shared → Prop) A E s, wpAny (model f.c.prog f.c.w) A (storeName f.env x u) Q E s → wpAny (model f.c.prog f.c.w) A (t u) Q E s)
    (h : Ev f e vs st fun v st' => ∃ xs, v = .tup xs ∧ xs.length = names.length ∧ P (.next (vs.sets names xs)) st')
    (hs : swapsWithSole [.Tuple elts k tpos] e pos.line f.env = pure false := by rfl) (hw : swappedStores [.Tuple elts k tpos] e f.env = pure none := by rfl) :
    Stm f (.Assign [.Tuple elts k tpos] e pos) vs st P := by
  intro A G s Q E hA S hQ
  refine PyProof.Rows.Assign_Tuple (h A G s _ E hA S ?_) hs hw
  rintro v x G1 st1 h1 tk1 ⟨xs, rfl, hl, p⟩ r le S1
  cases r with
  | @tup a o us n _ g1 g2 g3 _ rs =>
  have hsz : us.size = names.length := by have := rs.length; simpa [hl] using this
  refine wpAny_assign_Tuple hA.1 ⟨o, S1.hs.sub _ _ g1, g2, n, g3⟩ (by rw [ht, hsz]) hstar fun h2 he => ?_
  have S2 := S1.grow fun b o e => he b o (Nat.ne_of_lt (Heap.lt_size e)) e
  exact wp_inOrder hx (by simpa using ht) (fun i t x e1 e2 u Q s => hn i t x e1 e2 u Q A E s) hl rs S2 fun h3 tk3 S3 => hQ .next (.next _) G1 st1 h3 tk3 p le S3
theorem Stm.assignTs {elts : List Expr} {k : Nat} {tpos pos : Pos} {e : Expr} {names : List Str} (hx : ∀ x ∈ names, Sto f x)
    (h : Ev f e vs st fun v st' => ∃ xs, v = .tup xs ∧ xs.length = names.length ∧ P (.next (vs.sets names.reverse xs.reverse)) st')
    (hs : swapsWithSole [.Tuple elts k tpos] e pos.line f.env = pure false := by rfl) (hw : swappedStores [.Tuple elts k tpos] e f.env = pure (some names) := by rfl) :
    Stm f (.Assign [.Tuple elts k tpos] e pos) vs st P := by
  intro A G s Q E hA S hQ
  refine PyProof.Rows.Assign_Tuple_swapped (h A G s _ E hA S ?_) hs hw
  rintro v x G1 st1 h1 tk1 ⟨xs, rfl, hl, p⟩ r le S1
  cases r with
  | @tup a o us n _ g1 g2 g3 _ rs =>
  have hsz : us.size = names.length := by have := rs.length; simpa [hl] using this
  rw [← hsz]
  refine wpAny_unpackItems_tuple hA.1 ⟨o, S1.hs.sub _ _ g1, g2, n, g3⟩ fun h2 he => ?_
  have S2 := S1.grow fun b o e => he b o (Nat.ne_of_lt (Heap.lt_size e)) e
  refine wp_inOrder (xs := names.reverse) (fun x hx' => hx x (List.mem_reverse.mp hx')) (by simp) (fun i t x e1 e2 u Q s hq => ?_) (by simp [hl]) rs.reverse S2 fun h3 tk3 S3 => hQ .next (.next _) G1 st1 h3 tk3 p le S3
  rw [List.getElem?_map, e2] at e1
  cases e1
  exact wpAny_bindName hq
end
end Lay
end
section
open PySem PySem.SeqAt
namespace Lay

noncomputable def Sub (G : Fz) (h : Heap) : Prop := ∀ a p, G a = some p → h.get? a = some p.2
structure Itr (prog : Program) (w : World) (target : Expr) (I : Addr) (L : List Addr) (S : List V → Fz → Heap → Prop) : Prop where
  frame : ∀ xs G G' h h', S xs G h → SeqLe G G' → (∀ b ∈ L, ∀ o, h.get? b = some o → h'.get? b = some o) → S xs G' h'
  ex : ∀ xs G h, S xs G h → ∀ b ∈ L, ∃ o, h.get? b = some o
  item : ∀ (A : Around) x xs G (s : Shared) (Q : Value → Shared → Prop) (E : Value → Shared → Prop), A.handled = none → S (x :: xs) G s.heap → Sub G s.heap → (∀ b ∈ L, G b = none) →
    (∀ v G' h' tk, Rep G' v x → Le G G' → Sub G' h' → (∀ b p, G b = none → G' b = some p → s.heap.get? b = none) → S xs G' h' → (∀ b o, b ∉ L → s.heap.get? b = some o → h'.get? b = some o) → Q v { s with heap := h', toks := tk }) →
    wpAny (model prog w) A (pyNext (.ref I)) (fun r s1 => match r with | none => False | some v => wpAny (model prog w) A (letOwnedTupleGo target (.ref I) v) (fun _ s2 => Q v s2) E s1) E s
  done : ∀ (A : Around) G (s : Shared) (Q : Option Value → Shared → Prop) (E : Value → Shared → Prop), A.handled = none → S [] G s.heap → Sub G s.heap → (∀ b ∈ L, G b = none) →
    (∀ h' tk, (∀ b o, b ∉ L → s.heap.get? b = some o → h'.get? b = some o) → Q none { s with heap := h', toks := tk }) → wpAny (model prog w) A (pyNext (.ref I)) Q E s
  self : ∀ (A : Around) xs G (s : Shared) (Q : Value → Shared → Prop) (E : Value → Shared → Prop), S xs G s.heap → Q (.ref I) s → wpAny (model prog w) A (pyIter (.ref I)) Q E s

section
variable {c : Cx} {G G' : Fz} {env : Env} {oc : List Addr} {vs : Vars} {st : Store} {h h' : Heap} {L : List Addr}
theorem St.moved (S : St c G env oc vs st h) (a : Ap G env oc st L h) (le : Le G G') (hs : Sub G' h') (hn : ∀ b p, G b = none → G' b = some p → h.get? b = none) (hk : ∀ b o, b ∉ L → h.get? b = some o → h'.get? b = some o) :
    St c G' env oc vs st h' := by
  refine S.to le hs (fun b hb o e => hk b o (fun hL => ?_) e) fun b hb => ?_
  · rcases hb with hb | hb
    · exact a.fr b hL hb
    · exact a.fp b hL hb
  · cases e : G' b with
    | none => rfl
    | some p =>
      obtain ⟨o, e'⟩ := S.there b hb
      rw [hn b p (S.off b hb) e] at e'; cases e'
theorem Ap.moved (a : Ap G env oc st L h) (hn : ∀ b p, G b = none → G' b = some p → h.get? b = none) (hx : ∀ b ∈ L, ∃ o, h'.get? b = some o) : Ap G' env oc st L h' where
  off := fun b hb => by
    cases e : G' b with
    | none => rfl
    | some p => obtain ⟨o, e'⟩ := a.ex b hb; rw [hn b p (a.off b hb) e] at e'; cases e'
  fr := a.fr
  fp := a.fp
  ex := hx
end

noncomputable def Asg (f : Fm) (target : Expr) (x : V) (vs : Vars) (st : Store) (P : Vars → Prop) : Prop :=
  ∀ (A : Around) (G : Fz) (s : Shared) (u : Value) (Q : Unit → Shared → Prop) (E : Value → Shared → Prop), Lim f.k A → Rep G u x → St f.c G f.env f.oc vs st s.heap →
    (∀ vs' h' tk, P vs' → St f.c G f.env f.oc vs' st h' → Q () { s with heap := h', toks := tk }) → wpAny (model f.c.prog f.c.w) A (assign target f.env u) Q E s
section
variable {f : Fm} {vs : Vars} {st : Store}
theorem Asg.name {x : Str} {p : Pos} {v : V} {P : Vars → Prop} (hx : Sto f x) (h : P (vs.set x v)) : Asg f (.Name x p) v vs st P := fun _A _G _s _u _Q _E _hA r S hQ =>
  PyProof.Rows.assign_Name (wp_store hx S r fun h' tk S' => hQ _ h' tk h S')
theorem Asg.tuple {elts : List Expr} {k : Nat} {tpos : Pos} {names : List Str} {xs : List V} {P : Vars → Prop} (hx : ∀ x ∈ names, Sto f x) (hl : xs.length = names.length) (h : P (vs.sets names xs))
    (ht : (assignEach elts f.env).length = names.length := by rfl)
    (hstar : (assignEach elts f.env).findIdx? (·.1) = none := by rfl)
    (hn : ∀ (i : Nat) t x, ((assignEach elts f.env).map (·.2))[i]? = some t → names[i]? = some x → ∀ u (Q : Unit → Shared → Prop) A E s, wpAny (model f.c.prog f.c.w) A (storeName f.env x u) Q E s → wpAny (model f.c.prog f.c.w) A (t u) Q E s) :
    Asg f (.Tuple elts k tpos) (.tup xs) vs st P := by
  intro A G s u Q E hA r S hQ
  cases r with
  | @tup a o us n _ g1 g2 g3 _ rs =>
  have hsz : us.size = names.length := by have := rs.length; simpa [hl] using this
  refine wpAny_assign_Tuple hA.1 ⟨o, S.hs.sub _ _ g1, g2, n, g3⟩ (by rw [ht, hsz]) hstar fun h2 he => ?_
  have S2 := S.grow fun b o e => he b o (Nat.ne_of_lt (Heap.lt_size e)) e
  exact wp_inOrder hx (by simpa using ht) (fun i t x e1 e2 u Q s => hn i t x e1 e2 u Q A E s) hl rs S2 fun h3 tk3 S3 => hQ _ h3 tk3 h S3
theorem names2 {e0 : Env} {M : Model} {x0 x1 : Str} {p0 p1 : Pos} : ∀ (i : Nat) t x, ((assignEach [.Name x0 p0, .Name x1 p1] e0).map (·.2))[i]? = some t → [x0, x1][i]? = some x →
    ∀ u (Q : Unit → Shared → Prop) A E s, wpAny M A (storeName e0 x u) Q E s → wpAny M A (t u) Q E s := by
  intro i t x e1 e2 u Q A E s h
  match i, e1, e2 with
  | 0, e1, e2 => cases e1; cases e2; exact PyProof.Rows.assign_Name h
  | 1, e1, e2 => cases e1; cases e2; exact PyProof.Rows.assign_Name h
theorem names3 {e0 : Env} {M : Model} {x0 x1 x2 : Str} {p0 p1 p2 : Pos} : ∀ (i : Nat) t x, ((assignEach [.Name x0 p0, .Name x1 p1, .Name x2 p2] e0).map (·.2))[i]? = some t → [x0, x1, x2][i]? = some x →
    ∀ u (Q : Unit → Shared → Prop) A E s, wpAny M A (storeName e0 x u) Q E s → wpAny M A (t u) Q E s := by
  intro i t x e1 e2 u Q A E s h
  match i, e1, e2 with
  | 0, e1, e2 => cases e1; cases e2; exact PyProof.Rows.assign_Name h
  | 1, e1, e2 => cases e1; cases e2; exact PyProof.Rows.assign_Name h
  | 2, e1, e2 => cases e1; cases e2; exact PyProof.Rows.assign_Name h
end

noncomputable def Loop (f : Fm) (target : Expr) (body : List Stmt) (xs : List V) (vs : Vars) (st : Store) (P : Fl → Store → Prop) : Prop :=
  ∀ (A : Around) (I : Addr) (L : List Addr) (S : List V → Fz → Heap → Prop) (G : Fz) (s : Shared) (R : Result → Shared → Prop), Itr f.c.prog f.c.w target I L S → S xs G s.heap → Lim f.k A →
    Ap G f.env f.oc st L s.heap → St f.c G f.env f.oc vs st s.heap → (∀ fl y G' st' h' tk, P y st' → Le G G' → Out f G' st' h' fl y → R (.ok fl) { s with heap := h', toks := tk }) →
    codeAny (model f.c.prog f.c.w) A (.forLoop target (.ref I) body [] f.env) R s

section
variable {f : Fm} {vs : Vars} {st : Store} {P : Fl → Store → Prop} {target : Expr} {body : List Stmt}
theorem Loop.nil (h : P (.next vs) st) : Loop f target body [] vs st P := by
  intro A I L S G s R hI hS hA a T hR
  refine codeAny_of_tree ?_
  show wpAny _ A ((forTurn target (.ref I) body [] f.env).onRaise (fun x => do noteFrame x f.env; theTreesLotGoes x)) _ _ s
  refine wpAny_noted ?_
  simp only [forTurn]
  refine wpAny_bind (wpAny_standAt (wpAny_bind (wpAny_onRaise ?_)))
  refine hI.done A G s _ _ hA.1 hS T.hs.sub a.off fun h1 tk1 hk => ?_
  refine wpAny_pure ⟨rfl, codeAny_block (wpAny_execs_nil ?_)⟩
  have T' := T.to (Le.refl _) (fun b p e => hk b p.2 (fun hb => by rw [a.off b hb] at e; cases e) (T.hs.sub b p e)) (fun b hb o e => hk b o (fun hL => hb.elim (a.fr b hL) (a.fp b hL)) e) T.off
  exact hR .next (.next vs) G st h1 tk1 h (Le.refl _) T'
theorem Out.unkeep {G G2 : Fz} {h h2 : Heap} {L : List Addr} {st2 : Store} {fl : Flow} {y : Fl} (S : St f.c G f.env f.oc vs st h) (a : Ap G f.env f.oc st L h) (le : Le (keep G h L) G2) (o : Out f G2 st2 h2 fl y) :
    Out f (unkeep G2 L) st2 h2 fl y := by
  have hk' : ∀ b ∈ L, ∃ o, G2 b = some (false, o) := fun b hb => let ⟨o, _, e⟩ := kept_of a.ex le b hb; ⟨o, e⟩
  cases fl <;> cases y <;> first | exact o.elim | skip
  · exact S.unkeepL a le o
  · exact S.unkeepL a le o
  · exact ⟨o.1.imp (unkeep_seq hk'), o.2.unkeepL hk'⟩
theorem Loop.cons {x : V} {xs : List V} (h : Asg f target x vs st fun vs1 => Blk f body vs1 st fun y st2 => match y with | .next vs2 => Loop f target body xs vs2 st2 P | .cont vs2 => Loop f target body xs vs2 st2 P | .ret v => P (.ret v) st2) :
    Loop f target body (x :: xs) vs st P := by
  intro A I L S G s R hI hS hA a T hR
  refine codeAny_of_tree ?_
  show wpAny _ A ((forTurn target (.ref I) body [] f.env).onRaise (fun x => do noteFrame x f.env; theTreesLotGoes x)) _ _ s
  refine wpAny_noted ?_
  simp only [forTurn]
  refine wpAny_bind (wpAny_standAt (wpAny_bind (wpAny_onRaise (wpAny_mono (hI.item A x xs G s (fun v s2 => ?_) _ hA.1 hS T.hs.sub a.off ?_) ?_ fun _ _ h' => wpAny_standAt h'))))
  · exact wpAny (model f.c.prog f.c.w) A (assign target f.env v >>= fun _ => execs body f.env >>= fun r => match r with
      | .next | .cont => again (.forLoop target (.ref I) body [] f.env)
      | .brk => pure (.done .next)
      | .ret v => pure (.done (.ret v))) (fun fin s' => match fin with
        | .done f => R (.ok f) s'
        | .again c' => c'.quiet = true ∧ codeAny (model f.c.prog f.c.w) A c' R s') (notedBy (model f.c.prog f.c.w) A f.env fun e s' => R (.error e) s') s2
  · intro v G1 h1 tk1 r le1 hs1 hn1 hS1 hk1
    have T1 := T.moved a le1 hs1 hn1 hk1
    have a1 := a.moved hn1 (hI.ex _ _ _ hS1)
    have T1k := T1.keepL a1
    have le1k := keep_le (h := h1) a1.off
    refine wpAny_bind (h A (keep G1 h1 L) { s with heap := h1, toks := tk1 } v _ _ hA (r.imp le1k.seq) T1k fun vs2 h2 tk2 p2 T2 => ?_)
    refine wpAny_bind (p2 A (keep G1 h1 L) { s with heap := h2, toks := tk2 } _ _ hA T2 fun fl y G3 st3 h3 tk3 p3 le3 o3 => ?_)
    have up : ∀ {T3 : HS f.c G3 st3 h3}, ∀ b ∈ L, ∀ o, h1.get? b = some o → h3.get? b = some o := fun {T3} b hb o e => kept_obj le3 T3.sub hb e
    have leU := unkeep_le a1.off le3
    have hk' : ∀ b ∈ L, ∃ o, G3 b = some (false, o) := fun b hb => let ⟨o, _, e⟩ := kept_of a1.ex le3 b hb; ⟨o, e⟩
    have oU := Out.unkeep T1 a1 le3 o3
    have next : ∀ vs3, St f.c G3 f.env f.oc vs3 st3 h3 → Loop f target body xs vs3 st3 P → codeAny (model f.c.prog f.c.w) A (.forLoop target (.ref I) body [] f.env) R { s with heap := h3, toks := tk3 } := fun vs3 T3 q =>
      q A I L S (unkeep G3 L) { s with heap := h3, toks := tk3 } R hI (hI.frame xs G1 _ h1 _ hS1 leU.seq fun b hb o e => kept_obj le3 T3.hs.sub hb e) hA (a1.after le3 T3) (T1.unkeepL a1 le3 T3)
        fun fl y G' st' h' tk p le o => hR fl y G' st' h' tk p ((le1.trans leU).trans le) o
    cases fl <;> cases y <;> first | exact o3.elim | skip
    · exact wpAny_pure ⟨rfl, next _ o3 p3⟩
    · exact wpAny_pure ⟨rfl, next _ o3 p3⟩
    · exact wpAny_pure (hR _ _ _ _ _ _ p3 (le1.trans leU) oU)
  · intro r s1 hr
    cases r with
    | none => exact hr.elim
    | some v => exact wpAny_bind hr
end
end Lay
end
section
open PySem PySem.SeqAt
namespace Lay

theorem Ap.fresh {c : Cx} {G : Fz} {env : Env} {oc : List Addr} {vs : Vars} {st : Store} {h h' : Heap} {L : List Addr} (S : St c G env oc vs st h) (hn : ∀ b ∈ L, h.get? b = none) (hx : ∀ b ∈ L, ∃ o, h'.get? b = some o) : Ap G env oc st L h' where
  off := fun b hb => by
    cases e : G b with
    | none => rfl
    | some p => have := S.hs.sub _ _ e; rw [hn b hb] at this; cases this
  fr := fun b hb hm => by obtain ⟨o, e⟩ := S.there b (.inl hm); rw [hn b hb] at e; cases e
  fp := fun b hb hm => by obtain ⟨o, e⟩ := S.there b (.inr hm); rw [hn b hb] at e; cases e
  ex := hx

noncomputable def ItE (f : Fm) (target : Expr) (e : Expr) (vs : Vars) (st : Store) (P : List V → Store → Prop) : Prop :=
  ∀ (A : Around) (G : Fz) (s : Shared) (Q : Value → Shared → Prop) (E : Value → Shared → Prop), Lim f.k A → St f.c G f.env f.oc vs st s.heap →
    (∀ I L S xs G' st' h' tk, P xs st' → Itr f.c.prog f.c.w target I L S → S xs G' h' → Ap G' f.env f.oc st' L h' → Le G G' → St f.c G' f.env f.oc vs st' h' → Q (.ref I) { s with heap := h', toks := tk }) →
    wpAny (model f.c.prog f.c.w) A (eval e f.env) (fun x s1 => wpAny (model f.c.prog f.c.w) A (pyIter x) Q E s1) E s

theorem Stm.for {f : Fm} {vs : Vars} {st : Store} {P : Fl → Store → Prop} {target iter : Expr} {body : List Stmt} {pos : Pos} (h : ItE f target iter vs st fun xs st1 => Loop f target body xs vs st1 P)
    (hs : ∀ x, foldedSetIterable iter f.env x = pure x := by intro _; rfl) : Stm f (.For target iter body [] pos) vs st P := by
  intro A G s Q E hA S hQ
  refine wpAny_For (h A G s _ E hA S ?_) hs
  intro I L Si xs G1 st1 h1 tk1 p hI hS a le T
  exact p A I L Si G1 _ _ hI hS hA a T fun fl y G' st' h' tk q le' o => hQ fl y G' st' h' tk q (le.trans le') o

noncomputable def ownedTypes : List String := ["enumerate", "zip", "dict_itemiterator", "dict_reverseitemiterator", "odict_iterator", "itertools.zip_longest", "itertools.pairwise"]
theorem wp_ownedGo {M : Model} {A : Around} {s : Shared} {E : Value → Shared → Prop} {target : Expr} {I : Addr} {o : Obj} {n : String} {v : Value} {Q : Unit → Shared → Prop} (ho : s.heap.get? I = some o) (hc : o.cls = .type n) (hn : ownedTypes.contains n = false) (h : Q () s) :
    wpAny M A (letOwnedTupleGo target (.ref I) v) Q E s := by
  have key : ∀ a : Addr, wpAny M A (load I >>= fun o => match o.cls, o.data with
      | .type n, .fields vs =>
        if ["enumerate", "zip", "dict_itemiterator", "dict_reverseitemiterator", "odict_iterator", "itertools.zip_longest", "itertools.pairwise"].contains n && vs[0]? == some (rawInt a) then do
          rule "for.unpacks-the-owned-tuple"
          updateField I 0 .none
        else pure ()
      | _, _ => pure ()) Q E s := by
    intro a
    refine wpAny_bind (wpAny_load ho ?_)
    rw [hc]
    have hn' : ["enumerate", "zip", "dict_itemiterator", "dict_reverseitemiterator", "odict_iterator", "itertools.zip_longest", "itertools.pairwise"].contains n = false := hn
    cases o.data with
    | fields vs =>
      dsimp only
      rw [hn', Bool.false_and, if_neg Bool.false_ne_true]
      exact wpAny_pure h
    | _ => exact wpAny_pure h
  unfold letOwnedTupleGo
  cases target <;> first | exact wpAny_pure h | skip
  · cases v <;> first | exact wpAny_pure h | exact key _
  · cases v <;> first | exact wpAny_pure h | exact key _

section
variable {prog : Program} {w : World} {target : Expr}
theorem IsListIter_lt {h : Heap} {I ax : Addr} {i : Nat} (x : h.IsListIter I ax i) : ∃ o, h.get? I = some o ∧ o.cls = .type "list_iterator" := let ⟨o, ho, hc, _⟩ := x; ⟨o, ho, hc⟩
noncomputable def LS (I : Addr) : List V → Fz → Heap → Prop := fun rest G h => ∃ ax o vs n i, h.IsListIter I ax i ∧ G ax = some (true, o) ∧ o.cls = .type "list" ∧ o.data = .seq vs n ∧ RepL G (vs.toList.drop i) rest
theorem Itr.list (I : Addr) : Itr prog w target I [I] (LS I) where
  frame := by
    rintro xs G G' h h' ⟨ax, o, vs, n, i, hit, hG, hc, hd, r⟩ le hk
    exact ⟨ax, o, vs, n, i, hit.at fun o e => hk I (by simp) o e, le _ _ _ _ hG hd, hc, hd, r.imp le⟩
  ex := by
    rintro xs G h ⟨ax, o, vs, n, i, ⟨o', ho', _⟩, _⟩ b hb
    simp at hb; subst hb; exact ⟨o', ho'⟩
  item := by
    rintro A x xs G s Q E hh ⟨ax, o, vs, n, i, hit, hG, hc, hd, r⟩ hs hoff hQ
    have hne : ax ≠ I := by rintro rfl; rw [hoff _ (by simp)] at hG; cases hG
    generalize hdr : vs.toList.drop i = l at r
    cases r with
    | @cons v vr _ _ rv rr =>
    have hv : vs[i]? = some v := by
      have : (vs.toList.drop i)[0]? = some v := by rw [hdr]; rfl
      simpa using this
    have hdr' : vs.toList.drop (i + 1) = vr := by rw [← List.drop_drop, hdr]; rfl
    refine wpAny_pyNext_list_item hit ⟨o, hs _ _ hG, hc, n, hd⟩ hv fun h1 hit1 hs1 => ?_
    obtain ⟨oI, hoI, hcI⟩ := IsListIter_lt hit1
    refine wp_ownedGo (s := { s with heap := h1 }) hoI hcI (by decide) ?_
    have hk : ∀ b o, b ∉ [I] → s.heap.get? b = some o → h1.get? b = some o := fun b o hb e => hs1.extBut b o (by simpa using hb) e
    refine hQ v G h1 s.toks rv (Le.refl _) (fun a p e => hk a p.2 (fun ha => by rw [hoff a ha] at e; cases e) (hs a p e)) (fun b p e e' => by rw [e] at e'; cases e') ⟨ax, o, vs, n, i + 1, hit1, hG, hc, hd, hdr' ▸ rr⟩ hk
  done := by
    rintro A G s Q E hh ⟨ax, o, vs, n, i, hit, hG, hc, hd, r⟩ hs hoff hQ
    generalize hdr : vs.toList.drop i = l at r
    cases r
    have hv : vs[i]? = none := by
      have : (vs.toList.drop i)[0]? = none := by rw [hdr]; rfl
      simpa using this
    exact wpAny_pyNext_list_end hh hit ⟨o, hs _ _ hG, hc, n, hd⟩ hv fun h1 he => hQ h1 s.toks fun b o hb e => he b o (by simpa using hb) e
  self := by
    rintro A xs G s Q E ⟨ax, o, vs, n, i, hit, _⟩ h
    exact wpAny_pyIter_listiter hit h

noncomputable def TS (I : Addr) : List V → Fz → Heap → Prop := fun rest G h => ∃ ax o vs n i, h.IsTupleIter I ax i ∧ G ax = some (true, o) ∧ o.cls = .type "tuple" ∧ o.data = .seq vs n ∧ RepL G (vs.toList.drop i) rest
theorem Itr.tuple (I : Addr) : Itr prog w target I [I] (TS I) where
  frame := by
    rintro xs G G' h h' ⟨ax, o, vs, n, i, hit, hG, hc, hd, r⟩ le hk
    exact ⟨ax, o, vs, n, i, hit.at fun o e => hk I (by simp) o e, le _ _ _ _ hG hd, hc, hd, r.imp le⟩
  ex := by
    rintro xs G h ⟨ax, o, vs, n, i, ⟨o', ho', _⟩, _⟩ b hb
    simp at hb; subst hb; exact ⟨o', ho'⟩
  item := by
    rintro A x xs G s Q E hh ⟨ax, o, vs, n, i, hit, hG, hc, hd, r⟩ hs hoff hQ
    generalize hdr : vs.toList.drop i = l at r
    cases r with
    | @cons v vr _ _ rv rr =>
    have hv : vs[i]? = some v := by
      have : (vs.toList.drop i)[0]? = some v := by rw [hdr]; rfl
      simpa using this
    have hdr' : vs.toList.drop (i + 1) = vr := by rw [← List.drop_drop, hdr]; rfl
    refine wpAny_pyNext_tuple_item hit ⟨o, hs _ _ hG, hc, n, hd⟩ hv fun h1 hit1 hs1 => ?_
    obtain ⟨oI, hoI, hcI, _⟩ := id hit1
    refine wp_ownedGo (s := { s with heap := h1 }) hoI hcI (by decide) ?_
    have hk : ∀ b o, b ∉ [I] → s.heap.get? b = some o → h1.get? b = some o := fun b o hb e => hs1.extBut b o (by simpa using hb) e
    refine hQ v G h1 s.toks rv (Le.refl _) (fun a p e => hk a p.2 (fun ha => by rw [hoff a ha] at e; cases e) (hs a p e)) (fun b p e e' => by rw [e] at e'; cases e') ⟨ax, o, vs, n, i + 1, hit1, hG, hc, hd, hdr' ▸ rr⟩ hk
  done := by
    rintro A G s Q E hh ⟨ax, o, vs, n, i, hit, hG, hc, hd, r⟩ hs hoff hQ
    generalize hdr : vs.toList.drop i = l at r
    cases r
    have hv : vs[i]? = none := by
      have : (vs.toList.drop i)[0]? = none := by rw [hdr]; rfl
      simpa using this
    exact wpAny_pyNext_tuple_end hh hit ⟨o, hs _ _ hG, hc, n, hd⟩ hv fun h1 he => hQ h1 s.toks fun b o hb e => he b o (by simpa using hb) e
  self := by
    rintro A xs G s Q E ⟨ax, o, vs, n, i, hit, _⟩ h
    exact wpAny_pyIter_tupleiter hit h

noncomputable def irange (a : Int) (n : Nat) : List V := (List.range n).map fun (i : Nat) => .int (a + i)
theorem irange_succ (a : Int) (n : Nat) : irange a (n + 1) = .int a :: irange (a + 1) n := by
  unfold irange
  rw [List.range_succ_eq_map, List.map_cons, List.map_map]
  congr 1
  · simp
  · refine List.map_congr_left fun i _ => ?_
    show V.int (a + ((i + 1 : Nat) : Int)) = V.int (a + 1 + i)
    congr 1; push_cast; omega
noncomputable def RS (I : Addr) : List V → Fz → Heap → Prop := fun rest _ h => ∃ (a : Int) (n : Nat), IsRangeIter h I a n 1 ∧ rest = irange a n
theorem Itr.range (I : Addr) : Itr prog w target I [I] (RS I) where
  frame := by
    rintro xs G G' h h' ⟨a, n, hit, rfl⟩ le hk
    exact ⟨a, n, hk I (by simp) _ hit, rfl⟩
  ex := by
    rintro xs G h ⟨a, n, hit, rfl⟩ b hb
    simp at hb; subst hb; exact ⟨_, hit⟩
  item := by
    rintro A x xs G s Q E hh ⟨a, n, hit, e⟩ hs hoff hQ
    cases n with
    | zero => simp [irange] at e
    | succ n =>
    rw [irange_succ] at e
    cases e
    refine wpAny_pyNext_range_item hit (by omega) fun h1 hit1 hs1 => ?_
    refine wp_ownedGo (s := { s with heap := h1, toks := s.toks + 1 }) hit1 rfl (by decide) ?_
    have hk : ∀ b o, b ∉ [I] → s.heap.get? b = some o → h1.get? b = some o := fun b o hb e => hs1.extBut b o (by simpa using hb) e
    have hit1' : IsRangeIter h1 I (a + 1) (n : Nat) 1 := by
      have e2 : ((n + 1 : Nat) : Int) - 1 = (n : Int) := by push_cast; omega
      rw [e2] at hit1; exact hit1
    exact hQ _ G h1 _ (.int _ _) (Le.refl _) (fun a p e => hk a p.2 (fun ha => by rw [hoff a ha] at e; cases e) (hs a p e)) (fun b p e e' => by rw [e] at e'; cases e') ⟨a + 1, n, hit1', rfl⟩ hk
  done := by
    rintro A G s Q E hh ⟨a, n, hit, e⟩ hs hoff hQ
    cases n with
    | zero => exact wpAny_pyNext_range_end hh hit (by omega) fun h1 he => hQ h1 s.toks fun b o hb e => he b o (by simpa using hb) e
    | succ n => rw [irange_succ] at e; cases e
  self := by
    rintro A xs G s Q E ⟨a, n, hit, e⟩ h
    exact wpAny_pyIter_rangeiter hit h

noncomputable def VS (I : Addr) : List V → Fz → Heap → Prop := fun rest G h => ∃ ax o vs n i, h.IsRevIter I ax ((i : Nat) - 1 : Int) ∧ G ax = some (true, o) ∧ o.cls = .type "list" ∧ o.data = .seq vs n ∧ i ≤ vs.size ∧ RepL G (vs.toList.take i).reverse rest
theorem Itr.rev (I : Addr) : Itr prog w target I [I] (VS I) where
  frame := by
    rintro xs G G' h h' ⟨ax, o, vs, n, i, hit, hG, hc, hd, hi, r⟩ le hk
    exact ⟨ax, o, vs, n, i, hit.at fun o e => hk I (by simp) o e, le _ _ _ _ hG hd, hc, hd, hi, r.imp le⟩
  ex := by
    rintro xs G h ⟨ax, o, vs, n, i, ⟨o', ho', _⟩, _⟩ b hb
    simp at hb; subst hb; exact ⟨o', ho'⟩
  item := by
    rintro A x xs G s Q E hh ⟨ax, o, vs, n, i, hit, hG, hc, hd, hi, r⟩ hs hoff hQ
    cases i with
    | zero => simp at r; cases r
    | succ i =>
    have hlt : i < vs.size := hi
    have hdr : (vs.toList.take (i + 1)).reverse = vs[i] :: (vs.toList.take i).reverse := by
      rw [List.take_add_one, Array.getElem?_toList, Array.getElem?_eq_getElem hlt]; simp
    rw [hdr] at r
    cases r with
    | cons rv rr =>
    have e2 : ((i + 1 : Nat) : Int) - 1 = (i : Int) := by push_cast; omega
    rw [e2] at hit
    refine wpAny_pyNext_rev_item hit ⟨o, hs _ _ hG, hc, n, hd⟩ (Array.getElem?_eq_getElem hlt) fun h1 hit1 hs1 => ?_
    obtain ⟨oI, hoI, hcI, _⟩ := id hit1
    refine wp_ownedGo (s := { s with heap := h1 }) hoI hcI (by decide) ?_
    have hk : ∀ b o, b ∉ [I] → s.heap.get? b = some o → h1.get? b = some o := fun b o hb e => hs1.extBut b o (by simpa using hb) e
    exact hQ _ G h1 s.toks rv (Le.refl _) (fun a p e => hk a p.2 (fun ha => by rw [hoff a ha] at e; cases e) (hs a p e)) (fun b p e e' => by rw [e] at e'; cases e') ⟨ax, o, vs, n, i, hit1, hG, hc, hd, by omega, rr⟩ hk
  done := by
    rintro A G s Q E hh ⟨ax, o, vs, n, i, hit, hG, hc, hd, hi, r⟩ hs hoff hQ
    cases i with
    | zero => exact wpAny_pyNext_rev_end hh hit fun h1 he => hQ h1 s.toks fun b o hb e => he b o (by simpa using hb) e
    | succ i =>
      have hlt : i < vs.size := hi
      rw [List.take_add_one, Array.getElem?_toList, Array.getElem?_eq_getElem hlt] at r
      simp at r
      cases r
  self := by
    rintro A xs G s Q E ⟨ax, o, vs, n, i, hit, _⟩ h
    exact wpAny_pyIter_revIter hit h
end

section
variable {f : Fm} {vs : Vars} {st : Store} {target : Expr} {P : List V → Store → Prop}
theorem ItE.val {e : Expr} (h : Ev f e vs st fun x st' => ∃ xs, (x = .lst xs ∨ x = .tup xs) ∧ P xs st') : ItE f target e vs st P := by
  intro A G s Q E hA S hQ
  refine h A G s _ E hA S ?_
  rintro v x G1 st1 h1 tk1 ⟨xs, hx, p⟩ r le S1
  rcases hx with rfl | rfl
  · cases r with
    | @lst a o us n _ g1 g2 g3 _ rs =>
    refine wpAny_pyIter_list ⟨o, S1.hs.sub _ _ g1, g2, n, g3⟩ ?_
    have hk : ∀ b o, h1.get? b = some o → (h1.push { cls := .type "list_iterator", data := .fields #[.ref a, .int 0 0] }).get? b = some o := fun b o e => Heap.get?_push_of_some _ e
    refine hQ _ [h1.objs.size] _ xs G1 st1 _ tk1 p (Itr.list h1.objs.size) ⟨a, o, us, n, 0, ⟨_, Heap.get?_push_size _ rfl, rfl, rfl⟩, g1, g2, g3, by simpa using rs⟩ (Ap.fresh S1 (fun b hb => ?_) fun b hb => ?_) le (S1.grow hk)
    · simp at hb; subst hb; exact fresh_none _
    · simp at hb; subst hb; exact ⟨_, Heap.get?_push_size _ rfl⟩
  · cases r with
    | @tup a o us n _ g1 g2 g3 _ rs =>
    refine wpAny_pyIter_tuple ⟨o, S1.hs.sub _ _ g1, g2, n, g3⟩ ?_
    have hk : ∀ b o, h1.get? b = some o → (h1.push { cls := .type "tuple_iterator", data := .fields #[.ref a, .int 0 0] }).get? b = some o := fun b o e => Heap.get?_push_of_some _ e
    refine hQ _ [h1.objs.size] _ xs G1 st1 _ tk1 p (Itr.tuple h1.objs.size) ⟨a, o, us, n, 0, ⟨_, Heap.get?_push_size _ rfl, rfl, rfl⟩, g1, g2, g3, by simpa using rs⟩ (Ap.fresh S1 (fun b hb => ?_) fun b hb => ?_) le (S1.grow hk)
    · simp at hb; subst hb; exact fresh_none _
    · simp at hb; subst hb; exact ⟨_, Heap.get?_push_size _ rfl⟩
end
end Lay
end
section
open PySem PySem.SeqAt
namespace Lay

noncomputable def Fn (c : Cx) (k : Nat) (g : Value) (xs : List V) (st : Store) (P : V → Store → Prop) : Prop :=
  ∀ (A : Around) (G : Fz) (s : Shared) (us : List Value) (Q : Value → Shared → Prop) (E : Value → Shared → Prop), Lim k A → HS c G st s.heap → RepL G us xs →
    (∀ v x G' st' h' tk, P x st' → Rep G' v x → Le G G' → HS c G' st' h' → Q v { s with heap := h', toks := tk }) → wpAny (model c.prog c.w) A (call g us) Q E s

theorem Fn.mono {c : Cx} {k : Nat} {g : Value} {xs : List V} {st : Store} {P P' : V → Store → Prop} (h : Fn c k g xs st P') (hp : ∀ x st', P' x st' → P x st') : Fn c k g xs st P :=
  fun A G s us Q E hA S r hQ => h A G s us Q E hA S r fun v x G' st' h' tk p => hQ v x G' st' h' tk (hp _ _ p)
theorem Fn.drop {c : Cx} {k : Nat} {g : Value} {xs : List V} {st : Store} {P : V → Store → Prop} (h : Fn c k g xs st fun x st' => ∃ st'', st''.Sublist st' ∧ P x st'') : Fn c k g xs st P :=
  fun A G s us Q E hA S r hQ => h A G s us Q E hA S r fun v x G' st' h' tk ⟨st'', hs, p⟩ rv le S' => hQ v x G' st'' h' tk p rv le (S'.drop hs)
theorem Fn.freeze {c : Cx} {k : Nat} {g : Value} {xs : List V} {st : Store} {P : V → Store → Prop} (h : Fn c k g xs st fun x st' => ∃ a ys pre post, x = .ref a ∧ st' = pre ++ (a, .list ys) :: post ∧ P (.lst ys) (pre ++ post)) : Fn c k g xs st P :=
  fun A G s us Q E hA S r hQ => h A G s us Q E hA S r fun v x G' st' h' tk ⟨a, ys, pre, post, e1, e2, p⟩ rv le S' => by
    subst e1 e2
    cases rv
    obtain ⟨G'', le', r', S'', _⟩ := S'.freeze
    exact hQ _ _ G'' _ h' tk p r' (le.trans le') S''

theorem wp_callS {f : Fm} {vs : Vars} {st : Store} {g : Value} {xs : List V} {P : V → Store → Prop} (h : Fn f.c f.k g xs st P) {A : Around} {G : Fz} {s : Shared} {us : List Value} {Q : Value → Shared → Prop} {E : Value → Shared → Prop}
    (hA : Lim f.k A) (S : St f.c G f.env f.oc vs st s.heap) (r : RepL G us xs)
    (hQ : ∀ v x G' st' h' tk, P x st' → Rep G' v x → Le G G' → St f.c G' f.env f.oc vs st' h' → Q v { s with heap := h', toks := tk }) : wpAny (model f.c.prog f.c.w) A (call g us) Q E s := by
  have leK := keep_le (h := s.heap) (fun b hb => (S.ap.1 b hb).1)
  refine h A (keep G s.heap (f.env.locals :: f.oc)) s us Q E hA S.leave (r.imp leK.seq) fun v x G' st' h' tk p rv le H => ?_
  obtain ⟨le', sq, S'⟩ := S.back le H
  exact hQ v x _ st' h' tk p (rv.imp sq) le' S'

theorem evalArgs_all {M : Model} {A : Around} {E : Value → Shared → Prop} {s : Shared} {f : Value} {args : List (Bool × Sem Value)} {Q : Args → Shared → Prop} (hp : args.any (·.1) = false) (h : wpAny M A (spliced args) (fun vs s' => Q ⟨vs, []⟩ s') E s) :
    wpAny M A (evalArgs f true args []) Q E s := by
  cases args with
  | nil =>
    unfold evalArgs
    show wpAny M A (spliced [] >>= _) Q E s
    refine wpAny_bind (wpAny_mono h (fun vs s' h' => ?_) fun _ _ x => x)
    refine wpAny_holding ?_
    exact wpAny_bind (wpAny_pure (wpAny_bind (wpAny_pure (wpAny_pure h'))))
  | cons a rest =>
    obtain ⟨b, x⟩ := a
    have : b = false := by simpa using (List.any_eq_false.mp hp (b, x) List.mem_cons_self)
    subst this
    exact Calls.evalArgs_plain h

noncomputable def Keeps' (c : Cx) (g : Value) : Prop := ∀ h : Heap, (∀ a o, c.h₀.get? a = some o → h.get? a = some o) → ∃ k, (k = Keeper.frame ∨ k = Keeper.machine ∨ k = Keeper.boundFrame) ∧ W.Looks (model c.prog c.w) h (keeperOf g) k
theorem Keeps'.known {c : Cx} {g : Value} (h : W.keepIn c.K g = true) : Keeps' c g := fun hp hk => W.keeps_K h hp (c.kin.keeps hk)
theorem Keeps'.builtin {c : Cx} {id : String} : Keeps' c (.builtin id) := fun _ _ => ⟨.machine, .inr (.inl rfl), W.Looks.of_pure rfl⟩
theorem Keeps'.type {c : Cx} {id : String} : Keeps' c (.type id) := fun _ _ => ⟨.machine, .inr (.inl rfl), W.Looks.of_pure rfl⟩

theorem HS.old {c : Cx} {G : Fz} {st : Store} {h : Heap} (H : HS c G st h) : ∀ a o, c.h₀.get? a = some o → h.get? a = some o := fun a o e => H.sub _ _ (H.base a o e)
theorem HS.kin {c : Cx} {G : Fz} {st : Store} {h : Heap} (H : HS c G st h) : c.K.In h := c.kin.keeps H.old

section
variable {f : Fm} {vs : Vars} {st : Store} {P : V → Store → Prop}
theorem wp_callWith {g : Value} {first : List Value} {fx : List V} {args : List Expr} {pos : Pos} {A : Around} {G : Fz} {s : Shared} {Q : Value → Shared → Prop} {E : Value → Shared → Prop} (hk : Keeps' f.c g)
    (hp : (backTo pos (starEach args f.env)).any (·.1) = false) (hA : Lim f.k A) (S : St f.c G f.env f.oc vs st s.heap) (rf : RepL G first fx)
    (h : EvL f args vs st fun xs st1 => Fn f.c f.k g (fx ++ xs) st1 P)
    (hQ : ∀ v x G' st' h' tk, P x st' → Rep G' v x → Le G G' → St f.c G' f.env f.oc vs st' h' → Q v { s with heap := h', toks := tk }) : wpAny (model f.c.prog f.c.w) A (callWith pos g first (backTo pos (starEach args f.env)) []) Q E s := by
  refine W.callWith_of (P := fun h => ∀ a o, f.c.h₀.get? a = some o → h.get? a = some o) (by rw [hp]; rfl) hk (evalArgs_all hp (h pos A G s _ E hA S ?_))
  intro us xs G1 st1 h1 tk1 q rs le1 S1
  refine ⟨S1.hs.old, wp_callS q hA S1 ((rf.imp le1.seq).append rs) fun v x G' st' h' tk p r le S' => hQ v x G' st' h' tk p r (le1.trans le) S'⟩
theorem Ev.callG {x : Str} {p pos : Pos} {args : List Expr} {g : Value} (hx : f.env.kindOf x = some .globalImplicit) (hg : W.nsIn f.c.K mainGlobals x = some (some g)) (hk : W.keepIn f.c.K g = true)
    (h : EvL f args vs st fun xs st1 => Fn f.c f.k g xs st1 P) (hp : (backTo pos (starEach args f.env)).any (·.1) = false := by rfl) (hd : (x == ("__debug__" : Str)) = false := by decide) : Ev f (.Call (.Name x p) args [] pos) vs st P := by
  intro A G s Q E hA S hQ
  refine wpAny_Call_Name_kw (wp_global S hx hg ?_ hd)
  exact wp_callWith (first := []) (fx := []) (Keeps'.known hk) hp hA S .nil h hQ
theorem Ev.callB {x : Str} {p pos : Pos} {args : List Expr} {g : Value} (hx : f.env.kindOf x = some .globalImplicit) (hg : W.nsIn f.c.K mainGlobals x = some Option.none) (hv : bootBuiltins x = some g) (hn : x ≠ "__name__") (hk : Keeps' f.c g)
    (h : EvL f args vs st fun xs st1 => Fn f.c f.k g xs st1 P) (hp : (backTo pos (starEach args f.env)).any (·.1) = false := by rfl) (hd : (x == ("__debug__" : Str)) = false := by decide) : Ev f (.Call (.Name x p) args [] pos) vs st P := by
  intro A G s Q E hA S hQ
  refine wpAny_Call_Name_kw (wp_builtin S hx hg hv hn ?_ hd)
  exact wp_callWith (first := []) (fx := []) hk hp hA S .nil h hQ
end

structure Def (c : Cx) (a : Addr) (fd : FuncData) (body : List Stmt) (names : List Str) : Prop where
  look : ∃ o, c.K.lookup a = some o ∧ o.data = .func fd
  code : W.codeIn c.K fd.code fd.qualname = true
  body : fd.body = .stmts body
  clo : fd.closure = []
  glob : fd.globals = mainGlobals
  bltn : fd.builtins = builtinsNs
  co : fd.scope.isCoroutine = false
  gen : fd.scope.isGenerator = false
  kind : fd.scope.kind = .function
  bind : ∀ (s : Shared) (us : List Value), us.length = names.length → c.K.In s.heap → BindsTo s fd ⟨us, []⟩ (names.zip us)
  nk : ∀ x ∈ names, fd.scope.names.lookup x = some .local ∨ (fd.scope.names.lookup x = some .cell ∧ ∀ n, ((cellsFrom n fd.scope.names []).lookup x).isSome = true)

noncomputable def ocOf (cs : List (Str × Addr)) : List Addr := cs.filterMap fun p => cs.lookup p.1
theorem mem_ocOf {cs : List (Str × Addr)} {k : Addr} : k ∈ ocOf cs ↔ ∃ x, cs.lookup x = some k := by
  unfold ocOf
  rw [List.mem_filterMap]
  constructor
  · rintro ⟨p, _, e⟩; exact ⟨p.1, e⟩
  · rintro ⟨x, e⟩; exact ⟨(x, k), mem_of_lookup e, e⟩

noncomputable def Bound (G : Fz) (env : Env) (m cm : Str → Option Value) (vs : Vars) : Prop := ∀ x v, vs x = some v → ∃ a, Rep G a v ∧
  ((env.kindOf x = some .local ∧ m x = some a) ∨ (env.kindOf x = some .cell ∧ (env.cells.lookup x).isSome = true ∧ cm x = some a))
theorem Bound.step {G : Fz} {env : Env} : ∀ {names : List Str} {us : List Value} {xs : List V} {m cm : Str → Option Value} {vs : Vars}, names.length = us.length → RepL G us xs →
    (∀ x ∈ names, env.kindOf x = some .local ∨ (env.kindOf x = some .cell ∧ (env.cells.lookup x).isSome = true)) → Bound G env m cm vs →
    Bound G env (bindL env.kindOf (names.zip us) m) (bindC env.kindOf (names.zip us) cm) (vs.sets names xs)
  | [], us, xs, m, cm, vs, _, _, _, b => by simpa [bindL, bindC, Vars.sets] using b
  | n :: names, us, xs, m, cm, vs, hl, r, hk, b => by
    cases r with
    | nil => simp at hl
    | @cons u us' x xs' ru rs =>
    show Bound G env (bindL env.kindOf ((n, u) :: names.zip us') m) (bindC env.kindOf ((n, u) :: names.zip us') cm) ((vs.set n x).sets names xs')
    unfold bindL bindC
    refine Bound.step (by simpa using hl) rs (fun y hy => hk y (List.mem_cons_of_mem _ hy)) fun y v e => ?_
    unfold Vars.set at e
    by_cases hy : y = n
    · subst hy
      rw [if_pos rfl] at e; cases e
      refine ⟨u, ru, ?_⟩
      rcases hk y List.mem_cons_self with h1 | ⟨h1, h2⟩
      · exact .inl ⟨h1, by rw [if_pos h1]; exact if_pos rfl⟩
      · have hnl : ¬ env.kindOf y = some .local := by rw [h1]; decide
        exact .inr ⟨h1, h2, by rw [if_neg hnl]; exact if_pos rfl⟩
    · rw [if_neg hy] at e
      obtain ⟨a, ra, d⟩ := b y v e
      refine ⟨a, ra, d.imp (fun ⟨h1, h2⟩ => ⟨h1, ?_⟩) fun ⟨h1, h2, h3⟩ => ⟨h1, h2, ?_⟩⟩
      · by_cases hn : env.kindOf n = some .local
        · rw [if_pos hn]; exact (if_neg hy).trans h2
        · rw [if_neg hn]; exact h2
      · by_cases hn : env.kindOf n = some .local
        · rw [if_pos hn]; exact h3
        · rw [if_neg hn]; exact (if_neg hy).trans h3

noncomputable def noVars : Vars := fun _ => Option.none
noncomputable def fmOf (c : Cx) (k : Nat) (fd : FuncData) (L a : Addr) : Fm := ⟨c, k, callEnvC fd L a, ocOf (cellsFrom (L + 1) fd.scope.names [])⟩

noncomputable def FnC (c : Cx) (k : Nat) (g : Value) (xs : List V) (st : Store) (P : V → Store → Prop) : Prop :=
  ∀ (A : Around) (G : Fz) (s : Shared) (us : List Value) (R : Result → Shared → Prop), Lim k A → HS c G st s.heap → RepL G us xs →
    (∀ v x G' st' h' tk, P x st' → Rep G' v x → Le G G' → HS c G' st' h' → R (.ok (.ret v)) { s with heap := h', toks := tk }) → codeAny (model c.prog c.w) A (.call g ⟨us, []⟩) R s
theorem FnC.fn {c : Cx} {k : Nat} {g : Value} {xs : List V} {st : Store} {P : V → Store → Prop} (h : FnC c k g xs st P) : Fn c k g xs st P :=
  fun A G s us _Q _E hA H r hQ => wpAny_call (h A G s us _ hA H r hQ)
theorem FnC.mono {c : Cx} {k : Nat} {g : Value} {xs : List V} {st : Store} {P P' : V → Store → Prop} (h : FnC c k g xs st P') (hp : ∀ x st', P' x st' → P x st') : FnC c k g xs st P :=
  fun A G s us R hA S r hQ => h A G s us R hA S r fun v x G' st' h' tk p => hQ v x G' st' h' tk (hp _ _ p)

theorem FnC.def {c : Cx} {k : Nat} {a : Addr} {fd : FuncData} {body : List Stmt} {names : List Str} {xs : List V} {st : Store} {P : V → Store → Prop} (d : Def c a fd body names) (hl : xs.length = names.length)
    (h : ∀ L, Blk (fmOf c k fd L a) body (noVars.sets names xs) st fun y st' => match y with | .ret x => P x st' | .next _ => P .none st' | .cont _ => False) : FnC c (k + 1) (.ref a) xs st P := by
  intro A G s us R hA H r hQ
  obtain ⟨o, ho, hd⟩ := d.look
  have hul : us.length = names.length := by rw [r.length, hl]
  refine (codeAny_call_function hA.depth (H.kin _ _ ho) hd d.co d.gen d.body (W.codeRec_of H.kin d.code) (d.bind s us hul H.kin _ _ _ _ ?_))
  rw [d.clo]
  refine wpAny_newFunctionEnv_cells d.kind (fun x hx => ?_) fun env he s1 X => ?_
  · rcases d.nk x.1 (List.of_mem_zip hx).1 with h1 | ⟨h1, h2⟩
    · exact .inl h1
    · exact .inr ⟨h1, h2 _⟩
  have hlim : s1.heap.NoLimit := (c.lim.keeps H.old).keeps X.toInCall.keep
  refine ⟨hlim, codeAny_func ?_⟩
  obtain ⟨h1, tk1, hs1, hk1⟩ := X.done
  subst hs1
  have hX := X
  subst he
  generalize hL : s.heap.objs.size = L at *
  have hfr : ∀ b, L ≤ b → s.heap.get? b = Option.none := fun b hb => by
    cases e : s.heap.get? b with
    | none => rfl
    | some o' => exact absurd (Nat.lt_of_lt_of_le (Heap.lt_size e) (Nat.le_of_eq hL)) (Nat.not_lt.mpr hb)
  have hGn : ∀ b, L ≤ b → G b = Option.none := fun b hb => by
    cases e : G b with
    | none => rfl
    | some p => have := H.sub _ _ e; rw [hfr b hb] at this; cases this
  have hfp : ∀ b, L ≤ b → b ∉ fpS st := fun b hb hm => by obtain ⟨o', e⟩ := H.there b hm; rw [hfr b hb] at e; cases e
  have hge : ∀ b ∈ L :: ocOf (cellsFrom (L + 1) fd.scope.names []), L ≤ b := by
    intro b hb
    rcases List.mem_cons.mp hb with rfl | hb
    · exact Nat.le_refl _
    · obtain ⟨x, e⟩ := mem_ocOf.mp hb
      exact Nat.le_of_lt (X.above x b (mem_of_lookup e))
  have S : St c G (callEnvC fd L a) (ocOf (cellsFrom (L + 1) fd.scope.names [])) (noVars.sets names xs) st h1 := by
    refine ⟨H.to H.base (Le.refl _).seq (fun a p e => hk1 _ _ (H.sub _ _ e)) (fun b _ o e => hk1 b o e) H.apart, ⟨d.kind, d.glob, d.bltn, ?_, ?_, ?_, ?_, ?_, fun b hb => hGn b (hge b hb)⟩, fun b hb => hfp b (hge b hb)⟩
    · refine ⟨_, X.toInCall.ns, fun x v e => ?_⟩
      have b := Bound.step (G := G) (env := callEnvC fd L a) (names := names) (us := us) (xs := xs) (m := fun _ => Option.none) (cm := fun _ => Option.none) (vs := noVars) hul.symm r (fun x hx => (d.nk x hx).imp id fun ⟨h1, h2⟩ => ⟨h1, h2 _⟩) (fun x v e => by cases e)
      obtain ⟨u, ru, dd⟩ := b x v e
      refine ⟨u, ru, dd.imp id fun ⟨q1, q2, q3⟩ => ⟨q1, ?_⟩⟩
      obtain ⟨k', hk'⟩ := Option.isSome_iff_exists.mp q2
      exact ⟨k', hk', q3 ▸ X.cell x k' hk'⟩
    · intro x k' hx
      exact ⟨⟨_, X.cell x k' hx⟩, .inl (mem_ocOf.mpr ⟨x, hx⟩)⟩
    · intro x y k' hx hy
      exact name_of_addr X.apart (mem_of_lookup hx) (mem_of_lookup hy)
    · intro k' hk'
      obtain ⟨x, hx⟩ := mem_ocOf.mp hk'
      exact ⟨_, X.cell x k' hx⟩
    · intro hm
      obtain ⟨x, hx⟩ := mem_ocOf.mp hm
      exact Nat.lt_irrefl _ (X.above x _ (mem_of_lookup hx))
  refine h L (A.deeper (callEnvC fd L a)) G { s with heap := h1, toks := tk1 } _ _ (hA.deeper _) S fun fl y G' st' h' tk p le o => ?_
  cases fl <;> cases y <;> first | exact o.elim | exact p.elim | skip
  · exact hQ _ _ G' st' h' tk p .none le o.hs
  · exact hQ _ _ G' st' h' tk p o.1 le o.2
theorem Fn.def {c : Cx} {k : Nat} {a : Addr} {fd : FuncData} {body : List Stmt} {names : List Str} {xs : List V} {st : Store} {P : V → Store → Prop} (d : Def c a fd body names) (hl : xs.length = names.length)
    (h : ∀ L, Blk (fmOf c k fd L a) body (noVars.sets names xs) st fun y st' => match y with | .ret x => P x st' | .next _ => P .none st' | .cont _ => False) : Fn c (k + 1) (.ref a) xs st P := (FnC.def d hl h).fn
end Lay
end
section
open PySem PySem.SeqAt
namespace Lay

theorem St.adopt {c : Cx} {G : Fz} {env : Env} {oc : List Addr} {vs : Vars} {st : Store} {h : Heap} {D : Addr} {o : Obj} (S : St c G env oc vs st h) (a : Ap G env oc st [D] h) (ho : h.get? D = some o) :
    Le G (put G D o) ∧ St c (put G D o) env oc vs st h := by
  have hD : D ∈ [D] := List.mem_singleton.mpr rfl
  refine ⟨put_le (a.off D hD), S.to (put_le (a.off D hD)) (fun b p e => ?_) (fun b _ o e => e) fun b hb => ?_⟩
  · unfold put at e
    by_cases hb : b = D
    · subst hb; rw [if_pos rfl] at e; cases e; exact ho
    · rw [if_neg hb] at e; exact S.hs.sub _ _ e
  · unfold put
    rw [if_neg (by rintro rfl; exact hb.elim (a.fr _ hD) (a.fp _ hD))]; exact S.off b hb
theorem Ap.sub {G : Fz} {env : Env} {oc : List Addr} {st : Store} {h : Heap} {L L' : List Addr} (a : Ap G env oc st L h) (hs : ∀ b ∈ L', b ∈ L) : Ap G env oc st L' h :=
  ⟨fun b hb => a.off b (hs b hb), fun b hb => a.fr b (hs b hb), fun b hb => a.fp b (hs b hb), fun b hb => a.ex b (hs b hb)⟩

noncomputable def Tests (f : Fm) (ifs : List Expr) (vs : Vars) (st : Store) (P : Bool → Store → Prop) : Prop :=
  ∀ (A : Around) (G : Fz) (s : Shared) (Q : Bool → Shared → Prop) (E : Value → Shared → Prop), Lim f.k A → St f.c G f.env f.oc vs st s.heap →
    (∀ b G' st' h' tk, P b st' → Le G G' → St f.c G' f.env f.oc vs st' h' → Q b { s with heap := h', toks := tk }) →
    wpAny (model f.c.prog f.c.w) A (forIn ifs true fun c r => if r = true then do let ok ← isTrue c f.env (eval c f.env); pure (ForInStep.yield ok) else pure (ForInStep.yield r)) Q E s
theorem Tests.nil {f : Fm} {vs : Vars} {st : Store} {P : Bool → Store → Prop} (h : P true st) : Tests f [] vs st P := fun _A G s _Q _E _hA S hQ =>
  wpAny_tests_nil (hQ true G st s.heap s.toks h (Le.refl _) S)
theorem Tests.one {f : Fm} {vs : Vars} {st : Store} {P : Bool → Store → Prop} {e : Expr} (h : Tst f e vs st P) : Tests f [e] vs st P := fun A G s Q E hA S hQ => wpAny_tests_one (h A G s Q E hA S hQ)

noncomputable def CLoop (f : Fm) (e : Expr) (d : Nat) (target : Expr) (xs : List V) (vs : Vars) (st : Store) (ys : List V) (P : Vars → Store → List V → Prop) : Prop :=
  ∀ (A : Around) (I : Addr) (L : List Addr) (S : List V → Fz → Heap → Prop) (G : Fz) (s : Shared) (R : Result → Shared → Prop) (D : Addr) (us : Array Value), Itr f.c.prog f.c.w target I L S → S xs G s.heap → Lim f.k A →
    Ap G f.env f.oc st (D :: L) s.heap → D ∉ L → s.heap.PlainList D us → RepL G us.toList ys → St f.c G f.env f.oc vs st s.heap →
    (∀ vs' st' ys' us' G' h' tk, P vs' st' ys' → Le G G' → St f.c G' f.env f.oc vs' st' h' → h'.PlainList D us' → RepL G' us'.toList ys' → Ap G' f.env f.oc st' [D] h' → R (.ok .next) { s with heap := h', toks := tk }) →
    codeAny (model f.c.prog f.c.w) A (.compLoop e d (.ref I) (.ref D) f.env) R s

section
variable {f : Fm} {vs : Vars} {st : Store} {P : Vars → Store → List V → Prop} {target iter elt : Expr} {ifs : List Expr} {gens : List Comprehension} {scope : Scope} {pos : Pos} {d : Nat} {ys : List V}
theorem CLoop.mono {e : Expr} {xs : List V} {P' : Vars → Store → List V → Prop} (h : CLoop f e d target xs vs st ys P') (hp : ∀ vs' st' ys', P' vs' st' ys' → P vs' st' ys') : CLoop f e d target xs vs st ys P :=
  fun A I L S G s R D us hI hS hA a hD pl r T hR => h A I L S G s R D us hI hS hA a hD pl r T fun vs' st' ys' us' G' h' tk p => hR vs' st' ys' us' G' h' tk (hp _ _ _ p)

noncomputable def turnTail (elt : Expr) (gens : List Comprehension) (scope : Scope) (pos : Pos) (d : Nat) (g : Comprehension) (it acc : Value) (env : Env) (v : Value) : Sem Fin := do
  assign g.target env v
  let ok ← (forIn g.ifs true fun c r => if r = true then do let ok ← isTrue c env (eval c env); pure (ForInStep.yield ok) else pure (ForInStep.yield r))
  if ok then
    match gens[d + 1]? with
    | some g' =>
      let x ← eval g'.iter env
      standAt g'.iter.pos
      let x ← if g'.is_async != 0 then foldedIterable g'.iter x else foldedSetIterable g'.iter env x
      let _ ← runOwn (.compStart (.ListComp elt gens scope pos) (d + 1) (← holding [x] (if g'.is_async != 0 then asyncIter x else pyIter x)) acc env) env
    | none => (do let _ ← call (.builtin "list.append") [acc, ← eval elt env])
  again (.compLoop (.ListComp elt gens scope pos) d it acc env)
theorem compTurn_any (elt : Expr) (gens : List Comprehension) (scope : Scope) (pos : Pos) (d : Nat) (g : Comprehension) (hg : gens[d]? = some g) (h0 : g.is_async = 0) (it acc : Value) (env : Env) :
    compTurn (.ListComp elt gens scope pos) d it acc env = (do
      standAt g.iter.pos
      match ← pyNext it with
      | none => pure (.done .next)
      | some v =>
        letOwnedTupleGo g.target it v
        turnTail elt gens scope pos d g it acc env v) := by
  unfold compTurn
  dsimp only
  rw [hg]
  dsimp only
  simp only [h0, bne_self_eq_false, Bool.false_eq_true, if_false]
  rfl

theorem CLoop.nil {g : Comprehension} (hg : gens[d]? = some g) (h0 : g.is_async = 0) (h : P vs st ys) : CLoop f (.ListComp elt gens scope pos) d target [] vs st ys P := by
  intro A I L S G s R D us hI hS hA a hD pl r T hR
  refine codeAny_of_tree ?_
  show wpAny _ _ ((compTurn (.ListComp elt gens scope pos) d (.ref I) (.ref D) f.env).onRaise (fun x => do noteFrame x f.env; theTreesLotGoes x)) _ _ s
  refine wpAny_noted ?_
  rw [compTurn_any elt gens scope pos d g hg h0]
  refine wpAny_bind (wpAny_standAt (wpAny_bind ?_))
  refine hI.done _ G s _ _ hA.1 hS T.hs.sub (fun b hb => a.off b (List.mem_cons_of_mem _ hb)) fun h1 tk1 hk => ?_
  have a' : Ap G f.env f.oc st L s.heap := a.sub fun b hb => List.mem_cons_of_mem _ hb
  have T' := T.to (Le.refl _) (fun b p e => hk b p.2 (fun hb => by rw [a'.off b hb] at e; cases e) (T.hs.sub b p e)) (fun b hb o e => hk b o (fun hL => hb.elim (a'.fr b hL) (a'.fp b hL)) e) T.off
  have pl' : h1.PlainList D us := pl.at fun o e => hk D o hD e
  refine wpAny_pure (hR vs st ys us G h1 tk1 h (Le.refl _) T' pl' r ⟨fun b hb => a.off b ?_, fun b hb => a.fr b ?_, fun b hb => a.fp b ?_, fun b hb => ?_⟩)
  · rw [List.mem_singleton.mp hb]; exact List.mem_cons_self
  · rw [List.mem_singleton.mp hb]; exact List.mem_cons_self
  · rw [List.mem_singleton.mp hb]; exact List.mem_cons_self
  · rw [List.mem_singleton.mp hb]; obtain ⟨n, e⟩ := pl'; exact ⟨_, e⟩

theorem codeAny_compStart_at {prog : Program} {w : World} {A : Around} {R : Result → Shared → Prop} {s : Shared} {g : Comprehension} {it acc : Value} {env : Env} (hg : gens[d]? = some g) (h0 : g.is_async = 0)
    (h1 : codeAny (model prog w) A (.compLoop (.ListComp elt gens scope pos) d it acc env) R s)
    (h2 : ∀ E, wpAny (model prog w) A (pyIter it) (fun it' s' => codeAny (model prog w) A (.compLoop (.ListComp elt gens scope pos) d it' acc env) R s') E s) :
    codeAny (model prog w) A (.compStart (.ListComp elt gens scope pos) d it acc env) R s := by
  refine codeAny_of_tree ?_
  show wpAny _ _ ((compStart (.ListComp elt gens scope pos) d it acc env).onRaise (fun x => do noteFrame x env; standAt theWindowsPlace)) _ _ s
  refine wpAny_notedAt ?_
  have hc : ((clausesOf (.ListComp elt gens scope pos))[d]?).elim false (·.is_async != 0) = false := by
    show (gens[d]?).elim false (·.is_async != 0) = false
    rw [hg]; simp [h0]
  have hc2 : (clausesOf (.ListComp elt gens scope pos))[d]? = some g := hg
  unfold compStart
  rw [hc]
  simp only [Bool.false_eq_true, if_false]
  refine wpAny_bind (wpAny_askSetting (wpAny_ite ?_))
  split
  · first
      | exact wpAny_bind (wpAny_pure (wpAny_pure (And.intro rfl h1)))
      | exact wpAny_pure (And.intro rfl h1)
  · refine wpAny_bind (wpAny_rule ?_)
    rw [hc2]
    dsimp only
    refine wpAny_bind (wpAny_standAt (wpAny_bind (wpAny_mono (h2 _) (fun it' s' h' => ?_) fun _ _ x => x)))
    exact wpAny_pure (And.intro rfl h')

noncomputable def Emit (f : Fm) (e : Expr) (d : Nat) (elt : Expr) (gens : List Comprehension) (vs : Vars) (st : Store) (ys : List V) (P : Vars → Store → List V → Prop) : Prop :=
  match gens[d + 1]? with
  | none => Ev f elt vs st fun y st' => ys.length ≤ sizeLine ∧ P vs st' (ys ++ [y])
  | some g => g.is_async = 0 ∧ (∀ x, foldedSetIterable g.iter f.env x = pure x) ∧ ItE f g.target g.iter vs st fun zs st' => CLoop f e (d + 1) g.target zs vs st' ys P

theorem CLoop.cons {g : Comprehension} {x : V} {xs : List V} (hg : gens[d]? = some g) (h0 : g.is_async = 0)
    (h : Asg f g.target x vs st fun vs1 => Tests f g.ifs vs1 st fun ok st2 =>
      if ok = true then Emit f (.ListComp elt gens scope pos) d elt gens vs1 st2 ys fun vs3 st3 ys3 => CLoop f (.ListComp elt gens scope pos) d g.target xs vs3 st3 ys3 P
      else CLoop f (.ListComp elt gens scope pos) d g.target xs vs1 st2 ys P) :
    CLoop f (.ListComp elt gens scope pos) d g.target (x :: xs) vs st ys P := by
  intro A I L S G s R D us hI hS hA a hD pl r T hR
  refine codeAny_of_tree ?_
  show wpAny _ A ((compTurn (.ListComp elt gens scope pos) d (.ref I) (.ref D) f.env).onRaise (fun x => do noteFrame x f.env; theTreesLotGoes x)) _ _ s
  refine wpAny_noted ?_
  rw [compTurn_any elt gens scope pos d g hg h0]
  have aL : Ap G f.env f.oc st L s.heap := a.sub fun b hb => List.mem_cons_of_mem _ hb
  refine wpAny_bind (wpAny_standAt (wpAny_bind (wpAny_mono (hI.item A x xs G s (fun v s2 => ?_) _ hA.1 hS T.hs.sub aL.off ?_) ?_ fun _ _ h' => h')))
  · exact wpAny (model f.c.prog f.c.w) A (turnTail elt gens scope pos d g (.ref I) (.ref D) f.env v) (fun fin s' => match fin with
        | .done f => R (.ok f) s'
        | .again c' => c'.quiet = true ∧ codeAny (model f.c.prog f.c.w) A c' R s') (notedBy (model f.c.prog f.c.w) A f.env fun e s' => R (.error e) s') s2
  · intro v G1 h1 tk1 rv le1 hs1 hn1 hS1 hk1
    have T1 := T.moved aL le1 hs1 hn1 hk1
    have hexD : ∃ o, h1.get? D = some o := by obtain ⟨n, e⟩ := pl; exact ⟨_, hk1 D _ hD e⟩
    have a1 : Ap G1 f.env f.oc st (D :: L) h1 := a.moved hn1 fun b hb => by
      rcases List.mem_cons.mp hb with rfl | hb
      · exact hexD
      · exact hI.ex _ _ _ hS1 b hb
    have pl1 : h1.PlainList D us := pl.at fun o e => hk1 D o hD e
    have T1k := T1.keepL a1
    have le1k := keep_le (h := h1) a1.off
    -- the next turn, from a state behind this one
    have next : ∀ (vs3 : Vars) (st3 : Store) (ys3 : List V) (us3 : Array Value) (G3 : Fz) (h3 : Heap) (tk3 : Nat), CLoop f (.ListComp elt gens scope pos) d g.target xs vs3 st3 ys3 P → Le G1 G3 → St f.c G3 f.env f.oc vs3 st3 h3 → h3.PlainList D us3 →
        RepL G3 us3.toList ys3 → Ap G3 f.env f.oc st3 (D :: L) h3 → (∀ b ∈ L, ∀ o, h1.get? b = some o → h3.get? b = some o) →
        wpAny (model f.c.prog f.c.w) A (again (.compLoop (.ListComp elt gens scope pos) d (.ref I) (.ref D) f.env)) (fun fin s' => match fin with
          | .done f => R (.ok f) s'
          | .again c' => c'.quiet = true ∧ codeAny (model f.c.prog f.c.w) A c' R s') (notedBy (model f.c.prog f.c.w) A f.env fun e s' => R (.error e) s') { s with heap := h3, toks := tk3 } := by
      intro vs3 st3 ys3 us3 G3 h3 tk3 q le3 T3 pl3 r3 a3 hk3
      refine wpAny_pure ⟨rfl, q A I L S G3 { s with heap := h3, toks := tk3 } R D us3 hI (hI.frame xs G1 _ h1 _ hS1 le3.seq hk3) hA a3 hD pl3 r3 T3 fun vs' st' ys' us' G' h' tk p le o => hR vs' st' ys' us' G' h' tk p ((le1.trans le3).trans le) o⟩
    unfold turnTail
    refine wpAny_bind (h A (keep G1 h1 (D :: L)) { s with heap := h1, toks := tk1 } v _ _ hA (rv.imp le1k.seq) T1k fun vs2 h2 tk2 p2 T2 => ?_)
    refine wpAny_bind (p2 A (keep G1 h1 (D :: L)) { s with heap := h2, toks := tk2 } _ _ hA T2 fun ok G3 st3 h3 tk3 p3 le3 T3 => ?_)
    have hmemL : ∀ b ∈ L, b ∈ D :: L := fun b hb => List.mem_cons_of_mem _ hb
    cases ok with
    | false =>
      simp only [Bool.false_eq_true, if_false] at p3 ⊢
      have leU := unkeep_le a1.off le3
      refine next vs2 st3 ys us _ h3 tk3 p3 leU (T1.unkeepL a1 le3 T3) (pl1.at fun o e => kept_obj le3 T3.hs.sub List.mem_cons_self e) ((r.imp le1.seq).imp leU.seq) (a1.after le3 T3) fun b hb o e => kept_obj le3 T3.hs.sub (hmemL b hb) e
    | true =>
      simp only [if_true] at p3 ⊢
      unfold Emit at p3
      cases hgn : gens[d + 1]? with
      | none =>
        rw [hgn] at p3
        dsimp only at p3 ⊢
        refine wpAny_bind (wpAny_bind (p3 A G3 { s with heap := h3, toks := tk3 } _ _ hA T3 ?_))
        rintro u y G4 st4 h4 tk4 ⟨hz, p4⟩ ru le4 T4
        have le34 := le3.trans le4
        have leU := unkeep_le a1.off le34
        have hkk := kept_of a1.ex le34
        have sq : SeqLe G4 (unkeep G4 (D :: L)) := unkeep_seq fun b hb => let ⟨o, _, e⟩ := hkk b hb; ⟨o, e⟩
        have T4u := T1.unkeepL a1 le34 T4
        have a4 := a1.after le34 T4
        have pl4 : h4.PlainList D us := pl1.at fun o e => kept_obj le34 T4.hs.sub List.mem_cons_self e
        have hus : us.size ≤ sizeLine := by have := r.length; simp at this; omega
        refine wpAny_bind (wpAny_list_append_plain (s := { s with heap := h4, toks := tk4 }) pl4 (fun h5 pl5 hs5 => wpAny_pure ?_) hus)
        have aD : Ap (unkeep G4 (D :: L)) f.env f.oc st4 [D] h4 := a4.sub fun b hb => by rw [List.mem_singleton.mp hb]; exact List.mem_cons_self
        have T5 : St f.c (unkeep G4 (D :: L)) f.env f.oc vs2 st4 h5 := T4u.to (Le.refl _) (fun b p e => hs5.extBut b _ (by rintro rfl; rw [aD.off _ (List.mem_singleton.mpr rfl)] at e; cases e) (T4u.hs.sub b p e))
          (fun b hb o e => hs5.extBut b o (by rintro rfl; exact hb.elim (aD.fr _ (List.mem_singleton.mpr rfl)) (aD.fp _ (List.mem_singleton.mpr rfl))) e) T4u.off
        refine next vs2 st4 (ys ++ [y]) (us.push u) _ h5 tk4 p4 leU T5 pl5 ?_ ⟨a4.off, a4.fr, a4.fp, fun b hb => ?_⟩ fun b hb o e => hs5.extBut b o (by rintro rfl; exact hD hb) (kept_obj le34 T4.hs.sub (hmemL b hb) e)
        · rw [Array.toList_push]
          exact ((r.imp le1.seq).imp leU.seq).append (.cons (ru.imp sq) .nil)
        · by_cases hbD : b = D
          · subst hbD; obtain ⟨n, e⟩ := pl5; exact ⟨_, e⟩
          · obtain ⟨o, e⟩ := a4.ex b hb; exact ⟨o, hs5.extBut b o hbD e⟩
      | some g' =>
        rw [hgn] at p3
        dsimp only at p3 ⊢
        obtain ⟨h0', hfs, p3⟩ := p3
        -- the outer iterator alone is kept while the inner clause runs; the list is apart
        have leU := unkeep_le a1.off le3
        have T3u := T1.unkeepL a1 le3 T3
        have a3 := a1.after le3 T3
        refine wpAny_bind (wpAny_mono (p3 A G3 { s with heap := h3, toks := tk3 } (fun it s4 => wpAny (model f.c.prog f.c.w) A (runOwn (.compStart (.ListComp elt gens scope pos) (d + 1) it (.ref D) f.env) f.env >>= fun _ => again (.compLoop (.ListComp elt gens scope pos) d (.ref I) (.ref D) f.env)) (fun fin s' => match fin with
            | .done f => R (.ok f) s'
            | .again c' => c'.quiet = true ∧ codeAny (model f.c.prog f.c.w) A c' R s') (notedBy (model f.c.prog f.c.w) A f.env fun e s' => R (.error e) s') s4) _ hA T3 ?_) (fun u s4 h4 => ?_) fun _ _ x => x)
        · intro I' L' S' zs G4 st4 h4 tk4 p4 hI' hS' a4 le4 T4
          have le34 := le3.trans le4
          -- un-keep all, keep L anew
          have T4u := T1.unkeepL a1 le34 T4
          have a4u := a1.after le34 T4
          have leU4 := unkeep_le a1.off le34
          have hkk := kept_of a1.ex le34
          have sq4 : SeqLe G4 (unkeep G4 (D :: L)) := unkeep_seq fun b hb => let ⟨o, _, e⟩ := hkk b hb; ⟨o, e⟩
          have aL4 : Ap (unkeep G4 (D :: L)) f.env f.oc st4 L h4 := a4u.sub hmemL
          have T5 := T4u.keepL aL4
          have le5 := keep_le (h := h4) aL4.off
          have pl4 : h4.PlainList D us := pl1.at fun o e => kept_obj le34 T4.hs.sub List.mem_cons_self e
          have hDL' : D ∉ L' := fun hm => by obtain ⟨o, _, e⟩ := hkk D List.mem_cons_self; rw [a4.off D hm] at e; cases e
          have a5 : Ap (keep (unkeep G4 (D :: L)) h4 L) f.env f.oc st4 (D :: L') h4 := ⟨fun b hb => by
              rcases List.mem_cons.mp hb with rfl | hb
              · unfold keep; rw [if_neg hD]; exact unkeep_in List.mem_cons_self
              · unfold keep
                rw [if_neg fun hm => by obtain ⟨o, _, e⟩ := hkk b (hmemL b hm); rw [a4.off b hb] at e; cases e]
                exact unkeep_none (a4.off b hb),
            fun b hb => (List.mem_cons.mp hb).elim (fun e => e ▸ a4u.fr D List.mem_cons_self) fun hb => a4.fr b hb,
            fun b hb => (List.mem_cons.mp hb).elim (fun e => e ▸ a4u.fp D List.mem_cons_self) fun hb => a4.fp b hb,
            fun b hb => (List.mem_cons.mp hb).elim (fun e => e ▸ a4u.ex D List.mem_cons_self) fun hb => a4.ex b hb⟩
          have hS5 : S' zs (keep (unkeep G4 (D :: L)) h4 L) h4 := hI'.frame _ _ _ _ _ hS' (fun a o vs n e q => le5.seq a o vs n (sq4 a o vs n e q) q) fun _ _ _ e => e
          have r5 : RepL (keep (unkeep G4 (D :: L)) h4 L) us.toList ys := (r.imp le1.seq).imp (leU4.trans le5).seq
          let Z : Shared → Prop := fun s' => ∃ vs' st' ys' us' G' h' tk, CLoop f (.ListComp elt gens scope pos) d g.target xs vs' st' ys' P ∧ Le (keep (unkeep G4 (D :: L)) h4 L) G' ∧ St f.c G' f.env f.oc vs' st' h' ∧ h'.PlainList D us' ∧
              RepL G' us'.toList ys' ∧ Ap G' f.env f.oc st' [D] h' ∧ s' = { s with heap := h', toks := tk }
          have run : ∀ (Q : Flow → Shared → Prop) (E : Value → Shared → Prop), (∀ s', Z s' → Q .next s') →
              codeAny (model f.c.prog f.c.w) A (.compStart (.ListComp elt gens scope pos) (d + 1) (.ref I') (.ref D) f.env) (fun r s' => match r with | .ok f => Q f s' | .error e => E e s') { s with heap := h4, toks := tk4 } := by
            intro Q E hq
            have loop := p4 A I' L' S' (keep (unkeep G4 (D :: L)) h4 L) { s with heap := h4, toks := tk4 } (fun r s' => match r with | .ok f => Q f s' | .error e => E e s') D us hI' hS5 hA a5 hDL' pl4 r5 T5
              fun vs' st' ys' us' G' h' tk p le o pl' r' a' => hq _ ⟨vs', st', ys', us', G', h', tk, p, le, o, pl', r', a', rfl⟩
            exact codeAny_compStart_at hgn h0' loop fun E' => hI'.self A zs _ _ _ E' hS5 loop
          refine wpAny_bind (wpAny_runOwn (codeAny_mono (run (fun fl s' => fl = .next ∧ Z s') (fun _ _ => False) fun s' hs' => ⟨rfl, hs'⟩) ?_))
          rintro (er | fl) s' hs'
          · exact hs'.elim
          · obtain ⟨rfl, vs', st', ys', us', G', h', tk, q, le', T', pl', r', a', rfl⟩ := hs'
            have le56 := unkeep_le aL4.off le'
            have hkk' := kept_of aL4.ex le'
            have sq6 : SeqLe G' (unkeep G' L) := unkeep_seq fun b hb => let ⟨o, _, e⟩ := hkk' b hb; ⟨o, e⟩
            have T6 := T4u.unkeepL aL4 le' T'
            have a6 := aL4.after le' T'
            refine next vs' st' ys' us' (unkeep G' L) h' tk q (leU4.trans le56) T6 pl' (r'.imp sq6) ⟨fun b hb => ?_, fun b hb => ?_, fun b hb => ?_, fun b hb => ?_⟩ fun b hb o e => kept_obj le' T'.hs.sub hb (kept_obj le34 T4.hs.sub (hmemL b hb) e)
            · exact (List.mem_cons.mp hb).elim (fun e => e ▸ unkeep_none (a'.off D (List.mem_singleton.mpr rfl))) fun hb => a6.off b hb
            · exact (List.mem_cons.mp hb).elim (fun e => e ▸ a'.fr D (List.mem_singleton.mpr rfl)) fun hb => a6.fr b hb
            · exact (List.mem_cons.mp hb).elim (fun e => e ▸ a'.fp D (List.mem_singleton.mpr rfl)) fun hb => a6.fp b hb
            · exact (List.mem_cons.mp hb).elim (fun e => e ▸ a'.ex D (List.mem_singleton.mpr rfl)) fun hb => a6.ex b hb
        · refine wpAny_bind (wpAny_standAt ?_)
          simp only [h0', bne_self_eq_false, Bool.false_eq_true, if_false]
          exact wpAny_bind (wpAny_of_eq (hfs u) (wpAny_bind (wpAny_holding (wpAny_mono h4 (fun it s5 h5 => h5) fun _ _ x => x))))
  · intro rr s1 hr
    cases rr with
    | none => exact hr.elim
    | some v => exact wpAny_bind hr
end
end Lay
end
section
open PySem PySem.SeqAt
namespace Lay

noncomputable def capt (cl : List (Str × Addr)) (vs : Vars) : Vars := fun x => if (cl.lookup x).isSome = true then vs x else none
noncomputable def AllIn (env inner : Env) : List (Str × Addr) → Prop
  | [] => True
  | p :: r => (env.kindOf p.1 = some .cell ∧ env.cells.lookup p.1 = some p.2 ∧ inner.kindOf p.1 = some .cell) ∧ AllIn env inner r
theorem AllIn.at {env inner : Env} : ∀ {l : List (Str × Addr)}, AllIn env inner l → ∀ p ∈ l, env.kindOf p.1 = some .cell ∧ env.cells.lookup p.1 = some p.2 ∧ inner.kindOf p.1 = some .cell
  | _ :: _, h, p, hp => by
    rcases List.mem_cons.mp hp with rfl | hp
    · exact h.1
    · exact h.2.at p hp
noncomputable def compFm (f : Fm) (scope : Scope) (cl : List (Str × Addr)) (C : Addr) : Fm := ⟨f.c, f.k, compEnvC scope cl C f.env, []⟩

structure CompOk (f : Fm) (scope : Scope) (cl : List (Str × Addr)) : Prop where
  clos : closureFor scope f.env = pure cl
  ins : ∀ C, AllIn f.env (compEnvC scope cl C f.env) cl
  cell : ∀ y ∈ scope.names, y.2 ≠ .cell
  kind : scope.kind = .function
  names : ∀ y ∈ scope.names, y.2 = .local → scope.names.lookup y.1 = some .local

section
variable {f : Fm} {vs : Vars} {st : Store} {g : Comprehension} {gs : List Comprehension} {elt : Expr} {scope : Scope} {pos : Pos} {cl : List (Str × Addr)}

theorem comp_core {A : Around} {E : Value → Shared → Prop} {use : Option (Value → Sem Unit)} {Q : Value → Shared → Prop} {P : V → Store → Prop} {G1 : Fz} {h1 : Heap} {st1 : Store} {s1 : Shared} {I : Addr} {L : List Addr} {Si : List V → Fz → Heap → Prop} {xs : List V}
    (ok : CompOk f scope cl) (h0 : g.is_async = 0) (hA : Lim f.k A) (hI : Itr f.c.prog f.c.w g.target I L Si) (hS : Si xs G1 h1) (a : Ap G1 f.env f.oc st1 L h1) (T : St f.c G1 f.env f.oc vs st1 h1) (hs1 : s1.heap = h1)
    (p : ∀ C, CLoop (compFm f scope cl C) (.ListComp elt (g :: gs) scope pos) 0 g.target xs (capt cl vs) st1 [] fun _ st2 ys => P (.lst ys) st2)
    (hQ : ∀ D C st' ys G' h' tk m, P (.lst ys) st' → Rep G' (.ref D) (.lst ys) → Le G1 G' → St f.c G' f.env f.oc vs st' h' → h'.Ns C m → G' C = none → C ∉ f.env.locals :: f.oc → C ∉ fpS st' →
      compPost (model f.c.prog f.c.w) A E use Q (.ref D) C (.ok .next) { s1 with heap := h', toks := tk }) :
    wpAny (model f.c.prog f.c.w) A (newList []) (fun acc s₃ => wpAny (model f.c.prog f.c.w) A (newFunctionEnv scope f.env.globals cl [] f.env.qual none .none (some f.env)) (fun cenv s₄ =>
      codeAny (model f.c.prog f.c.w) A (.compStart (.ListComp elt (g :: gs) scope pos) 0 (.ref I) acc { cenv with scope := relabel scope f.env }) (compPost (model f.c.prog f.c.w) A E use Q acc cenv.locals) s₄) E s₃) E s1 := by
  subst hs1
  refine wpAny_newObj_type (wpAny_newFunctionEnv ok.cell (by intro y hy; simp at hy) (fun h2 hns2 hsb2 => ?_) ok.kind)
  dsimp only at hns2 hsb2 ⊢
  generalize hH : s1.heap.push { cls := .type "list", dict := none, data := .seq ([] : List Value).toArray } = H at hns2 hsb2 ⊢
  have hC : H.objs.size = s1.heap.objs.size + 1 := by rw [← hH, Heap.size_push]
  generalize hCC : H.objs.size = C at hns2 hsb2 hC ⊢
  have hDC : s1.heap.objs.size ≠ C := hC ▸ Nat.ne_of_lt (Nat.lt_succ_self _)
  have fresh : ∀ b, s1.heap.objs.size ≤ b → s1.heap.get? b = none := fun b hb => by
    cases e : s1.heap.get? b with
    | none => rfl
    | some o' => exact absurd (Heap.lt_size e) (Nat.not_lt.mpr hb)
  have old : ∀ b o, s1.heap.get? b = some o → h2.get? b = some o := fun b o e => by
    have := Heap.lt_size e
    exact hsb2.extBut b o (hC ▸ Nat.ne_of_lt (Nat.lt_succ_of_lt this)) (Heap.get?_push_of_some _ (hH ▸ Heap.get?_push_of_some _ e))
  have hacc : h2.PlainList s1.heap.objs.size #[] := ⟨_, hsb2.extBut _ _ hDC (Heap.get?_push_of_some _ (hH ▸ Heap.get?_push_size _ rfl))⟩
  have Gn : ∀ b, s1.heap.objs.size ≤ b → G1 b = none := fun b hb => by
    cases e : G1 b with
    | none => rfl
    | some q => have := T.hs.sub _ _ e; rw [fresh b hb] at this; cases this
  have nin : ∀ b, s1.heap.objs.size ≤ b → ∀ x, (x ∈ f.env.locals :: f.oc ∨ x ∈ fpS st1) → b ≠ x := fun b hb x hx => by
    rintro rfl; obtain ⟨o, e⟩ := T.there b hx; rw [fresh b hb] at e; cases e
  have T2 : St f.c G1 f.env f.oc vs st1 h2 := T.grow old
  have leK := keep_le (h := h2) fun b hb => (T2.ap.1 b hb).1
  have kNone : ∀ b, s1.heap.objs.size ≤ b → keep G1 h2 (f.env.locals :: f.oc) b = none := fun b hb => by
    unfold keep
    rw [if_neg fun hm => nin b hb b (.inl hm) rfl]; exact Gn b hb
  have hCge : s1.heap.objs.size ≤ C := hC ▸ Nat.le_succ _
  have hcells : ∀ x k, cl.lookup x = some k → f.env.kindOf x = some .cell ∧ f.env.cells.lookup x = some k ∧ (compEnvC scope cl C f.env).kindOf x = some .cell := fun x k e => (ok.ins C).at (x, k) (mem_of_lookup e)
  have TI : St f.c (keep G1 h2 (f.env.locals :: f.oc)) (compEnvC scope cl C f.env) [] (capt cl vs) st1 h2 := by
    refine ⟨T2.leave, ⟨ok.kind, T.fs.glob, T.fs.bltn, ?_, ?_, ?_, fun k hk => (nomatch hk), fun hm => (nomatch hm), fun b hb => ?_⟩, fun b hb => ?_⟩
    · refine ⟨_, hns2, fun x v e => ?_⟩
      unfold capt at e
      cases hx : cl.lookup x with
      | none => rw [hx] at e; simp at e
      | some k =>
        rw [hx] at e
        simp only [Option.isSome_some, if_true] at e
        obtain ⟨q1, q2, q3⟩ := hcells x k hx
        obtain ⟨m, hn, hv⟩ := T2.fs.loc
        obtain ⟨u, ru, dd⟩ := hv x v e
        refine ⟨u, ru.imp leK.seq, .inr ⟨q3, k, hx, ?_⟩⟩
        rcases dd with ⟨d1, _⟩ | ⟨_, k', d2, d3⟩
        · rw [q1] at d1; cases d1
        · rw [q2] at d2; cases d2; exact d3
    · intro x k hx
      have hx' : cl.lookup x = some k := hx
      obtain ⟨q1, q2, q3⟩ := hcells x k hx'
      obtain ⟨c1, c2⟩ := T2.fs.cells x k q2
      refine ⟨c1, .inr ?_⟩
      rcases c2 with c2 | ⟨q, c2⟩
      · obtain ⟨v, o, ho, _⟩ := c1
        exact ⟨_, keep_in (List.mem_cons_of_mem _ c2) ho⟩
      · exact ⟨_, leK _ _ c2⟩
    · intro x y k hx hy
      have hx' : cl.lookup x = some k := hx
      have hy' : cl.lookup y = some k := hy
      exact T.fs.inj x y k (hcells x k hx').2.1 (hcells y k hy').2.1
    · have : b = C := List.mem_singleton.mp hb
      rw [this]; exact kNone C hCge
    · have : b = C := List.mem_singleton.mp hb
      rw [this]; exact fun hm => nin C hCge C (.inr hm) rfl
  have hDL : s1.heap.objs.size ∉ L := fun hm => by obtain ⟨o, e⟩ := a.ex _ hm; rw [fresh _ (Nat.le_refl _)] at e; cases e
  have aI : Ap (keep G1 h2 (f.env.locals :: f.oc)) (compEnvC scope cl C f.env) [] st1 (s1.heap.objs.size :: L) h2 := by
    refine ⟨fun b hb => ?_, fun b hb hm => ?_, fun b hb => ?_, fun b hb => ?_⟩
    · rcases List.mem_cons.mp hb with rfl | hb
      · exact kNone _ (Nat.le_refl _)
      · unfold keep; rw [if_neg (a.fr b hb)]; exact a.off b hb
    · have hbC : b = C := List.mem_singleton.mp hm
      rcases List.mem_cons.mp hb with rfl | hb
      · exact hDC hbC
      · obtain ⟨o, e⟩ := a.ex b hb
        exact Nat.ne_of_lt (Nat.lt_of_lt_of_le (Heap.lt_size e) hCge) hbC
    · rcases List.mem_cons.mp hb with rfl | hb
      · exact fun hm => nin _ (Nat.le_refl _) _ (.inr hm) rfl
      · exact a.fp b hb
    · rcases List.mem_cons.mp hb with rfl | hb
      · obtain ⟨n, e⟩ := hacc; exact ⟨_, e⟩
      · obtain ⟨o, e⟩ := a.ex b hb; exact ⟨o, old b o e⟩
  have hSI : Si xs (keep G1 h2 (f.env.locals :: f.oc)) h2 := hI.frame _ _ _ _ _ hS leK.seq fun b _ o e => old b o e
  have loop := p C A I L Si (keep G1 h2 (f.env.locals :: f.oc)) { s1 with heap := h2, toks := s1.toks + ([] : List (Str × Value)).length } (compPost (model f.c.prog f.c.w) A E use Q (.ref s1.heap.objs.size) C) s1.heap.objs.size #[]
    hI hSI hA aI hDL hacc .nil TI fun vs' st' ys us' G' h' tk q le S' pl r a' => ?_
  · exact codeAny_compStart_at (gens := g :: gs) rfl h0 loop fun E' => hI.self A xs _ _ _ E' hSI loop
  · obtain ⟨leB, sqB, SB⟩ := T2.back le S'.hs
    have kk := kept_of T2.ap.2 le
    have hCG : G' C = none := S'.fs.apart C List.mem_cons_self
    have hCf : C ∉ f.env.locals :: f.oc := fun hm => nin C hCge C (.inl hm) rfl
    have hD1 : s1.heap.objs.size ∈ [s1.heap.objs.size] := List.mem_singleton.mpr rfl
    obtain ⟨nn, ePl⟩ := pl
    have aB : Ap (unkeep G' (f.env.locals :: f.oc)) f.env f.oc st' [s1.heap.objs.size] h' := ⟨fun b hb => unkeep_none (a'.off b hb), fun b hb hm => by
        rw [List.mem_singleton.mp hb] at hm; exact nin _ (Nat.le_refl _) _ (.inl hm) rfl, a'.fp, a'.ex⟩
    obtain ⟨leP, SP⟩ := SB.adopt aB ePl
    obtain ⟨m, hn, _⟩ := S'.fs.loc
    refine hQ s1.heap.objs.size C st' ys _ h' tk m q (.lst put_self rfl rfl ⟨rfl, rfl⟩ ((r.imp sqB).imp leP.seq)) (leB.trans leP) SP hn ?_ hCf (S'.dis C List.mem_cons_self)
    unfold put
    rw [if_neg (Ne.symm hDC)]; exact unkeep_none hCG

theorem St.less {c : Cx} {G : Fz} {env : Env} {oc : List Addr} {st : Store} {h h' : Heap} {C : Addr} (S : St c G env oc vs st h) (h1 : G C = none) (h2 : C ∉ env.locals :: oc) (h3 : C ∉ fpS st) (hs : Heap.SameBut C h h') : St c G env oc vs st h' :=
  S.to (Le.refl _) (fun b p e => hs.extBut b _ (by rintro rfl; rw [h1] at e; cases e) (S.hs.sub b p e)) (fun b hb o e => hs.extBut b o (by rintro rfl; exact hb.elim h2 h3) e) S.off

theorem Ev.comp {P : V → Store → Prop} (ok : CompOk f scope cl) (h0 : g.is_async = 0)
    (h : ItE f g.target g.iter vs st fun xs st1 => ∀ C, CLoop (compFm f scope cl C) (.ListComp elt (g :: gs) scope pos) 0 g.target xs (capt cl vs) st1 [] fun _ st2 ys => P (.lst ys) st2)
    (hs : ∀ x, foldedSetIterable g.iter f.env x = pure x := by intro _; rfl) : Ev f (.ListComp elt (g :: gs) scope pos) vs st P := by
  intro A G s Q E hA S hQ
  show wpAny _ A (eval (.ListComp elt (g :: gs) scope pos) f.env) Q E s
  rw [eval_ListComp]
  have hfa : firstAsync (g :: gs) = false := by obtain ⟨_, _, _, a⟩ := g; show (a != 0) = false; simpa using h0
  have hfi : firstIter (g :: gs) f.env = eval g.iter f.env := by obtain ⟨_, _, _, _⟩ := g; rfl
  rw [hfa, hfi]
  refine wpAny_comprehension_free (use := Option.none) (e := .ListComp elt (g :: gs) scope pos) rfl hs ok.clos ok.kind ok.names (h A G s _ E hA S ?_)
  intro I L Si xs G1 st1 h1 tk1 p hI hS a le T
  refine comp_core ok h0 hA hI hS a T rfl p fun D C st' ys G' h' tk m q rD le' S' hn c1 c2 c3 => ?_
  exact ⟨m, hn, fun h'' hs'' => hQ (.ref D) (.lst ys) G' st' h'' tk q rD (le.trans le') (S'.less c1 c2 c3 hs'')⟩

theorem Stm.assignComp {P : Fl → Store → Prop} {x : Str} {px spos : Pos} (ok : CompOk f scope cl) (h0 : g.is_async = 0) (hx : Sto f x)
    (h : ItE f g.target g.iter vs st fun xs st1 => ∀ C, CLoop (compFm f scope cl C) (.ListComp elt (g :: gs) scope pos) 0 g.target xs (capt cl vs) st1 [] fun _ st2 ys => P (.next (vs.set x (.lst ys))) st2)
    (hsw : swapsWith (.ListComp elt (g :: gs) scope pos) (some (.Name x px)) spos.line f.env = pure true := by rfl)
    (hs : ∀ x, foldedSetIterable g.iter f.env x = pure x := by intro _; rfl) : Stm f (.Assign [.Name x px] (.ListComp elt (g :: gs) scope pos) spos) vs st P := by
  intro A G s Q E hA S hQ
  show wpAny _ A (exec (.Assign [.Name x px] (.ListComp elt (g :: gs) scope pos) spos) f.env) Q E s
  rw [exec_Assign_Name_used _ _ _ _ hsw]
  have hfa : firstAsync (g :: gs) = false := by obtain ⟨_, _, _, a⟩ := g; show (a != 0) = false; simpa using h0
  have hfi : firstIter (g :: gs) f.env = eval g.iter f.env := by obtain ⟨_, _, _, _⟩ := g; rfl
  refine wpAny_bind (wpAny_standAt (wpAny_bind ?_))
  show wpAny _ A (do let _ ← comprehension (.ListComp elt (g :: gs) scope pos) scope f.env _ (newList []) (firstAsync (g :: gs)) (firstIter (g :: gs) f.env) (some (PySem.assign (.Name x px) f.env))) _ _ s
  rw [hfa, hfi]
  refine wpAny_bind (wpAny_mono (wpAny_comprehension_free (use := some (PySem.assign (.Name x px) f.env)) (Q := fun _ s' => Q .next s') rfl hs ok.clos ok.kind ok.names (h A G s _ E hA S ?_)) (fun _ s' hq => wpAny_pure (wpAny_pure hq)) fun _ _ e => e)
  intro I L Si xs G1 st1 h1 tk1 p hI hS a le T
  refine comp_core (P := fun v st2 => ∃ ys, v = .lst ys ∧ P (.next (vs.set x (.lst ys))) st2) ok h0 hA hI hS a T rfl (fun C => (p C).mono fun _ st2 ys q => ⟨ys, rfl, q⟩) fun D C st' ys G' h' tk m q rD le' S' hn c1 c2 c3 => ?_
  obtain ⟨ys', e, q⟩ := q
  cases e
  have hCex := hn
  refine PyProof.Rows.assign_Name ?_
  -- the store keeps C
  have a0 : Ap G' f.env f.oc st' [C] h' := ⟨fun b hb => by rw [List.mem_singleton.mp hb]; exact c1, fun b hb => by rw [List.mem_singleton.mp hb]; exact c2, fun b hb => by rw [List.mem_singleton.mp hb]; exact c3, fun b hb => by
    rw [List.mem_singleton.mp hb]; obtain ⟨o, _, _, e, _⟩ := hn; exact ⟨o, e⟩⟩
  have SK := S'.keepL a0
  have leK := keep_le (h := h') a0.off
  refine wp_store (s := { s with heap := h', toks := tk }) hx SK (rD.imp leK.seq) fun h2 tk2 S2 => ?_
  have hC2 : h2.Ns C m := by
    obtain ⟨o, es, ep, e, r⟩ := hn
    exact ⟨o, es, ep, kept_obj (Le.refl _) S2.hs.sub (List.mem_singleton.mpr rfl) e, r⟩
  refine ⟨m, hC2, fun h'' hs'' => ?_⟩
  have S3 := S'.unkeepL a0 (Le.refl _) S2
  have leU := unkeep_le a0.off (Le.refl (keep G' h' [C]))
  exact hQ .next (.next _) _ st' h'' tk2 q ((le.trans le').trans leU) (S3.less (unkeep_in (List.mem_singleton.mpr rfl)) c2 c3 hs'')
end
end Lay
end
section
open PySem PySem.SeqAt
namespace Lay

section
variable {c : Cx} {G G' : Fz} {st : Store} {h h' : Heap}
theorem HS.grow (H : HS c G st h) (hk : ∀ b o, h.get? b = some o → h'.get? b = some o) : HS c G st h' := H.to H.base (Le.refl _).seq (fun a p e => hk _ _ (H.sub _ _ e)) (fun b _ o e => hk b o e) H.apart
theorem HS.none_of (H : HS c G st h) {a : Addr} (hn : h.get? a = none) : G a = none := by
  cases e : G a with
  | none => rfl
  | some o' => have := H.sub _ _ e; rw [hn] at this; cases this
theorem HS.frz {a : Addr} {o : Obj} (H : HS c G st h) (hn : h.get? a = none) (ha : h'.get? a = some o) (hk : ∀ b o, h.get? b = some o → h'.get? b = some o) : Le G (put G a o) ∧ HS c (put G a o) st h' := by
  have hG := H.none_of hn
  refine ⟨put_le hG, H.to (fun b o e => put_le hG _ _ (H.base b o e)) (put_le hG).seq (fun b o' e => ?_) (fun b _ o e => hk b o e) fun b hb => ?_⟩
  · unfold put at e
    by_cases hba : b = a
    · subst hba; rw [if_pos rfl] at e; cases e; exact ha
    · rw [if_neg hba] at e; exact hk _ _ (H.sub _ _ e)
  · unfold put
    rw [if_neg (by rintro rfl; obtain ⟨o', e⟩ := H.there _ hb; rw [hn] at e; cases e)]; exact H.apart b hb
theorem HS.new {a : Addr} {m : M} (H : HS c G st h) (hm : IsM c G h' a m) (hf : ∀ b ∈ m.fp a, h.get? b = none) (hn : (m.fp a).Nodup) (hk : ∀ b o, h.get? b = some o → h'.get? b = some o) : HS c G ((a, m) :: st) h' := by
  have H' := H.grow hk
  refine ⟨H'.sub, H'.base, ?_, ?_, ?_⟩
  · intro p hp
    rcases List.mem_cons.mp hp with rfl | hp
    · exact hm
    · exact H'.objs p hp
  · show (m.fp a ++ fpS st).Nodup
    refine List.nodup_append.mpr ⟨hn, H'.nod, fun x hx y hy => ?_⟩
    rintro rfl
    obtain ⟨o, e⟩ := H.there x hy
    rw [hf x hx] at e; cases e
  · intro b hb
    rcases List.mem_append.mp (show b ∈ m.fp a ++ fpS st from hb) with hb | hb
    · exact H.none_of (hf b hb)
    · exact H'.apart b hb
theorem HS.upd {a : Addr} {m m' : M} {st' : Store} (H : HS c G st h) (u : Upd a m m' st st') (hf : m'.fp a = m.fp a) (hk : ∀ b o, b ∉ m.fp a → h.get? b = some o → h'.get? b = some o) (hm : IsM c G h' a m') : HS c G st' h' := by
  have hfp := u.fp hf
  have hin : ∀ b ∈ m.fp a, b ∈ fpS st := fun b hb => mem_fpS u.mem hb
  have hsub : ∀ b p, G b = some p → h'.get? b = some p.2 := fun b o e => hk b o.2 (fun hb => by rw [H.apart b (hin b hb)] at e; cases e) (H.sub b o e)
  refine ⟨hsub, H.base, ?_, hfp ▸ H.nod, fun b hb => H.apart b (hfp ▸ hb)⟩
  obtain ⟨pre, post, rfl, rfl⟩ := u.split
  have nd := H.nod
  rw [fpS_append] at nd
  have nd' : (fpS pre ++ (m.fp a ++ fpS post)).Nodup := nd
  obtain ⟨_, n2, n3⟩ := List.nodup_append.mp nd'
  obtain ⟨_, _, n4⟩ := List.nodup_append.mp n2
  intro p hp
  rcases List.mem_append.mp hp with hp | hp
  · exact (H.objs p (List.mem_append.mpr (.inl hp))).to (Le.refl _).seq hsub fun b hb o e => hk b o (fun hb' => n3 b (List.mem_flatMap.mpr ⟨p, hp, hb⟩) b (List.mem_append.mpr (.inl hb')) rfl) e
  · rcases List.mem_cons.mp hp with rfl | hp
    · exact hm
    · exact (H.objs p (List.mem_append.mpr (.inr (List.mem_cons_of_mem _ hp)))).to (Le.refl _).seq hsub fun b hb o e => hk b o (fun hb' => n4 b hb' b (List.mem_flatMap.mpr ⟨p, hp, hb⟩) rfl) e
theorem HS.listAt {a : Addr} {xs : List V} (H : HS c G st h) (hm : (a, M.list xs) ∈ st) : ∃ us n, h.get? a = some { cls := .type "list", dict := none, data := .seq us n, slots := #[] } ∧ RepL G us.toList xs := by
  obtain ⟨⟨oc, od, dd, sl⟩, us, n, ho, hc, hd, ⟨h1, h2⟩, r⟩ := H.objs _ hm
  dsimp only at hc hd h1 h2
  subst hc hd h1 h2
  exact ⟨us, n, ho, r⟩
theorem rep_lst {v : Value} {xs : List V} (r : Rep G v (.lst xs)) : ∃ a us n, v = .ref a ∧ G a = some (true, { cls := .type "list", dict := none, data := .seq us n, slots := #[] }) ∧ RepL G us.toList xs := by
  cases r with
  | @lst a o us n _ g1 hc hd hb rs =>
  obtain ⟨oc, od, dd, sl⟩ := o
  obtain ⟨h1, h2⟩ := hb
  dsimp only at hc hd h1 h2
  subst hc hd h1 h2
  exact ⟨a, us, n, rfl, g1, rs⟩
theorem rep_tup {v : Value} {xs : List V} (r : Rep G v (.tup xs)) : ∃ a us n, v = .ref a ∧ G a = some (true, { cls := .type "tuple", dict := none, data := .seq us n, slots := #[] }) ∧ RepL G us.toList xs := by
  cases r with
  | @tup a o us n _ g1 hc hd hb rs =>
  obtain ⟨oc, od, dd, sl⟩ := o
  obtain ⟨h1, h2⟩ := hb
  dsimp only at hc hd h1 h2
  subst hc hd h1 h2
  exact ⟨a, us, n, rfl, g1, rs⟩
end

section
variable {c : Cx} {k : Nat} {st : Store} {P : V → Store → Prop}
theorem rep1 {G : Fz} {us : List Value} {x : V} (r : RepL G us [x]) : ∃ u, us = [u] ∧ Rep G u x := by
  cases r with
  | cons h r => cases r; exact ⟨_, rfl, h⟩
theorem rep2 {G : Fz} {us : List Value} {x y : V} (r : RepL G us [x, y]) : ∃ u v, us = [u, v] ∧ Rep G u x ∧ Rep G v y := by
  cases r with
  | cons h r => obtain ⟨v, rfl, h2⟩ := rep1 r; exact ⟨_, v, rfl, h, h2⟩
theorem rep3 {G : Fz} {us : List Value} {x y z : V} (r : RepL G us [x, y, z]) : ∃ u v w, us = [u, v, w] ∧ Rep G u x ∧ Rep G v y ∧ Rep G w z := by
  cases r with
  | cons h r => obtain ⟨v, w, rfl, h2, h3⟩ := rep2 r; exact ⟨_, v, w, rfl, h, h2, h3⟩
theorem RepL.size {G : Fz} {us : Array Value} {xs : List V} (r : RepL G us.toList xs) : us.size = xs.length := by simpa using r.length

theorem Fn.len {xs : List V} (hz : (xs.length : Int) < 2 ^ 63) (h : P (.int xs.length) st) : Fn c k (.builtin "len") [.lst xs] st P := by
  intro A G s us Q E hA H r hQ
  obtain ⟨u, rfl, ru⟩ := rep1 r
  obtain ⟨a, vs, n, rfl, g, rs⟩ := rep_lst ru
  refine Calls.call_len_list (items := vs) ⟨_, H.sub _ _ g, rfl, n, rfl⟩ (by rw [rs.size]; exact hz) ?_
  rw [rs.size]
  exact hQ _ _ G st s.heap _ h (.int _ _) (Le.refl _) H
theorem Fn.lenT {xs : List V} (hz : (xs.length : Int) < 2 ^ 63) (h : P (.int xs.length) st) : Fn c k (.builtin "len") [.tup xs] st P := by
  intro A G s us Q E hA H r hQ
  obtain ⟨u, rfl, ru⟩ := rep1 r
  obtain ⟨a, vs, n, rfl, g, rs⟩ := rep_tup ru
  refine PySem.P.len_tuple (items := vs) (n := n) (H.sub _ _ g) (by rw [rs.size]; omega) ?_
  rw [rs.size]
  exact hQ _ _ G st s.heap _ h (.int _ _) (Le.refl _) H
theorem Fn.lenO {a : Addr} {xs : List V} (hm : (a, M.list xs) ∈ st) (hz : (xs.length : Int) < 2 ^ 63) (h : P (.int xs.length) st) : Fn c k (.builtin "len") [.ref a] st P := by
  intro A G s us Q E hA H r hQ
  obtain ⟨u, rfl, ru⟩ := rep1 r
  cases ru
  obtain ⟨vs, n, g, rs⟩ := H.listAt hm
  refine Calls.call_len_list (items := vs) ⟨_, g, rfl, n, rfl⟩ (by rw [rs.size]; exact hz) ?_
  rw [rs.size]
  exact hQ _ _ G st s.heap _ h (.int _ _) (Le.refl _) H
theorem Fn.abs {i : Int} (h : P (.int (if i < 0 then -i else i)) st) : Fn c k (.builtin "abs") [.int i] st P := by
  intro A G s us Q E hA H r hQ
  obtain ⟨u, rfl, ru⟩ := rep1 r
  cases ru
  exact PyProof.Rows.call_abs_int fun u tk => hQ _ _ G st s.heap tk h (.int _ _) (Le.refl _) H
theorem Fn.int {i : Int} (h : P (.int i) st) : Fn c k (.type "int") [.int i] st P := by
  intro A G s us Q E hA H r hQ
  obtain ⟨u, rfl, ru⟩ := rep1 r
  cases ru
  exact call_int_int (hQ _ _ G st s.heap s.toks h (.int _ _) (Le.refl _) H)
theorem Fn.tuple {xs : List V} (hz : xs.length ≤ sizeLine) (h : P (.tup xs) st) : Fn c k (.type "tuple") [.lst xs] st P := by
  intro A G s us Q E hA H r hQ
  obtain ⟨u, rfl, ru⟩ := rep1 r
  obtain ⟨a, vs, n, rfl, g, rs⟩ := rep_lst ru
  refine call_tuple_list (items := vs) ⟨_, H.sub _ _ g, rfl, n, rfl⟩ (fun h' hk => ?_) (by rw [rs.size]; exact hz)
  have H1 := H.grow hk
  obtain ⟨le, H2⟩ := H1.frz (fresh_none h') (Heap.get?_push_size h' (o := { cls := .type "tuple", data := .seq vs }) rfl) fun b o e => Heap.get?_push_of_some _ e
  exact hQ _ _ _ st _ s.toks h (.tup put_self rfl rfl ⟨rfl, rfl⟩ (rs.imp le.seq)) le H2

theorem get?_mapSeq {h : Heap} {a : Addr} {xs : Array Value} {n : Nat} (g : Array Value → Array Value) (ho : h.get? a = some { cls := .type "list", dict := none, data := .seq xs n, slots := #[] }) :
    ∃ n', (h.update a (Obj.mapSeq g)).get? a = some { cls := .type "list", dict := none, data := .seq (g xs) n', slots := #[] } :=
  ⟨_, PyProof.Rows.get?_update_seq (c := "list") ho g⟩
theorem HS.updList {G : Fz} {h : Heap} {a : Addr} {xs ys : List V} {us : Array Value} {n : Nat} {st' : Store} (H : HS c G st h) (u : Upd a (.list xs) (.list ys) st st') (g : Array Value → Array Value)
    (ho : h.get? a = some { cls := .type "list", dict := none, data := .seq us n, slots := #[] }) (r : RepL G (g us).toList ys) : HS c G st' (h.update a (Obj.mapSeq g)) := by
  obtain ⟨n', e⟩ := get?_mapSeq g ho
  exact H.upd u rfl (fun b o hb e' => (Heap.get?_update_other _ _ (fun q : a = b => hb (by simp [M.fp, q]))).trans e') ⟨_, _, _, e, rfl, rfl, ⟨rfl, rfl⟩, r⟩
theorem Fn.append {a : Addr} {xs : List V} {y : V} {st' : Store} (u : Upd a (.list xs) (.list (xs ++ [y])) st st') (hz : xs.length ≤ sizeLine) (h : P .none st') : Fn c k (.builtin "list.append") [.ref a, y] st P := by
  intro A G s us Q E hA H r hQ
  obtain ⟨u1, u2, rfl, r1, r2⟩ := rep2 r
  cases r1
  obtain ⟨vs, n, g, rs⟩ := H.listAt u.mem
  refine call_meets F.slot_list_append ⟨_, g, rfl⟩ F.entry_list_append (F.args_list_append_2 _ _) (list_append a vs n u2 (by rw [rs.size]; exact hz)) ⟨g, ?_⟩
  exact hQ _ _ G st' _ s.toks h .none (Le.refl _) (H.updList u (·.push u2) g (by rw [Array.toList_push]; exact rs.append (.cons r2 .nil)))
theorem Fn.extend {a : Addr} {xs ys : List V} {st' : Store} (u : Upd a (.list xs) (.list (xs ++ ys)) st st') (hz : xs.length + ys.length ≤ sizeLine) (h : P .none st') : Fn c k (.builtin "list.extend") [.ref a, .lst ys] st P := by
  intro A G s us Q E hA H r hQ
  obtain ⟨u1, u2, rfl, r1, r2⟩ := rep2 r
  cases r1
  obtain ⟨b, ws, n2, rfl, gb, rb⟩ := rep_lst r2
  obtain ⟨vs, n, g, rs⟩ := H.listAt u.mem
  have e1 := rs.size
  have e2 := rb.size
  have hz2 : vs.size + ws.size ≤ sizeLine := by omega
  refine call_meets F.slot_list_extend ⟨_, g, rfl⟩ F.entry_list_extend (F.args_list_extend_2 _ _) (AutoSeq1.list_extend_list_list_0 a vs n b ws n2 ?_ (by omega) (by omega)) ⟨g, H.sub _ _ gb, ?_⟩
  · have := sizeLine_eq
    simp [Builtin.List.listTooLong]
    intro _
    omega
  · exact hQ _ _ G st' _ s.toks h .none (Le.refl _) (H.updList u (· ++ ws) g (by rw [Array.toList_append]; exact rs.append rb))
theorem Fn.pop {a : Addr} {xs : List V} {y : V} {st' : Store} (u : Upd a (.list (xs ++ [y])) (.list xs) st st') (hz : xs.length < sizeLine) (h : P y st') : Fn c k (.builtin "list.pop") [.ref a] st P := by
  intro A G s us Q E hA H r hQ
  obtain ⟨u1, rfl, r1⟩ := rep1 r
  cases r1
  obtain ⟨vs, n, g, rs⟩ := H.listAt u.mem
  have hsz : vs.size = xs.length + 1 := by rw [rs.size]; simp
  obtain ⟨v, hv, rv⟩ := rs.get (k := xs.length) (x := y) (by simp)
  have hv' : vs[vs.size - 1]? = some v := by rw [hsz]; simpa using hv
  refine call_meets F.slot_list_pop ⟨_, g, rfl⟩ F.entry_list_pop (F.args_list_pop_1 _) (MeetsSeq.list_pop_last a vs n v hv' (by omega)) ⟨g, ?_⟩
  refine hQ _ _ G st' _ s.toks h rv (Le.refl _) (H.updList u (fun xs => xs.eraseIdxIfInBounds (vs.size - 1)) g ?_)
  have : (vs.eraseIdxIfInBounds (vs.size - 1)).toList = vs.toList.take xs.length := by
    rw [Array.toList_eraseIdxIfInBounds, hsz]
    have : vs.toList.length = xs.length + 1 := by simpa using hsz
    rw [List.eraseIdx_eq_take_drop_succ]
    simp [this]
  rw [this]
  have r2 := rs.take xs.length
  simpa using r2
theorem Fn.index {xs : List V} {x : V} {j : Nat} (hd : x.dep ≤ 4) (hp : x.pu = true) (hxs : ∀ y ∈ xs, y.dep ≤ 4 ∧ y.pu = true ∧ y.cmp x = true) (hj : xs[j]? = some x) (hno : ∀ m y, m < j → xs[m]? = some y → y ≠ x) (hz : (j : Int) < 2 ^ 63 - 1) (h : P (.int j) st) :
    Fn c k (.builtin "list.index") [.lst xs, x] st P := by
  intro A G s us Q E hA H r hQ
  obtain ⟨u1, u2, rfl, r1, r2⟩ := rep2 r
  obtain ⟨a, vs, n, rfl, g, rs⟩ := rep_lst r1
  have hsz := rs.size
  have hjl : j < vs.size := by rw [hsz]; exact (List.getElem?_eq_some_iff.mp hj).1
  have hroom := hA.room
  classical
  let e : Value → Bool := fun v => if hx : ∃ y, y ∈ xs ∧ Rep G v y then (Classical.choose hx).beq x else false
  have he : ∀ v ∈ vs, EqAt A.in1 s v u2 (e v) := by
    intro v hv
    obtain ⟨i, hi⟩ := List.mem_iff_getElem?.mp (Array.mem_toList_iff.mpr hv)
    obtain ⟨y, hy, ry⟩ := rs.get' hi
    have hx : ∃ y, y ∈ xs ∧ Rep G v y := ⟨y, List.mem_of_getElem? hy, ry⟩
    show EqAt A.in1 s v u2 (if hx : ∃ y, y ∈ xs ∧ Rep G v y then (Classical.choose hx).beq x else false)
    rw [dif_pos hx]
    obtain ⟨m1, m2⟩ := Classical.choose_spec hx
    obtain ⟨d1, d2, d3⟩ := hxs _ m1
    exact eqAt_V 4 (G := G) H.sub (by show A.units + 1 + 4 < cLine; omega) d1 d3 d2 hp m2 r2
  have ev : ∀ i y (hi : i < vs.size), xs[i]? = some y → e vs[i] = y.beq x := by
    intro i y hi hy
    obtain ⟨v, hv, rv⟩ := rs.get hy
    have hv' : vs[i] = v := by rw [Array.getElem?_toList, Array.getElem?_eq_getElem hi] at hv; exact Option.some.inj hv
    have hx : ∃ y, y ∈ xs ∧ Rep G vs[i] y := ⟨y, List.mem_of_getElem? hy, hv' ▸ rv⟩
    show (if hx : ∃ y, y ∈ xs ∧ Rep G vs[i] y then (Classical.choose hx).beq x else false) = _
    rw [dif_pos hx]
    obtain ⟨m1, m2⟩ := Classical.choose_spec hx
    rw [Rep.inj m2 (hv' ▸ rv) (hxs _ m1).2.1 (hxs _ (List.mem_of_getElem? hy)).2.1]
  refine call_meets F.slot_list_index ⟨_, H.sub _ _ g, rfl⟩ F.entry_list_index (F.args_list_index_2 _ _) (list_indexAt a vs n none #[] u2 e j hjl hz ?_ ?_) ⟨H.sub _ _ g, ?_, ?_⟩
  · rw [ev j x hjl hj]; exact (V.beq_iff _ _).mpr rfl
  · intro m hm hmj
    have hy : xs[m]? = some (xs[m]'(by omega)) := List.getElem?_eq_getElem _
    rw [ev m _ hm hy]
    cases hb : (xs[m]'(by omega)).beq x with
    | false => rfl
    | true => exact absurd ((V.beq_iff _ _).mp hb) (hno m _ hmj hy)
  · exact he
  · exact hQ _ _ G st s.heap _ h (.int _ _) (Le.refl _) H
end
end Lay
end
section
open PySem PySem.SeqAt
namespace Lay

noncomputable def ltB : List Bool → List Bool → Bool
  | x :: xs, y :: ys => if x = y then ltB xs ys else (!x && y)
  | _, _ => false
noncomputable def leB : List Bool → List Bool → Bool
  | x :: xs, y :: ys => if x = y then leB xs ys else (!x && y)
  | _, _ => true
noncomputable def boolsOf (bs : List Bool) : Array Value := (bs.map Value.bool).toArray

theorem ord_loop (lt : Bool) (l b : Addr) (n n2 : Nat) : ∀ (bs cs : List Bool) (pre : List Bool) (pre2 : List Bool), bs.length = cs.length → pre.length = pre2.length →
    Meets (Builtin.«list.__eq__.loop» ⟨[.ref l, .ref b, rawInt (pre.length : Nat), rawInt (if lt then 0 else 1)], []⟩)
      (fun _ R s => s.heap.get? l = some { cls := .type "list", dict := none, data := .seq (boolsOf (pre ++ bs)) n, slots := #[] } ∧ s.heap.get? b = some { cls := .type "list", dict := none, data := .seq (boolsOf (pre2 ++ cs)) n2, slots := #[] } ∧
        R (.ok (.ret (.bool (if lt then ltB bs cs else leB bs cs)))) s)
  | [], [], pre, pre2, _, hp => by
    intro prog w A R s h
    obtain ⟨hh, g, d, tk, os⟩ := s; obtain ⟨hl, hb, h⟩ := h
    cases lt <;> simp only [Bool.false_eq_true, if_false, if_true] at h ⊢
    · wp_walk using AutoSeq1.wpAny_loadPart' hl, AutoSeq1.wpAny_loadPart' hb
      have hi1 : (boolsOf (pre ++ []))[((pre.length : Nat) : Int).toNat]? = none := by simp [boolsOf]
      have hi2 : (boolsOf (pre2 ++ []))[((pre.length : Nat) : Int).toNat]? = none := by simp [boolsOf]; omega
      rw [hi1, hi2]
      wp_walk using AutoSeq1.wpAny_loadPart' hl, AutoSeq1.wpAny_loadPart' hb
      show R (.ok (.ret (.bool (decide ((boolsOf (pre ++ [])).size ≤ (boolsOf (pre2 ++ [])).size))))) _
      have : decide ((boolsOf (pre ++ [])).size ≤ (boolsOf (pre2 ++ [])).size) = true := by simp [boolsOf]; omega
      rw [this]; exact h
    · wp_walk using AutoSeq1.wpAny_loadPart' hl, AutoSeq1.wpAny_loadPart' hb
      have hi1 : (boolsOf (pre ++ []))[((pre.length : Nat) : Int).toNat]? = none := by simp [boolsOf]
      have hi2 : (boolsOf (pre2 ++ []))[((pre.length : Nat) : Int).toNat]? = none := by simp [boolsOf]; omega
      rw [hi1, hi2]
      wp_walk using AutoSeq1.wpAny_loadPart' hl, AutoSeq1.wpAny_loadPart' hb
      show R (.ok (.ret (.bool (decide ((boolsOf (pre ++ [])).size < (boolsOf (pre2 ++ [])).size))))) _
      have : decide ((boolsOf (pre ++ [])).size < (boolsOf (pre2 ++ [])).size) = false := by simp [boolsOf]; omega
      rw [this]; exact h
  | [], _ :: _, _, _, h, _ => by simp at h
  | _ :: _, [], _, _, h, _ => by simp at h
  | x :: bs, y :: cs, pre, pre2, hl0, hp => by
    have ih := ord_loop lt l b n n2 bs cs (pre ++ [x]) (pre2 ++ [y]) (by simpa using hl0) (by simp [hp])
    intro prog w A R s h
    obtain ⟨hh, g, d, tk, os⟩ := s; obtain ⟨hl, hb, h⟩ := h
    have hi1 : (boolsOf (pre ++ x :: bs))[((pre.length : Nat) : Int).toNat]? = some (.bool x) := by simp [boolsOf]
    have hi2 : (boolsOf (pre2 ++ y :: cs))[((pre.length : Nat) : Int).toNat]? = some (.bool y) := by simp [boolsOf, hp]
    have hc : ((pre.length : Int) + 1) = (((pre ++ [x]).length : Nat) : Int) := by simp
    have e1 : pre ++ x :: bs = (pre ++ [x]) ++ bs := by simp
    have e2 : pre2 ++ y :: cs = (pre2 ++ [y]) ++ cs := by simp
    by_cases hxy : x = y
    · subst hxy
      cases lt <;> simp only [Bool.false_eq_true, if_false, if_true, ltB, leB] at h ih ⊢
      · wp_walk using AutoSeq1.wpAny_loadPart' hl, AutoSeq1.wpAny_loadPart' hb
        rw [hi1, hi2]
        refine wpAny_bind (EqAt.bool_bool x x prog w _ _ ?_)
        rw [beq_self_eq_true]
        wp_walk
        rw [hc]
        exact ⟨plainId_quiet MeetsSeq3.plain_eq_loop _, codeAny_builtin MeetsSeq3.entry_eq_loop (by
          rw [Around.under_plainId MeetsSeq3.plain_eq_loop _]
          exact ih prog w A R _ ⟨e1 ▸ hl, e2 ▸ hb, h⟩)⟩
      · wp_walk using AutoSeq1.wpAny_loadPart' hl, AutoSeq1.wpAny_loadPart' hb
        rw [hi1, hi2]
        refine wpAny_bind (EqAt.bool_bool x x prog w _ _ ?_)
        rw [beq_self_eq_true]
        wp_walk
        rw [hc]
        exact ⟨plainId_quiet MeetsSeq3.plain_eq_loop _, codeAny_builtin MeetsSeq3.entry_eq_loop (by
          rw [Around.under_plainId MeetsSeq3.plain_eq_loop _]
          exact ih prog w A R _ ⟨e1 ▸ hl, e2 ▸ hb, h⟩)⟩
    · have hxb : (x == y) = false := by simpa using hxy
      cases lt <;> simp only [Bool.false_eq_true, if_false, if_true, ltB, leB, if_neg hxy] at h ⊢
      · wp_walk using AutoSeq1.wpAny_loadPart' hl, AutoSeq1.wpAny_loadPart' hb
        rw [hi1, hi2]
        refine wpAny_bind (EqAt.bool_bool x y prog w _ _ ?_)
        rw [hxb]
        wp_walk using AutoSeq1.wpAny_loadPart' hl, AutoSeq1.wpAny_loadPart' hb
        rw [hi1, hi2]
        refine wpAny_bind (m := richCompare .LtE (.bool x) (.bool y)) (PyProof.Rows.le_bool (wpAny_pure ?_))
        have : decide (PyProof.Rows.b2i x ≤ PyProof.Rows.b2i y) = (!x && y) := by revert hxy; cases x <;> cases y <;> decide
        rw [this]; exact h
      · wp_walk using AutoSeq1.wpAny_loadPart' hl, AutoSeq1.wpAny_loadPart' hb
        rw [hi1, hi2]
        refine wpAny_bind (EqAt.bool_bool x y prog w _ _ ?_)
        rw [hxb]
        wp_walk using AutoSeq1.wpAny_loadPart' hl, AutoSeq1.wpAny_loadPart' hb
        rw [hi1, hi2]
        refine wpAny_bind (m := richCompare .Lt (.bool x) (.bool y)) (PyProof.Rows.lt_bool (wpAny_pure ?_))
        have : decide (PyProof.Rows.b2i x < PyProof.Rows.b2i y) = (!x && y) := by revert hxy; cases x <;> cases y <;> decide
        rw [this]; exact h
end Lay
end
section
open PySem PySem.SeqAt
namespace Lay

theorem repL_bools {G : Fz} : ∀ {us : List Value} {bs : List Bool}, RepL G us (bs.map .bool) → us = bs.map Value.bool
  | [], [], _ => rfl
  | [], _ :: _, h => by cases h
  | _ :: _, [], h => by cases h
  | u :: us, b :: bs, h => by
    cases h with
    | cons h r => cases h; rw [repL_bools r]; rfl
theorem list_lt_bools (l b : Addr) (n n2 : Nat) (bs cs : List Bool) (hl : bs.length = cs.length) :
    Meets (Builtin.«list.__lt__» ⟨[.ref l, .ref b], []⟩)
      (fun _ R s => s.heap.get? l = some { cls := .type "list", dict := none, data := .seq (boolsOf bs) n, slots := #[] } ∧ s.heap.get? b = some { cls := .type "list", dict := none, data := .seq (boolsOf cs) n2, slots := #[] } ∧
        R (.ok (.ret (.bool (ltB bs cs)))) s) := by
  intro prog w A R s h
  obtain ⟨hp, g, d, tk, os⟩ := s; obtain ⟨h1, h2, h⟩ := h
  have f3 := AutoSeq1.sub_list_list
  wp_walk using AutoSeq1.wpAny_loadPart' h1, AutoSeq1.wpAny_loadPart' h2
  exact ⟨plainId_quiet MeetsSeq3.plain_eq_loop _, codeAny_builtin MeetsSeq3.entry_eq_loop (by
    rw [Around.under_plainId MeetsSeq3.plain_eq_loop _]
    exact ord_loop true l b n n2 bs cs [] [] hl rfl prog w A R _ ⟨h1, h2, h⟩)⟩
theorem list_le_bools (l b : Addr) (n n2 : Nat) (bs cs : List Bool) (hl : bs.length = cs.length) :
    Meets (Builtin.«list.__le__» ⟨[.ref l, .ref b], []⟩)
      (fun _ R s => s.heap.get? l = some { cls := .type "list", dict := none, data := .seq (boolsOf bs) n, slots := #[] } ∧ s.heap.get? b = some { cls := .type "list", dict := none, data := .seq (boolsOf cs) n2, slots := #[] } ∧
        R (.ok (.ret (.bool (leB bs cs)))) s) := by
  intro prog w A R s h
  obtain ⟨hp, g, d, tk, os⟩ := s; obtain ⟨h1, h2, h⟩ := h
  have f3 := AutoSeq1.sub_list_list
  wp_walk using AutoSeq1.wpAny_loadPart' h1, AutoSeq1.wpAny_loadPart' h2
  exact ⟨plainId_quiet MeetsSeq3.plain_eq_loop _, codeAny_builtin MeetsSeq3.entry_eq_loop (by
    rw [Around.under_plainId MeetsSeq3.plain_eq_loop _]
    exact ord_loop false l b n n2 bs cs [] [] hl rfl prog w A R _ ⟨h1, h2, h⟩)⟩

section
variable {f : Fm} {st : Store}
theorem CmpT.lt {i j : Int} : CmpT f .Lt (.int i) (.int j) st (decide (i < j)) := by
  intro A G s u v Q E hA H ru rv hQ; cases ru; cases rv
  exact PyProof.Rows.lt_int (hQ s.toks)
theorem CmpT.le {i j : Int} : CmpT f .LtE (.int i) (.int j) st (decide (i ≤ j)) := by
  intro A G s u v Q E hA H ru rv hQ; cases ru; cases rv
  exact PyProof.Rows.le_int (hQ s.toks)
theorem CmpT.gt {i j : Int} : CmpT f .Gt (.int i) (.int j) st (decide (j < i)) := by
  intro A G s u v Q E hA H ru rv hQ; cases ru; cases rv
  exact PyProof.Rows.gt_int (hQ s.toks)
theorem CmpT.isNone {x : V} {b : Bool} (hb : b = match x with | .none => true | _ => false) : CmpT f .Is x .none st b := by
  intro A G s u v Q E hA H ru rv hQ; cases rv
  subst hb
  cases ru <;> first | exact PyProof.Rows.is_none_none (hQ s.toks) | exact PyProof.Rows.is_none_ne (by intro x; cases x) (hQ s.toks)
theorem CmpT.ltL {bs cs : List Bool} (hl : bs.length = cs.length) : CmpT f .Lt (.lst (bs.map .bool)) (.lst (cs.map .bool)) st (ltB bs cs) := by
  intro A G s u v Q E hA H ru rv hQ
  obtain ⟨a, us, n, rfl, g1, r1⟩ := rep_lst ru
  obtain ⟨b, ws, m, rfl, g2, r2⟩ := rep_lst rv
  have e1 : us = boolsOf bs := Array.toList_inj.mp (by rw [repL_bools r1]; simp [boolsOf])
  have e2 : ws = boolsOf cs := Array.toList_inj.mp (by rw [repL_bools r2]; simp [boolsOf])
  subst e1 e2
  have h1 := H.sub _ _ g1
  have h2 := H.sub _ _ g2
  have := hA.room
  exact richCompare_meets_room (op := .Lt) ⟨_, h1, rfl⟩ ⟨_, h2, rfl⟩ F.slot_list_lt F.entry_list_lt (F.args_list_lt_2 _ _) (list_lt_bools a b n m bs cs hl) ⟨h1, h2, show Value.bool _ ≠ Value.notImplemented ∧ Q _ s from ⟨(fun x => nomatch x), hQ s.toks⟩⟩ (by omega)
theorem CmpT.leL {bs cs : List Bool} (hl : bs.length = cs.length) : CmpT f .LtE (.lst (bs.map .bool)) (.lst (cs.map .bool)) st (leB bs cs) := by
  intro A G s u v Q E hA H ru rv hQ
  obtain ⟨a, us, n, rfl, g1, r1⟩ := rep_lst ru
  obtain ⟨b, ws, m, rfl, g2, r2⟩ := rep_lst rv
  have e1 : us = boolsOf bs := Array.toList_inj.mp (by rw [repL_bools r1]; simp [boolsOf])
  have e2 : ws = boolsOf cs := Array.toList_inj.mp (by rw [repL_bools r2]; simp [boolsOf])
  subst e1 e2
  have h1 := H.sub _ _ g1
  have h2 := H.sub _ _ g2
  have := hA.room
  exact richCompare_meets_room (op := .LtE) ⟨_, h1, rfl⟩ ⟨_, h2, rfl⟩ F.slot_list_le F.entry_list_le (F.args_list_le_2 _ _) (list_le_bools a b n m bs cs hl) ⟨h1, h2, show Value.bool _ ≠ Value.notImplemented ∧ Q _ s from ⟨(fun x => nomatch x), hQ s.toks⟩⟩ (by omega)
end

theorem eqAt_items {A : Around} {s : Shared} {G : Fz} (hG : ∀ a p, G a = some p → s.heap.get? a = some p.2) (hu : A.units + 6 < cLine) {us ws : Array Value} {xs ys : List V} (hc : cmpL xs ys = true) (hx : ∀ x ∈ xs, x.dep ≤ 4 ∧ x.pu = true) (hy : ∀ y ∈ ys, y.pu = true)
    (r : RepL G us.toList xs) (r' : RepL G ws.toList ys) : ∀ j (h1 : j < us.size) (h2 : j < ws.size), EqAt A.in1 s us[j] ws[j] (match xs[j]?, ys[j]? with | some x, some y => x.beq y | _, _ => true) := by
  intro j h1 h2
  have l1 := r.size
  have l2 := r'.size
  have g1 : xs[j]? = some (xs[j]'(by omega)) := List.getElem?_eq_getElem _
  have g2 : ys[j]? = some (ys[j]'(by omega)) := List.getElem?_eq_getElem _
  obtain ⟨v1, e1, q1⟩ := r.get g1
  obtain ⟨v2, e2, q2⟩ := r'.get g2
  have e1' : us[j] = v1 := by rw [Array.getElem?_toList, Array.getElem?_eq_getElem h1] at e1; exact Option.some.inj e1
  have e2' : ws[j] = v2 := by rw [Array.getElem?_toList, Array.getElem?_eq_getElem h2] at e2; exact Option.some.inj e2
  rw [e1', e2', g1, g2]
  obtain ⟨d1, d2⟩ := hx _ (List.mem_of_getElem? g1)
  exact eqAt_V 4 hG (by show A.units + 1 + 4 < cLine; omega) d1 (cmpL_get hc g1 g2) d2 (hy _ (List.mem_of_getElem? g2)) q1 q2

structure Eqs (x y : V) : Prop where
  cmp : x.cmp y = true
  dep : x.dep ≤ 5
  px : x.pu = true
  py : y.pu = true
theorem Eqs.rc {A : Around} {s : Shared} {G : Fz} {u v : Value} {x y : V} (e : Eqs x y) (hG : ∀ a p, G a = some p → s.heap.get? a = some p.2) (hu : A.units + 6 < cLine) (ru : Rep G u x) (rv : Rep G v y) : RcAt A s u v (x.beq y) ∧ RcNeAt A s u v (!x.beq y) := by
  obtain ⟨hc, hd, hp, hq⟩ := e
  cases x with
  | none => cases y <;> simp [V.cmp] at hc; cases ru; cases rv; exact ⟨RcAt.none_none, RcNeAt.none_none⟩
  | bool a => cases y <;> simp [V.cmp] at hc; cases ru; cases rv; exact ⟨RcAt.bool_bool _ _, RcNeAt.bool_bool _ _⟩
  | int a => cases y <;> simp [V.cmp] at hc; cases ru; cases rv; exact ⟨RcAt.int_int _ _ _ _, RcNeAt.int_int _ _ _ _⟩
  | str a => cases y <;> simp [V.cmp] at hc; cases ru; cases rv; exact ⟨RcAt.str_str _ _ _ _, RcNeAt.str_str _ _ _ _⟩
  | ref a => simp [V.pu] at hp
  | tup xs =>
    cases y <;> simp [V.cmp] at hc
    rename_i ys
    simp only [V.pu] at hp hq
    simp only [V.dep] at hd
    obtain ⟨a, us, n, rfl, g1, r1⟩ := rep_tup ru
    obtain ⟨b, ws, m, rfl, g2, r2⟩ := rep_tup rv
    have key := eqAt_items hG hu hc (fun x hx => ⟨by have := depL_mem hx; omega, puL_mem hp hx⟩) (fun y hy => puL_mem hq hy) r1 r2
    have hb := beqL_all xs ys (fun k => match xs[k]?, ys[k]? with | some x, some y => x.beq y | _, _ => true) (fun k x y hx hy => by simp only [hx, hy])
    have k1 := RcAt.tuples ⟨_, hG _ _ g1, rfl, n, rfl⟩ ⟨_, hG _ _ g2, rfl, m, rfl⟩ (by omega) key
    have k2 := RcNeAt.tuples ⟨_, hG _ _ g1, rfl, n, rfl⟩ ⟨_, hG _ _ g2, rfl, m, rfl⟩ (by omega) key
    rw [r1.size, r2.size, hb] at k1 k2
    exact ⟨k1, k2⟩
  | lst xs =>
    cases y <;> simp [V.cmp] at hc
    rename_i ys
    simp only [V.pu] at hp hq
    simp only [V.dep] at hd
    obtain ⟨a, us, n, rfl, g1, r1⟩ := rep_lst ru
    obtain ⟨b, ws, m, rfl, g2, r2⟩ := rep_lst rv
    by_cases hlen : xs.length = ys.length
    · have hc' := hc.resolve_left (fun h => h hlen)
      have key := eqAt_items hG hu hc' (fun x hx => ⟨by have := depL_mem hx; omega, puL_mem hp hx⟩) (fun y hy => puL_mem hq hy) r1 r2
      have hb := beqL_all xs ys (fun k => match xs[k]?, ys[k]? with | some x, some y => x.beq y | _, _ => true) (fun k x y hx hy => by simp only [hx, hy])
      rw [hlen, Nat.min_self, beq_self_eq_true, Bool.and_true] at hb
      have k1 := RcAt.lists ⟨_, hG _ _ g1, rfl, n, rfl⟩ ⟨_, hG _ _ g2, rfl, m, rfl⟩ (by rw [r1.size, r2.size, hlen]) (by omega) key
      have k2 := RcNeAt.lists ⟨_, hG _ _ g1, rfl, n, rfl⟩ ⟨_, hG _ _ g2, rfl, m, rfl⟩ (by rw [r1.size, r2.size, hlen]) (by omega) key
      rw [r1.size, hlen, hb] at k1 k2
      exact ⟨k1, k2⟩
    · have hf : (V.lst xs).beq (V.lst ys) = false := by
        cases hb : (V.lst xs).beq (V.lst ys) with
        | false => rfl
        | true =>
          have := (V.beq_iff _ _).mp hb
          injection this with this
          exact absurd (by rw [this]) hlen
      have hne : (us.size != ws.size) = true := by rw [r1.size, r2.size]; simpa using hlen
      rw [hf]
      exact ⟨RcAt.lists_lengths ⟨_, hG _ _ g1, rfl, n, rfl⟩ ⟨_, hG _ _ g2, rfl, m, rfl⟩ hne (by omega), RcNeAt.lists_lengths ⟨_, hG _ _ g1, rfl, n, rfl⟩ ⟨_, hG _ _ g2, rfl, m, rfl⟩ hne (by omega)⟩

section
variable {f : Fm} {st : Store}
theorem CmpT.eq {x y : V} (e : Eqs x y) : CmpT f .Eq x y st (x.beq y) := by
  intro A G s u v Q E hA H ru rv hQ
  have := hA.room
  exact EqBoolInt.of_rc (e.rc H.sub (by omega) ru rv).1 (hQ s.toks)
theorem CmpT.ne {x y : V} (e : Eqs x y) : CmpT f .NotEq x y st (!x.beq y) := by
  intro A G s u v Q E hA H ru rv hQ
  have := hA.room
  exact EqBoolInt.of_rcne (e.rc H.sub (by omega) ru rv).2 (hQ s.toks)
theorem Eqs.int (i j : Int) : Eqs (.int i) (.int j) := ⟨rfl, Nat.zero_le _, rfl, rfl⟩
theorem Eqs.bool (i j : Bool) : Eqs (.bool i) (.bool j) := ⟨rfl, Nat.zero_le _, rfl, rfl⟩
theorem Eqs.str (i j : Str) : Eqs (.str i) (.str j) := ⟨rfl, Nat.zero_le _, rfl, rfl⟩

theorem any_items {A : Around} {s : Shared} {G : Fz} {us : Array Value} {xs : List V} {u : Value} {x : V} (hG : ∀ a p, G a = some p → s.heap.get? a = some p.2) (hu : A.units + 6 < cLine) (r : RepL G us.toList xs) (ru : Rep G u x)
    (hp : x.pu = true) (hxs : ∀ y ∈ xs, y.dep ≤ 4 ∧ y.pu = true ∧ y.cmp x = true) : ∃ e : Value → Bool, (∀ y, y ∈ us → EqAt A.in1 s y u (e y)) ∧ us.any e = xs.any (·.beq x) := by
  classical
  let e : Value → Bool := fun v => if hx : ∃ y, y ∈ xs ∧ Rep G v y then (Classical.choose hx).beq x else false
  have ev : ∀ v y, y ∈ xs → Rep G v y → e v = y.beq x := by
    intro v y hy rv
    have hx : ∃ y, y ∈ xs ∧ Rep G v y := ⟨y, hy, rv⟩
    show (if hx : ∃ y, y ∈ xs ∧ Rep G v y then (Classical.choose hx).beq x else false) = _
    rw [dif_pos hx]
    obtain ⟨m1, m2⟩ := Classical.choose_spec hx
    rw [Rep.inj m2 rv (hxs _ m1).2.1 (hxs _ hy).2.1]
  refine ⟨e, ?_, ?_⟩
  · intro v hv
    obtain ⟨i, hi⟩ := List.mem_iff_getElem?.mp (Array.mem_toList_iff.mpr hv)
    obtain ⟨y, hy, ry⟩ := r.get' hi
    have hm := List.mem_of_getElem? hy
    rw [ev v y hm ry]
    obtain ⟨d1, d2, d3⟩ := hxs _ hm
    exact eqAt_V 4 hG (by show A.units + 1 + 4 < cLine; omega) d1 d3 d2 hp ry ru
  · rw [← Array.any_toList]
    have : ∀ (us : List Value) (ys : List V), RepL G us ys → (∀ y ∈ ys, y ∈ xs) → us.any e = ys.any (·.beq x) := by
      intro us ys h
      induction us generalizing ys with
      | nil => intro _; cases h; rfl
      | cons v vs ih =>
        intro hm
        cases h with
        | cons h1 h2 => rw [List.any_cons, List.any_cons, ev v _ (hm _ List.mem_cons_self) h1, ih _ h2 fun y hy => hm y (List.mem_cons_of_mem _ hy)]
    exact this _ _ r fun _ h => h
theorem CmpT.inO {a : Addr} {xs : List V} {x : V} (hm : (a, M.list xs) ∈ st) (hp : x.pu = true) (hxs : ∀ y ∈ xs, y.dep ≤ 4 ∧ y.pu = true ∧ y.cmp x = true) : CmpT f .In x (.ref a) st (xs.any (·.beq x)) := by
  intro A G s u v Q E hA H ru rv hQ
  cases rv
  have := hA.room
  obtain ⟨us, n, g, r⟩ := H.listAt hm
  obtain ⟨e, h1, h2⟩ := any_items (A := A) H.sub (by omega) r ru hp hxs
  refine in_listAt e ⟨_, g, rfl, n, rfl⟩ h1 ?_
  rw [h2]; exact hQ s.toks
theorem CmpT.notInO {a : Addr} {xs : List V} {x : V} (hm : (a, M.list xs) ∈ st) (hp : x.pu = true) (hxs : ∀ y ∈ xs, y.dep ≤ 4 ∧ y.pu = true ∧ y.cmp x = true) : CmpT f .NotIn x (.ref a) st (!xs.any (·.beq x)) := by
  intro A G s u v Q E hA H ru rv hQ
  cases rv
  have := hA.room
  obtain ⟨us, n, g, r⟩ := H.listAt hm
  obtain ⟨e, h1, h2⟩ := any_items (A := A) H.sub (by omega) r ru hp hxs
  refine notIn_listAt e ⟨_, g, rfl, n, rfl⟩ h1 ?_
  rw [h2]; exact hQ s.toks
end
end Lay
end
section
open PySem PySem.SeqAt
namespace Lay

section
variable {K : Type} [DecidableEq K]
noncomputable def vAt (kvs : List (K × V)) (k : K) : Option V := (kvs.find? fun kv => kv.1 = k).map (·.2)
noncomputable def vPut (kvs : List (K × V)) (k : K) (v : V) : List (K × V) := if kvs.any (fun kv => kv.1 = k) then kvs.map (fun kv => if kv.1 = k then (kv.1, v) else kv) else kvs ++ [(k, v)]
theorem PairsRep.at {G : Fz} {l : List (K × Value)} {kvs : List (K × V)} (h : PairsRep G l kvs) (k : K) : (∀ x, vAt kvs k = some x → ∃ v, valueAt l k = some v ∧ Rep G v x) ∧ (vAt kvs k = none → valueAt l k = none) := by
  induction h with
  | nil => exact ⟨fun x e => (nomatch e), fun _ => rfl⟩
  | @cons k' v x r s h _ ih =>
    unfold vAt valueAt at *
    rw [List.find?_cons, List.find?_cons]
    by_cases hk : k' = k
    · simp only [decide_eq_true hk]
      exact ⟨fun y e => by cases e; exact ⟨v, rfl, h⟩, fun e => by cases e⟩
    · simp only [decide_eq_false hk]
      exact ih
theorem PairsRep.any {G : Fz} {l : List (K × Value)} {kvs : List (K × V)} (h : PairsRep G l kvs) (k : K) : l.any (fun kv => kv.1 = k) = kvs.any (fun kv => kv.1 = k) := by
  induction h with
  | nil => rfl
  | cons h _ ih => rw [List.any_cons, List.any_cons, ih]
theorem PairsRep.map {G : Fz} {l : List (K × Value)} {kvs : List (K × V)} {k : K} {v : Value} {x : V} (h : PairsRep G l kvs) (r : Rep G v x) :
    PairsRep G (l.map fun kv => if kv.1 = k then (kv.1, v) else kv) (kvs.map fun kv => if kv.1 = k then (kv.1, x) else kv) := by
  induction h with
  | nil => exact .nil
  | @cons k' v' x' r' s' h _ ih =>
    rw [List.map_cons, List.map_cons]
    by_cases hk : k' = k
    · simp only [if_pos hk]; exact .cons r ih
    · simp only [if_neg hk]; exact .cons h ih
theorem PairsRep.snoc {G : Fz} {l : List (K × Value)} {kvs : List (K × V)} {k : K} {v : Value} {x : V} (h : PairsRep G l kvs) (r : Rep G v x) : PairsRep G (l ++ [(k, v)]) (kvs ++ [(k, x)]) := by
  induction h with
  | nil => exact .cons r .nil
  | cons h _ ih => exact .cons h ih
theorem PairsRep.put {G : Fz} {l : List (K × Value)} {kvs : List (K × V)} {k : K} {v : Value} {x : V} (h : PairsRep G l kvs) (r : Rep G v x) : PairsRep G (stored l k v) (vPut kvs k x) := by
  unfold stored vPut
  rw [h.any k]
  split
  · exact h.map r
  · exact h.snoc r
theorem PairsRep.length {G : Fz} {l : List (K × Value)} {kvs : List (K × V)} (h : PairsRep G l kvs) : l.length = kvs.length := by
  induction h with
  | nil => rfl
  | cons _ _ ih => simp [ih]
end

noncomputable def tAt (kvs : List (V × V)) (k : V) : Option V := (kvs.find? fun kv => kv.1.beq k).map (·.2)
noncomputable def tPut (kvs : List (V × V)) (k v : V) : List (V × V) := if kvs.any (fun kv => kv.1.beq k) then kvs.map (fun kv => if kv.1.beq k then (kv.1, v) else kv) else kvs ++ [(k, v)]
open Classical in
theorem TRep.at {G : Fz} {l : List (V × Addr × Value)} {kvs : List (V × V)} (h : TRep G l kvs) (k : V) : (∀ x, tAt kvs k = some x → ∃ p, atKey l k = some p ∧ Rep G p.2 x) ∧ (tAt kvs k = none → atKey l k = none) := by
  induction h with
  | nil => exact ⟨fun x e => (nomatch e), fun _ => rfl⟩
  | @cons k' a v x r s h h2 _ ih =>
    unfold tAt atKey at *
    rw [List.find?_cons, List.find?_cons]
    simp only [V.beq_eq] at ih ⊢
    by_cases hk : k' = k
    · simp only [decide_eq_true hk]
      exact ⟨fun y e => by cases e; exact ⟨(a, v), rfl, h2⟩, fun e => by cases e⟩
    · simp only [decide_eq_false hk]
      exact ih
open Classical in
theorem TRep.put {G : Fz} {l : List (V × Addr × Value)} {kvs : List (V × V)} {k x : V} {a : Addr} {v : Value} (h : TRep G l kvs) (rk : Rep G (.ref a) k) (r : Rep G v x) : TRep G (storedH l k a v) (tPut kvs k x) := by
  have e : (atKey l k).isSome = kvs.any fun kv => kv.1.beq k := by
    induction h with
    | nil => rfl
    | @cons k' a' v' x' r' s' h h2 _ ih =>
      unfold atKey at *
      rw [List.find?_cons, List.any_cons]
      simp only [V.beq_eq] at ih ⊢
      by_cases hk : k' = k
      · simp [decide_eq_true hk]
      · simp only [decide_eq_false hk, Bool.false_or]; exact ih
  have m : TRep G (l.map (putAt k v)) (kvs.map fun kv => if kv.1.beq k then (kv.1, x) else kv) := by
    clear e
    induction h with
    | nil => exact .nil
    | @cons k' a' v' x' r' s' h h2 _ ih =>
      rw [List.map_cons, List.map_cons]
      by_cases hk : k' = k
      · have e1 : putAt k v (k', a', v') = (k', a', v) := if_pos hk
        have e2 : (if (k', x').1.beq k = true then ((k', x').1, x) else (k', x')) = (k', x) := if_pos ((V.beq_iff _ _).mpr hk)
        rw [e1, e2]; exact .cons h r ih
      · have e1 : putAt k v (k', a', v') = (k', a', v') := if_neg hk
        have e2 : (if (k', x').1.beq k = true then ((k', x').1, x) else (k', x')) = (k', x') := if_neg fun q => hk ((V.beq_iff _ _).mp q)
        rw [e1, e2]; exact .cons h h2 ih
  have n : TRep G (l ++ [(k, a, v)]) (kvs ++ [(k, x)]) := by
    clear e m
    induction h with
    | nil => exact .cons rk r .nil
    | cons h h2 _ ih => exact .cons h h2 ih
  unfold storedH tPut
  rw [e]
  split
  · exact m
  · exact n
theorem TRep.length {G : Fz} {l : List (V × Addr × Value)} {kvs : List (V × V)} (h : TRep G l kvs) : l.length = kvs.length := by
  induction h with
  | nil => rfl
  | cons _ _ _ ih => simp [ih]

section
variable {c : Cx} {G : Fz} {st : Store} {h : Heap}
theorem HS.notMods (H : HS c G st h) {d : Addr} (hd : d ∈ fpS st) : (d == sysModules) = false := by
  cases e : d == sysModules with
  | false => rfl
  | true =>
    have := beq_iff_eq.mp e
    subst this
    obtain ⟨o, eo⟩ := c.sysm
    have := H.base _ _ eo
    rw [H.apart _ hd] at this; cases this
theorem HS.dI (H : HS c G st h) {d : Addr} {kvs : List (Int × V)} (hm : (d, M.dI kvs) ∈ st) : (d == sysModules) = false ∧ ∃ l, h.DictOf (intKind c.prog c.w) d l ∧ PairsRep G l kvs :=
  ⟨H.notMods (mem_fpS hm (by simp [M.fp])), H.objs _ hm⟩
theorem HS.dS (H : HS c G st h) {d : Addr} {kvs : List (Str × V)} (hm : (d, M.dS kvs) ∈ st) : (d == sysModules) = false ∧ ∃ l, h.DictOf (strKind c.prog c.w) d l ∧ PairsRep G l kvs :=
  ⟨H.notMods (mem_fpS hm (by simp [M.fp])), H.objs _ hm⟩
theorem HS.dT (H : HS c G st h) {d : Addr} {b : Bool} {kvs : List (V × V)} (hm : (d, M.dT b kvs) ∈ st) : (d == sysModules) = false ∧ ∃ l, DH c b h d l ∧ TRep G l kvs :=
  ⟨H.notMods (mem_fpS hm (by simp [M.fp])), H.objs _ hm⟩
theorem HS.updSame {a : Addr} {m m' : M} {st' : Store} {h' : Heap} (H : HS c G st h) (u : Upd a m m' st st') (hf : m.fp a = [a]) (hf' : m'.fp a = [a]) (hs : Heap.SameBut a h h') (hm : IsM c G h' a m') : HS c G st' h' :=
  H.upd u (hf'.trans hf.symm) (fun b o hb e => hs.extBut b o (fun q => hb (by rw [hf]; exact List.mem_singleton.mpr q)) e) hm
theorem intKey (c : Cx) (i : Int) (t : Tok) : (intKind c.prog c.w).is i (.int i t) = true := by show Value.isInt i (.int i t) = true; simp [Value.isInt]
theorem strKey (c : Cx) (i : Str) (t : Tok) : (strKind c.prog c.w).is i (.str i t) = true := by show Value.isStrOf i (.str i t) = true; simp [Value.isStrOf]
theorem rep_key {v : Value} {x : V} {b : Bool} (r : Rep G v x) (hk : isK b x) : ∃ a, v = .ref a := by
  cases b with
  | false => obtain ⟨is, rfl⟩ := hk; obtain ⟨a, _, _, rfl, _⟩ := rep_tup r; exact ⟨a, rfl⟩
  | true => obtain ⟨q, is, rfl⟩ := hk; obtain ⟨a, _, _, rfl, _⟩ := rep_tup r; exact ⟨a, rfl⟩
theorem HS.full (H : HS c G st h) {v : Value} {x : V} (r : Rep G v x) : Rep (full h) v x := r.imp fun a o vs n e _ => full_iff.mpr ⟨rfl, H.sub _ _ e⟩
end

section
variable {f : Fm} {st : Store}
theorem CmpT.inI {d : Addr} {kvs : List (Int × V)} {i : Int} (hm : (d, M.dI kvs) ∈ st) : CmpT f .In (.int i) (.ref d) st (vAt kvs i).isSome := by
  intro A G s u v Q E hA H ru rv hQ
  cases rv; cases ru
  obtain ⟨hd, l, hl, hp⟩ := H.dI hm
  refine wpAny_in_of (intKey f.c i _) hd hl.mapOf ?_
  have : (valueAt l i).isSome = (vAt kvs i).isSome := by
    cases e : vAt kvs i with
    | none => rw [(hp.at i).2 e]; rfl
    | some x => obtain ⟨v, e', _⟩ := (hp.at i).1 x e; rw [e']; rfl
  rw [this]; exact hQ _
theorem CmpT.notInI {d : Addr} {kvs : List (Int × V)} {i : Int} (hm : (d, M.dI kvs) ∈ st) : CmpT f .NotIn (.int i) (.ref d) st (!(vAt kvs i).isSome) := by
  intro A G s u v Q E hA H ru rv hQ
  cases rv; cases ru
  obtain ⟨hd, l, hl, hp⟩ := H.dI hm
  refine wpAny_notIn_of (intKey f.c i _) hd hl.mapOf ?_
  have : (valueAt l i).isSome = (vAt kvs i).isSome := by
    cases e : vAt kvs i with
    | none => rw [(hp.at i).2 e]; rfl
    | some x => obtain ⟨v, e', _⟩ := (hp.at i).1 x e; rw [e']; rfl
  rw [this]; exact hQ _
open Classical in
theorem wpAny_notIn_heap {prog : Program} {w : World} {K : Type} [DecidableEq K] {knd : HeapKind prog w K} {A : Around} {E : Value → Shared → Prop} {s : Shared} {d a : Addr} {k : K} {xs : List (K × Addr × Value)} {Q : Value → Shared → Prop}
    (hu : knd.room A.in1) (hkey : knd.is s.heap k a) (hd : (d == sysModules) = false) (hm : s.heap.DictOfH knd d xs)
    (h : Q (.bool (!(atKey xs k).isSome)) { s with toks := s.toks + knd.draws k }) : wpAny (model prog w) A (compareOp .NotIn (.ref a) (.ref d)) Q E s := by
  show wpAny _ _ (do return .bool (!(← contains (.ref d) (.ref a)))) Q E s
  refine wpAny_bind ?_
  unfold contains
  try with_reducible refine wpAny_holding ?_
  refine wpAny_bind (wpAny_specialOf hm.typeIs slot_dict_contains.lookup ?_)
  show wpAny _ _ (if (some (Value.builtin "dict.__contains__") == some Value.none) = true then _ else _) _ E s
  rw [if_neg (by rw [beq_builtin_none]; exact Bool.false_ne_true)]
  refine wpAny_bind (wpAny_callSpecialUnlessNone?_slot (name := Str.ofString "__contains__") hm.typeIs slot_dict_contains
    (wpAny_call_entry slot_dict_contains hm.typeIs entry_dict_contains ?_ (args_dict_contains _ _)))
  show wpAny _ _ (dictGet d (.ref a) >>= _) _ _ s
  refine wpAny_bind (wpAny_dictGet_heap hu hkey hm ?_)
  cases hf : atKey xs k with
  | some p =>
    rw [hf] at h
    show wpAny _ _ (ret (.bool true)) _ _ _
    exact wpAny_pure ⟨_, rfl, wpAny_truthy_bool (wpAny_pure h)⟩
  | none =>
    rw [hf] at h
    show wpAny _ _ (Builtin.Dict.pendingKey? d (.ref a) >>= _) _ _ _
    exact wpAny_bind (wpAny_pendingKey_other hd (wpAny_pure ⟨_, rfl, wpAny_truthy_bool (wpAny_pure h)⟩))
open Classical in
theorem CmpT.notInT {d : Addr} {b : Bool} {kvs : List (V × V)} {x : V} (hm : (d, M.dT b kvs) ∈ st) (hk : isK b x) : CmpT f .NotIn x (.ref d) st (!(tAt kvs x).isSome) := by
  intro A G s u v Q E hA H ru rv hQ
  cases rv
  have := hA.room
  obtain ⟨a, rfl⟩ := rep_key ru hk
  obtain ⟨hd, l, hl, hp⟩ := H.dT hm
  unfold DH at hl
  refine wpAny_notIn_heap (knd := vKind f.c.prog f.c.w b) (k := x) (show A.units + 1 + 3 < cLine by omega) ⟨hk, H.full ru⟩ hd hl ?_
  cases e : tAt kvs x with
  | none => rw [(hp.at x).2 e]; rw [e] at hQ; exact hQ _
  | some y => obtain ⟨p, e', _⟩ := (hp.at x).1 y e; rw [e']; rw [e] at hQ; exact hQ _
end

noncomputable def Op2 (c : Cx) (k : Nat) (t : Value → Value → Sem Value) (x y : V) (st : Store) (P : V → Store → Prop) : Prop :=
  ∀ (A : Around) (G : Fz) (s : Shared) (u v : Value) (Q : Value → Shared → Prop) (E : Value → Shared → Prop), Lim k A → HS c G st s.heap → Rep G u x → Rep G v y →
    (∀ w z G' st' h' tk, P z st' → Rep G' w z → Le G G' → HS c G' st' h' → Q w { s with heap := h', toks := tk }) → wpAny (model c.prog c.w) A (t u v) Q E s
theorem wp_op2S {f : Fm} {vs : Vars} {st : Store} {t : Value → Value → Sem Value} {x y : V} {P : V → Store → Prop} (h : Op2 f.c f.k t x y st P) {A : Around} {G : Fz} {s : Shared} {u v : Value} {Q : Value → Shared → Prop} {E : Value → Shared → Prop}
    (hA : Lim f.k A) (S : St f.c G f.env f.oc vs st s.heap) (ru : Rep G u x) (rv : Rep G v y)
    (hQ : ∀ w z G' st' h' tk, P z st' → Rep G' w z → Le G G' → St f.c G' f.env f.oc vs st' h' → Q w { s with heap := h', toks := tk }) : wpAny (model f.c.prog f.c.w) A (t u v) Q E s := by
  have leK := keep_le (h := s.heap) (fun b hb => (S.ap.1 b hb).1)
  refine h A (keep G s.heap (f.env.locals :: f.oc)) s u v Q E hA S.leave (ru.imp leK.seq) (rv.imp leK.seq) fun w z G' st' h' tk p r le H => ?_
  obtain ⟨le', sq, S'⟩ := S.back le H
  exact hQ w z _ st' h' tk p (r.imp sq) le' S'

inductive Ty (st : Store) : V → String → Prop
  | lst (xs : List V) : Ty st (.lst xs) "list"
  | tup (xs : List V) : Ty st (.tup xs) "tuple"
  | list {a : Addr} {xs : List V} : (a, M.list xs) ∈ st → Ty st (.ref a) "list"
  | dI {a : Addr} {xs : List (Int × V)} : (a, M.dI xs) ∈ st → Ty st (.ref a) "dict"
  | dS {a : Addr} {xs : List (Str × V)} : (a, M.dS xs) ∈ st → Ty st (.ref a) "dict"
  | dT {a : Addr} {b : Bool} {xs : List (V × V)} : (a, M.dT b xs) ∈ st → Ty st (.ref a) "dict"
theorem Ty.is {c : Cx} {G : Fz} {st : Store} {s : Shared} {x : V} {T : String} {v : Value} (t : Ty st x T) (H : HS c G st s.heap) (r : Rep G v x) : s.TypeIs v T ∧ ∀ a, v = .ref a → ∃ ob, s.heap.get? a = some ob ∧ ob.dict = none := by
  cases t with
  | lst xs =>
    obtain ⟨a, us, n, rfl, g, _⟩ := rep_lst r
    have := H.sub _ _ g
    exact ⟨⟨_, this, rfl⟩, fun b e => by cases e; exact ⟨_, this, rfl⟩⟩
  | tup xs =>
    obtain ⟨a, us, n, rfl, g, _⟩ := rep_tup r
    have := H.sub _ _ g
    exact ⟨⟨_, this, rfl⟩, fun b e => by cases e; exact ⟨_, this, rfl⟩⟩
  | list hm =>
    cases r
    obtain ⟨us, n, g, _⟩ := H.listAt hm
    exact ⟨⟨_, g, rfl⟩, fun b e => by cases e; exact ⟨_, g, rfl⟩⟩
  | dI hm =>
    cases r
    obtain ⟨_, l, ⟨o, es, ep, ho, hx, _⟩, _⟩ := H.dI hm
    exact ⟨⟨o, ho, hx.1⟩, fun b e => by cases e; exact ⟨o, ho, hx.2.1⟩⟩
  | dS hm =>
    cases r
    obtain ⟨_, l, ⟨o, es, ep, ho, hx, _⟩, _⟩ := H.dS hm
    exact ⟨⟨o, ho, hx.1⟩, fun b e => by cases e; exact ⟨o, ho, hx.2.1⟩⟩
  | dT hm =>
    cases r
    obtain ⟨_, l, ⟨o, es, ep, ho, hx, _⟩, _⟩ := H.dT hm
    exact ⟨⟨o, ho, hx.1⟩, fun b e => by cases e; exact ⟨o, ho, hx.2.1⟩⟩
theorem Ty.getitem {st : Store} {x : V} {T : String} (t : Ty st x T) : ∃ id, typeLookup (.type T) "__getitem__" = pure (some (.builtin id)) := by
  cases t <;> first | exact ⟨_, slot_list_getitem.lookup⟩ | exact ⟨_, F.slot_tuple_getitem.lookup⟩ | exact ⟨_, slot_dict_getitem.lookup⟩

theorem Ev.sub {f : Fm} {vs : Vars} {st : Store} {P : V → Store → Prop} {value slice : Expr} {pos : Pos} (h : Ev f value vs st fun x st1 => Ev f slice vs st1 fun y st2 => (∃ T, Ty st2 x T) ∧ Op2 f.c f.k getItem x y st2 P)
    (hs : ∀ o i, subscripted slice false o i = operate [o, i] (getItem o i) := by intro _ _; rfl) : Ev f (.Subscript value slice pos) vs st P := by
  intro A G s Q E hA S hQ
  refine PyProof.Rows.Subscript_ (h A G s _ E hA S ?_)
  intro u x G1 st1 h1 tk1 p1 ru le1 S1
  refine p1 A G1 { s with heap := h1, toks := tk1 } _ E hA S1 ?_
  rintro v y G2 st2 h2 tk2 ⟨⟨T, hT⟩, p2⟩ rv le2 S2
  obtain ⟨id, hid⟩ := hT.getitem
  refine PyProof.Rows.tail_any (hT.is S2.hs (ru.imp le2.seq)).1 hid ?_ (hs u v)
  exact wp_op2S p2 hA S2 (ru.imp le2.seq) rv fun w z G' st' h' tk p r le S' => hQ w z G' st' h' tk p r ((le1.trans le2).trans le) S'

section
variable {c : Cx} {k : Nat} {st : Store} {P : V → Store → Prop}
theorem Op2.item {xs : List V} {i : Int} {x : V} (h0 : 0 ≤ i) (hi : i < 2 ^ 63) (hx : xs[i.toNat]? = some x) (h : P x st) : Op2 c k getItem (.lst xs) (.int i) st P := by
  intro A G s u v Q E hA H ru rv hQ
  cases rv
  obtain ⟨a, us, n, rfl, g, r⟩ := rep_lst ru
  obtain ⟨w, hw, rw'⟩ := r.get hx
  exact wpAny_getItem_list (items := us) ⟨_, H.sub _ _ g, rfl, n, rfl⟩ h0 hi (by simpa using hw) (hQ w x G st s.heap s.toks h rw' (Le.refl _) H)
theorem Op2.itemO {a : Addr} {xs : List V} {i : Int} {x : V} (hm : (a, M.list xs) ∈ st) (h0 : 0 ≤ i) (hi : i < 2 ^ 63) (hx : xs[i.toNat]? = some x) (h : P x st) : Op2 c k getItem (.ref a) (.int i) st P := by
  intro A G s u v Q E hA H ru rv hQ
  cases rv; cases ru
  obtain ⟨us, n, g, r⟩ := H.listAt hm
  obtain ⟨w, hw, rw'⟩ := r.get hx
  exact wpAny_getItem_list (items := us) ⟨_, g, rfl, n, rfl⟩ h0 hi (by simpa using hw) (hQ w x G st s.heap s.toks h rw' (Le.refl _) H)
theorem Op2.lastO {a : Addr} {xs : List V} {x : V} (hm : (a, M.list (xs ++ [x])) ∈ st) (h : P x st) : Op2 c k getItem (.ref a) (.int (-1)) st P := by
  intro A G s u v Q E hA H ru rv hQ
  cases rv; cases ru
  obtain ⟨us, n, g, r⟩ := H.listAt hm
  obtain ⟨w, hw, rw'⟩ := r.get (k := xs.length) (x := x) (by simp)
  have hsz : us.size = xs.length + 1 := by rw [r.size]; simp
  have e : ((-1 : Int) + (us.size : Int)).toNat = xs.length := by rw [hsz]; omega
  refine wpAny_getItem_list_neg (items := us) ⟨_, g, rfl, n, rfl⟩ (by decide) (by omega) (by decide) ?_ (hQ w x G st s.heap s.toks h rw' (Le.refl _) H)
  rw [e]; simpa using hw
theorem Op2.itemT {xs : List V} {i : Int} {x : V} (h0 : 0 ≤ i) (hi : i < 2 ^ 63) (hx : xs[i.toNat]? = some x) (h : P x st) : Op2 c k getItem (.tup xs) (.int i) st P := by
  intro A G s u v Q E hA H ru rv hQ
  cases rv
  obtain ⟨a, us, n, rfl, g, r⟩ := rep_tup ru
  obtain ⟨w, hw, rw'⟩ := r.get hx
  have hlt : i < (us.size : Int) := by
    have := (List.getElem?_eq_some_iff.mp hw).1
    simp at this; omega
  exact PySem.P.getItem_tuple (items := us) (n := n) (k := i.toNat) (H.sub _ _ g) (by omega) hi (seqIndex_of h0 hlt) (by simpa using hw) (hQ w x G st s.heap s.toks h rw' (Le.refl _) H)
theorem Op2.atI {d : Addr} {kvs : List (Int × V)} {i : Int} {x : V} (hm : (d, M.dI kvs) ∈ st) (hx : vAt kvs i = some x) (h : P x st) : Op2 c k getItem (.ref d) (.int i) st P := by
  intro A G s u v Q E hA H ru rv hQ
  cases rv; cases ru
  obtain ⟨hd, l, hl, hp⟩ := H.dI hm
  obtain ⟨w, e, r⟩ := (hp.at i).1 x hx
  exact wpAny_getItem_of (intKey c i _) hl.mapOf e (hQ w x G st s.heap _ h r (Le.refl _) H)
theorem Op2.atS {d : Addr} {kvs : List (Str × V)} {i : Str} {x : V} (hm : (d, M.dS kvs) ∈ st) (hx : vAt kvs i = some x) (h : P x st) : Op2 c k getItem (.ref d) (.str i) st P := by
  intro A G s u v Q E hA H ru rv hQ
  cases rv; cases ru
  obtain ⟨hd, l, hl, hp⟩ := H.dS hm
  obtain ⟨w, e, r⟩ := (hp.at i).1 x hx
  exact wpAny_getItem_of (strKey c i _) hl.mapOf e (hQ w x G st s.heap _ h r (Le.refl _) H)
open Classical in
theorem Op2.atT {d : Addr} {b : Bool} {kvs : List (V × V)} {y x : V} (hm : (d, M.dT b kvs) ∈ st) (hk : isK b y) (hx : tAt kvs y = some x) (h : P x st) : Op2 c k getItem (.ref d) y st P := by
  intro A G s u v Q E hA H ru rv hQ
  cases ru
  have := hA.room
  obtain ⟨a, rfl⟩ := rep_key rv hk
  obtain ⟨hd, l, hl, hp⟩ := H.dT hm
  obtain ⟨p, e, r⟩ := (hp.at y).1 x hx
  unfold DH at hl
  exact wpAny_getItem_heap (knd := vKind c.prog c.w b) (k := y) (show A.units + 1 + 3 < cLine by omega) ⟨hk, H.full rv⟩ hl e (hQ _ x G st s.heap _ h r (Le.refl _) H)
theorem Fn.getI {d : Addr} {kvs : List (Int × V)} {i : Int} {x : V} (hm : (d, M.dI kvs) ∈ st) (h : P ((vAt kvs i).getD x) st) : Fn c k (.builtin "dict.get") [.ref d, .int i, x] st P := by
  intro A G s us Q E hA H r hQ
  obtain ⟨u1, u2, u3, rfl, r1, r2, r3⟩ := rep3 r
  cases r1; cases r2
  obtain ⟨hd, l, hl, hp⟩ := H.dI hm
  refine call_meetsIn F.slot_dict_get hl.typeIs F.entry_dict_get (F.args_dict_get_3 _ _ _) (meets_dict_get_default (intKind c.prog c.w) d (intKey c i _) hd u3) ⟨_, hl.mapOf, ?_⟩
  cases e : vAt kvs i with
  | none => rw [(hp.at i).2 e]; rw [e] at h; exact hQ _ _ G st s.heap _ h r3 (Le.refl _) H
  | some y => obtain ⟨v, e', rv⟩ := (hp.at i).1 y e; rw [e']; rw [e] at h; exact hQ _ _ G st s.heap _ h rv (Le.refl _) H
end

noncomputable def Op3 (c : Cx) (k : Nat) (x y z : V) (st : Store) (P : Store → Prop) : Prop :=
  ∀ (A : Around) (G : Fz) (s : Shared) (u v w : Value) (Q : Unit → Shared → Prop) (E : Value → Shared → Prop), Lim k A → HS c G st s.heap → Rep G u x → Rep G v y → Rep G w z →
    (∀ st' h' tk, P st' → HS c G st' h' → Q () { s with heap := h', toks := tk }) → wpAny (model c.prog c.w) A (setItem u v w) Q E s
section
variable {c : Cx} {k : Nat} {st : Store} {P : Store → Prop}
theorem Op3.putI {d : Addr} {kvs : List (Int × V)} {i : Int} {x : V} {st' : Store} (u : Upd d (.dI kvs) (.dI (vPut kvs i x)) st st') (hz : kvs.length ≤ sizeLine) (h : P st') : Op3 c k (.ref d) (.int i) x st P := by
  intro A G s u1 v w Q E hA H r1 r2 r3 hQ
  cases r1; cases r2
  obtain ⟨hd, l, hl, hp⟩ := H.dI u.mem
  exact wpAny_setItem_pairs (intKey c i _) hl (fun h' hl' hs => hQ st' h' _ h (H.updSame u rfl rfl hs ⟨_, hl', hp.put r3⟩)) (by rw [hp.length]; exact hz)
theorem Op3.putS {d : Addr} {kvs : List (Str × V)} {i : Str} {x : V} {st' : Store} (u : Upd d (.dS kvs) (.dS (vPut kvs i x)) st st') (hz : kvs.length ≤ sizeLine) (h : P st') : Op3 c k (.ref d) (.str i) x st P := by
  intro A G s u1 v w Q E hA H r1 r2 r3 hQ
  cases r1; cases r2
  obtain ⟨hd, l, hl, hp⟩ := H.dS u.mem
  exact wpAny_setItem_pairs (strKey c i _) hl (fun h' hl' hs => hQ st' h' _ h (H.updSame u rfl rfl hs ⟨_, hl', hp.put r3⟩)) (by rw [hp.length]; exact hz)
open Classical in
theorem Op3.putT {d : Addr} {b : Bool} {kvs : List (V × V)} {y x : V} {st' : Store} (u : Upd d (.dT b kvs) (.dT b (tPut kvs y x)) st st') (hk : isK b y) (hz : kvs.length ≤ sizeLine) (h : P st') : Op3 c k (.ref d) y x st P := by
  intro A G s u1 v w Q E hA H r1 r2 r3 hQ
  cases r1
  have := hA.room
  obtain ⟨a, rfl⟩ := rep_key r2 hk
  obtain ⟨hd, l, hl, hp⟩ := H.dT u.mem
  unfold DH at hl
  exact wpAny_setItem_heap (knd := vKind c.prog c.w b) (k := y) (show A.units + 1 + 3 < cLine by omega) ⟨hk, H.full r2⟩ hl (fun h' hl' hs => hQ st' h' _ h (H.updSame u rfl rfl hs ⟨_, hl', hp.put r2 r3⟩)) (by rw [hp.length]; exact hz)
end
theorem Stm.setitem {f : Fm} {vs : Vars} {st : Store} {P : Fl → Store → Prop} {o i value : Expr} {p pos : Pos}
    (h : Ev f value vs st fun z st1 => Ev f o vs st1 fun x st2 => Ev f i vs st2 fun y st3 => Op3 f.c f.k x y z st3 fun st4 => P (.next vs) st4)
    (hs : swapsWith value (some (.Subscript o i p)) pos.line f.env = pure false := by rfl) : Stm f (.Assign [.Subscript o i p] value pos) vs st P := by
  intro A G s Q E hA S hQ
  refine wpAny_Assign_Subscript (h A G s _ E hA S ?_) hs
  intro w z G1 st1 h1 tk1 p1 rz le1 S1
  refine p1 A G1 { s with heap := h1, toks := tk1 } _ E hA S1 ?_
  intro u x G2 st2 h2 tk2 p2 rx le2 S2
  refine p2 A G2 { s with heap := h2, toks := tk2 } _ E hA S2 ?_
  intro v y G3 st3 h3 tk3 p3 ry le3 S3
  have leK := keep_le (h := h3) (fun b hb => (S3.ap.1 b hb).1)
  refine p3 A (keep G3 h3 (f.env.locals :: f.oc)) { s with heap := h3, toks := tk3 } u v w _ E hA S3.leave ((rx.imp le3.seq).imp leK.seq) (ry.imp leK.seq) (((rz.imp le2.seq).imp le3.seq).imp leK.seq) fun st4 h4 tk4 p4 H => ?_
  obtain ⟨le', sq, S'⟩ := S3.back (Le.refl _) H
  exact hQ .next (.next vs) _ st4 h4 tk4 p4 (((le1.trans le2).trans le3).trans le') S'
end Lay
end
section
open PySem PySem.SeqAt
namespace Lay

section
variable {f : Fm} {vs : Vars} {st : Store} {P : V → Store → Prop}
theorem Ev.sliceTo {value upper : Expr} {p pos : Pos} (h : Ev f value vs st fun x st1 => Ev f upper vs st1 fun y st2 => ∃ (xs : List V) (i : Nat), x = .lst xs ∧ y = .int i ∧ xs.length ≤ sizeLine ∧ P (.lst (xs.take i)) st2) :
    Ev f (.Subscript value (.Slice .none (some upper) .none p) pos) vs st P := by
  intro A G s Q E hA S hQ
  refine PyProof.Rows.Subscript_ (h A G s _ E hA S ?_)
  intro u x G1 st1 h1 tk1 p1 ru le1 S1
  refine wpAny_Slice (wpAny_pure (p1 A G1 { s with heap := h1, toks := tk1 } _ E hA S1 ?_))
  rintro v y G2 st2 h2 tk2 ⟨xs, i, rfl, rfl, hz, p2⟩ rv le2 S2
  refine wpAny_pure ?_
  cases rv with | int _ t0 =>
  obtain ⟨a, us, n, rfl, g, r⟩ := rep_lst (ru.imp le2.seq)
  have hg := S2.hs.sub _ _ g
  have S3 := S2.grow (h' := h2.push { cls := .type "slice", data := .fields #[.none, .int i t0, .none] }) fun b o e => Heap.get?_push_of_some _ e
  refine PyProof.Rows.tail_any (T := "list") (s := { s with heap := h2.push { cls := .type "slice", data := .fields #[.none, .int i t0, .none] }, toks := tk2 }) ⟨_, Heap.get?_push_of_some _ hg, rfl⟩ slot_list_getitem.lookup ?_ rfl
  refine wpAny_getItem_list_slice (items := us) ⟨_, Heap.get?_push_of_some _ hg, rfl, n, rfl⟩ (Heap.IsSliceOf.new ..) .none (.int _ _) .none (by intro e; cases e) ?_ (by rw [r.size]; exact hz)
  rw [slicePick_upto']
  obtain ⟨le3, S4⟩ := S3.frz (fresh_none _) (Heap.get?_push_size _ (o := { cls := .type "list", data := .seq (us.toList.take i).toArray }) rfl) fun b o e => Heap.get?_push_of_some _ e
  exact hQ _ _ _ st2 _ tk2 p2 (.lst put_self rfl rfl ⟨rfl, rfl⟩ (by simpa using (r.take i).imp le3.seq)) ((le1.trans le2).trans le3) S4
theorem Ev.sliceFrom {value lower : Expr} {p pos : Pos} (h : Ev f value vs st fun x st1 => Ev f lower vs st1 fun y st2 => ∃ (xs : List V) (i : Nat), x = .tup xs ∧ y = .int i ∧ 1 ≤ i ∧ i ≤ xs.length ∧ xs.length ≤ sizeLine ∧ P (.tup (xs.drop i)) st2) :
    Ev f (.Subscript value (.Slice (some lower) .none .none p) pos) vs st P := by
  intro A G s Q E hA S hQ
  refine PyProof.Rows.Subscript_ (h A G s _ E hA S ?_)
  intro u x G1 st1 h1 tk1 p1 ru le1 S1
  refine wpAny_Slice (p1 A G1 { s with heap := h1, toks := tk1 } _ E hA S1 ?_)
  rintro v y G2 st2 h2 tk2 ⟨xs, i, rfl, rfl, h1i, hi, hz, p2⟩ rv le2 S2
  refine wpAny_pure (wpAny_pure ?_)
  cases rv with | int _ t0 =>
  obtain ⟨a, us, n, rfl, g, r⟩ := rep_tup (ru.imp le2.seq)
  have hg := S2.hs.sub _ _ g
  have S3 := S2.grow (h' := h2.push { cls := .type "slice", data := .fields #[.int i t0, .none, .none] }) fun b o e => Heap.get?_push_of_some _ e
  refine PyProof.Rows.tail_any (T := "tuple") (s := { s with heap := h2.push { cls := .type "slice", data := .fields #[.int i t0, .none, .none] }, toks := tk2 }) ⟨_, Heap.get?_push_of_some _ hg, rfl⟩ F.slot_tuple_getitem.lookup ?_ rfl
  refine PyProof.Rows.getItem_tuple_from (items := us) (a := i) ⟨_, Heap.get?_push_of_some _ hg, rfl, n, rfl⟩ (Heap.IsSliceOf.new ..) h1i (by rw [r.size]; exact hi) ?_ (by rw [r.size]; exact hz)
  obtain ⟨le3, S4⟩ := S3.frz (fresh_none _) (Heap.get?_push_size _ (o := { cls := .type "tuple", data := .seq (us.toList.drop i).toArray }) rfl) fun b o e => Heap.get?_push_of_some _ e
  exact hQ _ _ _ st2 _ tk2 p2 (.tup put_self rfl rfl ⟨rfl, rfl⟩ (by simpa using (r.drop i).imp le3.seq)) ((le1.trans le2).trans le3) S4

theorem Ev.dictI {pos : Pos} (h : ∀ a, P (.ref a) ((a, .dI []) :: st)) : Ev f (.Dict [] [] pos) vs st P := by
  intro A G s Q E hA S hQ
  refine wpAny_Dict_empty (hQ _ _ G _ _ s.toks (h _) (.ref _) (Le.refl _) (S.new (m := .dI []) ⟨[], Heap.DictOf.new _, .nil⟩ ?_ (by simp [M.fp]) fun b o e => Heap.get?_push_of_some _ e))
  intro b hb; simp [M.fp] at hb; subst hb; exact fresh_none _
open Classical in
theorem Ev.dictT (b : Bool) {pos : Pos} (h : ∀ a, P (.ref a) ((a, .dT b []) :: st)) : Ev f (.Dict [] [] pos) vs st P := by
  intro A G s Q E hA S hQ
  refine wpAny_Dict_empty (hQ _ _ G _ _ s.toks (h _) (.ref _) (Le.refl _) (S.new (m := .dT b []) ⟨[], Heap.DictOfH.new _, .nil⟩ ?_ (by simp [M.fp]) fun b o e => Heap.get?_push_of_some _ e))
  intro b hb; simp [M.fp] at hb; subst hb; exact fresh_none _

noncomputable def EvP (f : Fm) (pos : Pos) (es : List (Expr × Expr)) (vs : Vars) (st : Store) (P : List (V × V) → Store → Prop) : Prop :=
  ∀ (A : Around) (G : Fz) (s : Shared) (Q : List (Value × Value) → Shared → Prop) (E : Value → Shared → Prop), Lim f.k A → St f.c G f.env f.oc vs st s.heap →
    (∀ us vals xs ys G' st' h' tk, us.length = vals.length → P (xs.zip ys) st' → xs.length = ys.length → RepL G' us xs → RepL G' vals ys → Le G G' → St f.c G' f.env f.oc vs st' h' → Q (us.zip vals) { s with heap := h', toks := tk }) →
    wpAny (model f.c.prog f.c.w) A (evalPairs (es.map fun p => (eval p.1 f.env, do let x ← eval p.2 f.env; standAt pos; pure x))) Q E s
theorem EvP.nil {pos : Pos} {P : List (V × V) → Store → Prop} (h : P [] st) : EvP f pos [] vs st P := fun _A G s _Q _E _hA S hQ =>
  evalPairs_nil (hQ [] [] [] [] G st s.heap s.toks rfl h rfl .nil .nil (Le.refl _) S)
theorem EvP.cons {pos : Pos} {k v : Expr} {es : List (Expr × Expr)} {P : List (V × V) → Store → Prop} (h : Ev f k vs st fun x st1 => Ev f v vs st1 fun y st2 => EvP f pos es vs st2 fun l st3 => P ((x, y) :: l) st3) : EvP f pos ((k, v) :: es) vs st P := by
  intro A G s Q E hA S hQ
  refine evalPairs_cons (h A G s _ E hA S ?_)
  intro u x G1 st1 h1 tk1 p1 ru le1 S1
  refine wpAny_bind (p1 A G1 { s with heap := h1, toks := tk1 } _ E hA S1 ?_)
  intro w y G2 st2 h2 tk2 p2 rw' le2 S2
  refine wpAny_bind (wpAny_standAt (wpAny_pure (p2 A G2 { s with heap := h2, toks := tk2 } _ E hA S2 ?_)))
  intro us vals xs ys G3 st3 h3 tk3 hl p3 hl2 rus rvs le3 S3
  exact hQ (u :: us) (w :: vals) (x :: xs) (y :: ys) G3 st3 h3 tk3 (by simp [hl]) p3 (by simp [hl2]) (.cons ((ru.imp le2.seq).imp le3.seq) rus) (.cons (rw'.imp le3.seq) rvs) ((le1.trans le2).trans le3) S3
end

theorem carriesI {c : Cx} {G : Fz} : ∀ {us vals : List Value} {is : List Int} {ys : List V}, RepL G us (is.map .int) → RepL G vals ys → is.length = ys.length →
    ∃ kvs : List (Int × Value), Carries (intKind c.prog c.w) (us.zip vals) kvs ∧ ∀ (acc : List (Int × Value)) (acc' : List (Int × V)), PairsRep G acc acc' → PairsRep G (merged acc kvs) ((is.zip ys).foldl (fun a p => vPut a p.1 p.2) acc')
  | us, vals, [], ys, r1, r2, hl => by
    have : ys = [] := List.length_eq_zero_iff.mp hl.symm
    subst this
    cases r1; cases r2
    exact ⟨[], trivial, fun acc acc' h => h⟩
  | us, vals, i :: is, ys, r1, r2, hl => by
    cases ys with
    | nil => simp at hl
    | cons y ys =>
    cases r1 with
    | @cons u us' _ _ ru rus =>
    cases r2 with
    | @cons v vals' _ _ rv rvs =>
    cases ru
    obtain ⟨kvs, h1, h2⟩ := carriesI (c := c) rus rvs (by simpa using hl)
    exact ⟨(i, v) :: kvs, ⟨intKey c i _, rfl, h1⟩, fun acc acc' h => h2 _ _ (h.put rv)⟩
theorem carriesS {c : Cx} {G : Fz} : ∀ {us vals : List Value} {is : List Str} {ys : List V}, RepL G us (is.map .str) → RepL G vals ys → is.length = ys.length →
    ∃ kvs : List (Str × Value), Carries (strKind c.prog c.w) (us.zip vals) kvs ∧ ∀ (acc : List (Str × Value)) (acc' : List (Str × V)), PairsRep G acc acc' → PairsRep G (merged acc kvs) ((is.zip ys).foldl (fun a p => vPut a p.1 p.2) acc')
  | us, vals, [], ys, r1, r2, hl => by
    have : ys = [] := List.length_eq_zero_iff.mp hl.symm
    subst this
    cases r1; cases r2
    exact ⟨[], trivial, fun acc acc' h => h⟩
  | us, vals, i :: is, ys, r1, r2, hl => by
    cases ys with
    | nil => simp at hl
    | cons y ys =>
    cases r1 with
    | @cons u us' _ _ ru rus =>
    cases r2 with
    | @cons v vals' _ _ rv rvs =>
    cases ru
    obtain ⟨kvs, h1, h2⟩ := carriesS (c := c) rus rvs (by simpa using hl)
    exact ⟨(i, v) :: kvs, ⟨strKey c i _, rfl, h1⟩, fun acc acc' h => h2 _ _ (h.put rv)⟩
end Lay
end
section
open PySem PySem.SeqAt
namespace Lay

theorem lookIn_of {h : Heap} {dx : Addr} {m : Str → Option Value} (hn : h.Ns dx m) : ∃ o, h.get? dx = some o ∧ ∀ name, W.lookIn name o = some (m name) := by
  obtain ⟨o, es, ep, ho, hd, hk, hm⟩ := hn
  refine ⟨o, ho, fun name => ?_⟩
  unfold W.lookIn
  rw [hd, ← hm name]
  unfold nsFind findBy
  dsimp only
  rw [← Array.find?_toList]
  cases es.toList.find? (fun e => e.key.isStr name) with
  | some e => rfl
  | none =>
    have : es.toList.any (·.refKey) = false := by
      rw [Array.any_toList, Array.any_eq_false']
      intro e he; obtain ⟨n, t, h⟩ := hk e he; simp [DictEntry.refKey, h]
    dsimp only
    rw [this]; rfl
theorem instAt_of {h : Heap} {x C dx : Addr} {o : Obj} (hx : h.get? x = some (W.instObj C dx)) (ho : h.get? dx = some o) : W.InstAt h x (W.instObj C dx) C (some o) := ⟨hx, rfl, rfl, ho⟩
theorem Rep.handed {G : Fz} {v : Value} {x : V} (r : Rep G v x) : W.handedIn v = true := by cases r <;> rfl

structure Cls (c : Cx) (C : Addr) : Prop where
  ga : W.findIn c.K (.ref C) "__getattribute__" = some (some (.builtin "object.__getattribute__"))
  gx : W.findIn c.K (.ref C) "__getattr__" = some none
  sa : W.findIn c.K (.ref C) "__setattr__" = some (some (.builtin "object.__setattr__"))
  over : W.plainOver c.K C = true
  dict : (W.clsIn c.K C).any (·.hasDict) = true
  makes : W.makesIn c.K C = true
noncomputable def NoName (c : Cx) (C : Addr) (name : Str) : Prop := W.findIn c.K (.ref C) name = some none
theorem Cls.found {c : Cx} {C : Addr} {name : Str} {o : Obj} {v : Value} (k : Cls c C) (hn : NoName c C name) (hl : W.lookIn name o = some (some v)) : W.findObj c.K C (some o) name = some (.value v) := by
  obtain ⟨cd, hc, hd⟩ := W.any_some k.dict
  unfold W.findObj
  rw [hc, Option.bind_some, hn]
  simp only [Option.bind_some, W.ownOf, hd, if_true, hl]

section
variable {f : Fm} {vs : Vars} {st : Store} {P : V → Store → Prop}
theorem HS.instAt {c : Cx} {G : Fz} {h : Heap} {a C dx : Addr} {fs : List (Str × V)} (H : HS c G st h) (hm : (a, M.inst C dx fs) ∈ st) : ∃ o m, W.InstAt h a (W.instObj C dx) C (some o) ∧ (∀ name, W.lookIn name o = some (m name)) ∧ NsN h dx fs.length m ∧ NsRep G m fs := by
  obtain ⟨h1, m, hn, hr⟩ := H.objs _ hm
  obtain ⟨o, ho, hl⟩ := lookIn_of hn.ns
  exact ⟨o, m, instAt_of h1 ho, hl, hn, hr⟩
theorem Ev.attr {e : Expr} {name : Str} {pos : Pos} (h : Ev f e vs st fun x st1 => ∃ a C dx fs y, x = .ref a ∧ (a, M.inst C dx fs) ∈ st1 ∧ Cls f.c C ∧ NoName f.c C name ∧ fs.lookup name = some y ∧ P y st1)
    (he : eval (.Attribute e name pos) f.env = (do
      let o ← eval e f.env
      standAt pos.atName
      let r ← holding [o] (getAttr o name true)
      letTemporaryGo e o r
      pure r) := by with_unfolding_all rfl) : Ev f (.Attribute e name pos) vs st P := by
  intro A G s Q E hA S hQ
  refine PyProof.Rows.Attribute_any_ (h A G s _ E hA S ?_) he
  rintro v x G1 st1 h1 tk1 ⟨a, C, dx, fs, y, rfl, hm, hc, hn, hy, p⟩ r le S1
  cases r
  obtain ⟨o, m, I, hl, _, hr⟩ := S1.hs.instAt hm
  obtain ⟨u, hu, ru⟩ := (hr name).1 y hy
  exact W.get_value S1.hs.kin I hc.ga (hc.found hn ((hl name).trans (by rw [hu]))) ru.handed (hQ _ _ G1 st1 h1 _ p ru le S1)

theorem Ev.meth {o : Expr} {name : Str} {apos pos : Pos} {args : List Expr} {pl : Sem Bool} (h : Ev f o vs st fun x st1 => ∃ a C dx fs g, x = .ref a ∧ (a, M.inst C dx fs) ∈ st1 ∧ Cls f.c C ∧ W.findIn f.c.K (.ref C) name = some (some (.ref g)) ∧
      W.typeIn f.c.K (.ref g) = some (.type "function") ∧ W.keepIn f.c.K (.ref g) = true ∧ fs.lookup name = Option.none ∧ EvL f args vs st1 fun xs st2 => Fn f.c f.k (.ref g) (.ref a :: xs) st2 P)
    (he : eval (.Call (.Attribute o name apos) args [] pos) f.env = (do
      let ov ← eval o f.env
      standAt apos.atName
      let (g, first) ← holding [ov] (getMethod ov name pl)
      callWith pos g first (backTo pos (starEach args f.env)) []) := by rfl)
    (hp : (backTo pos (starEach args f.env)).any (·.1) = false := by rfl) : Ev f (.Call (.Attribute o name apos) args [] pos) vs st P := by
  intro A G s Q E hA S hQ
  refine PyProof.Rows.MethodCall_ (h A G s _ E hA S ?_) he
  rintro v x G1 st1 h1 tk1 ⟨a, C, dx, fs, g, rfl, hm, hc, hf, ht, hk, hn, q⟩ r le S1
  cases r
  obtain ⟨ob, m, I, hl, _, hr⟩ := S1.hs.instAt hm
  refine W.method_fn S1.hs.kin I hc.ga hc.gx hf ht ?_ ?_
  · show (W.lookIn name ob).map (·.isSome) = some false
    rw [hl, (hr name).2 hn]; rfl
  · exact wp_callWith (s := { s with heap := h1, toks := tk1 }) (first := [.ref a]) (fx := [.ref a]) (Keeps'.known hk) hp hA S1 (.cons (.ref a) .nil) q fun v x G' st' h' tk p r le' S' => hQ v x G' st' h' tk p r (le.trans le') S'

theorem Ev.methB {o : Expr} {name : Str} {apos pos : Pos} {args : List Expr} {pl : Sem Bool} {T id : String} (pa : PlainAttrs T) (slot : Slot T name id) (hty : typeOf (.builtin id) = pure (.type "method_descriptor"))
    (h : Ev f o vs st fun x st1 => Ty st1 x T ∧ EvL f args vs st1 fun xs st2 => Fn f.c f.k (.builtin id) (x :: xs) st2 P)
    (he : eval (.Call (.Attribute o name apos) args [] pos) f.env = (do
      let ov ← eval o f.env
      standAt apos.atName
      let (g, first) ← holding [ov] (getMethod ov name pl)
      callWith pos g first (backTo pos (starEach args f.env)) []) := by rfl)
    (hp : (backTo pos (starEach args f.env)).any (·.1) = false := by rfl) : Ev f (.Call (.Attribute o name apos) args [] pos) vs st P := by
  intro A G s Q E hA S hQ
  refine PyProof.Rows.MethodCall_ (h A G s _ E hA S ?_) he
  rintro v x G1 st1 h1 tk1 ⟨hT, q⟩ r le S1
  obtain ⟨t1, t2⟩ := hT.is (s := { s with heap := h1, toks := tk1 }) S1.hs r
  exact getMethod_builtin t1 pa slot hty t2 (wp_callWith (s := { s with heap := h1, toks := tk1 }) (first := [v]) (fx := [x]) Keeps'.builtin hp hA S1 (.cons r .nil) q fun v x G' st' h' tk p r le' S' => hQ v x G' st' h' tk p r (le.trans le') S')
end

theorem NsRep.put {G : Fz} {m : Str → Option Value} {fs : List (Str × V)} {name : Str} {v : Value} {x : V} (h : NsRep G m fs) (hn : fs.lookup name = none) (r : Rep G v x) : NsRep G (fun y => if y = name then some v else m y) (fs ++ [(name, x)]) := by
  intro n
  have key : (fs ++ [(name, x)]).lookup n = match fs.lookup n with | some y => some y | none => if n = name then some x else none := by
    clear hn h
    induction fs with
    | nil =>
      simp only [List.nil_append, List.lookup_cons, List.lookup_nil]
      by_cases hx : n = name
      · subst hx; simp
      · have e : (n == name) = false := by simp [hx]
        rw [e, if_neg hx]
    | cons p r ih =>
      obtain ⟨k, y⟩ := p
      simp only [List.cons_append, List.lookup_cons]
      cases n == k with
      | true => rfl
      | false => exact ih
  rw [key]
  by_cases hx : n = name
  · subst hx
    rw [hn]
    show (∀ x_1, (if n = n then some x else none) = some x_1 → ∃ v_1, (if n = n then some v else m n) = some v_1 ∧ Rep G v_1 x_1) ∧ ((if n = n then some x else none) = none → (if n = n then some v else m n) = none)
    rw [if_pos rfl, if_pos rfl]
    exact ⟨fun y e => (by cases e; exact ⟨v, rfl, r⟩), fun e => (by cases e)⟩
  · simp only [if_neg hx]
    cases e : fs.lookup n with
    | none => exact ⟨fun y q => (by cases q), fun _ => (h n).2 e⟩
    | some y => exact ⟨fun y' q => (by cases q; exact (h n).1 y e), fun q => (by cases q)⟩

theorem wp_nsSetN {M : Model} {A : Around} {E : Value → Shared → Prop} {s : Shared} {a : Addr} {k : Nat} {m : Str → Option Value} {name : Str} {v : Value} {Q : Unit → Shared → Prop} (hn : NsN s.heap a k m) (hm0 : m name = none) (hk : k ≤ 100)
    (h : ∀ h' o' es' ep', h'.get? a = some o' → o'.data = .dict es' ep' → es'.size ≤ 200 → NsN h' a (k + 1) (fun x => if x = name then some v else m x) → Heap.SameBut a s.heap h' → Q () { s with heap := h', toks := s.toks + 1 }) : wpAny M A (nsSet a name v) Q E s := by
  obtain ⟨⟨c, d, dt, sl⟩, es, ep, ho, hd, ⟨hkeys, hm⟩, hsz⟩ := hn
  dsimp only at hd
  subst hd
  have h0 : es.findIdx? (·.key.isStr name) = none := by
    have := hm name
    rw [hm0] at this
    unfold nsFind at this
    rw [findBy_of_findIdx?] at this
    cases e : es.findIdx? (fun e => e.key.isStr name) with
    | none => rfl
    | some i =>
      rw [e] at this
      obtain ⟨hi, _⟩ := Array.findIdx?_eq_some_iff_getElem.mp e
      dsimp only at this
      rw [Array.getElem?_eq_getElem hi] at this
      cases this
  have c0 : (!es.any (·.key.isStr name) && es.any (·.refKey)) = false := by
    have : es.any (·.refKey) = false := by
      rw [Array.any_eq_false']; intro e he; obtain ⟨n, t, h⟩ := hkeys e he; simp [DictEntry.refKey, h]
    rw [this, Bool.and_false]
  unfold nsSet
  refine wpAny_bind (wpAny_bind (wpAny_askSetting (wpAny_pure (wpAny_bind (wpAny_mkText (wpAny_bind (wpAny_loadPart ho ?_)))))))
  dsimp only
  rw [aRefKeyMayBeTheName_at, c0]
  refine wpAny_updatePart ho ?_
  have e1 : ∀ hh key, Obj.putName name hh key v ⟨c, d, .dict es ep, sl⟩ = ⟨c, d, .dict (es.push ⟨hh, key, v⟩) (ep + 1), sl⟩ := fun hh key => by simp only [Obj.putName_eq, Obj.putNameByArray, h0]
  have g : ∀ hh, (s.heap.update a (Obj.putName name hh (.str name s.toks) v)).get? a = some ⟨c, d, .dict (es.push ⟨hh, .str name s.toks, v⟩) (ep + 1), sl⟩ := fun hh => by
    have := Heap.get?_update_self (Obj.putName name hh (.str name s.toks) v) ho (by rw [e1]; rfl)
    rwa [e1] at this
  have hps : ∀ hh, (es.push ⟨hh, Value.str name s.toks, v⟩).size ≤ k + 1 := fun hh => by rw [Array.size_push]; omega
  refine h _ _ _ _ (g _) rfl (Nat.le_trans (hps _) (by omega)) ⟨_, _, _, g _, rfl, ⟨hkeys.push _ _ _ _, fun x => ?_⟩, hps _⟩ (Heap.SameBut.update ..)
  show _ = if x = name then some v else m x
  rw [← hm]
  unfold nsFind
  exact findBy_push _ es name x _ _ v (fun y => by
    show (name == y) = decide (y = name)
    by_cases h : y = name
    · subst h; simp
    · have : ¬ name = y := fun e => h e.symm
      simp [h, this]) h0

theorem wp_setAttr {c : Cx} {A : Around} {G : Fz} {s : Shared} {Q : Unit → Shared → Prop} {E : Value → Shared → Prop} {st st' : Store} {a C dx : Addr} {fs : List (Str × V)} {name : Str} {v : Value} {x : V} (H : HS c G st s.heap) (hc : Cls c C) (hnn : NoName c C name)
    (u : Upd a (.inst C dx fs) (.inst C dx (fs ++ [(name, x)])) st st') (hn : fs.lookup name = none) (hz : fs.length ≤ 100) (r : Rep G v x) (h : ∀ h' tk, HS c G st' h' → (∀ b o, b ∉ [a, dx] → s.heap.get? b = some o → h'.get? b = some o) → Q () { s with heap := h', toks := tk }) :
    wpAny (model c.prog c.w) A (setAttr (.ref a) name v) Q E s := by
  obtain ⟨o, m, I, hl, hns, hr⟩ := H.instAt u.mem
  obtain ⟨cd, hcd, hd'⟩ := W.any_some hc.dict
  have X : c.K.In s.heap := H.kin
  refine W.set_plain X I hc.sa (W.osa_open (s := { s with toks := s.toks + 1 }) X I hc.over (r := none) (by unfold W.takerIn; rw [hnn]; rfl) fun b => ?_)
  have hx : s.heap.get? a = some (W.instObj C dx) := I.at_
  have hx0 := hx
  generalize hO : W.instObj C dx = ox at hx
  obtain ⟨oc, odi, oda, osl⟩ := ox
  injection hO with o1 o2 o3 o4
  subst o1 o2
  refine wpAny_bind (wpAny_pure (wpAny_bind (wpAny_bind (wpAny_loadPart (s := { s with toks := s.toks + 1 }) hx (wpAny_bind (W.Looks.here (s := { s with toks := s.toks + 1 }) (W.looks_clsIn X hcd) ?_))))))
  rw [hd']
  refine wpAny_pure (a := some dx) (wpAny_bind (wpAny_pure (wpAny_bind ?_)))
  refine wp_nsSetN (s := { s with toks := s.toks + 1 }) hns ((hr name).2 hn) hz fun h' o' es' ep' g' d' z' hn' hs' => ?_
  refine wpAny_bind (wpAny_lookBehind g' (by rw [d']; exact pastItsLine_dict (by rw [sizeLine_eq]; omega)) ?_)
  refine wpAny_pure (h h' _ (H.upd u rfl (fun b o hb e => hs'.extBut b o (fun q => hb (by simp [M.fp, q])) e) ⟨?_, _, by rw [List.length_append]; exact hn', hr.put hn r⟩) fun b o hb e => hs'.extBut b o (fun q => hb (by simp [q])) e)
  have hne : a ≠ dx := by
    rintro rfl
    obtain ⟨o', es, ep, e, hd, _, _⟩ := hns
    rw [hx0] at e; cases e; cases hd
  exact hs'.extBut a _ hne hx0

theorem Stm.setattr {f : Fm} {vs : Vars} {st : Store} {P : Fl → Store → Prop} {o value : Expr} {name : Str} {p pos : Pos}
    (h : Ev f value vs st fun z st1 => Ev f o vs st1 fun x st2 => ∃ a C dx fs st3, x = .ref a ∧ Cls f.c C ∧ NoName f.c C name ∧ fs.lookup name = none ∧ fs.length ≤ 100 ∧ Upd a (.inst C dx fs) (.inst C dx (fs ++ [(name, z)])) st2 st3 ∧ P (.next vs) st3)
    (hs : swapsWith value (some (.Attribute o name p)) pos.line f.env = pure false := by rfl) : Stm f (.Assign [.Attribute o name p] value pos) vs st P := by
  intro A G s Q E hA S hQ
  refine plainObj_wpAny_Assign_Attribute (h A G s _ E hA S ?_) hs
  intro w z G1 st1 h1 tk1 p1 rz le1 S1
  refine p1 A G1 { s with heap := h1, toks := tk1 } _ E hA S1 ?_
  rintro v x G2 st2 h2 tk2 ⟨a, C, dx, fs, st3, rfl, hc, hnn, hn, hz, u, q⟩ rx le2 S2
  cases rx
  have leK := keep_le (h := h2) (fun b hb => (S2.ap.1 b hb).1)
  refine wp_setAttr (s := { s with heap := h2, toks := tk2 }) S2.leave hc hnn u hn hz ((rz.imp le2.seq).imp leK.seq) fun h3 tk3 H _ => ?_
  obtain ⟨le', sq, S'⟩ := S2.back (Le.refl _) H
  exact hQ .next (.next vs) _ st3 h3 tk3 q ((le1.trans le2).trans le') S'

theorem Lim.create {k : Nat} {A : Around} {C : Addr} {rest : List Value} (h : Lim (k + 1) A) : Lim k (A.under (.builtin "type.__call__" ⟨.ref C :: rest, []⟩)) :=
  ⟨h.1, by have := h.2.1; show A.depth + 1 + k < _; omega, by have := h.2.2; show A.units + 1 + 10 * k + 10 < _; omega⟩
theorem Fn.make {c : Cx} {k : Nat} {C fI : Addr} {xs : List V} {st : Store} {P : V → Store → Prop} (hc : Cls c C) (hi : W.findIn c.K (.ref C) "__init__" = some (some (.ref fI))) (ht : W.typeIn c.K (.ref fI) = some (.type "function"))
    (h : ∀ a dx, FnC c k (.ref fI) (.ref a :: xs) ((a, .inst C dx []) :: st) fun y st' => y = .none ∧ P (.ref a) st') : Fn c (k + 1) (.ref C) xs st P := by
  intro A G s us Q E hA H r hQ
  obtain ⟨hh, g, d, t, os⟩ := s
  have X := H.kin
  refine wpAny_call (W.make_core (W.makes_of X hc.makes) (W.looks_findIn X hi) (fun self => W.bind_fn X self ht) (.inl rfl) ?_)
  have hold : ∀ b o, hh.get? b = some o → ((hh.push W.emptyDict).push (W.instObj C hh.objs.size)).get? b = some o := fun b o e => Heap.get?_push_of_some _ (Heap.get?_push_of_some _ e)
  have hsz : (hh.push W.emptyDict).objs.size = hh.objs.size + 1 := Heap.size_push ..
  have hx : ((hh.push W.emptyDict).push (W.instObj C hh.objs.size)).get? (hh.objs.size + 1) = some (W.instObj C hh.objs.size) := by
    rw [← hsz]; exact Heap.get?_push_size _ rfl
  have hN : NsN ((hh.push W.emptyDict).push (W.instObj C hh.objs.size)) hh.objs.size 0 fun _ => none := ⟨_, #[], 0, Heap.get?_push_of_some _ (Heap.get?_push_size _ rfl), rfl, ⟨fun _ he => (by simp at he), fun _ => rfl⟩, Nat.le_refl _⟩
  have hfr : ∀ b, hh.objs.size ≤ b → hh.get? b = none := fun b hb => by
    cases e : hh.get? b with
    | none => rfl
    | some o' => exact absurd (Heap.lt_size e) (Nat.not_lt.mpr hb)
  have H1 : HS c G ((hh.objs.size + 1, .inst C hh.objs.size []) :: st) ((hh.push W.emptyDict).push (W.instObj C hh.objs.size)) := H.new (m := .inst C hh.objs.size []) ⟨hx, _, hN, fun n => ⟨fun x e => (by cases e), fun _ => rfl⟩⟩
    (fun b hb => by
      rcases (show b = hh.objs.size + 1 ∨ b = hh.objs.size by simpa [M.fp] using hb) with e | e
      · exact hfr _ (e ▸ Nat.le_succ _)
      · exact hfr _ (e ▸ Nat.le_refl _)) (by simp [M.fp]) hold
  refine h (hh.objs.size + 1) hh.objs.size _ G ⟨_, g, d, t, os⟩ (.ref (hh.objs.size + 1) :: us) _ hA.create H1 (.cons (.ref _) r) ?_
  rintro v x G' st' h' tk ⟨rfl, p⟩ rv le H'
  cases rv
  exact ⟨rfl, hQ _ _ G' st' h' tk p (.ref _) le H'⟩
end Lay
end
section
open PySem PySem.SeqAt
namespace Lay

section
variable {c : Cx} {G : Fz} {env : Env} {oc : List Addr} {vs : Vars} {st : Store} {h h' : Heap}
theorem HS.own {a : Addr} {m : M} (H : HS c G st h) (off : ∀ b ∈ m.fp a, G b = none ∧ b ∉ fpS st) (nd : (m.fp a).Nodup) (hk : ∀ b o, b ∉ m.fp a → h.get? b = some o → h'.get? b = some o) (hm : IsM c G h' a m) : HS c G ((a, m) :: st) h' := by
  have H' : HS c G st h' := H.to H.base (Le.refl _).seq (fun b p e => hk b p.2 (fun hb => by rw [(off b hb).1] at e; cases e) (H.sub b p e)) (fun b hb o e => hk b o (fun hb' => (off b hb').2 hb) e) H.apart
  refine ⟨H'.sub, H'.base, ?_, ?_, ?_⟩
  · intro p hp
    rcases List.mem_cons.mp hp with rfl | hp
    · exact hm
    · exact H'.objs p hp
  · show (m.fp a ++ fpS st).Nodup
    refine List.nodup_append.mpr ⟨nd, H'.nod, fun x hx y hy => ?_⟩
    rintro rfl
    exact (off x hx).2 hy
  · intro b hb
    rcases List.mem_append.mp (show b ∈ m.fp a ++ fpS st from hb) with hb | hb
    · exact (off b hb).1
    · exact H'.apart b hb
theorem St.own {a : Addr} {m : M} (S : St c G env oc vs st h) (x : Ap G env oc st (m.fp a) h) (nd : (m.fp a).Nodup) (hk : ∀ b o, b ∉ m.fp a → h.get? b = some o → h'.get? b = some o) (hm : IsM c G h' a m) : St c G env oc vs ((a, m) :: st) h' := by
  have hsub : ∀ b p, G b = some p → h'.get? b = some p.2 := fun b p e => hk b p.2 (fun hb => by rw [x.off b hb] at e; cases e) (S.hs.sub b p e)
  refine ⟨S.hs.own (fun b hb => ⟨x.off b hb, x.fp b hb⟩) nd hk hm, S.fs.to S.hs.sub (Le.refl _) hsub (fun b hb o e => hk b o (fun hb' => x.fr b hb' hb) e) S.fs.apart, fun b hb hb' => ?_⟩
  rcases List.mem_append.mp (show b ∈ m.fp a ++ fpS st from hb') with hb' | hb'
  · exact x.fr b hb' hb
  · exact S.dis b hb hb'
end

noncomputable def dictTrees (f : Fm) (pos : Pos) (es : List (Expr × Expr)) : List (Sem Value × Sem Value) := es.map fun p => (eval p.1 f.env, do let x ← eval p.2 f.env; standAt pos; pure x)
section
variable {f : Fm} {vs : Vars} {st : Store} {P : V → Store → Prop}
theorem dict_core {K : Type} [DecidableEq K] {knd : KeyKind f.c.prog f.c.w K} {keys : List (Option Expr)} {values : List Expr} {pos : Pos} (es : List (Expr × Expr)) (mk : List (K × V) → M) (hmk : ∀ l a, (mk l).fp a = [a])
    (his : ∀ G h a l kvs, Heap.DictOf knd h a l → PairsRep G l kvs → IsM f.c G h a (mk kvs))
    (tov : K → V) (hcar : ∀ {G : Fz} {us vals : List Value} {is : List K} {ys : List V}, RepL G us (is.map tov) → RepL G vals ys → is.length = ys.length → ∃ kvs : List (K × Value), Carries knd (us.zip vals) kvs ∧
      ∀ (acc : List (K × Value)) (acc' : List (K × V)), PairsRep G acc acc' → PairsRep G (merged acc kvs) ((is.zip ys).foldl (fun a p => vPut a p.1 p.2) acc'))
    (hshape : (evalEachOpt keys f.env).zip ((evalEach values f.env).map fun v => do let x ← v; standAt pos; pure x) = (dictTrees f pos es).map fun p => (some p.1, p.2)) (h0 : es ≠ []) (hlen : es.length ≤ 15)
    (h : EvP f pos es vs st fun l st1 => ∃ is : List K, l.map (·.1) = is.map tov ∧ ∀ a, P (.ref a) ((a, mk ((is.zip (l.map (·.2))).foldl (fun acc p => vPut acc p.1 p.2) [])) :: st1)) : Ev f (.Dict keys values pos) vs st P := by
  intro A G s Q E hA S hQ
  refine wpAny_Dict_pairs (knd := knd) hshape (by simpa [dictTrees] using h0) (by simpa [dictTrees] using hlen) ?_
  have hex := Heap.get?_push_size s.heap (o := { cls := .type "dict", data := .dict #[] }) rfl
  have S1 := S.grow (h' := s.heap.push { cls := .type "dict", data := .dict #[] }) fun b o e => Heap.get?_push_of_some _ e
  have a1 : Ap G f.env f.oc st [s.heap.objs.size] (s.heap.push { cls := .type "dict", data := .dict #[] }) := Ap.fresh S (fun b hb => by rw [List.mem_singleton.mp hb]; exact fresh_none _) fun b hb => by rw [List.mem_singleton.mp hb]; exact ⟨_, hex⟩
  have SK := S1.keepL a1
  refine h A _ { s with heap := s.heap.push { cls := .type "dict", data := .dict #[] } } _ E hA SK fun us vals xs ys G' st' h' tk hl p hl2 r1 r2 le S' => ?_
  obtain ⟨is, e1, p⟩ := p
  rw [List.map_fst_zip (Nat.le_of_eq hl2)] at e1
  rw [List.map_snd_zip (Nat.le_of_eq hl2.symm)] at p
  subst e1
  have hl3 : is.length = ys.length := by simpa using hl2
  have leU := unkeep_le a1.off le
  have hk' : ∀ b ∈ [s.heap.objs.size], ∃ o, G' b = some (false, o) := fun b hb => let ⟨o, _, e⟩ := kept_of a1.ex le b hb; ⟨o, e⟩
  have sq : SeqLe G' (unkeep G' [s.heap.objs.size]) := unkeep_seq hk'
  have S2 := S1.unkeepL a1 le S'
  have a2 := a1.after le S'
  obtain ⟨kvs, hc, hm⟩ := hcar (r1.imp sq) (r2.imp sq) hl3
  have hd : h'.get? s.heap.objs.size = _ := kept_obj le S'.hs.sub (List.mem_singleton.mpr rfl) hex
  refine ⟨kvs, hc, ?_, fun h2 hd2 hs2 => ?_⟩
  · obtain ⟨o, es', ep, e, r⟩ := Heap.DictOf.new (knd := knd) s.heap
    rw [hex] at e; cases e
    exact ⟨_, es', ep, hd, r⟩
  · refine hQ _ _ (unkeep G' [s.heap.objs.size]) _ h2 _ (p s.heap.objs.size) (.ref _) leU (S2.own (m := mk _) (by rw [hmk]; exact a2) (by rw [hmk]; simp) (fun b o hb e => ?_) (his _ _ _ _ _ hd2 (hm [] [] .nil)))
    rw [hmk] at hb
    exact hs2.extBut b o (fun q => hb (List.mem_singleton.mpr q)) e
theorem Ev.dictPI {keys : List (Option Expr)} {values : List Expr} {pos : Pos} (es : List (Expr × Expr)) (hshape : (evalEachOpt keys f.env).zip ((evalEach values f.env).map fun v => do let x ← v; standAt pos; pure x) = (dictTrees f pos es).map fun p => (some p.1, p.2)) (h0 : es ≠ []) (hlen : es.length ≤ 15)
    (h : EvP f pos es vs st fun l st1 => ∃ is : List Int, l.map (·.1) = is.map .int ∧ ∀ a, P (.ref a) ((a, .dI ((is.zip (l.map (·.2))).foldl (fun acc p => vPut acc p.1 p.2) [])) :: st1)) : Ev f (.Dict keys values pos) vs st P :=
  dict_core (knd := intKind f.c.prog f.c.w) es .dI (fun _ _ => rfl) (fun _ _ _ l _ h1 h2 => ⟨l, h1, h2⟩) .int (fun r1 r2 hl => carriesI r1 r2 hl) hshape h0 hlen h
theorem Ev.dictPS {keys : List (Option Expr)} {values : List Expr} {pos : Pos} (es : List (Expr × Expr)) (hshape : (evalEachOpt keys f.env).zip ((evalEach values f.env).map fun v => do let x ← v; standAt pos; pure x) = (dictTrees f pos es).map fun p => (some p.1, p.2)) (h0 : es ≠ []) (hlen : es.length ≤ 15)
    (h : EvP f pos es vs st fun l st1 => ∃ is : List Str, l.map (·.1) = is.map .str ∧ ∀ a, P (.ref a) ((a, .dS ((is.zip (l.map (·.2))).foldl (fun acc p => vPut acc p.1 p.2) [])) :: st1)) : Ev f (.Dict keys values pos) vs st P :=
  dict_core (knd := strKind f.c.prog f.c.w) es .dS (fun _ _ => rfl) (fun _ _ _ l _ h1 h2 => ⟨l, h1, h2⟩) .str (fun r1 r2 hl => carriesS r1 r2 hl) hshape h0 hlen h
end
end Lay
end
section
open PySem PySem.SeqAt
namespace Lay

section
variable {prog : Program} {w : World} {A : Around} {E : Value → Shared → Prop} {s : Shared}
theorem wp_nextT {it t : Addr} {i : Nat} {us : Array Value} {x : Value} {Q : Value → Shared → Prop} (hit : s.heap.IsTupleIter it t i) (ht : s.heap.IsTuple t us) (hx : us[i]? = some x)
    (hQ : ∀ h', h'.IsTupleIter it t (i + 1) → Heap.SameBut it s.heap h' → Q x { s with heap := h' }) : wpAny (model prog w) A (Builtin.SmallTypes.nextOf (.ref it)) Q E s := by
  obtain ⟨o, ho, hc, hd⟩ := id hit
  obtain ⟨ot, hot, _, nt, hdt⟩ := ht
  unfold Builtin.SmallTypes.nextOf
  refine wpAny_bind (wpAny_callSpecial?_slot (name := Str.ofString "__next__") hit.typeIs F.slot_tuple_iterator_next (wpAny_call_entry F.slot_tuple_iterator_next hit.typeIs F.entry_tuple_iterator_next ?_ (F.args_tuple_iterator_next_1 _)))
  show wpAny _ _ (field (.ref it) 0 >>= _) _ _ s
  refine wpAny_bind (wpAny_field ho hd (x := .ref t) rfl ?_)
  show wpAny _ _ (if (Value.ref t == Value.none) = true then _ else _) _ _ s
  rw [if_neg (show ¬ ((Value.ref t == Value.none) = true) from Bool.false_ne_true)]
  show wpAny _ _ (field (.ref it) 1 >>= _) _ _ s
  refine wpAny_bind (wpAny_field ho hd (x := .int i 0) rfl ?_)
  show wpAny _ _ (seqItems? (.ref t) >>= _) _ _ s
  refine wpAny_bind (wpAny_seqItems hot hdt ?_)
  simp only [Int.toNat_natCast, hx]
  refine wpAny_bind (wpAny_setField ho hd (by simp) (wpAny_pure ⟨x, rfl, wpAny_pure (hQ _ ⟨_, Heap.get?_update_self _ ho (Obj.isFreed_of_fields (Obj.data_mapFields hd _)), (Obj.cls_mapFields ..).trans hc, ?_⟩ (Heap.SameBut.update ..))⟩))
  rw [Obj.data_mapFields hd]; simp [rawInt]
theorem wp_nextT_end {it t : Addr} {i : Nat} {us : Array Value} {Q : Value → Shared → Prop} (hh : A.handled = none) (hit : s.heap.IsTupleIter it t i) (ht : s.heap.IsTuple t us) (hx : us[i]? = none)
    (hE : ∀ h' e, Heap.ExtBut it s.heap h' → (∃ o, h'.get? e = some o ∧ o.cls = .type "StopIteration") → E (.ref e) { s with heap := h' }) : wpAny (model prog w) A (Builtin.SmallTypes.nextOf (.ref it)) Q E s := by
  obtain ⟨o, ho, hc, hd⟩ := id hit
  obtain ⟨ot, hot, _, nt, hdt⟩ := ht
  unfold Builtin.SmallTypes.nextOf
  refine wpAny_bind (wpAny_callSpecial?_slot (name := Str.ofString "__next__") hit.typeIs F.slot_tuple_iterator_next (wpAny_call_entry F.slot_tuple_iterator_next hit.typeIs F.entry_tuple_iterator_next ?_ (F.args_tuple_iterator_next_1 _)))
  show wpAny _ _ (field (.ref it) 0 >>= _) _ _ s
  refine wpAny_bind (wpAny_field ho hd (x := .ref t) rfl ?_)
  show wpAny _ _ (if (Value.ref t == Value.none) = true then _ else _) _ _ s
  rw [if_neg (show ¬ ((Value.ref t == Value.none) = true) from Bool.false_ne_true)]
  show wpAny _ _ (field (.ref it) 1 >>= _) _ _ s
  refine wpAny_bind (wpAny_field ho hd (x := .int i 0) rfl ?_)
  show wpAny _ _ (seqItems? (.ref t) >>= _) _ _ s
  refine wpAny_bind (wpAny_seqItems hot hdt ?_)
  simp only [Int.toNat_natCast, hx]
  refine wpAny_bind (wpAny_rule (wpAny_bind (wpAny_setField ho hd (by simp) ?_)))
  show wpAny _ _ (newExc (.type "StopIteration") [] >>= _) _ _ _
  refine wpAny_bind ?_
  simp only [newExc, newTuple]
  refine wpAny_bind (wpAny_newObj_type ?_ (by size_fits))
  refine wpAny_bind (m := firstArgMember _ _) (wpAny_of_eq (a := Value.none) (by first | rfl | (simp only [firstArgMember]; rfl)) ?_)
  refine wpAny_newObj_type ?_ (by size_fits)
  simp only [raiseNew]
  refine wpAny_bind (wpAny_handled ?_)
  first | rw [show A.in1.handled = none from hh] | rw [hh]
  exact wpAny_bind (wpAny_pure (wpAny_throw (hE _ _ (((Heap.SameBut.update ..).extBut.push _).push _) ⟨_, Heap.get?_push_size _ rfl, rfl⟩)))

structure ZipC (z TI TO i1 i2 l1 l2 : Addr) (k : Nat) (h : Heap) : Prop where
  zip : IsZip h z TI TO .none
  pair : IsPair h TI (.ref i1) (.ref i2)
  out : ∃ a b, IsPair h TO a b
  it1 : h.IsTupleIter i1 l1 k
  it2 : h.IsTupleIter i2 l2 k
structure ZipT (z TI TO i1 i2 l1 l2 : Addr) (us ws : Array Value) (k : Nat) (h : Heap) : Prop where
  core : ZipC z TI TO i1 i2 l1 l2 k h
  tup1 : h.IsTuple l1 us
  tup2 : h.IsTuple l2 ws
theorem IsTuple_at {h h' : Heap} {a : Addr} {us : Array Value} (x : h.IsTuple a us) (e : ∀ o, h.get? a = some o → h'.get? a = some o) : h'.IsTuple a us := let ⟨o, ho, r⟩ := x; ⟨o, e o ho, r⟩
theorem IsTupleIter_at {h h' : Heap} {a t : Addr} {i : Nat} (x : h.IsTupleIter a t i) (e : ∀ o, h.get? a = some o → h'.get? a = some o) : h'.IsTupleIter a t i := let ⟨o, ho, r⟩ := x; ⟨o, e o ho, r⟩

theorem zipT_item {z TI TO i1 i2 l1 l2 : Addr} {us ws : Array Value} {k : Nat} {x y : Value} {Q : Value → Shared → Prop} (D : ZipApart z TI TO i1 i2 l1 l2) (Z : ZipT z TI TO i1 i2 l1 l2 us ws k s.heap) (hx : us[k]? = some x) (hy : ws[k]? = some y)
    (hQ : ∀ h', IsZip h' z TI TO (rawInt s.heap.objs.size) → (∀ h'', IsZip h'' z TI TO .none → Heap.SameBut z h' h'' → ZipT z TI TO i1 i2 l1 l2 us ws (k + 1) h'') → IsPair h' s.heap.objs.size x y →
      (∀ c o, c ≠ z → c ≠ TO → c ≠ i1 → c ≠ i2 → s.heap.get? c = some o → h'.get? c = some o) → Q (.ref s.heap.objs.size) { s with heap := h' }) :
    wpAny (model prog w) A (Builtin.«zip.__next__» ⟨[.ref z], []⟩) (fun fin s' => ∃ v, fin = .done (.ret v) ∧ Q v s') E s := by
  obtain ⟨⟨hz, hTI, ⟨a, b, hTO⟩, h1, h2⟩, t1, t2⟩ := Z
  show wpAny _ _ (field (.ref z) 2 >>= _) _ _ _
  refine wpAny_bind (wpAny_field hz rfl (x := .bool false) rfl ?_)
  show wpAny _ _ (field (.ref z) 3 >>= _) _ _ _
  refine wpAny_bind (wpAny_field hz rfl (x := .ref TI) rfl (wpAny_bind (wpAny_seqItems hTI rfl ?_)))
  show wpAny _ _ (Builtin.SmallTypes.ownedTupleIsFree (.ref z) >>= _) _ _ _
  refine wpAny_bind ?_
  unfold Builtin.SmallTypes.ownedTupleIsFree
  refine wpAny_bind (wpAny_field hz rfl (x := .none) rfl (wpAny_pure ?_))
  simp only [if_true]
  refine wpAny_bind (wpAny_rule (wpAny_bind (wpAny_field hz rfl (x := .ref TO) rfl ?_)))
  refine wpAny_bind (wpAny_setField_rec hz (by simp) fun g1 hz1 e1 => ?_)
  replace hz1 : IsZip g1 z TI TO .ellipsis := hz1
  refine wpAny_bind ?_
  simp only [List.zipIdx_cons, List.zipIdx_nil, List.forIn_cons, List.forIn_nil]
  refine wpAny_bind (wpAny_bind (wpAny_onRaise ?_))
  show wpAny _ _ (Builtin.SmallTypes.nextOf (.ref i1) >>= _) _ _ _
  refine wpAny_bind (wp_nextT (h1.extBut e1.extBut D.i1z) (t1.extBut e1.extBut D.l1z) hx fun g2 k1 e2 => wpAny_pure ?_)
  have o2 : IsPair g2 TO a b := e2.extBut _ _ D.TOi1 (e1.extBut _ _ D.TOz hTO)
  refine wpAny_bind (wpAny_seqItems o2 rfl (wpAny_bind (wpAny_updateSeq_pair o2 fun g3 o3 e3 => ?_)))
  replace o3 : IsPair g3 TO x b := o3
  refine wpAny_bind (wpAny_letGo (wpAny_pure (wpAny_bind (wpAny_bind (wpAny_onRaise ?_)))))
  show wpAny _ _ (Builtin.SmallTypes.nextOf (.ref i2) >>= _) _ _ _
  refine wpAny_bind (wp_nextT (((h2.extBut e1.extBut D.i2z).extBut e2.extBut D.i12.symm).extBut e3.extBut D.TOi2.symm) (((t2.extBut e1.extBut D.l2z).extBut e2.extBut D.l2i1).extBut e3.extBut D.l2TO) hy fun g4 k2 e4 => wpAny_pure ?_)
  have o4 : IsPair g4 TO x b := e4.extBut _ _ D.TOi2 o3
  refine wpAny_bind (wpAny_seqItems o4 rfl (wpAny_bind (wpAny_updateSeq_pair o4 fun g5 o5 e5 => ?_)))
  replace o5 : IsPair g5 TO x y := o5
  refine wpAny_bind (wpAny_letGo (wpAny_pure (wpAny_pure (wpAny_bind (wpAny_seqItems o5 rfl (wpAny_bind (wpAny_newTuple ?_)))))))
  have hsz : g5.objs.size = s.heap.objs.size := by rw [e5.1, e4.1, e3.1, e2.1, e1.1]
  have hz5 : IsZip g5 z TI TO .ellipsis := e5.extBut _ _ D.TOz.symm (e4.extBut _ _ D.i2z.symm (e3.extBut _ _ D.TOz.symm (e2.extBut _ _ D.i1z.symm hz1)))
  have up5 : ∀ c o, c ≠ z → c ≠ TO → c ≠ i1 → c ≠ i2 → s.heap.get? c = some o → g5.get? c = some o := fun c o c1 c2 c3 c4 e => e5.extBut _ _ c2 (e4.extBut _ _ c4 (e3.extBut _ _ c2 (e2.extBut _ _ c3 (e1.extBut _ _ c1 e))))
  have j1 : g5.IsTupleIter i1 l1 (k + 1) := ((k1.extBut e3.extBut D.TOi1.symm).extBut e4.extBut D.i12).extBut e5.extBut D.TOi1.symm
  have j2 : g5.IsTupleIter i2 l2 (k + 1) := k2.extBut e5.extBut D.TOi2.symm
  have zlt : z < g5.objs.size := Heap.lt_size hz5
  show wpAny _ _ (Builtin.SmallTypes.ownedTupleHandOut (.ref z) (.ref g5.objs.size) >>= _) _ _ _
  refine wpAny_bind ?_
  unfold Builtin.SmallTypes.ownedTupleHandOut
  have hz6 : IsZip (g5.push { cls := .type "tuple", data := .seq #[x, y] }) z TI TO .ellipsis := Heap.get?_push_of_some _ hz5
  refine wpAny_bind (wpAny_setField_rec hz6 (by simp) fun g7 hz7 e7 => ?_)
  replace hz7 : IsZip g7 z TI TO (rawInt g5.objs.size) := hz7
  refine wpAny_setField_rec hz7 (by simp) fun g8 hz8 e8 => ?_
  replace hz8 : IsZip g8 z TI TO (rawInt g5.objs.size) := hz8
  have up : ∀ c o, c ≠ z → g5.get? c = some o → g8.get? c = some o := fun c o c1 e => e8.extBut _ _ c1 (e7.extBut _ _ c1 (Heap.get?_push_of_some _ e))
  have T8 : IsPair g8 g5.objs.size x y := e8.extBut _ _ (Nat.ne_of_gt zlt) (e7.extBut _ _ (Nat.ne_of_gt zlt) (Heap.get?_push_size _ rfl))
  rw [hsz] at hz8 T8
  refine wpAny_pure ⟨_, rfl, ?_⟩
  show Q (.ref g5.objs.size) _
  rw [hsz]
  refine hQ g8 hz8 (fun h'' hz'' e'' => ?_) T8 fun c o c1 c2 c3 c4 e => up c o c1 (up5 c o c1 c2 c3 c4 e)
  have up'' : ∀ c o, c ≠ z → g5.get? c = some o → h''.get? c = some o := fun c o c1 e => e''.extBut _ _ c1 (up c o c1 e)
  exact ⟨⟨hz'', up'' _ _ D.TIz (up5 _ _ D.TIz D.TITO D.TIi1 D.TIi2 hTI), ⟨x, y, up'' _ _ D.TOz o5⟩, IsTupleIter_at j1 fun o e => up'' _ o D.i1z e, IsTupleIter_at j2 fun o e => up'' _ o D.i2z e⟩,
    IsTuple_at t1 fun o e => up'' _ o D.l1z (up5 _ o D.l1z D.l1TO D.l1i1 D.l1i2 e), IsTuple_at t2 fun o e => up'' _ o D.l2z (up5 _ o D.l2z D.l2TO D.l2i1 D.l2i2 e)⟩

theorem zipT_end {z TI TO i1 i2 l1 l2 : Addr} {us ws : Array Value} {k : Nat} {Q : Fin → Shared → Prop} (hh : A.handled = none) (D : ZipApart z TI TO i1 i2 l1 l2) (Z : ZipT z TI TO i1 i2 l1 l2 us ws k s.heap) (hend : us[k]? = none ∨ ws[k]? = none)
    (hE : ∀ h' e, (∀ c o, c ≠ z → c ≠ TO → c ≠ i1 → c ≠ i2 → s.heap.get? c = some o → h'.get? c = some o) → (∃ o, h'.get? e = some o ∧ o.cls = .type "StopIteration") → E (.ref e) { s with heap := h' }) :
    wpAny (model prog w) A (Builtin.«zip.__next__» ⟨[.ref z], []⟩) Q E s := by
  obtain ⟨⟨hz, hTI, ⟨a, b, hTO⟩, h1, h2⟩, t1, t2⟩ := Z
  show wpAny _ _ (field (.ref z) 2 >>= _) _ _ _
  refine wpAny_bind (wpAny_field hz rfl (x := .bool false) rfl ?_)
  show wpAny _ _ (field (.ref z) 3 >>= _) _ _ _
  refine wpAny_bind (wpAny_field hz rfl (x := .ref TI) rfl (wpAny_bind (wpAny_seqItems hTI rfl ?_)))
  show wpAny _ _ (Builtin.SmallTypes.ownedTupleIsFree (.ref z) >>= _) _ _ _
  refine wpAny_bind ?_
  unfold Builtin.SmallTypes.ownedTupleIsFree
  refine wpAny_bind (wpAny_field hz rfl (x := .none) rfl (wpAny_pure ?_))
  simp only [if_true]
  refine wpAny_bind (wpAny_rule (wpAny_bind (wpAny_field hz rfl (x := .ref TO) rfl ?_)))
  refine wpAny_bind (wpAny_setField_rec hz (by simp) fun g1 hz1 e1 => ?_)
  replace hz1 : IsZip g1 z TI TO .ellipsis := hz1
  refine wpAny_bind ?_
  simp only [List.zipIdx_cons, List.zipIdx_nil, List.forIn_cons, List.forIn_nil]
  refine wpAny_bind (wpAny_bind (wpAny_onRaise ?_))
  show wpAny _ _ (Builtin.SmallTypes.nextOf (.ref i1) >>= _) _ _ _
  have last : ∀ (g : Heap) (e : Addr), IsZip g z TI TO .ellipsis → (∃ o, g.get? e = some o ∧ o.cls = .type "StopIteration") → e ≠ z := by
    rintro g e q ⟨o, ho, hc⟩ rfl
    rw [q] at ho; cases ho; simp at hc
  cases hx : us[k]? with
  | none =>
    refine wpAny_bind (wp_nextT_end hh (h1.extBut e1.extBut D.i1z) (t1.extBut e1.extBut D.l1z) hx fun g2 e e2 he => ?_)
    have hz2 : IsZip g2 z TI TO .ellipsis := e2 _ _ D.i1z.symm hz1
    have hez := last g2 e hz2 he
    obtain ⟨oe, hoe, hce⟩ := he
    exact wpAny_setField_rec hz2 (by simp) fun g3 _ e3 => hE g3 e (fun c o c1 _ c3 _ q => e3.extBut _ _ c1 (e2 _ _ c3 (e1.extBut _ _ c1 q))) ⟨oe, e3.extBut _ _ hez hoe, hce⟩
  | some x =>
    have hy : ws[k]? = none := by rcases hend with q | q; · rw [hx] at q; cases q
                                  · exact q
    refine wpAny_bind (wp_nextT (h1.extBut e1.extBut D.i1z) (t1.extBut e1.extBut D.l1z) hx fun g2 k1 e2 => wpAny_pure ?_)
    have o2 : IsPair g2 TO a b := e2.extBut _ _ D.TOi1 (e1.extBut _ _ D.TOz hTO)
    refine wpAny_bind (wpAny_seqItems o2 rfl (wpAny_bind (wpAny_updateSeq_pair o2 fun g3 o3 e3 => ?_)))
    refine wpAny_bind (wpAny_letGo (wpAny_pure (wpAny_bind (wpAny_bind (wpAny_onRaise ?_)))))
    show wpAny _ _ (Builtin.SmallTypes.nextOf (.ref i2) >>= _) _ _ _
    refine wpAny_bind (wp_nextT_end hh (((h2.extBut e1.extBut D.i2z).extBut e2.extBut D.i12.symm).extBut e3.extBut D.TOi2.symm) (((t2.extBut e1.extBut D.l2z).extBut e2.extBut D.l2i1).extBut e3.extBut D.l2TO) hy fun g4 e e4 he => ?_)
    have hz4 : IsZip g4 z TI TO .ellipsis := e4 _ _ D.i2z.symm (e3.extBut _ _ D.TOz.symm (e2.extBut _ _ D.i1z.symm hz1))
    have hez := last g4 e hz4 he
    obtain ⟨oe, hoe, hce⟩ := he
    exact wpAny_setField_rec hz4 (by simp) fun g5 _ e5 => hE g5 e (fun c o c1 c2 c3 c4 q => e5.extBut _ _ c1 (e4 _ _ c4 (e3.extBut _ _ c2 (e2.extBut _ _ c3 (e1.extBut _ _ c1 q))))) ⟨oe, e5.extBut _ _ hez hoe, hce⟩

noncomputable abbrev zq1 (h : Heap) (l1 : Addr) : Heap := h.push { cls := .type "tuple_iterator", data := .fields #[.ref l1, .int 0 0] }
noncomputable abbrev zq2 (h : Heap) (l1 l2 : Addr) : Heap := (zq1 h l1).push { cls := .type "tuple_iterator", data := .fields #[.ref l2, .int 0 0] }
noncomputable abbrev zq3 (h : Heap) (l1 l2 : Addr) : Heap := (zq2 h l1 l2).push { cls := .type "tuple", data := .seq #[.ref h.objs.size, .ref (zq1 h l1).objs.size] }
noncomputable abbrev zq4 (h : Heap) (l1 l2 : Addr) : Heap := (zq3 h l1 l2).push { cls := .type "tuple", data := .seq #[.none, .none] }
noncomputable abbrev zq5 (h : Heap) (l1 l2 : Addr) : Heap := (zq4 h l1 l2).push { cls := .type "zip", data := .fields #[.none, .bool false, .bool false, .ref (zq2 h l1 l2).objs.size, .ref (zq3 h l1 l2).objs.size] }
theorem zq_facts {h : Heap} {l1 l2 : Addr} {us ws : Array Value} (t1 : h.IsTuple l1 us) (t2 : h.IsTuple l2 ws) : (zq4 h l1 l2).objs.size = h.objs.size + 4 ∧ ZipT (h.objs.size + 4) (h.objs.size + 2) (h.objs.size + 3) h.objs.size (h.objs.size + 1) l1 l2 us ws 0 (zq5 h l1 l2) ∧
    ∀ c o, h.get? c = some o → (zq5 h l1 l2).get? c = some o := by
  have z1 : (zq1 h l1).objs.size = h.objs.size + 1 := Heap.size_push ..
  have z2 : (zq2 h l1 l2).objs.size = h.objs.size + 2 := by rw [Heap.size_push, z1]
  have z3 : (zq3 h l1 l2).objs.size = h.objs.size + 3 := by rw [Heap.size_push, z2]
  have z4 : (zq4 h l1 l2).objs.size = h.objs.size + 4 := by rw [Heap.size_push, z3]
  have up : ∀ c o, h.get? c = some o → (zq5 h l1 l2).get? c = some o := fun c o x => Heap.get?_push_of_some _ (Heap.get?_push_of_some _ (Heap.get?_push_of_some _ (Heap.get?_push_of_some _ (Heap.get?_push_of_some _ x))))
  have g5 : (zq5 h l1 l2).get? (zq4 h l1 l2).objs.size = some _ := Heap.get?_push_size _ rfl
  have g4 : (zq5 h l1 l2).get? (zq3 h l1 l2).objs.size = some _ := Heap.get?_push_of_some _ (Heap.get?_push_size _ rfl)
  have g3 : (zq5 h l1 l2).get? (zq2 h l1 l2).objs.size = some _ := Heap.get?_push_of_some _ (Heap.get?_push_of_some _ (Heap.get?_push_size _ rfl))
  have g2 : (zq5 h l1 l2).get? (zq1 h l1).objs.size = some _ := Heap.get?_push_of_some _ (Heap.get?_push_of_some _ (Heap.get?_push_of_some _ (Heap.get?_push_size _ rfl)))
  have g1 : (zq5 h l1 l2).get? h.objs.size = some _ := Heap.get?_push_of_some _ (Heap.get?_push_of_some _ (Heap.get?_push_of_some _ (Heap.get?_push_of_some _ (Heap.get?_push_size _ rfl))))
  rw [z2, z3, z4] at g5
  rw [z1, z2] at g3
  rw [z3] at g4
  rw [z1] at g2
  exact ⟨z4, ⟨⟨g5, g3, ⟨_, _, g4⟩, ⟨_, g1, rfl, rfl⟩, ⟨_, g2, rfl, rfl⟩⟩, IsTuple_at t1 fun o => up _ o, IsTuple_at t2 fun o => up _ o⟩, up⟩
theorem zipT_new (l1 l2 : Addr) (us ws : Array Value) : Meets (Builtin.«zip.__new__» ⟨[.type "zip", .ref l1, .ref l2], []⟩) (fun _ R s => s.heap.IsTuple l1 us ∧ s.heap.IsTuple l2 ws ∧
      R (.ok (.ret (.ref (zq4 s.heap l1 l2).objs.size))) { s with heap := zq5 s.heap l1 l2 }) := .of_wp fun prog w A R s h => by
  obtain ⟨hp, g, d, tk, os⟩ := s; obtain ⟨t1, t2, h⟩ := h
  have hsub := sub_zip
  have T1 : Heap.IsTuple (Shared.heap ⟨hp, g, d, tk, os⟩) l1 us := t1
  have T2 : Heap.IsTuple (Shared.heap ⟨hp.push { cls := .type "tuple_iterator", data := .fields #[.ref l1, .int 0 0] }, g, d, tk, os⟩) l2 ws := t2.push _
  wp_walk using wpAny_pyIter_tuple T1, wpAny_pyIter_tuple T2
  exact ⟨_, rfl, h⟩
theorem zipT_make {l1 l2 : Addr} {us ws : Array Value} {Q : Value → Shared → Prop} (t1 : s.heap.IsTuple l1 us) (t2 : s.heap.IsTuple l2 ws)
    (h : ∀ h' n, n = s.heap.objs.size → ZipT (n + 4) (n + 2) (n + 3) n (n + 1) l1 l2 us ws 0 h' → (∀ c o, s.heap.get? c = some o → h'.get? c = some o) → Q (.ref (n + 4)) { s with heap := h' }) : wpAny (model prog w) A (call (.type "zip") [.ref l1, .ref l2]) Q E s := by
  refine callType_new F.called_zip (by decide) (F.typeCall_zip_2 _ _) (F.newCall_zip_2 _ _) (fun obj => F.args_object_init_3 obj _ _) F.entry_zip_new (zipT_new l1 l2 us ws) ⟨t1, t2, ?_⟩
  obtain ⟨z4, Z, up⟩ := zq_facts t1 t2
  show _ ∧ _
  rw [z4]
  exact ⟨⟨_, Z.core.zip, rfl⟩, h _ _ rfl Z up⟩
end

section
variable {prog : Program} {w : World}
noncomputable def ZS (z TI TO i1 i2 : Addr) : List V → Fz → Heap → Prop := fun rest G h => ∃ l1 l2 o1 o2 us ws n1 n2 k xs ys, ZipC z TI TO i1 i2 l1 l2 k h ∧ (G l1 = some (true, o1) ∧ o1.cls = .type "tuple" ∧ o1.data = .seq us n1) ∧ (G l2 = some (true, o2) ∧ o2.cls = .type "tuple" ∧ o2.data = .seq ws n2) ∧
  RepL G (us.toList.drop k) xs ∧ RepL G (ws.toList.drop k) ys ∧ rest = (xs.zip ys).map fun p => V.tup [p.1, p.2]
structure ZA (z TI TO i1 i2 : Addr) : Prop where
  TIz : TI ≠ z
  TOz : TO ≠ z
  i1z : i1 ≠ z
  i2z : i2 ≠ z
  TITO : TI ≠ TO
  TIi1 : TI ≠ i1
  TIi2 : TI ≠ i2
  TOi1 : TO ≠ i1
  TOi2 : TO ≠ i2
  i12 : i1 ≠ i2
theorem ZA.apart {z TI TO i1 i2 l1 l2 : Addr} {G : Fz} {p1 p2 : Bool × Obj} (D : ZA z TI TO i1 i2) (off : ∀ b ∈ [z, TI, TO, i1, i2], G b = none) (h1 : G l1 = some p1) (h2 : G l2 = some p2) : ZipApart z TI TO i1 i2 l1 l2 := by
  have ne : ∀ l p b, G l = some p → b ∈ [z, TI, TO, i1, i2] → l ≠ b := by rintro l p b e hb rfl; rw [off _ hb] at e; cases e
  exact ⟨D.TIz, D.TOz, D.i1z, D.i2z, D.TITO, D.TIi1, D.TIi2, D.TOi1, D.TOi2, D.i12, ne _ _ _ h1 (by simp), ne _ _ _ h1 (by simp), ne _ _ _ h1 (by simp), ne _ _ _ h1 (by simp), ne _ _ _ h2 (by simp), ne _ _ _ h2 (by simp), ne _ _ _ h2 (by simp), ne _ _ _ h2 (by simp)⟩
theorem drop_cons {us : Array Value} {G : Fz} {k : Nat} {x : V} {xs : List V} (r : RepL G (us.toList.drop k) (x :: xs)) : ∃ v, us[k]? = some v ∧ Rep G v x ∧ RepL G (us.toList.drop (k + 1)) xs := by
  generalize hdr : us.toList.drop k = l at r
  cases r with
  | @cons v vr _ _ rv rr =>
  have hv : us[k]? = some v := by
    have : (us.toList.drop k)[0]? = some v := by rw [hdr]; rfl
    simpa using this
  have hdr' : us.toList.drop (k + 1) = vr := by rw [← List.drop_drop, hdr]; rfl
  exact ⟨v, hv, rv, hdr' ▸ rr⟩
theorem drop_nil {us : Array Value} {G : Fz} {k : Nat} (r : RepL G (us.toList.drop k) []) : us[k]? = none := by
  generalize hdr : us.toList.drop k = l at r
  cases r
  have : (us.toList.drop k)[0]? = none := by rw [hdr]; rfl
  simpa using this
theorem Itr.zip {elts : List Expr} {kk : Nat} {pos : Pos} {z TI TO i1 i2 : Addr} (D : ZA z TI TO i1 i2) : Itr prog w (.Tuple elts kk pos) z [z, TI, TO, i1, i2] (ZS z TI TO i1 i2) where
  frame := by
    rintro rest G G' h h' ⟨l1, l2, o1, o2, us, ws, n1, n2, k, xs, ys, ⟨hz, hTI, ⟨a, b, hTO⟩, h1, h2⟩, ⟨g1, c1, d1⟩, ⟨g2, c2, d2⟩, r1, r2, rfl⟩ le hk
    exact ⟨l1, l2, o1, o2, us, ws, n1, n2, k, xs, ys, ⟨hk z (by simp) _ hz, hk TI (by simp) _ hTI, ⟨a, b, hk TO (by simp) _ hTO⟩, IsTupleIter_at h1 fun o e => hk i1 (by simp) o e, IsTupleIter_at h2 fun o e => hk i2 (by simp) o e⟩,
      ⟨le _ _ _ _ g1 d1, c1, d1⟩, ⟨le _ _ _ _ g2 d2, c2, d2⟩, r1.imp le, r2.imp le, rfl⟩
  ex := by
    rintro rest G h ⟨l1, l2, o1, o2, us, ws, n1, n2, k, xs, ys, ⟨hz, hTI, ⟨a, b', hTO⟩, ⟨_, h1, _⟩, ⟨_, h2, _⟩⟩, _⟩ b hb
    simp at hb
    rcases hb with rfl | rfl | rfl | rfl | rfl
    · exact ⟨_, hz⟩
    · exact ⟨_, hTI⟩
    · exact ⟨_, hTO⟩
    · exact ⟨_, h1⟩
    · exact ⟨_, h2⟩
  item := by
    rintro A x rest G s Q E hh ⟨l1, l2, o1, o2, us, ws, n1, n2, k, xs, ys, Z, ⟨g1, c1, d1⟩, ⟨g2, c2, d2⟩, r1, r2, e⟩ hs hoff hQ
    cases xs with
    | nil => simp at e
    | cons x1 xs =>
    cases ys with
    | nil => simp at e
    | cons y1 ys =>
    simp only [List.zip_cons_cons, List.map_cons, List.cons.injEq] at e
    obtain ⟨rfl, rfl⟩ := e
    obtain ⟨u, hu, ru, r1'⟩ := drop_cons r1
    obtain ⟨v, hv, rv, r2'⟩ := drop_cons r2
    have hT : s.TypeIs (.ref z) "zip" := ⟨_, Z.zip, rfl⟩
    have AP := D.apart hoff g1 g2
    have zlt : z < s.heap.objs.size := Heap.lt_size Z.zip
    unfold pyNext
    refine wpAny_bind (wpAny_attempt (wpAny_callSpecial?_slot (name := Str.ofString "__next__") hT F.slot_zip_next (wpAny_call_entry F.slot_zip_next hT F.entry_zip_next
      (zipT_item AP ⟨Z, ⟨o1, hs _ _ g1, c1, n1, d1⟩, ⟨o2, hs _ _ g2, c2, n2, d2⟩⟩ hu hv fun h1 hz1 go hp1 hk1 => wpAny_pure ?_) (F.args_zip_next_1 _))))
    refine wpAny_letOwnedTupleGo_zip hz1 fun h2 hz2 hs2 => ?_
    have Z2 := go h2 hz2 hs2
    have hfr : s.heap.get? s.heap.objs.size = none := fresh_none _
    have hG : G s.heap.objs.size = none := by
      cases e : G s.heap.objs.size with
      | none => rfl
      | some p => have := hs _ _ e; rw [hfr] at this; cases this
    have le := put_le (o := { cls := .type "tuple", data := .seq #[u, v] }) hG
    have hne : s.heap.objs.size ≠ z := Nat.ne_of_gt zlt
    have hk : ∀ b o, b ∉ [z, TI, TO, i1, i2] → s.heap.get? b = some o → h2.get? b = some o := fun b o hb e => by
      simp at hb
      exact hs2.extBut _ _ hb.1 (hk1 b o hb.1 hb.2.2.1 hb.2.2.2.1 hb.2.2.2.2 e)
    refine hQ (.ref s.heap.objs.size) (put G s.heap.objs.size { cls := .type "tuple", data := .seq #[u, v] }) h2 s.toks (.tup put_self rfl rfl ⟨rfl, rfl⟩ (.cons (ru.imp le.seq) (.cons (rv.imp le.seq) .nil))) le ?_ ?_ ?_ hk
    · intro a p e
      unfold put at e
      by_cases ha : a = s.heap.objs.size
      · subst ha; rw [if_pos rfl] at e; cases e; exact hs2.extBut _ _ hne hp1
      · rw [if_neg ha] at e; exact hk a p.2 (fun hb => by rw [hoff a hb] at e; cases e) (hs a p e)
    · intro b p e e'
      unfold put at e'
      by_cases hb : b = s.heap.objs.size
      · rw [hb]; exact hfr
      · rw [if_neg hb, e] at e'; cases e'
    · exact ⟨l1, l2, o1, o2, us, ws, n1, n2, k + 1, xs, ys, Z2.core, ⟨le _ _ g1, c1, d1⟩, ⟨le _ _ g2, c2, d2⟩, r1'.imp le.seq, r2'.imp le.seq, rfl⟩
  done := by
    rintro A G s Q E hh ⟨l1, l2, o1, o2, us, ws, n1, n2, k, xs, ys, Z, ⟨g1, c1, d1⟩, ⟨g2, c2, d2⟩, r1, r2, e⟩ hs hoff hQ
    have hend : us[k]? = none ∨ ws[k]? = none := by
      cases xs with
      | nil => exact .inl (drop_nil r1)
      | cons x1 xs =>
        cases ys with
        | nil => exact .inr (drop_nil r2)
        | cons y1 ys => simp at e
    have hT : s.TypeIs (.ref z) "zip" := ⟨_, Z.zip, rfl⟩
    have AP := D.apart hoff g1 g2
    unfold pyNext
    refine wpAny_bind (wpAny_attempt (wpAny_callSpecial?_slot (name := Str.ofString "__next__") hT F.slot_zip_next (wpAny_call_entry F.slot_zip_next hT F.entry_zip_next
      (zipT_end hh AP ⟨Z, ⟨o1, hs _ _ g1, c1, n1, d1⟩, ⟨o2, hs _ _ g2, c2, n2, d2⟩⟩ hend fun h1 e hk1 he => ?_) (F.args_zip_next_1 _))))
    obtain ⟨o, ho, hc⟩ := he
    refine wpAny_bind (wpAny_isInstance (T := "StopIteration") (b := true) ⟨o, ho, hc⟩ isSubtype_stop ?_)
    refine wpAny_pure (hQ h1 s.toks fun b o hb e => ?_)
    simp at hb
    exact hk1 b o hb.1 hb.2.2.1 hb.2.2.2.1 hb.2.2.2.2 e
  self := by
    rintro A rest G s Q E ⟨l1, l2, o1, o2, us, ws, n1, n2, k, xs, ys, Z, _⟩ h
    exact wpAny_pyIter_zip Z.zip h
end

noncomputable def Mk (f : Fm) (target : Expr) (g : Value) (xs : List V) (vs : Vars) (st : Store) (P : List V → Store → Prop) : Prop :=
  ∀ (A : Around) (G : Fz) (s : Shared) (us : List Value) (Q : Value → Shared → Prop) (E : Value → Shared → Prop), Lim f.k A → St f.c G f.env f.oc vs st s.heap → RepL G us xs →
    (∀ I L S ys G' st' h' tk, P ys st' → Itr f.c.prog f.c.w target I L S → S ys G' h' → Ap G' f.env f.oc st' L h' → Le G G' → St f.c G' f.env f.oc vs st' h' → Q (.ref I) { s with heap := h', toks := tk }) →
    wpAny (model f.c.prog f.c.w) A (call g us) (fun x s1 => wpAny (model f.c.prog f.c.w) A (pyIter x) Q E s1) E s
section
variable {f : Fm} {vs : Vars} {st : Store} {target : Expr} {P : List V → Store → Prop}
theorem ItE.callB {x : Str} {p pos : Pos} {args : List Expr} {g : Value} (hx : f.env.kindOf x = some .globalImplicit) (hg : W.nsIn f.c.K mainGlobals x = some Option.none) (hv : bootBuiltins x = some g) (hn : x ≠ "__name__") (hk : Keeps' f.c g)
    (h : EvL f args vs st fun xs st1 => Mk f target g xs vs st1 P) (hp : (backTo pos (starEach args f.env)).any (·.1) = false := by rfl) (hd : (x == ("__debug__" : Str)) = false := by decide) : ItE f target (.Call (.Name x p) args [] pos) vs st P := by
  intro A G s Q E hA S hQ
  refine wpAny_Call_Name_kw (wp_builtin S hx hg hv hn ?_ hd)
  refine W.callWith_of (P := fun h => ∀ a o, f.c.h₀.get? a = some o → h.get? a = some o) (by rw [hp]; rfl) hk (evalArgs_all hp (h pos A G s _ E hA S ?_))
  intro us xs G1 st1 h1 tk1 q rs le1 S1
  exact ⟨S1.hs.old, q A G1 { s with heap := h1, toks := tk1 } us Q E hA S1 rs fun I L Si ys G' st' h' tk p hI hS a le S' => hQ I L Si ys G' st' h' tk p hI hS a (le1.trans le) S'⟩
theorem Mk.range {n : Nat} (hn : (n : Int) < 2 ^ 62) (h : P (irange 0 n) st) : Mk f target (.type "range") [.int n] vs st P := by
  intro A G s us Q E hA S r hQ
  obtain ⟨u, rfl, ru⟩ := rep1 r
  cases ru with | int _ t =>
  refine call_range_1 ?_
  refine wpAny_pyIter_range (s := { s with heap := s.heap.push _, toks := s.toks + 1 + 1 }) (a := 0) (b := n) (c := 1) (IsRange.new s.heap 0 n 1 s.toks t (s.toks + 1)) (small_one (by decide) (by decide) (by omega) hn) ?_
  have e : Builtin.Range.rangeSize 0 n 1 = (n : Int) := by rw [rangeSize_one]; split <;> omega
  rw [e]
  have hk : ∀ b o, s.heap.get? b = some o → ((s.heap.push { cls := .type "range", data := .fields #[.int 0 s.toks, .int n t, .int 1 (s.toks + 1)] }).push { cls := .type "range_iterator", data := .fields #[rawInt 0, rawInt n, rawInt 1] }).get? b = some o := fun b o e => Heap.get?_push_of_some _ (Heap.get?_push_of_some _ e)
  refine hQ _ _ _ (irange 0 n) G st _ _ h (Itr.range _) ⟨0, n, Heap.get?_push_size _ rfl, rfl⟩ (Ap.fresh S (fun b hb => ?_) fun b hb => ?_) (Le.refl _) (S.grow hk)
  · have := List.mem_singleton.mp hb
    rw [this]
    cases e : s.heap.get? (s.heap.push { cls := .type "range", data := .fields #[.int 0 s.toks, .int n t, .int 1 (s.toks + 1)] }).objs.size with
    | none => rfl
    | some o => have := Heap.lt_size e; rw [Heap.size_push] at this; exact absurd this (Nat.not_lt.mpr (Nat.le_succ _))
  · rw [List.mem_singleton.mp hb]; exact ⟨_, Heap.get?_push_size _ rfl⟩
theorem Mk.reversed {ys : List V} (h : P ys.reverse st) : Mk f target (.type "reversed") [.lst ys] vs st P := by
  intro A G s us Q E hA S r hQ
  obtain ⟨u, rfl, ru⟩ := rep1 r
  obtain ⟨a, ws, n, rfl, g, rs⟩ := rep_lst ru
  have hex := Heap.get?_push_size s.heap (o := revObj a ((ws.size : Int) - 1)) rfl
  refine call_reversed_list ⟨_, S.hs.sub _ _ g, rfl, n, rfl⟩ ?_
  have hit : Heap.IsRevIter (s.heap.push (revObj a ((ws.size : Int) - 1))) s.heap.objs.size a ((ws.size : Int) - 1) := ⟨_, hex, rfl, rfl⟩
  refine wpAny_pyIter_revIter (s := { s with heap := s.heap.push _ }) hit ?_
  refine hQ _ [s.heap.objs.size] _ ys.reverse G st _ _ h (Itr.rev _) ⟨a, _, ws, n, ws.size, hit, g, rfl, rfl, Nat.le_refl _, ?_⟩ (Ap.fresh S (fun b hb => ?_) fun b hb => ?_) (Le.refl _) (S.grow fun b o e => Heap.get?_push_of_some _ e)
  · have : ws.toList.take ws.size = ws.toList := List.take_of_length_le (by simp)
    rw [this]; exact rs.reverse
  · rw [List.mem_singleton.mp hb]; exact fresh_none _
  · rw [List.mem_singleton.mp hb]; exact ⟨_, hex⟩
theorem Mk.zip {elts : List Expr} {kk : Nat} {tp : Pos} {xs ys : List V} (h : P ((xs.zip ys).map fun p => .tup [p.1, p.2]) st) : Mk f (.Tuple elts kk tp) (.type "zip") [.tup xs, .tup ys] vs st P := by
  intro A G s us Q E hA S r hQ
  obtain ⟨u, v, rfl, ru, rv⟩ := rep2 r
  obtain ⟨a, as, n, rfl, g, rs⟩ := rep_tup ru
  obtain ⟨b, bs, m, rfl, g', rs'⟩ := rep_tup rv
  refine zipT_make ⟨_, S.hs.sub _ _ g, rfl, n, rfl⟩ ⟨_, S.hs.sub _ _ g', rfl, m, rfl⟩ fun h' N hN Z hk => ?_
  refine wpAny_pyIter_zip (s := { s with heap := h' }) Z.core.zip ?_
  have hI := Itr.zip (prog := f.c.prog) (w := f.c.w) (elts := elts) (kk := kk) (pos := tp) (z := N + 4) (TI := N + 2) (TO := N + 3) (i1 := N) (i2 := N + 1) (by constructor <;> (intro e; have e : (_ : Nat) = _ := e; omega))
  have hS : ZS (N + 4) (N + 2) (N + 3) N (N + 1) ((xs.zip ys).map fun p => .tup [p.1, p.2]) G h' := ⟨a, b, _, _, as, bs, n, m, 0, xs, ys, Z.core, ⟨g, rfl, rfl⟩, ⟨g', rfl, rfl⟩, by simpa using rs, by simpa using rs', rfl⟩
  refine hQ _ _ _ _ G st h' _ h hI hS (Ap.fresh S (fun b hb => ?_) fun b hb => hI.ex _ _ _ hS b hb) (Le.refl _) (S.grow hk)
  have hge : s.heap.objs.size ≤ b := by
    subst hN
    simp at hb
    rcases hb with e | e | e | e | e <;> (rw [e]; first | exact Nat.le_add_right _ _ | exact Nat.le_refl _)
  cases e : s.heap.get? b with
  | none => rfl
  | some o => exact absurd (Heap.lt_size e) (Nat.not_lt.mpr hge)
end
end Lay
end
section
open PySem PySem.SeqAt
namespace Lay

theorem repL_ints {G : Fz} : ∀ {us : List Value} {is : List Int}, RepL G us (is.map .int) → PyProof.Rows.IntsAre us is
  | [], [], _ => by constructor
  | [], _ :: _, h => by cases h
  | _ :: _, [], h => by cases h
  | u :: us, b :: bs, h => by
    cases h with
    | cons h r => cases h; exact .cons _ _ (repL_ints r)
theorem ints_repL {G : Fz} : ∀ {us : List Value} {is : List Int}, PyProof.Rows.IntsAre us is → RepL G us (is.map .int)
  | _, _, .nil => .nil
  | _, _, .cons _ _ h => .cons (.int _ _) (ints_repL h)
theorem PairsRep.keys {K : Type} {G : Fz} {l : List (K × Value)} {kvs : List (K × V)} (h : PairsRep G l kvs) : l.map (·.1) = kvs.map (·.1) := by
  induction h with
  | nil => rfl
  | cons _ _ ih => rw [List.map_cons, List.map_cons, ih]
section
variable {c : Cx} {k : Nat} {st : Store} {P : V → Store → Prop}
theorem Fn.sum {ns : List Int} (h : ∀ i, P (.int i) st) : Fn c k (.builtin "sum") [.lst (ns.map .int)] st P := by
  intro A G s us Q E hA H r hQ
  obtain ⟨u, rfl, ru⟩ := rep1 r
  obtain ⟨a, vs, n, rfl, g, rs⟩ := rep_lst ru
  have hg := H.sub _ _ g
  have hl : s.heap.IsList a vs := ⟨_, hg, rfl, n, rfl⟩
  have hlt := Heap.lt_size hg
  refine call_sum_walkG (wpAny_pyIter_list hl ?_)
  refine ⟨_, _, _, _, _, _, fun i => ns.getD i 0, rfl, Walks.list (A := A.in1) hA.1 s.heap.objs.size a (Nat.ne_of_lt hlt) vs, ⟨⟨_, Heap.get?_push_size _ rfl, rfl, rfl⟩, hl.push _⟩, fun b hb => ?_, fun i v hv => ?_, fun h' tk t' hk => ?_⟩
  · rw [Heap.size_push]
    simp at hb
    rcases hb with rfl | rfl
    · exact Nat.lt_succ_self _
    · exact Nat.lt_succ_of_lt hlt
  · obtain ⟨x, hx, rx⟩ := rs.get' (k := i) (v := v) (by simpa using hv)
    rw [List.getElem?_map] at hx
    cases e : ns[i]? with
    | none => rw [e] at hx; cases hx
    | some j =>
      rw [e] at hx; cases hx
      cases rx
      exact ⟨_, by simp [List.getD, e]; rfl⟩
  · refine hQ _ _ G st h' tk (h _) (.int _ _) (Le.refl _) (H.grow fun b o e => hk b o (fun hb => ?_) (Heap.get?_push_of_some _ e))
    rw [List.mem_singleton.mp hb] at e
    exact absurd (Heap.lt_size e) (Nat.lt_irrefl _)
theorem Fn.all {bs : List Bool} (h : P (.bool (bs.all id)) st) : Fn c k (.builtin "all") [.lst (bs.map .bool)] st P := by
  intro A G s us Q E hA H r hQ
  obtain ⟨u, rfl, ru⟩ := rep1 r
  obtain ⟨a, vs, n, rfl, g, rs⟩ := rep_lst ru
  have hg := H.sub _ _ g
  have hl : s.heap.IsList a vs := ⟨_, hg, rfl, n, rfl⟩
  have hlt := Heap.lt_size hg
  have e1 : vs = boolsOf bs := Array.toList_inj.mp (by rw [repL_bools rs]; simp [boolsOf])
  subst e1
  refine call_all_walk (wpAny_pyIter_list hl ?_)
  refine ⟨_, _, _, _, _, _, fun i => bs.getD i true, rfl, Walks.list (A := A.in1) hA.1 s.heap.objs.size a (Nat.ne_of_lt hlt) (boolsOf bs), ⟨⟨_, Heap.get?_push_size _ rfl, rfl, rfl⟩, hl.push _⟩, fun i v s Q E hv hQ => ?_, fun h' tk hk => ?_⟩
  · have hv' : (boolsOf bs)[i]? = some v := hv
    simp only [boolsOf, List.getElem?_toArray, List.getElem?_map] at hv'
    cases e : bs[i]? with
    | none => rw [e] at hv'; cases hv'
    | some b =>
      rw [e] at hv'; cases hv'
      refine wpAny_truthy_bool ?_
      have : bs.getD i true = b := by simp [List.getD, e]
      have hQ : Q (bs.getD i true) s := hQ
      rw [this] at hQ; exact hQ
  · have hsz : (boolsOf bs).size = bs.length := by simp [boolsOf]
    have e : (List.range (boolsOf bs).size).all (fun i => bs.getD i true) = bs.all id := by
      rw [hsz, Bool.eq_iff_iff]
      simp only [List.all_eq_true, List.mem_range, id]
      constructor
      · intro q x hx
        obtain ⟨i, hi⟩ := List.mem_iff_getElem?.mp hx
        have := q i (List.getElem?_eq_some_iff.mp hi).1
        simpa [List.getD, hi] using this
      · intro q i hi
        have : bs[i]? = some bs[i] := List.getElem?_eq_getElem hi
        simp [List.getD, this, q _ (List.getElem_mem hi)]
    show Q (.bool ((List.range (boolsOf bs).size).all (fun i => bs.getD i true))) _
    rw [e]
    refine hQ _ _ G st h' tk h (.bool _) (Le.refl _) (H.grow fun b o e => hk b o (fun hb => ?_) (Heap.get?_push_of_some _ e))
    rw [List.mem_singleton.mp hb] at e
    exact absurd (Heap.lt_size e) (Nat.lt_irrefl _)
theorem Fn.sorted {ns : List Int} (h64 : ns.length < 64) (h : ∀ a (ns' : List Int), ns'.Perm ns → ns'.Pairwise (· ≤ ·) → P (.ref a) ((a, .list (ns'.map .int)) :: st)) : Fn c k (.builtin "sorted") [.lst (ns.map .int)] st P := by
  intro A G s us Q E hA H r hQ
  obtain ⟨u, rfl, ru⟩ := rep1 r
  obtain ⟨a, vs, n, rfl, g, rs⟩ := rep_lst ru
  have hg := H.sub _ _ g
  refine PyProof.Rows.sorted_ints (vs := vs.toList) ⟨_, hg, rfl, n, by simp⟩ (repL_ints rs) (by rw [rs.length]; simpa using h64) fun out ns' i1 p1 p2 => ?_
  obtain ⟨e, he⟩ := PyProof.Rows.sortedAll_at s.heap vs.toList out
  refine hQ _ _ G _ _ s.toks (h _ ns' p1 p2) (.ref _) (Le.refl _) (H.new (m := .list (ns'.map .int)) ⟨_, _, _, he, rfl, rfl, ⟨rfl, rfl⟩, ints_repL i1⟩ (fun b hb => ?_) (by simp [M.fp]) fun b o e => PyProof.Rows.sortedAll_old e)
  rw [List.mem_singleton.mp (show b ∈ [s.heap.objs.size + 1] from hb)]
  cases e : s.heap.get? (s.heap.objs.size + 1) with
  | none => rfl
  | some o => exact absurd (Heap.lt_size e) (Nat.not_lt.mpr (Nat.le_succ _))
theorem Fn.sortedD {d : Addr} {kvs : List (Int × V)} (hm : (d, M.dI kvs) ∈ st) (h64 : kvs.length < 64) (h : ∀ a (ns' : List Int), ns'.Perm (kvs.map (·.1)) → ns'.Pairwise (· ≤ ·) → P (.ref a) ((a, .list (ns'.map .int)) :: st)) : Fn c k (.builtin "sorted") [.ref d] st P := by
  intro A G s us Q E hA H r hQ
  obtain ⟨u, rfl, ru⟩ := rep1 r
  cases ru
  obtain ⟨hd, l, hl, hp⟩ := H.dI hm
  obtain ⟨ep, hat⟩ := hl.dictAt
  have hll := hp.length
  have hkeys := hp.keys
  refine Calls.call_function_entry PyProof.Rows.kind_sorted PyProof.Rows.plain_sorted PyProof.Rows.entry_sorted (PyProof.Rows.args_sorted1 _) ?_
  unfold Builtin.«sorted»
  refine wpAny_bind (m := checkCount "sorted" 1 1 _) (wpAny_pure ?_)
  refine wpAny_bind (W.kdu_collect (A := A.in1) (W.kdl_dict (knd := intKind c.prog c.w) (kvs := l) (ep := ep) hd) hA.1 hat (by rw [sizeLine_eq]; omega) fun h' tk acc hk hacc => ?_)
  have hsz : acc.toList.length = l.length := by rw [Array.length_toList]; exact hacc.1
  refine wpAny_bind (wpAny_newList ?_ (by rw [hsz, sizeLine_eq]; omega))
  have hI : PyProof.Rows.IntsAre acc.toList (kvs.map (·.1)) := by
    rw [← hkeys]
    have key : ∀ (us : List Value) (l : List (Int × Value)), us.length = l.length → (∀ (i : Nat) v, us[i]? = some v → ∃ k x, l[i]? = some (k, x) ∧ (intKind c.prog c.w).is k v = true) → PyProof.Rows.IntsAre us (l.map (·.1)) := by
      intro us
      induction us with
      | nil => intro l hl _; cases l with
        | nil => exact .nil
        | cons _ _ => simp at hl
      | cons u us ih =>
        intro l hl q
        cases l with
        | nil => simp at hl
        | cons p l =>
          obtain ⟨k, x, e, hi⟩ := q 0 u rfl
          simp at e; subst e
          have hi' : Value.isInt k u = true := hi
          cases u <;> simp [Value.isInt] at hi'
          subst hi'
          exact .cons _ _ (ih l (by simpa using hl) fun i v hv => q (i + 1) v (by simpa using hv))
    exact key _ _ hsz fun i v hv => hacc.2 i v (by rw [← Array.getElem?_toList]; exact hv)
  have hsz2 : (h'.push { cls := .type "list", data := .seq acc.toList.toArray }).get? h'.objs.size = some (PyProof.Rows.seqObj "list" acc.toList.toArray 0) := Heap.get?_push_size _ rfl
  refine wpAny_bind (wpAny_holding (wpAny_call_entry PyProof.Rows.slot_list_sort ⟨_, hsz2, rfl⟩ PyProof.Rows.entry_list_sort (PyProof.Rows.list_sort_tree hsz2 hI (by rw [hsz]; omega) fun out ns' a1 a2 a3 => ⟨_, rfl, ?_⟩) (PyProof.Rows.args_list_sort _)))
  refine wpAny_pure ⟨_, rfl, ?_⟩
  obtain ⟨e, he⟩ := PyProof.Rows.sortedHeap_at (out := out) hsz2
  have hold : ∀ b o, s.heap.get? b = some o → (PyProof.Rows.sortedHeap (h'.push { cls := .type "list", data := .seq acc.toList.toArray }) h'.objs.size acc.toList out).get? b = some o := fun b o e => by
    have hlt := Heap.lt_size (hk b o e)
    rw [PyProof.Rows.sortedHeap_old (Nat.ne_of_lt hlt) (by rw [Heap.size_push]; exact Nat.lt_succ_of_lt hlt)]
    exact Heap.get?_push_of_some _ (hk b o e)
  refine hQ _ _ G _ _ tk (h _ ns' a2 a3) (.ref _) (Le.refl _) (H.new (m := .list (ns'.map .int)) ⟨_, _, _, he, rfl, rfl, ⟨rfl, rfl⟩, ints_repL a1⟩ (fun b hb => ?_) (by simp [M.fp]) hold)
  rw [List.mem_singleton.mp (show b ∈ [h'.objs.size] from hb)]
  cases e : s.heap.get? h'.objs.size with
  | none => rfl
  | some o => exact absurd (Heap.lt_size (hk _ _ e)) (Nat.lt_irrefl _)
end
end Lay
end
section
open PySem PySem.SeqAt
namespace Lay

noncomputable def WLoop (f : Fm) (test : Expr) (body : List Stmt) (vs : Vars) (st : Store) (P : Fl → Store → Prop) : Prop :=
  ∀ (A : Around) (G : Fz) (s : Shared) (R : Result → Shared → Prop), Lim f.k A → St f.c G f.env f.oc vs st s.heap →
    (∀ fl y G' st' h' tk, P y st' → Le G G' → Out f G' st' h' fl y → R (.ok fl) { s with heap := h', toks := tk }) → codeAny (model f.c.prog f.c.w) A (.whileLoop test body [] f.env) R s
section
variable {f : Fm} {vs : Vars} {st : Store} {P : Fl → Store → Prop} {test : Expr} {body : List Stmt}
theorem WLoop.step (h : Tst f test vs st fun b st1 => if b = true then Blk f body vs st1 fun y st2 => match y with | .next vs2 => WLoop f test body vs2 st2 P | .cont vs2 => WLoop f test body vs2 st2 P | .ret v => P (.ret v) st2 else P (.next vs) st1) : WLoop f test body vs st P := by
  intro A G s R hA S hR
  refine codeAny_of_tree ?_
  show wpAny _ A ((whileTurn test body [] f.env).onRaise (fun x => do noteFrame x f.env; theTreesLotGoes x)) _ _ s
  refine wpAny_noted ?_
  simp only [whileTurn]
  refine wpAny_bind (h A G s _ _ hA S fun b G1 st1 h1 tk1 p le S1 => ?_)
  cases b with
  | false =>
    simp only [Bool.false_eq_true, if_false] at p ⊢
    exact wpAny_bind (wpAny_execs_nil (wpAny_pure (hR .next (.next vs) G1 st1 h1 tk1 p le S1)))
  | true =>
    simp only [if_true] at p ⊢
    refine wpAny_bind (p A G1 { s with heap := h1, toks := tk1 } _ _ hA S1 fun fl y G2 st2 h2 tk2 q le2 o => ?_)
    have next : ∀ vs2, St f.c G2 f.env f.oc vs2 st2 h2 → WLoop f test body vs2 st2 P → codeAny (model f.c.prog f.c.w) A (.whileLoop test body [] f.env) R { s with heap := h2, toks := tk2 } := fun vs2 S2 w =>
      w A G2 { s with heap := h2, toks := tk2 } R hA S2 fun fl y G' st' h' tk p' le' o' => hR fl y G' st' h' tk p' ((le.trans le2).trans le') o'
    cases fl <;> cases y <;> first | exact o.elim | skip
    · exact wpAny_pure ⟨rfl, next _ o q⟩
    · exact wpAny_pure ⟨rfl, next _ o q⟩
    · exact wpAny_pure (hR _ _ _ _ _ _ q (le.trans le2) o)
theorem Stm.while {pos : Pos} (h : WLoop f test body vs st P) : Stm f (.While test body [] pos) vs st P := by
  intro A G s Q E hA S hQ
  exact wpAny_While (h A G s _ hA S fun fl y G' st' h' tk p le o => hQ fl y G' st' h' tk p le o)
end

theorem Ev.and2 {f : Fm} {vs : Vars} {st : Store} {P : V → Store → Prop} {a b : Expr} {pos : Pos} (h : Ev f a vs st fun x st1 => ∃ p, x = .bool p ∧ if p = true then Ev f b vs st1 P else P (.bool false) st1) : Ev f (.BoolOp .And [a, b] pos) vs st P := by
  intro A G s Q E hA S hQ
  refine PyProof.Rows.BoolOp_and (h A G s _ E hA S ?_)
  rintro v x G1 st1 h1 tk1 ⟨p, rfl, q⟩ r le S1
  cases r
  refine wpAny_truthy_bool ?_
  cases p with
  | true => 
    simp only [if_true] at q ⊢
    exact PyProof.Rows.BoolOp_one (q A G1 { s with heap := h1, toks := tk1 } _ E hA S1 fun v x G' st' h' tk p r le' => hQ v x G' st' h' tk p r (le.trans le'))
  | false =>
    simp only [Bool.false_eq_true, if_false] at q ⊢
    exact hQ _ _ G1 st1 h1 tk1 q (.bool _) le S1
end Lay
end
section
open PySem PySem.SeqAt
namespace Lay

theorem plain_update_loop : plainId "dict.update.loop" = true := by decide +kernel
theorem entry_update_loop : entryFor table "dict.update.loop" = some Builtin.«dict.update.loop» := entryFor_of_tree (by kernel_rfl)
theorem list_no_keys : typeLookup (.type "list") "keys" = pure none := by rw [typeLookup_type, builtinLookup_eq_fast]; kernel_rfl

section
variable {prog : Program} {w : World} {A : Around} {E : Value → Shared → Prop} {s : Shared}
theorem wp_noKeys {a : Addr} {us : Array Value} {n : Nat} {Q : Option Value → Shared → Prop} (hx : s.heap.get? a = some { cls := .type "list", data := .seq us n }) (hA : A.handled = none)
    (h : ∀ h' tk, (∀ b o, s.heap.get? b = some o → h'.get? b = some o) → Q none { s with heap := h', toks := tk }) : wpAny (model prog w) A (getAttr? (.ref a) "keys") Q E s := by
  obtain ⟨hp, g, d, tk, os⟩ := s
  have hT : ∀ tk', (⟨hp, g, d, tk', os⟩ : Shared).TypeIs (.ref a) "list" := fun _ => ⟨_, hx, rfl⟩
  have f1 := sub_AttributeError
  have f3 := F.slot_list_getattribute.lookup
  have f4 := F.slot_list_getattribute.bind (.ref a)
  have f5 := am_list_getattr_none
  unfold getAttr? getAttrBy? getAttrBy
  repeat (any_goals (first | assumption | exact hT _ | ((with_reducible show wpAny _ _ (call (Value.builtin "list.__getattribute__") _ _) _ _ _); refine call_meets F.slot_list_getattribute (hT _) am_entry_list_getattribute (F.args_list_getattribute_2 _ _) (meets_getattribute_miss_list a us n #[] "keys" _ list_no_keys (by decide) (by rw [sizeLine_eq]; decide)) ⟨hx, hA, fun h' tk' e hx' => ?_⟩) | wp_step))
  obtain ⟨t', u', he⟩ := hx'.there
  show wpAny _ _ (getattributeRaised _ _ _ _ _ _ _) _ _ _
  unfold getattributeRaised
  repeat (any_goals (first | assumption | wp_step))
  exact h _ _ hx'.keeps
end

noncomputable def pairV (p : Int × V) : V := .tup [.int p.1, p.2]
theorem dict_loop {c : Cx} {G : Fz} {D I ax : Addr} {vs : Array Value} {n : Nat} (hDI : D ≠ I) (hG : G D = none ∧ G I = none) (hax : G ax = some (true, { cls := .type "list", data := .seq vs n })) {h₀ : Heap} : 
    ∀ (xs : List (Int × V)) (i : Nat) (acc : List (Int × Value)) (acc' : List (Int × V)) (A : Around) (R : Result → Shared → Prop) (s : Shared), A.handled = none → RepL G (vs.toList.drop i) (xs.map pairV) → Sub G s.heap → s.heap.DictOf (intKind c.prog c.w) D acc → PairsRep G acc acc' →
      s.heap.IsListIter I ax i → acc.length + xs.length ≤ sizeLine → (∀ b o, b ≠ D → b ≠ I → h₀.get? b = some o → s.heap.get? b = some o) →
      (∀ h' tk acc2, h'.DictOf (intKind c.prog c.w) D acc2 → PairsRep G acc2 (xs.foldl (fun a p => vPut a p.1 p.2) acc') → (∀ b o, b ≠ D → b ≠ I → h₀.get? b = some o → h'.get? b = some o) → R (.ok (.ret .none)) { s with heap := h', toks := tk }) →
      codeAny (model c.prog c.w) A (.builtin "dict.update.loop" ⟨[.ref D, .ref I, rawInt i, .none], []⟩) R s
  | [], i, acc, acc', A, R, s, hh, r, hs, hD, hp, hI, hz, hk, hR => by
    refine codeAny_builtin entry_update_loop ?_
    rw [Around.under_plainId plain_update_loop _]
    show wpAny _ _ (pyNext (.ref I) >>= _) _ _ s
    refine wpAny_bind (wpAny_pyNext_list_end (A := A.in1) hh hI ⟨_, hs _ _ hax, rfl, n, rfl⟩ (drop_nil r) fun h1 he => ?_)
    refine wpAny_bind (wpAny_pure ?_)
    exact wpAny_pure (hR h1 s.toks acc (hD.extBut he hDI) hp fun b o b1 b2 e => he b o b2 (hk b o b1 b2 e))
  | (k, x) :: xs, i, acc, acc', A, R, s, hh, r, hs, hD, hp, hI, hz, hk, hR => by
    obtain ⟨v, hv, rv, r'⟩ := drop_cons r
    obtain ⟨t, ps, m, rfl, gt, rp⟩ := rep_tup rv
    refine codeAny_builtin entry_update_loop ?_
    rw [Around.under_plainId plain_update_loop _]
    show wpAny _ _ (pyNext (.ref I) >>= _) _ _ s
    refine wpAny_bind (wpAny_pyNext_list_item hI ⟨_, hs _ _ hax, rfl, n, rfl⟩ hv fun h1 hI1 hs1 => ?_)
    obtain ⟨u1, u2, e12, ru1, ru2⟩ := rep2 rp
    cases ru1 with | int _ tk0 =>
    have hs1' : Sub G h1 := fun a p e => hs1.extBut a _ (by rintro rfl; rw [hG.2] at e; cases e) (hs a p e)
    have ht := hs1' _ _ gt
    have hD1 := hD.sameBut hs1 hDI
    have hT : (({ s with heap := h1 } : Shared)).TypeIs (.ref t) "tuple" := ⟨_, ht, rfl⟩
    dsimp only
    refine wpAny_bind (wpAny_holding (wpAny_bind ?_))
    refine wpAny_tryCatch ?_
    unfold Builtin.Dict.pairItems
    refine wpAny_bind (wpAny_typeOf hT ?_)
    rw [if_pos (by decide)]
    refine wpAny_bind (wpAny_seqItems ht rfl (wpAny_pure ?_))
    show wpAny _ _ (match ps.toList with | [k, v] => holding [k, v] (dictSet D k v) | l => _) _ _ _
    rw [e12]
    refine wpAny_holding (wpAny_dictSet_pairs (intKey c k tk0) hD1 (fun h2 hD2 hs2 => ?_) (by simp at hz; omega))
    have hI2 : h2.IsListIter I ax (i + 1) := hI1.extBut hs2.extBut hDI.symm
    have hs2' : Sub G h2 := fun a p e => hs2.extBut a _ (by rintro rfl; rw [hG.1] at e; cases e) (hs1' a p e)
    refine wpAny_pure ⟨plainId_quiet plain_update_loop _, ?_⟩
    have ec : ((i : Int) + 1) = ((i + 1 : Nat) : Int) := by push_cast; rfl
    rw [ec]
    refine dict_loop hDI hG hax xs (i + 1) _ _ A R _ hh r' hs2' hD2 (hp.put ru2) hI2 ?_ (fun b o b1 b2 e => hs2.extBut b o b1 (hs1.extBut b o b2 (hk b o b1 b2 e))) fun h' tk acc2 hD' hp' hk' => hR h' tk acc2 hD' hp' hk'
    have : (stored acc k u2).length ≤ acc.length + 1 := by
      unfold stored; split
      · rw [List.length_map]; exact Nat.le_succ _
      · rw [List.length_append]; exact Nat.le_refl _
    simp at hz; omega
theorem Fn.dict {c : Cx} {k : Nat} {st : Store} {P : V → Store → Prop} {xs : List (Int × V)} (hz : xs.length ≤ sizeLine) (h : ∀ a, P (.ref a) ((a, .dI (xs.foldl (fun a p => vPut a p.1 p.2) [])) :: st)) : Fn c k (.type "dict") [.lst (xs.map pairV)] st P := by
  intro A G s us Q E hA H r hQ
  obtain ⟨u, rfl, ru⟩ := rep1 r
  obtain ⟨a, vs, n, rfl, g, rs⟩ := rep_lst ru
  refine callType_codes (Q₁ := fun obj s₁ => obj = .ref s.heap.objs.size ∧ s₁ = { s with heap := s.heap.push { cls := .type "dict", data := .dict #[] } }) F.kt_called_dict (F.kt_typeCall_dict_1 _) F.entry_dict_init (kt_code_dict_new _ ⟨rfl, rfl⟩) ?_
  rintro obj s₁ ⟨rfl, rfl⟩
  have hnew : (s.heap.push { cls := .type "dict", data := .dict #[] }).DictOf (intKind c.prog c.w) s.heap.objs.size [] := Heap.DictOf.new s.heap
  refine ⟨hnew.typeIs, F.args_dict_init_2 _ _, ?_⟩
  unfold Builtin.«dict.__init__»
  refine wpAny_bind ?_
  unfold Builtin.Dict.selfAndRest
  refine wpAny_bind (wpAny_notOrdered_dict hnew.typeIs ?_)
  show wpAny _ _ (pure (s.heap.objs.size, [Value.ref a])) _ _ _
  refine wpAny_pure ?_
  show wpAny _ _ (Builtin.Dict.updateFrom "dict.__init__" s.heap.objs.size (.ref a) [] .none) _ _ _
  unfold Builtin.Dict.updateFrom
  have hg := H.sub _ _ g
  have hg1 : (s.heap.push { cls := .type "dict", data := .dict #[] }).get? a = some { cls := .type "list", data := .seq vs n } := Heap.get?_push_of_some _ hg
  have hT : ({ s with heap := s.heap.push { cls := .type "dict", data := .dict #[] } } : Shared).TypeIs (.ref a) "list" := ⟨_, hg1, rfl⟩
  refine wpAny_bind (wpAny_typeOf hT ?_)
  rw [if_pos (by decide)]
  refine wpAny_bind (wp_noKeys hg1 hA.1 fun h1 tk1 hk1 => ?_)
  rw [if_pos (by rfl)]
  have hl1 : h1.IsList a vs := ⟨_, hk1 _ _ hg1, rfl, n, rfl⟩
  refine wpAny_bind (wpAny_rule (wpAny_bind (wpAny_pyIter_list hl1 ?_)))
  have ext : ∀ b o, s.heap.get? b = some o → h1.get? b = some o := fun b o e => hk1 b o (Heap.get?_push_of_some _ e)
  have hD1 : (h1.push { cls := .type "list_iterator", data := .fields #[.ref a, .int 0 0] }).DictOf (intKind c.prog c.w) s.heap.objs.size [] := by
    obtain ⟨o, es, ep, e, q⟩ := hnew
    exact ⟨o, es, ep, Heap.get?_push_of_some _ (hk1 _ _ e), q⟩
  have hDlt : s.heap.objs.size < h1.objs.size := by
    obtain ⟨o, es, ep, e, q⟩ := hnew
    exact Heap.lt_size (hk1 _ _ e)
  have Gn : ∀ b, s.heap.objs.size ≤ b → G b = none := fun b hb => by
    cases e : G b with
    | none => rfl
    | some p => exact absurd (Heap.lt_size (H.sub _ _ e)) (Nat.not_lt.mpr hb)
  refine wpAny_pure ⟨plainId_quiet plain_update_loop _, ?_⟩
  have up : ∀ b o, b ≠ s.heap.objs.size → b ≠ h1.objs.size → s.heap.get? b = some o → (h1.push { cls := .type "list_iterator", data := .fields #[.ref a, .int 0 0] }).get? b = some o := fun b o _ _ e => Heap.get?_push_of_some _ (ext b o e)
  refine dict_loop (c := c) (G := G) (D := s.heap.objs.size) (I := h1.objs.size) (ax := a) (vs := vs) (n := n) (Nat.ne_of_lt hDlt) ⟨Gn _ (Nat.le_refl _), Gn _ (Nat.le_of_lt hDlt)⟩ g (h₀ := s.heap) xs 0 [] [] A.in1 _ _ hA.1 (by simpa using rs) (fun b p e => Heap.get?_push_of_some _ (ext b _ (H.sub _ _ e))) hD1 .nil ⟨_, Heap.get?_push_size _ rfl, rfl, rfl⟩ (by simpa using hz) up fun h' tk acc2 hD' hp' hk' => ?_
  refine ⟨rfl, hQ _ _ G _ h' tk (h _) (.ref _) (Le.refl _) (H.new (m := .dI _) ⟨_, hD', hp'⟩ (fun b hb => ?_) (by simp [M.fp]) fun b o e => hk' b o (Nat.ne_of_lt (Heap.lt_size e)) (Nat.ne_of_lt (Nat.lt_trans (Heap.lt_size e) hDlt)) e)⟩
  rw [List.mem_singleton.mp (show b ∈ [s.heap.objs.size] from hb)]; exact fresh_none _
end Lay
end
section
open PySem PySem.SeqAt
namespace Lay

section
variable {c : Cx} {G G2 : Fz} {h h2 : Heap} {pre st st2 post : Store}
theorem fpS_three (a b d : Store) : fpS (a ++ (b ++ d)) = fpS a ++ (fpS b ++ fpS d) := by rw [fpS_append, fpS_append]
theorem HS.part (H : HS c G (pre ++ (st ++ post)) h) : (∀ b ∈ fpS pre ++ fpS post, G b = none ∧ b ∉ fpS st) ∧ HS c (keep G h (fpS pre ++ fpS post)) st h := by
  have nd := H.nod
  rw [fpS_three] at nd
  obtain ⟨_, n2, n3⟩ := List.nodup_append.mp nd
  obtain ⟨_, _, n4⟩ := List.nodup_append.mp n2
  have hL : ∀ b ∈ fpS pre ++ fpS post, G b = none ∧ b ∉ fpS st := by
    intro b hb
    rcases List.mem_append.mp hb with hb | hb
    · exact ⟨H.apart b (by rw [fpS_three]; exact List.mem_append.mpr (.inl hb)), fun hm => n3 b hb b (List.mem_append.mpr (.inl hm)) rfl⟩
    · exact ⟨H.apart b (by rw [fpS_three]; exact List.mem_append.mpr (.inr (List.mem_append.mpr (.inr hb)))), fun hm => n4 b hm b hb rfl⟩
  have hs : st.Sublist (pre ++ (st ++ post)) := (List.sublist_append_left st post).trans (List.sublist_append_right pre _)
  exact ⟨hL, (H.drop hs).keepL hL⟩
theorem HS.whole (H : HS c G (pre ++ (st ++ post)) h) (le : Le (keep G h (fpS pre ++ fpS post)) G2) (H2 : HS c G2 st2 h2) :
    Le G (unkeep G2 (fpS pre ++ fpS post)) ∧ SeqLe G2 (unkeep G2 (fpS pre ++ fpS post)) ∧ HS c (unkeep G2 (fpS pre ++ fpS post)) (pre ++ (st2 ++ post)) h2 := by
  obtain ⟨hL, _⟩ := H.part
  have hex : ∀ b ∈ fpS pre ++ fpS post, ∃ o, h.get? b = some o := fun b hb => H.there b (by
    rw [fpS_three]
    rcases List.mem_append.mp hb with hb | hb
    · exact List.mem_append.mpr (.inl hb)
    · exact List.mem_append.mpr (.inr (List.mem_append.mpr (.inr hb))))
  have hk := kept_of hex le
  have hk' : ∀ b ∈ fpS pre ++ fpS post, ∃ o, G2 b = some (false, o) := fun b hb => let ⟨o, _, e⟩ := hk b hb; ⟨o, e⟩
  have hle := unkeep_le (fun b hb => (hL b hb).1) le
  have H3 := H2.unkeepL hk'
  have nd := H.nod
  rw [fpS_three] at nd
  obtain ⟨n1, n2, n3⟩ := List.nodup_append.mp nd
  obtain ⟨_, n4, n5⟩ := List.nodup_append.mp n2
  have off : ∀ b ∈ fpS pre ++ fpS post, b ∉ fpS st2 := fun b hb hm => by obtain ⟨o, e⟩ := hk' b hb; rw [H2.apart b hm] at e; cases e
  have old : ∀ p ∈ pre ++ post, IsM c (unkeep G2 (fpS pre ++ fpS post)) h2 p.1 p.2 := by
    intro p hp
    have hfp : ∀ b ∈ p.2.fp p.1, b ∈ fpS pre ++ fpS post := fun b hb => by
      rcases List.mem_append.mp hp with hp | hp
      · exact List.mem_append.mpr (.inl (List.mem_flatMap.mpr ⟨p, hp, hb⟩))
      · exact List.mem_append.mpr (.inr (List.mem_flatMap.mpr ⟨p, hp, hb⟩))
    refine (H.objs p ?_).to hle.seq H3.sub fun b hb o e => kept_obj le H2.sub (hfp b hb) e
    rcases List.mem_append.mp hp with hp | hp
    · exact List.mem_append.mpr (.inl hp)
    · exact List.mem_append.mpr (.inr (List.mem_append.mpr (.inr hp)))
  refine ⟨hle, unkeep_seq hk', H3.sub, H3.base, fun p hp => ?_, ?_, fun b hb => ?_⟩
  · rcases List.mem_append.mp hp with hp | hp
    · exact old p (List.mem_append.mpr (.inl hp))
    · rcases List.mem_append.mp hp with hp | hp
      · exact H3.objs p hp
      · exact old p (List.mem_append.mpr (.inr hp))
  · rw [fpS_three]
    refine List.nodup_append.mpr ⟨n1, List.nodup_append.mpr ⟨H3.nod, n4, fun x hx y hy e => ?_⟩, fun x hx y hy e => ?_⟩
    · subst e; exact off x (List.mem_append.mpr (.inr hy)) hx
    · subst e
      rcases List.mem_append.mp hy with hy | hy
      · exact off x (List.mem_append.mpr (.inl hx)) hy
      · exact n3 x hx x (List.mem_append.mpr (.inr hy)) rfl
  · rw [fpS_three] at hb
    rcases List.mem_append.mp hb with hb | hb
    · exact unkeep_in (List.mem_append.mpr (.inl hb))
    · rcases List.mem_append.mp hb with hb | hb
      · exact H3.apart b hb
      · exact unkeep_in (List.mem_append.mpr (.inr hb))
end
theorem Fn.frame {c : Cx} {k : Nat} {g : Value} {xs : List V} {st : Store} {P : V → Store → Prop} (pre post : Store) (h : Fn c k g xs st P) : Fn c k g xs (pre ++ (st ++ post)) fun x st' => ∃ st1, st' = pre ++ (st1 ++ post) ∧ P x st1 := by
  intro A G s us Q E hA H r hQ
  obtain ⟨hL, H1⟩ := H.part
  have leK := keep_le (h := s.heap) fun b hb => (hL b hb).1
  refine h A _ s us Q E hA H1 (r.imp leK.seq) fun v x G' st' h' tk p rv le H' => ?_
  obtain ⟨le2, sq, H2⟩ := H.whole le H'
  exact hQ v x _ _ h' tk ⟨st', rfl, p⟩ (rv.imp sq) le2 H2
theorem FnC.frame {c : Cx} {k : Nat} {g : Value} {xs : List V} {st : Store} {P : V → Store → Prop} (pre post : Store) (h : FnC c k g xs st P) : FnC c k g xs (pre ++ (st ++ post)) fun x st' => ∃ st1, st' = pre ++ (st1 ++ post) ∧ P x st1 := by
  intro A G s us R hA H r hQ
  obtain ⟨hL, H1⟩ := H.part
  have leK := keep_le (h := s.heap) fun b hb => (hL b hb).1
  refine h A _ s us R hA H1 (r.imp leK.seq) fun v x G' st' h' tk p rv le H' => ?_
  obtain ⟨le2, sq, H2⟩ := H.whole le H'
  exact hQ v x _ _ h' tk ⟨st', rfl, p⟩ (rv.imp sq) le2 H2
end Lay
end
section
open PySem PySem.SeqAt
namespace Lay

section
variable {f : Fm} {st : Store} {P : Vars → Store → List V → Prop} {elt : Expr} {gens : List Comprehension} {scope : Scope} {pos : Pos} {d : Nat} {g : Comprehension}
theorem CLoop.each {α : Type} (enc : α → V) (keep : α → Bool) (out : α → V) (J : Vars → Prop) (hg : gens[d]? = some g) (hn : gens[d + 1]? = none) (h0 : g.is_async = 0) {xs : List α} {ys : List V} {vs : Vars}
    (h : ∀ a ∈ xs, ∀ vs, J vs → Asg f g.target (enc a) vs st fun vs1 => J vs1 ∧ Tests f g.ifs vs1 st fun ok st2 => ok = keep a ∧ st2 = st ∧ (keep a = true → Ev f elt vs1 st fun y st' => y = out a ∧ st' = st))
    (hz : ys.length + xs.length ≤ sizeLine) (hJ : J vs) (hP : ∀ vs', J vs' → P vs' st (ys ++ (xs.filter keep).map out)) : CLoop f (.ListComp elt gens scope pos) d g.target (xs.map enc) vs st ys P := by
  induction xs generalizing ys vs with
  | nil => exact CLoop.nil hg h0 (by simpa using hP vs hJ)
  | cons a xs ih =>
    refine CLoop.cons hg h0 (fun A G s u Q E hA r S hQ => h a List.mem_cons_self vs hJ A G s u Q E hA r S fun vs' h' tk p => hQ vs' h' tk ?_)
    obtain ⟨J1, T⟩ := p
    intro A G s Q E hA S hQ
    refine T A G s Q E hA S fun b G' st' h' tk p le S' => hQ b G' st' h' tk ?_ le S'
    obtain ⟨hb, hs, e⟩ := p
    subst hb hs
    have ih' := fun ys' hz' hP' => ih (ys := ys') (vs := vs') (fun b hb => h b (List.mem_cons_of_mem _ hb)) hz' J1 hP'
    cases hk : keep a with
    | true =>
      rw [if_pos rfl]
      unfold Emit
      rw [hn]
      refine (e hk).mono ?_
      rintro y st'' ⟨rfl, rfl⟩
      refine ⟨by simp at hz; omega, ih' _ (by simp at hz ⊢; omega) fun vs' J' => ?_⟩
      have := hP vs' J'
      rw [List.filter_cons_of_pos hk] at this
      simpa using this
    | false =>
      rw [if_neg Bool.false_ne_true]
      refine ih' ys (by simp at hz; omega) fun vs' J' => ?_
      have := hP vs' J'
      rw [List.filter_cons_of_neg (by rw [hk]; exact Bool.false_ne_true)] at this
      exact this
theorem CLoop.nest {α : Type} {g2 : Comprehension} (enc : α → V) (outs : α → List V) (J : Vars → Prop) (hg : gens[d]? = some g) (hn : gens[d + 1]? = some g2) (h0 : g.is_async = 0) (h2 : g2.is_async = 0) (hs : ∀ x, foldedSetIterable g2.iter f.env x = pure x) {xs : List α} {ys : List V} {vs : Vars}
    (h : ∀ a ∈ xs, ∀ vs, J vs → Asg f g.target (enc a) vs st fun vs1 => Tests f g.ifs vs1 st fun ok st2 => ok = true ∧ st2 = st ∧ ItE f g2.target g2.iter vs1 st fun zs st' => st' = st ∧ ∀ ys : List V, ys.length ≤ 1000 → CLoop f (.ListComp elt gens scope pos) (d + 1) g2.target zs vs1 st ys fun vs3 st3 ys3 => J vs3 ∧ st3 = st ∧ ys3 = ys ++ outs a)
    (hz : ys.length + (xs.flatMap outs).length ≤ 1000) (hJ : J vs) (hP : ∀ vs', J vs' → P vs' st (ys ++ xs.flatMap outs)) : CLoop f (.ListComp elt gens scope pos) d g.target (xs.map enc) vs st ys P := by
  induction xs generalizing ys vs with
  | nil => exact CLoop.nil hg h0 (by simpa using hP vs hJ)
  | cons a xs ih =>
    refine CLoop.cons hg h0 (fun A G s u Q E hA r S hQ => h a List.mem_cons_self vs hJ A G s u Q E hA r S fun vs' h' tk p => hQ vs' h' tk ?_)
    intro A G s Q E hA S hQ
    refine p A G s Q E hA S fun b G' st' h' tk p le S' => hQ b G' st' h' tk ?_ le S'
    obtain ⟨hb, hs', e⟩ := p
    subst hb hs'
    rw [if_pos rfl]
    unfold Emit
    rw [hn]
    refine ⟨h2, hs, fun A G s Q E hA S hQ => e A G s Q E hA S fun I L Si zs G' st2 h' tk q hI hS a' le S' => hQ I L Si zs G' st2 h' tk ?_ hI hS a' le S'⟩
    obtain ⟨hs2, q⟩ := q
    subst hs2
    rw [List.flatMap_cons, List.length_append] at hz
    refine (q ys (by omega)).mono ?_
    rintro vs3 st3 ys3 ⟨J3, e3, rfl⟩
    subst e3
    refine ih (fun b hb => h b (List.mem_cons_of_mem _ hb)) (by rw [List.length_append]; omega) J3 fun vs' J' => ?_
    have := hP vs' J'
    rw [List.flatMap_cons] at this
    simpa using this
end
end Lay
end
section
open PySem PySem.SeqAt
namespace Lay

theorem stoC {f : Fm} {x : Str} {k : Addr} (h1 : f.env.kindOf x = some .cell) (h2 : f.env.cells.lookup x = some k) (h3 : f.oc = ocOf f.env.cells) : Sto f x := .inr ⟨k, h1, h2, h3 ▸ mem_ocOf.mpr ⟨x, h2⟩⟩
section
variable {f : Fm} {P : Fl → Store → Prop} {target test : Expr} {body : List Stmt}
theorem Asg.mono {x : V} {vs : Vars} {st : Store} {P P' : Vars → Prop} (h : Asg f target x vs st P) (hp : ∀ vs, P vs → P' vs) : Asg f target x vs st P' :=
  fun A G s u Q E hA r S hQ => h A G s u Q E hA r S fun vs' h' tk p => hQ vs' h' tk (hp _ p)
theorem Loop.inv {α : Type} (enc : α → V) (J : List α → Vars → Store → Prop) {xs : List α} {vs : Vars} {st : Store}
    (step : ∀ pre a post vs st, xs = pre ++ a :: post → J pre vs st → Asg f target (enc a) vs st fun vs1 => Blk f body vs1 st fun y st2 => match y with | .next vs2 => J (pre ++ [a]) vs2 st2 | .cont vs2 => J (pre ++ [a]) vs2 st2 | .ret v => P (.ret v) st2)
    (h0 : J [] vs st) (fin : ∀ vs st, J xs vs st → P (.next vs) st) : Loop f target body (xs.map enc) vs st P := by
  have key : ∀ (post pre : List α) (vs : Vars) (st : Store), xs = pre ++ post → J pre vs st → Loop f target body (post.map enc) vs st P := by
    intro post
    induction post with
    | nil => intro pre vs st e j; exact Loop.nil (fin _ _ (by rw [e, List.append_nil]; exact j))
    | cons a post ih =>
      intro pre vs st e j
      refine Loop.cons ((step pre a post vs st e j).mono fun vs1 b => b.mono fun y st2 q => ?_)
      have e2 : xs = (pre ++ [a]) ++ post := by rw [e]; simp
      cases y with
      | next vs2 => exact ih _ _ _ e2 q
      | cont vs2 => exact ih _ _ _ e2 q
      | ret v => exact q
  exact key xs [] vs st rfl h0
theorem WLoop.inv (J : Nat → Vars → Store → Prop) (step : ∀ n vs st, J n vs st → Tst f test vs st fun b st1 => if b = true then Blk f body vs st1 fun y st2 => match y with | .next vs2 => ∃ m, m < n ∧ J m vs2 st2 | .cont vs2 => ∃ m, m < n ∧ J m vs2 st2 | .ret v => P (.ret v) st2 else P (.next vs) st1)
    {n : Nat} {vs : Vars} {st : Store} (h : J n vs st) : WLoop f test body vs st P := by
  induction n using Nat.strongRecOn generalizing vs st with
  | ind n ih =>
    refine WLoop.step ((step n vs st h).mono fun b st1 q => ?_)
    cases b with
    | true =>
      rw [if_pos rfl] at q ⊢
      refine q.mono fun y st2 q2 => ?_
      cases y with
      | next vs2 => obtain ⟨m, hm, j⟩ := q2; exact ih m hm j
      | cont vs2 => obtain ⟨m, hm, j⟩ := q2; exact ih m hm j
      | ret v => exact q2
    | false => rw [if_neg Bool.false_ne_true] at q ⊢; exact q
end
end Lay
end
section
open PySem PySem.SeqAt
namespace Lay

theorem iteT {a b : Prop} (h : a) : if true = true then a else b := by rw [if_pos rfl]; exact h
theorem iteF {a b : Prop} (h : b) : if false = true then a else b := by rw [if_neg Bool.false_ne_true]; exact h
theorem Ex.less {f : Fm} {vs : Vars} {st st' : Store} {P : Fl → Store → Prop} {t : Sem Flow} (hs : st'.Sublist st) (h : Ex f t vs st' P) : Ex f t vs st P := fun A G s Q E hA S hQ => h A G s Q E hA (S.drop hs) hQ
theorem Blk.less {f : Fm} {vs : Vars} {st st' : Store} {P : Fl → Store → Prop} {ts : List Stmt} (hs : st'.Sublist st) (h : Blk f ts vs st' P) : Blk f ts vs st P := Ex.less hs h
section
variable {f : Fm} {vs : Vars} {st : Store} {P : Fl → Store → Prop} {x0 x1 x2 : Str} {p0 p1 p2 tpos pos : Pos} {k : Nat} {e : Expr}
theorem sto2' {a b : Str} (h1 : Sto f a) (h2 : Sto f b) : ∀ x ∈ [a, b], Sto f x := fun x hx => by
  rcases List.mem_cons.mp hx with rfl | hx
  · exact h1
  · rw [List.mem_singleton.mp hx]; exact h2
theorem sto3' {a b d : Str} (h1 : Sto f a) (h2 : Sto f b) (h3 : Sto f d) : ∀ x ∈ [a, b, d], Sto f x := fun x hx => by
  rcases List.mem_cons.mp hx with rfl | hx
  · exact h1
  · exact sto2' h2 h3 x hx
theorem Stm.assignTs2 (h0 : Sto f x0) (h1 : Sto f x1) (h : Ev f e vs st fun v st' => ∃ y0 y1, v = .tup [y0, y1] ∧ P (.next ((vs.set x1 y1).set x0 y0)) st')
    (hs : swapsWithSole [.Tuple [.Name x0 p0, .Name x1 p1] k tpos] e pos.line f.env = pure false) (hw : swappedStores [.Tuple [.Name x0 p0, .Name x1 p1] k tpos] e f.env = pure (some [x0, x1])) :
    Stm f (.Assign [.Tuple [.Name x0 p0, .Name x1 p1] k tpos] e pos) vs st P :=
  Stm.assignTs (names := [x0, x1]) (sto2' h0 h1) (h.mono fun v st' ⟨y0, y1, e, p⟩ => ⟨[y0, y1], e, rfl, p⟩) hs hw
theorem Stm.assignTs3 (h0 : Sto f x0) (h1 : Sto f x1) (h2 : Sto f x2) (h : Ev f e vs st fun v st' => ∃ y0 y1 y2, v = .tup [y0, y1, y2] ∧ P (.next (((vs.set x2 y2).set x1 y1).set x0 y0)) st')
    (hs : swapsWithSole [.Tuple [.Name x0 p0, .Name x1 p1, .Name x2 p2] k tpos] e pos.line f.env = pure false) (hw : swappedStores [.Tuple [.Name x0 p0, .Name x1 p1, .Name x2 p2] k tpos] e f.env = pure (some [x0, x1, x2])) :
    Stm f (.Assign [.Tuple [.Name x0 p0, .Name x1 p1, .Name x2 p2] k tpos] e pos) vs st P :=
  Stm.assignTs (names := [x0, x1, x2]) (sto3' h0 h1 h2) (h.mono fun v st' ⟨y0, y1, y2, e, p⟩ => ⟨[y0, y1, y2], e, rfl, p⟩) hs hw
theorem Stm.assignT2 (h0 : Sto f x0) (h1 : Sto f x1) (h : Ev f e vs st fun v st' => ∃ y0 y1, v = .tup [y0, y1] ∧ P (.next ((vs.set x0 y0).set x1 y1)) st')
    (hs : swapsWithSole [.Tuple [.Name x0 p0, .Name x1 p1] k tpos] e pos.line f.env = pure false) (hw : swappedStores [.Tuple [.Name x0 p0, .Name x1 p1] k tpos] e f.env = pure none) :
    Stm f (.Assign [.Tuple [.Name x0 p0, .Name x1 p1] k tpos] e pos) vs st P :=
  Stm.assignT (names := [x0, x1]) (sto2' h0 h1) rfl rfl names2 (h.mono fun v st' ⟨y0, y1, e, p⟩ => ⟨[y0, y1], e, rfl, p⟩) hs hw
theorem Stm.assignT3 (h0 : Sto f x0) (h1 : Sto f x1) (h2 : Sto f x2) (h : Ev f e vs st fun v st' => ∃ y0 y1 y2, v = .tup [y0, y1, y2] ∧ P (.next (((vs.set x0 y0).set x1 y1).set x2 y2)) st')
    (hs : swapsWithSole [.Tuple [.Name x0 p0, .Name x1 p1, .Name x2 p2] k tpos] e pos.line f.env = pure false) (hw : swappedStores [.Tuple [.Name x0 p0, .Name x1 p1, .Name x2 p2] k tpos] e f.env = pure none) :
    Stm f (.Assign [.Tuple [.Name x0 p0, .Name x1 p1, .Name x2 p2] k tpos] e pos) vs st P :=
  Stm.assignT (names := [x0, x1, x2]) (sto3' h0 h1 h2) rfl rfl names3 (h.mono fun v st' ⟨y0, y1, y2, e, p⟩ => ⟨[y0, y1, y2], e, rfl, p⟩) hs hw
end
section
variable {f : Fm} {P : Vars → Store → List V → Prop} {elt : Expr} {gens : List Comprehension} {scope : Scope} {pos : Pos} {d : Nat} {g : Comprehension}
theorem CLoop.inv {α : Type} (enc : α → V) (J : List α → Vars → Store → List V → Prop) (hg : gens[d]? = some g) (hn : gens[d + 1]? = none) (h0 : g.is_async = 0) {xs : List α} {ys : List V} {vs : Vars} {st : Store}
    (step : ∀ pre a post vs st ys, xs = pre ++ a :: post → J pre vs st ys → Asg f g.target (enc a) vs st fun vs1 => Tests f g.ifs vs1 st fun ok st2 => ok = true ∧ Ev f elt vs1 st2 fun y st3 => ys.length ≤ sizeLine ∧ J (pre ++ [a]) vs1 st3 (ys ++ [y]))
    (h : J [] vs st ys) (hP : ∀ vs st ys, J xs vs st ys → P vs st ys) : CLoop f (.ListComp elt gens scope pos) d g.target (xs.map enc) vs st ys P := by
  have key : ∀ (post pre : List α) (vs : Vars) (st : Store) (ys : List V), xs = pre ++ post → J pre vs st ys → CLoop f (.ListComp elt gens scope pos) d g.target (post.map enc) vs st ys P := by
    intro post
    induction post with
    | nil => intro pre vs st ys e j; exact CLoop.nil hg h0 (hP _ _ _ (by rw [e, List.append_nil]; exact j))
    | cons a post ih =>
      intro pre vs st ys e j
      refine CLoop.cons hg h0 ((step pre a post vs st ys e j).mono fun vs1 T => ?_)
      intro A G s Q E hA S hQ
      refine T A G s Q E hA S fun b G' st' h' tk p le S' => hQ b G' st' h' tk ?_ le S'
      obtain ⟨hb, ev⟩ := p
      subst hb
      rw [if_pos rfl]
      unfold Emit
      rw [hn]
      refine ev.mono ?_
      rintro y st'' ⟨hz, j'⟩
      exact ⟨hz, ih (pre ++ [a]) _ _ _ (by rw [e]; simp) j'⟩
  exact key xs [] vs st ys rfl h
end
end Lay
end
section
namespace Lay

noncomputable abbrev Gt := Option (List Int)
noncomputable def litv (vs : List Bool) (p : Int) : Bool := vs.getD p.natAbs false == decide (0 < p)
noncomputable def gateV (told : Nat → Bool) (vs : List Bool) : Gt → Bool
  | none => told vs.length
  | some ps => ps.all (litv vs)
noncomputable def vals (told : Nat → Bool) (gs : List Gt) : List Bool := gs.foldl (fun vs g => vs ++ [gateV told vs g]) [false, true]
noncomputable def lit (told : Nat → Bool) (gs : List Gt) (p : Int) : Bool := litv (vals told gs) p
noncomputable def Ok (gs : List Gt) (p : Int) : Prop := p ≠ 0 ∧ p.natAbs < gs.length + 2
noncomputable def WF (gs : List Gt) : Prop := ∀ (i : Nat) (ps : List Int), gs[i]? = some (some ps) → ps.length ≤ 10 ∧ ∀ p ∈ ps, p ≠ 0 ∧ p.natAbs < i + 2

section
variable {told : Nat → Bool} {gs gs' : List Gt} {p : Int} {ps : List Int}
theorem vals_snoc (g : Gt) : vals told (gs ++ [g]) = vals told gs ++ [gateV told (vals told gs) g] := by
  unfold vals; rw [List.foldl_append]; rfl
theorem snoc_ind {P : List Gt → Prop} (h0 : P []) (h1 : ∀ gs g, P gs → P (gs ++ [g])) : ∀ gs, P gs := by
  intro gs
  have : ∀ n, ∀ gs : List Gt, gs.length = n → P gs := by
    intro n
    induction n with
    | zero => intro gs h; rw [List.length_eq_zero_iff.mp h]; exact h0
    | succ n ih =>
      intro gs h
      have e : gs = gs.take n ++ [gs[n]'(by omega)] := by
        have := List.take_append_drop n gs
        rw [List.drop_eq_getElem_cons (show n < gs.length by omega), List.drop_of_length_le (show gs.length ≤ n + 1 by omega)] at this
        exact this.symm
      rw [e]
      exact h1 _ _ (ih _ (by rw [List.length_take]; omega))
  exact this _ gs rfl
theorem vals_length : (vals told gs).length = gs.length + 2 := by
  induction gs using snoc_ind with
  | h0 => rfl
  | h1 gs g ih => rw [vals_snoc, List.length_append, ih, List.length_append]; simp
theorem vals_app (more : List Gt) : ∃ vs, vals told (gs ++ more) = vals told gs ++ vs := by
  induction more using snoc_ind with
  | h0 => exact ⟨[], by simp⟩
  | h1 more g ih =>
    obtain ⟨vs, e⟩ := ih
    rw [← List.append_assoc, vals_snoc, e]
    exact ⟨vs ++ [gateV told (vals told gs ++ vs) g], by simp⟩
theorem vals_get (more : List Gt) {i : Nat} (h : i < gs.length + 2) : (vals told (gs ++ more)).getD i false = (vals told gs).getD i false := by
  obtain ⟨vs, e⟩ := vals_app (told := told) (gs := gs) more
  rw [e]
  simp [List.getD, List.getElem?_append_left (show i < (vals told gs).length by rw [vals_length]; exact h)]
theorem Ok.mono (h : Ok gs p) (hp : gs <+: gs') : Ok gs' p := by
  obtain ⟨more, rfl⟩ := hp
  exact ⟨h.1, by rw [List.length_append]; have := h.2; omega⟩
theorem lit_mono (h : Ok gs p) (hp : gs <+: gs') : lit told gs' p = lit told gs p := by
  obtain ⟨more, rfl⟩ := hp
  unfold lit litv
  rw [vals_get more h.2]
theorem Ok.neg (h : Ok gs p) : Ok gs (-p) := ⟨by have := h.1; omega, by rw [Int.natAbs_neg]; exact h.2⟩
theorem Ok.one : Ok gs 1 := ⟨by decide, by show 1 < _; omega⟩
theorem lit_neg (h : p ≠ 0) : lit told gs (-p) = !lit told gs p := by
  unfold lit litv
  rw [Int.natAbs_neg]
  by_cases hp : 0 < p
  · rw [decide_eq_true hp, decide_eq_false (by omega)]; cases (vals told gs).getD p.natAbs false <;> rfl
  · rw [decide_eq_false hp, decide_eq_true (by omega)]; cases (vals told gs).getD p.natAbs false <;> rfl
theorem lit_one : lit told gs 1 = true := by
  have h : (vals told gs).getD 1 false = (vals told []).getD 1 false := by
    have := vals_get (told := told) (gs := []) gs (i := 1) (by simp)
    simpa using this
  unfold lit litv
  show ((vals told gs).getD 1 false == decide ((0 : Int) < 1)) = true
  rw [h]; rfl
theorem lit_m1 : lit told gs (-1) = false := by rw [lit_neg (by decide), lit_one]; rfl
theorem lit_new (g : Gt) : lit told (gs ++ [g]) ((gs.length : Int) + 2) = gateV told (vals told gs) g := by
  have e : ((gs.length : Int) + 2).natAbs = gs.length + 2 := by omega
  unfold lit litv
  rw [e, vals_snoc, decide_eq_true (by omega : (0 : Int) < gs.length + 2)]
  have : (vals told gs ++ [gateV told (vals told gs) g]).getD (gs.length + 2) false = gateV told (vals told gs) g := by
    simp [List.getD, ← vals_length (told := told) (gs := gs)]
  rw [this]
  cases gateV told (vals told gs) g <;> rfl
theorem lit_at {i : Nat} (hW : WF gs) (h : gs[i]? = some (some ps)) : lit told gs ((i : Int) + 2) = ps.all (lit told gs) := by
  have hlt := (List.getElem?_eq_some_iff.mp h).1
  have e : gs = gs.take i ++ ([some ps] ++ gs.drop (i + 1)) := by
    have h1 : gs.drop i = some ps :: gs.drop (i + 1) := by
      rw [List.drop_eq_getElem_cons hlt, (List.getElem?_eq_some_iff.mp h).2]
    calc gs = gs.take i ++ gs.drop i := (List.take_append_drop i gs).symm
      _ = _ := by rw [h1]; rfl
  have hl : (gs.take i).length = i := by rw [List.length_take]; omega
  have pre1 : gs.take i ++ [some ps] <+: gs := ⟨gs.drop (i + 1), by rw [List.append_assoc]; exact e.symm⟩
  have pre0 : gs.take i <+: gs := List.take_prefix i gs
  have k1 := lit_new (told := told) (gs := gs.take i) (some ps)
  rw [hl] at k1
  rw [← lit_mono (gs' := gs) ⟨by omega, by rw [List.length_append, hl]; simp; omega⟩ pre1] at k1
  rw [k1]
  show ps.all (lit told (gs.take i)) = _
  rw [Bool.eq_iff_iff, List.all_eq_true, List.all_eq_true]
  have hk : ∀ p ∈ ps, lit told gs p = lit told (gs.take i) p := fun p hp => lit_mono ⟨((hW i ps h).2 p hp).1, by rw [hl]; exact ((hW i ps h).2 p hp).2⟩ pre0
  exact ⟨fun q p hp => by rw [hk p hp]; exact q p hp, fun q p hp => by rw [← hk p hp]; exact q p hp⟩
theorem WF.nil : WF [] := fun i ps h => by simp at h
theorem WF.input (h : WF gs) : WF (gs ++ [none]) := fun i ps e => by
  by_cases hi : i < gs.length
  · rw [List.getElem?_append_left hi] at e; exact h i ps e
  · rw [List.getElem?_append_right (by omega)] at e
    cases hx : i - gs.length with
    | zero => rw [hx] at e; simp at e
    | succ n => rw [hx] at e; simp at e
theorem WF.and (h : WF gs) (hz : ps.length ≤ 10) (hp : ∀ p ∈ ps, Ok gs p) : WF (gs ++ [some ps]) := fun i qs e => by
  by_cases hi : i < gs.length
  · rw [List.getElem?_append_left hi] at e; exact h i qs e
  · rw [List.getElem?_append_right (by omega)] at e
    cases hx : i - gs.length with
    | zero =>
      rw [hx] at e; simp at e; subst e
      refine ⟨hz, fun p hp' => ?_⟩
      have := hp p hp'
      exact ⟨this.1, by have := this.2; omega⟩
    | succ n => rw [hx] at e; simp at e
end

noncomputable def knownL : List Gt → Nat → List (List Int × Nat)
  | [], _ => []
  | none :: r, i => knownL r (i + 1)
  | some ps :: r, i => (ps, i) :: knownL r (i + 1)
theorem knownL_app : ∀ (gs more : List Gt) (i : Nat), knownL (gs ++ more) i = knownL gs i ++ knownL more (i + gs.length)
  | [], more, i => by simp [knownL]
  | none :: r, more, i => by
    show knownL (r ++ more) (i + 1) = knownL r (i + 1) ++ _
    rw [knownL_app r more (i + 1), List.length_cons]; congr 2; omega
  | some ps :: r, more, i => by
    show (ps, i) :: knownL (r ++ more) (i + 1) = (ps, i) :: knownL r (i + 1) ++ _
    rw [knownL_app r more (i + 1), List.length_cons]; simp; congr 1; omega
theorem knownL_len : ∀ (gs : List Gt) (i : Nat), (knownL gs i).length ≤ gs.length
  | [], i => by simp [knownL]
  | none :: r, i => by show (knownL r (i + 1)).length ≤ _; have := knownL_len r (i + 1); simp; omega
  | some ps :: r, i => by show (knownL r (i + 1)).length + 1 ≤ _; have := knownL_len r (i + 1); simp; omega
theorem knownL_mem : ∀ {gs : List Gt} {i : Nat} {kv : List Int × Nat}, kv ∈ knownL gs i → i ≤ kv.2 ∧ gs[kv.2 - i]? = some (some kv.1)
  | [], i, kv, h => by simp [knownL] at h
  | none :: r, i, kv, h => by
    obtain ⟨h1, h2⟩ := knownL_mem (gs := r) (i := i + 1) h
    refine ⟨by omega, ?_⟩
    have e : kv.2 - i = (kv.2 - (i + 1)) + 1 := by omega
    rw [e]; simpa using h2
  | some ps :: r, i, kv, h => by
    rcases List.mem_cons.mp (show kv ∈ (ps, i) :: knownL r (i + 1) from h) with rfl | h
    · exact ⟨Nat.le_refl _, by simp⟩
    · obtain ⟨h1, h2⟩ := knownL_mem (gs := r) (i := i + 1) h
      refine ⟨by omega, ?_⟩
      have e : kv.2 - i = (kv.2 - (i + 1)) + 1 := by omega
      rw [e]; simpa using h2
end Lay
end
section
open PySem PySem.W PyProof.Rows
namespace Lay
noncomputable def prT : Program := PySem.Challenge.rw_nu0268_01.row.prog
noncomputable def vwT : Program := view prT [0, 2, 3, 6, 7, 9, 10, 11, 12, 13, 14]
noncomputable def fnOf : Option Stmt → Arguments × List Stmt × Scope
  | some (.FunctionDef _ ps b _ _ _ sc _ _ _) => (ps, b, sc)
  | _ => (⟨[], [], none, [], [], none, []⟩, [], prT.main.scope)
noncomputable def clOf : Option Stmt → List Stmt
  | some (.ClassDef _ _ _ b _ _ _ _ _ _ _) => b
  | _ => []
noncomputable def defT (i : Nat) := fnOf prT.main.body[i]?
noncomputable def defM (i j : Nat) := fnOf (clOf prT.main.body[i]?)[j]?
noncomputable def kh (P : Params) : Frag :=
  [(2, { cls := Value.none, data := .dict #[] }),
  (3, { cls := Value.type "dict", data := .dict #[{ hash := PyData.keyHash P (.ofString "__name__"), key := Value.str (.ofString "__name__") 165, val := Value.str (.ofString "law_nu0268_01") 408 }, { hash := PyData.keyHash P (.ofString "__doc__"), key := Value.str (.ofString "__doc__") 166, val := Value.none }, { hash := PyData.keyHash P (.ofString "__package__"), key := Value.str (.ofString "__package__") 167, val := Value.none }, { hash := PyData.keyHash P (.ofString "__loader__"), key := Value.str (.ofString "__loader__") 168, val := Value.builtin "__main__.__loader__#opaque" }, { hash := PyData.keyHash P (.ofString "__spec__"), key := Value.str (.ofString "__spec__") 169, val := Value.none }, { hash := PyData.keyHash P (.ofString "__annotations__"), key := Value.str (.ofString "__annotations__") 170, val := Value.ref 6 }, { hash := PyData.keyHash P (.ofString "__builtins__"), key := Value.str (.ofString "__builtins__") 171, val := Value.ref 4 }, { hash := PyData.keyHash P (.ofString "__file__"), key := Value.str (.ofString "__file__") 173, val := Value.str (.ofString "/claim/cut.py") 172 }, { hash := PyData.keyHash P (.ofString "__cached__"), key := Value.str (.ofString "__cached__") 174, val := Value.none }, { hash := PyData.keyHash P (.ofString "_wall"), key := Value.str (.ofString "_wall") 193, val := Value.ref 21 }, { hash := PyData.keyHash P (.ofString "exchanged_pairs"), key := Value.str (.ofString "exchanged_pairs") 201, val := Value.ref 26 }, { hash := PyData.keyHash P (.ofString "not_above"), key := Value.str (.ofString "not_above") 212, val := Value.ref 33 }, { hash := PyData.keyHash P (.ofString "leader"), key := Value.str (.ofString "leader") 227, val := Value.ref 41 }, { hash := PyData.keyHash P (.ofString "Circuit"), key := Value.str (.ofString "Circuit") 372, val := Value.ref 149 }, { hash := PyData.keyHash P (.ofString "Reading"), key := Value.str (.ofString "Reading") 407, val := Value.ref 175 }, { hash := PyData.keyHash P (.ofString "_law_draw"), key := Value.str (.ofString "_law_draw") 418, val := Value.ref 186 }, { hash := PyData.keyHash P (.ofString "_law_places"), key := Value.str (.ofString "_law_places") 424, val := Value.ref 191 }, { hash := PyData.keyHash P (.ofString "_law_turn"), key := Value.str (.ofString "_law_turn") 430, val := Value.ref 196 }, { hash := PyData.keyHash P (.ofString "_law_orbit"), key := Value.str (.ofString "_law_orbit") 436, val := Value.ref 201 }, { hash := PyData.keyHash P (.ofString "_law_is_first"), key := Value.str (.ofString "_law_is_first") 442, val := Value.ref 206 }, { hash := PyData.keyHash P (.ofString "law"), key := Value.str (.ofString "law") 448, val := Value.ref 211 }] 21 }),
  (15, { cls := Value.type "tuple", data := .seq #[] }),
  (17, { cls := Value.type "tuple", data := .seq #[Value.str (.ofString "k") 190] }),
  (18, { cls := Value.type "tuple", data := .seq #[] }),
  (20, { cls := Value.type "code", data := .fields #[Value.str (.ofString "_wall") 187, Value.str (.ofString "_wall") 188, Value.str (.ofString "/claim/cut.py") 189, Value.int 1 0, Value.int 1 0, Value.int 0 0, Value.int 0 0, Value.int 3 0, Value.ref 15, Value.bool true, Value.int 181 0, Value.ref 16, Value.none, Value.ref 17, Value.ref 18, Value.ref 19, Value.int 191 0, Value.int 1 0, Value.str (.ofString "/claim/cut.py") 192] }),
  (21, { cls := Value.type "function", data := .func { name := .ofString "_wall", qualname := .ofString "_wall", params := (defT 0).1, body := .stmts (defT 0).2.1, scope := (defT 0).2.2, globals := 3, closure := [], defaults := Value.none, kwdefaults := Value.none, pyModule := Value.str (.ofString "__main__") 164, code := Value.ref 20 } }),
  (22, { cls := Value.type "tuple", data := .seq #[] }),
  (25, { cls := Value.type "code", data := .fields #[Value.str (.ofString "exchanged_pairs") 196, Value.str (.ofString "exchanged_pairs") 197, Value.str (.ofString "/claim/cut.py") 198, Value.int 5 0, Value.int 3 0, Value.int 0 0, Value.int 0 0, Value.int 3 0, Value.ref 22, Value.bool true, Value.int 181 0, Value.ref 23, Value.none, Value.none, Value.none, Value.ref 24, Value.int 199 0, Value.int 5 0, Value.str (.ofString "/claim/cut.py") 200] }),
  (26, { cls := Value.type "function", data := .func { name := .ofString "exchanged_pairs", qualname := .ofString "exchanged_pairs", params := (defT 2).1, body := .stmts (defT 2).2.1, scope := (defT 2).2.2, globals := 3, closure := [], defaults := Value.none, kwdefaults := Value.none, pyModule := Value.str (.ofString "relfinder.symmetry") 194, code := Value.ref 25 } }),
  (27, { cls := Value.type "tuple", data := .seq #[] }),
  (29, { cls := Value.type "tuple", data := .seq #[Value.str (.ofString "circuit") 205, Value.str (.ofString "pairs") 206, Value.str (.ofString "found") 207, Value.str (.ofString "one") 208, Value.str (.ofString "other") 209] }),
  (30, { cls := Value.type "tuple", data := .seq #[] }),
  (32, { cls := Value.type "code", data := .fields #[Value.str (.ofString "not_above") 202, Value.str (.ofString "not_above") 203, Value.str (.ofString "/claim/cut.py") 204, Value.int 16 0, Value.int 2 0, Value.int 0 0, Value.int 0 0, Value.int 3 0, Value.ref 27, Value.bool true, Value.int 181 0, Value.ref 28, Value.none, Value.ref 29, Value.ref 30, Value.ref 31, Value.int 210 0, Value.int 16 0, Value.str (.ofString "/claim/cut.py") 211] }),
  (33, { cls := Value.type "function", data := .func { name := .ofString "not_above", qualname := .ofString "not_above", params := (defT 3).1, body := .stmts (defT 3).2.1, scope := (defT 3).2.2, globals := 3, closure := [], defaults := Value.none, kwdefaults := Value.none, pyModule := Value.str (.ofString "relfinder.symmetry") 194, code := Value.ref 32 } }),
  (34, { cls := Value.type "tuple", data := .seq #[Value.none] }),
  (35, { cls := Value.type "tuple", data := .seq #[] }),
  (37, { cls := Value.type "tuple", data := .seq #[Value.str (.ofString "circuit") 216, Value.str (.ofString "inputs") 217, Value.str (.ofString "parts") 218, Value.str (.ofString "most") 219, Value.str (.ofString "found") 220, Value.str (.ofString "part") 221, Value.str (.ofString "a") 222, Value.str (.ofString "b") 223, Value.str (.ofString "pairs") 224] }),
  (38, { cls := Value.type "tuple", data := .seq #[] }),
  (40, { cls := Value.type "code", data := .fields #[Value.str (.ofString "leader") 213, Value.str (.ofString "leader") 214, Value.str (.ofString "/claim/cut.py") 215, Value.int 21 0, Value.int 4 0, Value.int 0 0, Value.int 0 0, Value.int 3 0, Value.ref 35, Value.bool true, Value.int 181 0, Value.ref 36, Value.none, Value.ref 37, Value.ref 38, Value.ref 39, Value.int 225 0, Value.int 21 0, Value.str (.ofString "/claim/cut.py") 226] }),
  (41, { cls := Value.type "function", data := .func { name := .ofString "leader", qualname := .ofString "leader", params := (defT 4).1, body := .stmts (defT 4).2.1, scope := (defT 4).2.2, globals := 3, closure := [], defaults := Value.ref 34, kwdefaults := Value.none, pyModule := Value.str (.ofString "relfinder.symmetry") 194, code := Value.ref 40 } }),
  (49, { cls := Value.type "tuple", data := .seq #[] }),
  (51, { cls := Value.type "tuple", data := .seq #[Value.str (.ofString "self") 245] }),
  (52, { cls := Value.type "tuple", data := .seq #[] }),
  (54, { cls := Value.type "code", data := .fields #[Value.str (.ofString "__init__") 242, Value.str (.ofString "Circuit.__init__") 243, Value.str (.ofString "/claim/cut.py") 244, Value.int 31 0, Value.int 1 0, Value.int 0 0, Value.int 0 0, Value.int 3 0, Value.ref 49, Value.bool true, Value.int 181 0, Value.ref 50, Value.none, Value.ref 51, Value.ref 52, Value.ref 53, Value.int 246 0, Value.int 31 0, Value.str (.ofString "/claim/cut.py") 247] }),
  (55, { cls := Value.type "function", data := .func { name := .ofString "__init__", qualname := .ofString "Circuit.__init__", params := (defM 6 0).1, body := .stmts (defM 6 0).2.1, scope := (defM 6 0).2.2, globals := 3, closure := [], defaults := Value.none, kwdefaults := Value.none, pyModule := Value.str (.ofString "relfinder.circuit") 228, code := Value.ref 54 } }),
  (56, { cls := Value.type "tuple", data := .seq #[] }),
  (58, { cls := Value.type "tuple", data := .seq #[Value.str (.ofString "self") 252] }),
  (59, { cls := Value.type "tuple", data := .seq #[] }),
  (61, { cls := Value.type "code", data := .fields #[Value.str (.ofString "size") 249, Value.str (.ofString "Circuit.size") 250, Value.str (.ofString "/claim/cut.py") 251, Value.int 36 0, Value.int 1 0, Value.int 0 0, Value.int 0 0, Value.int 3 0, Value.ref 56, Value.bool true, Value.int 181 0, Value.ref 57, Value.none, Value.ref 58, Value.ref 59, Value.ref 60, Value.int 253 0, Value.int 36 0, Value.str (.ofString "/claim/cut.py") 254] }),
  (62, { cls := Value.type "function", data := .func { name := .ofString "size", qualname := .ofString "Circuit.size", params := (defM 6 1).1, body := .stmts (defM 6 1).2.1, scope := (defM 6 1).2.2, globals := 3, closure := [], defaults := Value.none, kwdefaults := Value.none, pyModule := Value.str (.ofString "relfinder.circuit") 228, code := Value.ref 61 } }),
  (63, { cls := Value.type "tuple", data := .seq #[] }),
  (65, { cls := Value.type "tuple", data := .seq #[Value.str (.ofString "self") 259, Value.str (.ofString "g") 260] }),
  (66, { cls := Value.type "tuple", data := .seq #[] }),
  (68, { cls := Value.type "code", data := .fields #[Value.str (.ofString "kind") 256, Value.str (.ofString "Circuit.kind") 257, Value.str (.ofString "/claim/cut.py") 258, Value.int 39 0, Value.int 2 0, Value.int 0 0, Value.int 0 0, Value.int 3 0, Value.ref 63, Value.bool true, Value.int 181 0, Value.ref 64, Value.none, Value.ref 65, Value.ref 66, Value.ref 67, Value.int 261 0, Value.int 39 0, Value.str (.ofString "/claim/cut.py") 262] }),
  (69, { cls := Value.type "function", data := .func { name := .ofString "kind", qualname := .ofString "Circuit.kind", params := (defM 6 2).1, body := .stmts (defM 6 2).2.1, scope := (defM 6 2).2.2, globals := 3, closure := [], defaults := Value.none, kwdefaults := Value.none, pyModule := Value.str (.ofString "relfinder.circuit") 228, code := Value.ref 68 } }),
  (70, { cls := Value.type "tuple", data := .seq #[] }),
  (72, { cls := Value.type "tuple", data := .seq #[Value.str (.ofString "self") 267, Value.str (.ofString "g") 268] }),
  (73, { cls := Value.type "tuple", data := .seq #[] }),
  (75, { cls := Value.type "code", data := .fields #[Value.str (.ofString "parts") 264, Value.str (.ofString "Circuit.parts") 265, Value.str (.ofString "/claim/cut.py") 266, Value.int 42 0, Value.int 2 0, Value.int 0 0, Value.int 0 0, Value.int 3 0, Value.ref 70, Value.bool true, Value.int 181 0, Value.ref 71, Value.none, Value.ref 72, Value.ref 73, Value.ref 74, Value.int 269 0, Value.int 42 0, Value.str (.ofString "/claim/cut.py") 270] }),
  (76, { cls := Value.type "function", data := .func { name := .ofString "parts", qualname := .ofString "Circuit.parts", params := (defM 6 3).1, body := .stmts (defM 6 3).2.1, scope := (defM 6 3).2.2, globals := 3, closure := [], defaults := Value.none, kwdefaults := Value.none, pyModule := Value.str (.ofString "relfinder.circuit") 228, code := Value.ref 75 } }),
  (77, { cls := Value.type "tuple", data := .seq #[] }),
  (79, { cls := Value.type "tuple", data := .seq #[Value.str (.ofString "self") 275, Value.str (.ofString "kind") 276, Value.str (.ofString "parts") 277] }),
  (80, { cls := Value.type "tuple", data := .seq #[] }),
  (82, { cls := Value.type "code", data := .fields #[Value.str (.ofString "new_gate") 272, Value.str (.ofString "Circuit.new_gate") 273, Value.str (.ofString "/claim/cut.py") 274, Value.int 45 0, Value.int 3 0, Value.int 0 0, Value.int 0 0, Value.int 3 0, Value.ref 77, Value.bool true, Value.int 181 0, Value.ref 78, Value.none, Value.ref 79, Value.ref 80, Value.ref 81, Value.int 278 0, Value.int 45 0, Value.str (.ofString "/claim/cut.py") 279] }),
  (83, { cls := Value.type "function", data := .func { name := .ofString "new_gate", qualname := .ofString "Circuit.new_gate", params := (defM 6 4).1, body := .stmts (defM 6 4).2.1, scope := (defM 6 4).2.2, globals := 3, closure := [], defaults := Value.none, kwdefaults := Value.none, pyModule := Value.str (.ofString "relfinder.circuit") 228, code := Value.ref 82 } }),
  (84, { cls := Value.type "tuple", data := .seq #[] }),
  (86, { cls := Value.type "tuple", data := .seq #[Value.str (.ofString "self") 284] }),
  (87, { cls := Value.type "tuple", data := .seq #[] }),
  (89, { cls := Value.type "code", data := .fields #[Value.str (.ofString "new_input") 281, Value.str (.ofString "Circuit.new_input") 282, Value.str (.ofString "/claim/cut.py") 283, Value.int 50 0, Value.int 1 0, Value.int 0 0, Value.int 0 0, Value.int 3 0, Value.ref 84, Value.bool true, Value.int 181 0, Value.ref 85, Value.none, Value.ref 86, Value.ref 87, Value.ref 88, Value.int 285 0, Value.int 50 0, Value.str (.ofString "/claim/cut.py") 286] }),
  (90, { cls := Value.type "function", data := .func { name := .ofString "new_input", qualname := .ofString "Circuit.new_input", params := (defM 6 5).1, body := .stmts (defM 6 5).2.1, scope := (defM 6 5).2.2, globals := 3, closure := [], defaults := Value.none, kwdefaults := Value.none, pyModule := Value.str (.ofString "relfinder.circuit") 228, code := Value.ref 89 } }),
  (91, { cls := Value.type "tuple", data := .seq #[] }),
  (93, { cls := Value.type "tuple", data := .seq #[Value.str (.ofString "self") 291, Value.str (.ofString "gates") 292, Value.str (.ofString "found") 293, Value.str (.ofString "g") 294, Value.str (.ofString "parts") 295] }),
  (94, { cls := Value.type "tuple", data := .seq #[] }),
  (96, { cls := Value.type "code", data := .fields #[Value.str (.ofString "all_of") 288, Value.str (.ofString "Circuit.all_of") 289, Value.str (.ofString "/claim/cut.py") 290, Value.int 53 0, Value.int 2 0, Value.int 0 0, Value.int 0 0, Value.int 3 0, Value.ref 91, Value.bool true, Value.int 181 0, Value.ref 92, Value.none, Value.ref 93, Value.ref 94, Value.ref 95, Value.int 296 0, Value.int 53 0, Value.str (.ofString "/claim/cut.py") 297] }),
  (97, { cls := Value.type "function", data := .func { name := .ofString "all_of", qualname := .ofString "Circuit.all_of", params := (defM 6 6).1, body := .stmts (defM 6 6).2.1, scope := (defM 6 6).2.2, globals := 3, closure := [], defaults := Value.none, kwdefaults := Value.none, pyModule := Value.str (.ofString "relfinder.circuit") 228, code := Value.ref 96 } }),
  (98, { cls := Value.type "tuple", data := .seq #[] }),
  (100, { cls := Value.type "tuple", data := .seq #[Value.str (.ofString "self") 302, Value.str (.ofString "gates") 303] }),
  (101, { cls := Value.type "tuple", data := .seq #[] }),
  (103, { cls := Value.type "code", data := .fields #[Value.str (.ofString "any_of") 299, Value.str (.ofString "Circuit.any_of") 300, Value.str (.ofString "/claim/cut.py") 301, Value.int 67 0, Value.int 2 0, Value.int 0 0, Value.int 0 0, Value.int 3 0, Value.ref 98, Value.bool true, Value.int 181 0, Value.ref 99, Value.none, Value.ref 100, Value.ref 101, Value.ref 102, Value.int 304 0, Value.int 67 0, Value.str (.ofString "/claim/cut.py") 305] }),
  (104, { cls := Value.type "function", data := .func { name := .ofString "any_of", qualname := .ofString "Circuit.any_of", params := (defM 6 7).1, body := .stmts (defM 6 7).2.1, scope := (defM 6 7).2.2, globals := 3, closure := [], defaults := Value.none, kwdefaults := Value.none, pyModule := Value.str (.ofString "relfinder.circuit") 228, code := Value.ref 103 } }),
  (105, { cls := Value.type "tuple", data := .seq #[] }),
  (107, { cls := Value.type "tuple", data := .seq #[Value.str (.ofString "self") 310, Value.str (.ofString "a") 311, Value.str (.ofString "b") 312] }),
  (108, { cls := Value.type "tuple", data := .seq #[] }),
  (110, { cls := Value.type "code", data := .fields #[Value.str (.ofString "both") 307, Value.str (.ofString "Circuit.both") 308, Value.str (.ofString "/claim/cut.py") 309, Value.int 70 0, Value.int 3 0, Value.int 0 0, Value.int 0 0, Value.int 3 0, Value.ref 105, Value.bool true, Value.int 181 0, Value.ref 106, Value.none, Value.ref 107, Value.ref 108, Value.ref 109, Value.int 313 0, Value.int 70 0, Value.str (.ofString "/claim/cut.py") 314] }),
  (111, { cls := Value.type "function", data := .func { name := .ofString "both", qualname := .ofString "Circuit.both", params := (defM 6 8).1, body := .stmts (defM 6 8).2.1, scope := (defM 6 8).2.2, globals := 3, closure := [], defaults := Value.none, kwdefaults := Value.none, pyModule := Value.str (.ofString "relfinder.circuit") 228, code := Value.ref 110 } }),
  (112, { cls := Value.type "tuple", data := .seq #[] }),
  (114, { cls := Value.type "tuple", data := .seq #[Value.str (.ofString "self") 319, Value.str (.ofString "a") 320, Value.str (.ofString "b") 321] }),
  (115, { cls := Value.type "tuple", data := .seq #[] }),
  (117, { cls := Value.type "code", data := .fields #[Value.str (.ofString "either") 316, Value.str (.ofString "Circuit.either") 317, Value.str (.ofString "/claim/cut.py") 318, Value.int 73 0, Value.int 3 0, Value.int 0 0, Value.int 0 0, Value.int 3 0, Value.ref 112, Value.bool true, Value.int 181 0, Value.ref 113, Value.none, Value.ref 114, Value.ref 115, Value.ref 116, Value.int 322 0, Value.int 73 0, Value.str (.ofString "/claim/cut.py") 323] }),
  (118, { cls := Value.type "function", data := .func { name := .ofString "either", qualname := .ofString "Circuit.either", params := (defM 6 9).1, body := .stmts (defM 6 9).2.1, scope := (defM 6 9).2.2, globals := 3, closure := [], defaults := Value.none, kwdefaults := Value.none, pyModule := Value.str (.ofString "relfinder.circuit") 228, code := Value.ref 117 } }),
  (119, { cls := Value.type "tuple", data := .seq #[] }),
  (121, { cls := Value.type "tuple", data := .seq #[Value.str (.ofString "self") 328, Value.str (.ofString "a") 329, Value.str (.ofString "b") 330] }),
  (122, { cls := Value.type "tuple", data := .seq #[] }),
  (124, { cls := Value.type "code", data := .fields #[Value.str (.ofString "implies") 325, Value.str (.ofString "Circuit.implies") 326, Value.str (.ofString "/claim/cut.py") 327, Value.int 76 0, Value.int 3 0, Value.int 0 0, Value.int 0 0, Value.int 3 0, Value.ref 119, Value.bool true, Value.int 181 0, Value.ref 120, Value.none, Value.ref 121, Value.ref 122, Value.ref 123, Value.int 331 0, Value.int 76 0, Value.str (.ofString "/claim/cut.py") 332] }),
  (125, { cls := Value.type "function", data := .func { name := .ofString "implies", qualname := .ofString "Circuit.implies", params := (defM 6 10).1, body := .stmts (defM 6 10).2.1, scope := (defM 6 10).2.2, globals := 3, closure := [], defaults := Value.none, kwdefaults := Value.none, pyModule := Value.str (.ofString "relfinder.circuit") 228, code := Value.ref 124 } }),
  (126, { cls := Value.type "tuple", data := .seq #[] }),
  (128, { cls := Value.type "tuple", data := .seq #[Value.str (.ofString "self") 337, Value.str (.ofString "a") 338, Value.str (.ofString "b") 339] }),
  (129, { cls := Value.type "tuple", data := .seq #[] }),
  (131, { cls := Value.type "code", data := .fields #[Value.str (.ofString "iff") 334, Value.str (.ofString "Circuit.iff") 335, Value.str (.ofString "/claim/cut.py") 336, Value.int 79 0, Value.int 3 0, Value.int 0 0, Value.int 0 0, Value.int 3 0, Value.ref 126, Value.bool true, Value.int 181 0, Value.ref 127, Value.none, Value.ref 128, Value.ref 129, Value.ref 130, Value.int 340 0, Value.int 79 0, Value.str (.ofString "/claim/cut.py") 341] }),
  (132, { cls := Value.type "function", data := .func { name := .ofString "iff", qualname := .ofString "Circuit.iff", params := (defM 6 11).1, body := .stmts (defM 6 11).2.1, scope := (defM 6 11).2.2, globals := 3, closure := [], defaults := Value.none, kwdefaults := Value.none, pyModule := Value.str (.ofString "relfinder.circuit") 228, code := Value.ref 131 } }),
  (133, { cls := Value.type "tuple", data := .seq #[] }),
  (135, { cls := Value.type "tuple", data := .seq #[Value.str (.ofString "self") 346, Value.str (.ofString "a") 347, Value.str (.ofString "b") 348] }),
  (136, { cls := Value.type "tuple", data := .seq #[] }),
  (138, { cls := Value.type "code", data := .fields #[Value.str (.ofString "unlike") 343, Value.str (.ofString "Circuit.unlike") 344, Value.str (.ofString "/claim/cut.py") 345, Value.int 82 0, Value.int 3 0, Value.int 0 0, Value.int 0 0, Value.int 3 0, Value.ref 133, Value.bool true, Value.int 181 0, Value.ref 134, Value.none, Value.ref 135, Value.ref 136, Value.ref 137, Value.int 349 0, Value.int 82 0, Value.str (.ofString "/claim/cut.py") 350] }),
  (139, { cls := Value.type "function", data := .func { name := .ofString "unlike", qualname := .ofString "Circuit.unlike", params := (defM 6 12).1, body := .stmts (defM 6 12).2.1, scope := (defM 6 12).2.2, globals := 3, closure := [], defaults := Value.none, kwdefaults := Value.none, pyModule := Value.str (.ofString "relfinder.circuit") 228, code := Value.ref 138 } }),
  (140, { cls := Value.type "tuple", data := .seq #[] }),
  (142, { cls := Value.type "tuple", data := .seq #[Value.str (.ofString "self") 355, Value.str (.ofString "c") 356, Value.str (.ofString "a") 357, Value.str (.ofString "b") 358] }),
  (143, { cls := Value.type "tuple", data := .seq #[] }),
  (145, { cls := Value.type "code", data := .fields #[Value.str (.ofString "choose") 352, Value.str (.ofString "Circuit.choose") 353, Value.str (.ofString "/claim/cut.py") 354, Value.int 85 0, Value.int 4 0, Value.int 0 0, Value.int 0 0, Value.int 3 0, Value.ref 140, Value.bool true, Value.int 181 0, Value.ref 141, Value.none, Value.ref 142, Value.ref 143, Value.ref 144, Value.int 359 0, Value.int 85 0, Value.str (.ofString "/claim/cut.py") 360] }),
  (146, { cls := Value.type "function", data := .func { name := .ofString "choose", qualname := .ofString "Circuit.choose", params := (defM 6 13).1, body := .stmts (defM 6 13).2.1, scope := (defM 6 13).2.2, globals := 3, closure := [], defaults := Value.none, kwdefaults := Value.none, pyModule := Value.str (.ofString "relfinder.circuit") 228, code := Value.ref 145 } }),
  (147, { cls := Value.type "tuple", data := .seq #[Value.str (.ofString "kinds") 362, Value.str (.ofString "known") 363, Value.str (.ofString "parts_now") 364] }),
  (148, { cls := Value.type "dict", data := .dict #[{ hash := PyData.keyHash P (.ofString "__module__"), key := Value.str (.ofString "__module__") 237, val := Value.str (.ofString "relfinder.circuit") 228 }, { hash := PyData.keyHash P (.ofString "__firstlineno__"), key := Value.str (.ofString "__firstlineno__") 241, val := Value.int 29 240 }, { hash := PyData.keyHash P (.ofString "__init__"), key := Value.str (.ofString "__init__") 248, val := Value.ref 55 }, { hash := PyData.keyHash P (.ofString "size"), key := Value.str (.ofString "size") 255, val := Value.ref 62 }, { hash := PyData.keyHash P (.ofString "kind"), key := Value.str (.ofString "kind") 263, val := Value.ref 69 }, { hash := PyData.keyHash P (.ofString "parts"), key := Value.str (.ofString "parts") 271, val := Value.ref 76 }, { hash := PyData.keyHash P (.ofString "new_gate"), key := Value.str (.ofString "new_gate") 280, val := Value.ref 83 }, { hash := PyData.keyHash P (.ofString "new_input"), key := Value.str (.ofString "new_input") 287, val := Value.ref 90 }, { hash := PyData.keyHash P (.ofString "all_of"), key := Value.str (.ofString "all_of") 298, val := Value.ref 97 }, { hash := PyData.keyHash P (.ofString "any_of"), key := Value.str (.ofString "any_of") 306, val := Value.ref 104 }, { hash := PyData.keyHash P (.ofString "both"), key := Value.str (.ofString "both") 315, val := Value.ref 111 }, { hash := PyData.keyHash P (.ofString "either"), key := Value.str (.ofString "either") 324, val := Value.ref 118 }, { hash := PyData.keyHash P (.ofString "implies"), key := Value.str (.ofString "implies") 333, val := Value.ref 125 }, { hash := PyData.keyHash P (.ofString "iff"), key := Value.str (.ofString "iff") 342, val := Value.ref 132 }, { hash := PyData.keyHash P (.ofString "unlike"), key := Value.str (.ofString "unlike") 351, val := Value.ref 139 }, { hash := PyData.keyHash P (.ofString "choose"), key := Value.str (.ofString "choose") 361, val := Value.ref 146 }, { hash := PyData.keyHash P (.ofString "__static_attributes__"), key := Value.str (.ofString "__static_attributes__") 365, val := Value.ref 147 }, { hash := PyData.keyHash P (.ofString "__dict__"), key := Value.str (.ofString "__dict__") 367, val := Value.ref 150 }, { hash := PyData.keyHash P (.ofString "__weakref__"), key := Value.str (.ofString "__weakref__") 369, val := Value.ref 151 }, { hash := PyData.keyHash P (.ofString "__doc__"), key := Value.str (.ofString "__doc__") 370, val := Value.none }] 4 }),
  (149, { cls := Value.type "type", data := .cls { name := .ofString "Circuit", bases := [Value.type "object"], mro := [Value.ref 149, Value.type "object"], ns := 148, qualname := .ofString "Circuit" }, slots := #[none, none, some (Value.str (.ofString "Circuit") 230), some (Value.str (.ofString "Circuit") 238), some (Value.builtin "object.__new__"), some (Value.bool true)] }),
  (150, { cls := Value.type "getset_descriptor", data := .fields #[Value.str (.ofString "__dict__") 366, Value.ref 149, Value.builtin "function.__dict__", Value.builtin "function.__dict__#set"] }),
  (151, { cls := Value.type "getset_descriptor", data := .fields #[Value.str (.ofString "__weakref__") 368, Value.ref 149, Value.builtin "ExceptionGroup.__weakref__", Value.none] }),
  (161, { cls := Value.type "tuple", data := .seq #[] }),
  (163, { cls := Value.type "tuple", data := .seq #[Value.str (.ofString "self") 388, Value.str (.ofString "circuit") 389] }),
  (164, { cls := Value.type "tuple", data := .seq #[] }),
  (166, { cls := Value.type "code", data := .fields #[Value.str (.ofString "__init__") 385, Value.str (.ofString "Reading.__init__") 386, Value.str (.ofString "/claim/cut.py") 387, Value.int 89 0, Value.int 2 0, Value.int 0 0, Value.int 0 0, Value.int 3 0, Value.ref 161, Value.bool true, Value.int 181 0, Value.ref 162, Value.none, Value.ref 163, Value.ref 164, Value.ref 165, Value.int 390 0, Value.int 89 0, Value.str (.ofString "/claim/cut.py") 391] }),
  (167, { cls := Value.type "function", data := .func { name := .ofString "__init__", qualname := .ofString "Reading.__init__", params := (defM 7 0).1, body := .stmts (defM 7 0).2.1, scope := (defM 7 0).2.2, globals := 3, closure := [], defaults := Value.none, kwdefaults := Value.none, pyModule := Value.str (.ofString "relfinder.circuit") 228, code := Value.ref 166 } }),
  (168, { cls := Value.type "tuple", data := .seq #[] }),
  (171, { cls := Value.type "code", data := .fields #[Value.str (.ofString "value_of") 393, Value.str (.ofString "Reading.value_of") 394, Value.str (.ofString "/claim/cut.py") 395, Value.int 92 0, Value.int 3 0, Value.int 0 0, Value.int 0 0, Value.int 3 0, Value.ref 168, Value.bool true, Value.int 181 0, Value.ref 169, Value.none, Value.none, Value.none, Value.ref 170, Value.int 396 0, Value.int 92 0, Value.str (.ofString "/claim/cut.py") 397] }),
  (172, { cls := Value.type "function", data := .func { name := .ofString "value_of", qualname := .ofString "Reading.value_of", params := (defM 7 1).1, body := .stmts (defM 7 1).2.1, scope := (defM 7 1).2.2, globals := 3, closure := [], defaults := Value.none, kwdefaults := Value.none, pyModule := Value.str (.ofString "relfinder.circuit") 228, code := Value.ref 171 } }),
  (173, { cls := Value.type "tuple", data := .seq #[Value.str (.ofString "circuit") 399] }),
  (174, { cls := Value.type "dict", data := .dict #[{ hash := PyData.keyHash P (.ofString "__module__"), key := Value.str (.ofString "__module__") 380, val := Value.str (.ofString "relfinder.circuit") 228 }, { hash := PyData.keyHash P (.ofString "__firstlineno__"), key := Value.str (.ofString "__firstlineno__") 384, val := Value.int 87 383 }, { hash := PyData.keyHash P (.ofString "__init__"), key := Value.str (.ofString "__init__") 392, val := Value.ref 167 }, { hash := PyData.keyHash P (.ofString "value_of"), key := Value.str (.ofString "value_of") 398, val := Value.ref 172 }, { hash := PyData.keyHash P (.ofString "__static_attributes__"), key := Value.str (.ofString "__static_attributes__") 400, val := Value.ref 173 }, { hash := PyData.keyHash P (.ofString "__dict__"), key := Value.str (.ofString "__dict__") 402, val := Value.ref 176 }, { hash := PyData.keyHash P (.ofString "__weakref__"), key := Value.str (.ofString "__weakref__") 404, val := Value.ref 177 }, { hash := PyData.keyHash P (.ofString "__doc__"), key := Value.str (.ofString "__doc__") 405, val := Value.none }] 4 }),
  (175, { cls := Value.type "type", data := .cls { name := .ofString "Reading", bases := [Value.type "object"], mro := [Value.ref 175, Value.type "object"], ns := 174, qualname := .ofString "Reading" }, slots := #[none, none, some (Value.str (.ofString "Reading") 373), some (Value.str (.ofString "Reading") 381), some (Value.builtin "object.__new__"), some (Value.bool true)] }),
  (176, { cls := Value.type "getset_descriptor", data := .fields #[Value.str (.ofString "__dict__") 401, Value.ref 175, Value.builtin "function.__dict__", Value.builtin "function.__dict__#set"] }),
  (177, { cls := Value.type "getset_descriptor", data := .fields #[Value.str (.ofString "__weakref__") 403, Value.ref 175, Value.builtin "ExceptionGroup.__weakref__", Value.none] }),
  (180, { cls := Value.type "tuple", data := .seq #[] }),
  (182, { cls := Value.type "tuple", data := .seq #[Value.str (.ofString "feed") 413, Value.str (.ofString "wide") 414, Value.str (.ofString "here") 415] }),
  (183, { cls := Value.type "tuple", data := .seq #[] }),
  (185, { cls := Value.type "code", data := .fields #[Value.str (.ofString "_law_draw") 410, Value.str (.ofString "_law_draw") 411, Value.str (.ofString "/claim/cut.py") 412, Value.int 107 0, Value.int 2 0, Value.int 0 0, Value.int 0 0, Value.int 3 0, Value.ref 180, Value.bool true, Value.int 181 0, Value.ref 181, Value.none, Value.ref 182, Value.ref 183, Value.ref 184, Value.int 416 0, Value.int 107 0, Value.str (.ofString "/claim/cut.py") 417] }),
  (186, { cls := Value.type "function", data := .func { name := .ofString "_law_draw", qualname := .ofString "_law_draw", params := (defT 9).1, body := .stmts (defT 9).2.1, scope := (defT 9).2.2, globals := 3, closure := [], defaults := Value.none, kwdefaults := Value.none, pyModule := Value.str (.ofString "law_nu0268_01") 408, code := Value.ref 185 } }),
  (187, { cls := Value.type "tuple", data := .seq #[] }),
  (190, { cls := Value.type "code", data := .fields #[Value.str (.ofString "_law_places") 419, Value.str (.ofString "_law_places") 420, Value.str (.ofString "/claim/cut.py") 421, Value.int 113 0, Value.int 2 0, Value.int 0 0, Value.int 0 0, Value.int 3 0, Value.ref 187, Value.bool true, Value.int 181 0, Value.ref 188, Value.none, Value.none, Value.none, Value.ref 189, Value.int 422 0, Value.int 113 0, Value.str (.ofString "/claim/cut.py") 423] }),
  (191, { cls := Value.type "function", data := .func { name := .ofString "_law_places", qualname := .ofString "_law_places", params := (defT 10).1, body := .stmts (defT 10).2.1, scope := (defT 10).2.2, globals := 3, closure := [], defaults := Value.none, kwdefaults := Value.none, pyModule := Value.str (.ofString "law_nu0268_01") 408, code := Value.ref 190 } }),
  (192, { cls := Value.type "tuple", data := .seq #[] }),
  (195, { cls := Value.type "code", data := .fields #[Value.str (.ofString "_law_turn") 425, Value.str (.ofString "_law_turn") 426, Value.str (.ofString "/claim/cut.py") 427, Value.int 126 0, Value.int 3 0, Value.int 0 0, Value.int 0 0, Value.int 3 0, Value.ref 192, Value.bool true, Value.int 181 0, Value.ref 193, Value.none, Value.none, Value.none, Value.ref 194, Value.int 428 0, Value.int 126 0, Value.str (.ofString "/claim/cut.py") 429] }),
  (196, { cls := Value.type "function", data := .func { name := .ofString "_law_turn", qualname := .ofString "_law_turn", params := (defT 11).1, body := .stmts (defT 11).2.1, scope := (defT 11).2.2, globals := 3, closure := [], defaults := Value.none, kwdefaults := Value.none, pyModule := Value.str (.ofString "law_nu0268_01") 408, code := Value.ref 195 } }),
  (197, { cls := Value.type "tuple", data := .seq #[] }),
  (200, { cls := Value.type "code", data := .fields #[Value.str (.ofString "_law_orbit") 431, Value.str (.ofString "_law_orbit") 432, Value.str (.ofString "/claim/cut.py") 433, Value.int 129 0, Value.int 2 0, Value.int 0 0, Value.int 0 0, Value.int 3 0, Value.ref 197, Value.bool true, Value.int 181 0, Value.ref 198, Value.none, Value.none, Value.none, Value.ref 199, Value.int 434 0, Value.int 129 0, Value.str (.ofString "/claim/cut.py") 435] }),
  (201, { cls := Value.type "function", data := .func { name := .ofString "_law_orbit", qualname := .ofString "_law_orbit", params := (defT 12).1, body := .stmts (defT 12).2.1, scope := (defT 12).2.2, globals := 3, closure := [], defaults := Value.none, kwdefaults := Value.none, pyModule := Value.str (.ofString "law_nu0268_01") 408, code := Value.ref 200 } }),
  (202, { cls := Value.type "tuple", data := .seq #[] }),
  (205, { cls := Value.type "code", data := .fields #[Value.str (.ofString "_law_is_first") 437, Value.str (.ofString "_law_is_first") 438, Value.str (.ofString "/claim/cut.py") 439, Value.int 138 0, Value.int 3 0, Value.int 0 0, Value.int 0 0, Value.int 3 0, Value.ref 202, Value.bool true, Value.int 181 0, Value.ref 203, Value.none, Value.none, Value.none, Value.ref 204, Value.int 440 0, Value.int 138 0, Value.str (.ofString "/claim/cut.py") 441] }),
  (206, { cls := Value.type "function", data := .func { name := .ofString "_law_is_first", qualname := .ofString "_law_is_first", params := (defT 13).1, body := .stmts (defT 13).2.1, scope := (defT 13).2.2, globals := 3, closure := [], defaults := Value.none, kwdefaults := Value.none, pyModule := Value.str (.ofString "law_nu0268_01") 408, code := Value.ref 205 } }),
  (207, { cls := Value.type "tuple", data := .seq #[] }),
  (210, { cls := Value.type "code", data := .fields #[Value.str (.ofString "law") 443, Value.str (.ofString "law") 444, Value.str (.ofString "/claim/cut.py") 445, Value.int 141 0, Value.int 1 0, Value.int 0 0, Value.int 0 0, Value.int 3 0, Value.ref 207, Value.bool true, Value.int 181 0, Value.ref 208, Value.none, Value.none, Value.none, Value.ref 209, Value.int 446 0, Value.int 141 0, Value.str (.ofString "/claim/cut.py") 447] }),
  (211, { cls := Value.type "function", data := .func { name := .ofString "law", qualname := .ofString "law", params := (defT 14).1, body := .stmts (defT 14).2.1, scope := (defT 14).2.2, globals := 3, closure := [], defaults := Value.none, kwdefaults := Value.none, pyModule := Value.str (.ofString "law_nu0268_01") 408, code := Value.ref 210 } })]
noncomputable def khA : List Addr := [2, 3, 15, 17, 18, 20, 21, 22, 25, 26, 27, 29, 30, 32, 33, 34, 35, 37, 38, 40, 41, 49, 51, 52, 54, 55, 56, 58, 59, 61, 62, 63, 65, 66, 68, 69, 70, 72, 73, 75, 76, 77, 79, 80, 82, 83, 84, 86, 87, 89, 90, 91, 93, 94, 96, 97, 98, 100, 101, 103, 104, 105, 107, 108, 110, 111, 112, 114, 115, 117, 118, 119, 121, 122, 124, 125, 126, 128, 129, 131, 132, 133, 135, 136, 138, 139, 140, 142, 143, 145, 146, 147, 148, 149, 150, 151, 161, 163, 164, 166, 167, 168, 171, 172, 173, 174, 175, 176, 177, 180, 182, 183, 185, 186, 187, 190, 191, 192, 195, 196, 197, 200, 201, 202, 205, 206, 207, 210, 211]
theorem khA_eq (P : Params) : khA = (kh P).map (·.1) := rfl
noncomputable abbrev hookT : Hook := kHook kh khA khA_eq
noncomputable def xt (s : Shared) : Bool := xlAt vwT [] s && recOk (RowW.records (OpenRow.toRowW PySem.Challenge.rw_nu0268_01.row)) s
theorem topFast (p : Program) (w : World) (N : Nat) (s₀ : Shared) : topFrom treeTable p w N s₀ = (match s₀.heap.isNs mainGlobals && s₀.gens.size == 0 with
  | true => (Fast.tw14082659384304107361 Fast.tw14364793385576792824 p w s₀.heap.objs.size (s₀.heap.nsMap mainGlobals "__annotations__") N s₀ (topStub p)).bind fun s₁ => match staticsOk (importedModules p.main.body) s₀.heap s₁.heap && namesBound p s₁.heap && gensDone s₁ && laidKept s₀.heap s₁.heap with
      | true => some s₁
      | false => none
  | false => none) := by
  rw [← Fast.te14082659384304107361, ← Fast.te14364793385576792824]
  rfl
theorem leftTop : LeftO prT vwT ["leader"] xt hookT.obs hookT.val 2550 := fun w => by
  unfold openEnds
  rw [show topFrom treeTable prT w 2550 = _ from funext fun s => topFast prT w 2550 s, Fast.te4187177175401517315]
  kernel_rfl
end Lay
end
section
open PySem PySem.SeqAt
namespace Lay

theorem bind1 {c : Cx} {fd : FuncData} {n1 : Str} (h : ∀ a, bindArgs fd ⟨[a], []⟩ = pure [(n1, a)]) : ∀ (s : Shared) (us : List Value), us.length = [n1].length → c.K.In s.heap → BindsTo s fd ⟨us, []⟩ ([n1].zip us)
  | _, [a], _, _ => BindsTo.of_eq (h a)
  | _, [], e, _ => by simp at e
  | _, _ :: _ :: _, e, _ => by simp at e
theorem bind2 {c : Cx} {fd : FuncData} {n1 n2 : Str} (h : ∀ a b, bindArgs fd ⟨[a, b], []⟩ = pure [(n1, a), (n2, b)]) : ∀ (s : Shared) (us : List Value), us.length = [n1, n2].length → c.K.In s.heap → BindsTo s fd ⟨us, []⟩ ([n1, n2].zip us)
  | _, [a, b], _, _ => BindsTo.of_eq (h a b)
  | _, [], e, _ => by simp at e
  | _, [_], e, _ => by simp at e
  | _, _ :: _ :: _ :: _, e, _ => by simp at e
theorem bind3 {c : Cx} {fd : FuncData} {n1 n2 n3 : Str} (h : ∀ a b d, bindArgs fd ⟨[a, b, d], []⟩ = pure [(n1, a), (n2, b), (n3, d)]) : ∀ (s : Shared) (us : List Value), us.length = [n1, n2, n3].length → c.K.In s.heap → BindsTo s fd ⟨us, []⟩ ([n1, n2, n3].zip us)
  | _, [a, b, d], _, _ => BindsTo.of_eq (h a b d)
  | _, [], e, _ => by simp at e
  | _, [_], e, _ => by simp at e
  | _, [_, _], e, _ => by simp at e
  | _, _ :: _ :: _ :: _ :: _, e, _ => by simp at e
noncomputable def Top' (c : Cx) : Prop := c.K = kh c.w.params
theorem Def.of {c : Cx} (hK : Top' c) (a : Addr) (names : List Str) {o : Obj} {fd : FuncData} {b : Stmt} {bs : List Stmt} (h1 : (kh c.w.params).lookup a = some o) (h2 : o.data = .func fd) (h3 : W.codeIn (kh c.w.params) fd.code fd.qualname = true) (h4 : fd.body = .stmts (b :: bs))
    (h5 : fd.closure = []) (h6 : fd.globals = mainGlobals) (h7 : fd.builtins = builtinsNs) (h8 : fd.scope.isCoroutine = false) (h9 : fd.scope.isGenerator = false) (h10 : fd.scope.kind = .function)
    (h11 : ∀ (s : Shared) (us : List Value), us.length = names.length → c.K.In s.heap → BindsTo s fd ⟨us, []⟩ (names.zip us)) (h12 : (names.all fun y => fd.scope.names.lookup y == some .local || fd.scope.names.lookup y == some .cell) = true) : Def c a fd (b :: bs) names where
  look := ⟨o, hK ▸ h1, h2⟩
  code := hK ▸ h3
  body := h4
  clo := h5
  glob := h6
  bltn := h7
  co := h8
  gen := h9
  kind := h10
  bind := h11
  nk := fun x hx => by
    have := List.all_eq_true.mp h12 x hx
    rcases Bool.or_eq_true_iff.mp this with q | q
    · exact .inl (by simpa using q)
    · have q' : fd.scope.names.lookup x = some .cell := by simpa using q
      exact .inr ⟨q', fun n => W.cellsFrom_some _ _ _ (.inl q')⟩
theorem Fn.enter {c : Cx} {k : Nat} {a : Addr} {fd : FuncData} {body : List Stmt} {names : List Str} {kd : Str × NameKind} {ks : List (Str × NameKind)} {xs : List V} {st : Store} {P : V → Store → Prop} (d : Def c a fd body names) (hs : fd.scope.names = kd :: ks) (hl : xs.length = names.length)
    (h : ∀ (fd : FuncData) (L : Addr), fd.scope.names = kd :: ks → fd.scope.kind = .function → Blk (fmOf c k fd L a) body (noVars.sets names xs) st fun y st' => match y with | .ret x => P x st' | .next _ => P .none st' | .cont _ => False) : Fn c (k + 1) (.ref a) xs st P := Fn.def d hl fun L => h fd L hs d.kind
theorem FnC.enter {c : Cx} {k : Nat} {a : Addr} {fd : FuncData} {body : List Stmt} {names : List Str} {kd : Str × NameKind} {ks : List (Str × NameKind)} {xs : List V} {st : Store} {P : V → Store → Prop} (d : Def c a fd body names) (hs : fd.scope.names = kd :: ks) (hl : xs.length = names.length)
    (h : ∀ (fd : FuncData) (L : Addr), fd.scope.names = kd :: ks → fd.scope.kind = .function → Blk (fmOf c k fd L a) body (noVars.sets names xs) st fun y st' => match y with | .ret x => P x st' | .next _ => P .none st' | .cont _ => False) : FnC c (k + 1) (.ref a) xs st P := FnC.def d hl fun L => h fd L hs d.kind
section
variable {f : Fm} {vs : Vars} {st : Store} {P : V → Store → Prop} {o : Expr} {apos pos : Pos} {args : List Expr} {pl : Sem Bool}
theorem Ev.m_append (h : Ev f o vs st fun x st1 => Ty st1 x "list" ∧ EvL f args vs st1 fun xs st2 => Fn f.c f.k (.builtin "list.append") (x :: xs) st2 P)
    (he : eval (.Call (.Attribute o "append" apos) args [] pos) f.env = (do
      let ov ← eval o f.env
      standAt apos.atName
      let (g, first) ← holding [ov] (getMethod ov "append" pl)
      callWith pos g first (backTo pos (starEach args f.env)) [])) (hp : (backTo pos (starEach args f.env)).any (·.1) = false) : Ev f (.Call (.Attribute o "append" apos) args [] pos) vs st P :=
  Ev.methB F.plainAttrs_list F.slot_list_append (by kernel_rfl) h he hp
theorem Ev.m_extend (h : Ev f o vs st fun x st1 => Ty st1 x "list" ∧ EvL f args vs st1 fun xs st2 => Fn f.c f.k (.builtin "list.extend") (x :: xs) st2 P)
    (he : eval (.Call (.Attribute o "extend" apos) args [] pos) f.env = (do
      let ov ← eval o f.env
      standAt apos.atName
      let (g, first) ← holding [ov] (getMethod ov "extend" pl)
      callWith pos g first (backTo pos (starEach args f.env)) [])) (hp : (backTo pos (starEach args f.env)).any (·.1) = false) : Ev f (.Call (.Attribute o "extend" apos) args [] pos) vs st P :=
  Ev.methB F.plainAttrs_list F.slot_list_extend (by kernel_rfl) h he hp
theorem Ev.m_pop (h : Ev f o vs st fun x st1 => Ty st1 x "list" ∧ EvL f args vs st1 fun xs st2 => Fn f.c f.k (.builtin "list.pop") (x :: xs) st2 P)
    (he : eval (.Call (.Attribute o "pop" apos) args [] pos) f.env = (do
      let ov ← eval o f.env
      standAt apos.atName
      let (g, first) ← holding [ov] (getMethod ov "pop" pl)
      callWith pos g first (backTo pos (starEach args f.env)) [])) (hp : (backTo pos (starEach args f.env)).any (·.1) = false) : Ev f (.Call (.Attribute o "pop" apos) args [] pos) vs st P :=
  Ev.methB F.plainAttrs_list F.slot_list_pop (by kernel_rfl) h he hp
theorem Ev.m_index (h : Ev f o vs st fun x st1 => Ty st1 x "list" ∧ EvL f args vs st1 fun xs st2 => Fn f.c f.k (.builtin "list.index") (x :: xs) st2 P)
    (he : eval (.Call (.Attribute o "index" apos) args [] pos) f.env = (do
      let ov ← eval o f.env
      standAt apos.atName
      let (g, first) ← holding [ov] (getMethod ov "index" pl)
      callWith pos g first (backTo pos (starEach args f.env)) [])) (hp : (backTo pos (starEach args f.env)).any (·.1) = false) : Ev f (.Call (.Attribute o "index" apos) args [] pos) vs st P :=
  Ev.methB F.plainAttrs_list F.slot_list_index (by kernel_rfl) h he hp
theorem Ev.m_get (h : Ev f o vs st fun x st1 => Ty st1 x "dict" ∧ EvL f args vs st1 fun xs st2 => Fn f.c f.k (.builtin "dict.get") (x :: xs) st2 P)
    (he : eval (.Call (.Attribute o "get" apos) args [] pos) f.env = (do
      let ov ← eval o f.env
      standAt apos.atName
      let (g, first) ← holding [ov] (getMethod ov "get" pl)
      callWith pos g first (backTo pos (starEach args f.env)) [])) (hp : (backTo pos (starEach args f.env)).any (·.1) = false) : Ev f (.Call (.Attribute o "get" apos) args [] pos) vs st P :=
  Ev.methB F.plainAttrs_dict F.slot_dict_get (by kernel_rfl) h he hp
end
noncomputable def feedM (cells : List Int) (n : Nat) (S : Int) : M := .dS [("cells", .lst (cells.map .int)), ("at", .int n), ("sum", .int S)]
theorem glob {c : Cx} (hT : Top' c) {x : Str} {r : Option (Option Value)} (h : W.nsIn (kh c.w.params) mainGlobals x = r) : W.nsIn c.K mainGlobals x = r := hT ▸ h
theorem kept {c : Cx} (hT : Top' c) {v : Value} (h : W.keepIn (kh c.w.params) v = true) : W.keepIn c.K v = true := hT ▸ h
section
variable {f : Fm} {vs : Vars} {st : Store} {P : V → Store → Prop} {target : Expr} {PI : List V → Store → Prop}
theorem Ev.fnG {x : Str} {p pos : Pos} {args : List Expr} {g : Value} (hT : Top' f.c) (hx : f.env.kindOf x = some .globalImplicit) (hg : W.nsIn (kh f.c.w.params) mainGlobals x = some (some g)) (hk : W.keepIn (kh f.c.w.params) g = true)
    (h : EvL f args vs st fun xs st1 => Fn f.c f.k g xs st1 P) (hp : (backTo pos (starEach args f.env)).any (·.1) = false) (hd : (x == ("__debug__" : Str)) = false) : Ev f (.Call (.Name x p) args [] pos) vs st P :=
  Ev.callG hx (glob hT hg) (kept hT hk) h hp hd
theorem Ev.fn_len {p pos : Pos} {args : List Expr} (hT : Top' f.c) (hx : f.env.kindOf "len" = some .globalImplicit) (h : EvL f args vs st fun xs st1 => Fn f.c f.k (.builtin "len") xs st1 P) (hp : (backTo pos (starEach args f.env)).any (·.1) = false) : Ev f (.Call (.Name "len" p) args [] pos) vs st P :=
  Ev.callB hx (glob hT rfl) (by kernel_rfl) (by decide) Keeps'.builtin h hp
theorem Ev.fn_abs {p pos : Pos} {args : List Expr} (hT : Top' f.c) (hx : f.env.kindOf "abs" = some .globalImplicit) (h : EvL f args vs st fun xs st1 => Fn f.c f.k (.builtin "abs") xs st1 P) (hp : (backTo pos (starEach args f.env)).any (·.1) = false) : Ev f (.Call (.Name "abs" p) args [] pos) vs st P :=
  Ev.callB hx (glob hT rfl) (by kernel_rfl) (by decide) Keeps'.builtin h hp
theorem Ev.fn_sum {p pos : Pos} {args : List Expr} (hT : Top' f.c) (hx : f.env.kindOf "sum" = some .globalImplicit) (h : EvL f args vs st fun xs st1 => Fn f.c f.k (.builtin "sum") xs st1 P) (hp : (backTo pos (starEach args f.env)).any (·.1) = false) : Ev f (.Call (.Name "sum" p) args [] pos) vs st P :=
  Ev.callB hx (glob hT rfl) (by kernel_rfl) (by decide) Keeps'.builtin h hp
theorem Ev.fn_all {p pos : Pos} {args : List Expr} (hT : Top' f.c) (hx : f.env.kindOf "all" = some .globalImplicit) (h : EvL f args vs st fun xs st1 => Fn f.c f.k (.builtin "all") xs st1 P) (hp : (backTo pos (starEach args f.env)).any (·.1) = false) : Ev f (.Call (.Name "all" p) args [] pos) vs st P :=
  Ev.callB hx (glob hT rfl) (by kernel_rfl) (by decide) Keeps'.builtin h hp
theorem Ev.fn_sorted {p pos : Pos} {args : List Expr} (hT : Top' f.c) (hx : f.env.kindOf "sorted" = some .globalImplicit) (h : EvL f args vs st fun xs st1 => Fn f.c f.k (.builtin "sorted") xs st1 P) (hp : (backTo pos (starEach args f.env)).any (·.1) = false) : Ev f (.Call (.Name "sorted" p) args [] pos) vs st P :=
  Ev.callB hx (glob hT rfl) (by kernel_rfl) (by decide) Keeps'.builtin h hp
theorem Ev.fn_sortedF {p pos : Pos} {args : List Expr} (hT : Top' f.c) (hx : f.env.kindOf "sorted" = some .globalImplicit)
    (h : EvL f args vs st fun xs st1 => Fn f.c f.k (.builtin "sorted") xs st1 fun x st' => ∃ a xs pre post, x = .ref a ∧ st' = pre ++ (a, .list xs) :: post ∧ P (.lst xs) (pre ++ post)) (hp : (backTo pos (starEach args f.env)).any (·.1) = false) : Ev f (.Call (.Name "sorted" p) args [] pos) vs st P :=
  Ev.freeze (Ev.fn_sorted hT hx h hp)
theorem Ev.fn_int {p pos : Pos} {args : List Expr} (hT : Top' f.c) (hx : f.env.kindOf "int" = some .globalImplicit) (h : EvL f args vs st fun xs st1 => Fn f.c f.k (.type "int") xs st1 P) (hp : (backTo pos (starEach args f.env)).any (·.1) = false) : Ev f (.Call (.Name "int" p) args [] pos) vs st P :=
  Ev.callB hx (glob hT rfl) (by kernel_rfl) (by decide) Keeps'.type h hp
theorem Ev.fn_tuple {p pos : Pos} {args : List Expr} (hT : Top' f.c) (hx : f.env.kindOf "tuple" = some .globalImplicit) (h : EvL f args vs st fun xs st1 => Fn f.c f.k (.type "tuple") xs st1 P) (hp : (backTo pos (starEach args f.env)).any (·.1) = false) : Ev f (.Call (.Name "tuple" p) args [] pos) vs st P :=
  Ev.callB hx (glob hT rfl) (by kernel_rfl) (by decide) Keeps'.type h hp
theorem Ev.fn_dict {p pos : Pos} {args : List Expr} (hT : Top' f.c) (hx : f.env.kindOf "dict" = some .globalImplicit) (h : EvL f args vs st fun xs st1 => Fn f.c f.k (.type "dict") xs st1 P) (hp : (backTo pos (starEach args f.env)).any (·.1) = false) : Ev f (.Call (.Name "dict" p) args [] pos) vs st P :=
  Ev.callB hx (glob hT rfl) (by kernel_rfl) (by decide) Keeps'.type h hp
theorem ItE.fn_range {p pos : Pos} {args : List Expr} (hT : Top' f.c) (hx : f.env.kindOf "range" = some .globalImplicit) (h : EvL f args vs st fun xs st1 => Mk f target (.type "range") xs vs st1 PI) (hp : (backTo pos (starEach args f.env)).any (·.1) = false) : ItE f target (.Call (.Name "range" p) args [] pos) vs st PI :=
  ItE.callB hx (glob hT rfl) (by kernel_rfl) (by decide) Keeps'.type h hp
theorem ItE.fn_reversed {p pos : Pos} {args : List Expr} (hT : Top' f.c) (hx : f.env.kindOf "reversed" = some .globalImplicit) (h : EvL f args vs st fun xs st1 => Mk f target (.type "reversed") xs vs st1 PI) (hp : (backTo pos (starEach args f.env)).any (·.1) = false) : ItE f target (.Call (.Name "reversed" p) args [] pos) vs st PI :=
  ItE.callB hx (glob hT rfl) (by kernel_rfl) (by decide) Keeps'.type h hp
theorem ItE.fn_zip {p pos : Pos} {args : List Expr} (hT : Top' f.c) (hx : f.env.kindOf "zip" = some .globalImplicit) (h : EvL f args vs st fun xs st1 => Mk f target (.type "zip") xs vs st1 PI) (hp : (backTo pos (starEach args f.env)).any (·.1) = false) : ItE f target (.Call (.Name "zip" p) args [] pos) vs st PI :=
  ItE.callB hx (glob hT rfl) (by kernel_rfl) (by decide) Keeps'.type h hp
end
local macro_rules | `(tactic| walk_at "in") => `(tactic| (intro fd L hs hk; obtain ⟨e1, e2, e3, e4, ⟨e5, e6, e7, e8⟩, e9, e10, e11, e12, e13, e14, e15, e16, e17⟩ := fd; dsimp only at hs hk; subst hs hk))
local macro_rules | `(tactic| walk_at "ev") => `(tactic| (first
  | ((with_reducible refine' Ev.name ?q1 ?_ ?q2); (case q1 => first | exact rfl | assumption); (case q2 => decide))
  | (with_reducible refine' Ev.int ?_)
  | (with_reducible refine' Ev.str ?_)
  | (with_reducible refine' Ev.bool ?_)
  | (with_reducible refine' Ev.none ?_)
  | (with_reducible refine' Ev.binop ?_)
  | (with_reducible refine' Ev.neg ?_)
  | ((with_reducible refine' Ev.compare ?_ ?q1); (case q1 => with_unfolding_all rfl))
  | ((with_reducible refine' Tst.compare ?_ ?q1); (case q1 => with_unfolding_all rfl))
  | (with_reducible refine' Tst.not ?_)
  | (with_reducible refine' iteT ?_)
  | (with_reducible refine' iteF ?_)
  | (with_reducible refine' Tst.boolop ?_)
  | (with_reducible refine' TstL.and_cons ?_)
  | (with_reducible refine' TstL.and_nil ?_)
  | (with_reducible refine' TstL.or_cons ?_)
  | (with_reducible refine' TstL.or_nil ?_)
  | (with_reducible refine' Ev.sliceTo ?_)
  | (with_reducible refine' Ev.sliceFrom ?_)
  | ((with_reducible refine' Ev.sub ?_ ?q1); (case q1 => intro _ _; with_unfolding_all rfl))
  | (with_reducible refine' Ev.tuple ?_)
  | (with_reducible refine' Ev.list ?_)
  | (with_reducible refine' Ev.ifexp ?_)
  | ((with_reducible refine' Ev.comp ?q1 ?q2 ?_ ?q3); (case q1 => exact ⟨rfl, (fun C => by repeat (first | exact True.intro | refine ⟨⟨rfl, rfl, rfl⟩, ?_⟩)), by decide, rfl, by decide⟩); (case q2 => exact rfl); (case q3 => intro _; with_unfolding_all rfl))
  | ((with_reducible refine' Stm.assignComp ?q1 ?q2 ?q3 ?_ ?q4 ?q5); (case q1 => exact ⟨rfl, (fun C => by repeat (first | exact True.intro | refine ⟨⟨rfl, rfl, rfl⟩, ?_⟩)), by decide, rfl, by decide⟩); (case q2 => exact rfl); (case q3 => first | exact Or.inl rfl | exact stoC rfl rfl rfl); (case q4 => with_unfolding_all rfl); (case q5 => intro _; with_unfolding_all rfl))
  | (with_reducible refine' EvL.nil ?_)
  | ((with_reducible refine' EvL.cons ?_ ?q1); (case q1 => exact rfl))
  | ((with_reducible refine' Ev.fn_len ?q1 ?q2 ?_ ?q3); (case q1 => assumption); (case q2 => exact rfl); (case q3 => exact rfl))
  | ((with_reducible refine' Ev.fn_abs ?q1 ?q2 ?_ ?q3); (case q1 => assumption); (case q2 => exact rfl); (case q3 => exact rfl))
  | ((with_reducible refine' Ev.fn_sum ?q1 ?q2 ?_ ?q3); (case q1 => assumption); (case q2 => exact rfl); (case q3 => exact rfl))
  | ((with_reducible refine' Ev.fn_all ?q1 ?q2 ?_ ?q3); (case q1 => assumption); (case q2 => exact rfl); (case q3 => exact rfl))
  | ((with_reducible refine' Ev.fn_sortedF ?q1 ?q2 ?_ ?q3); (case q1 => assumption); (case q2 => exact rfl); (case q3 => exact rfl))
  | ((with_reducible refine' Ev.fn_int ?q1 ?q2 ?_ ?q3); (case q1 => assumption); (case q2 => exact rfl); (case q3 => exact rfl))
  | ((with_reducible refine' Ev.fn_tuple ?q1 ?q2 ?_ ?q3); (case q1 => assumption); (case q2 => exact rfl); (case q3 => exact rfl))
  | ((with_reducible refine' Ev.fn_dict ?q1 ?q2 ?_ ?q3); (case q1 => assumption); (case q2 => exact rfl); (case q3 => exact rfl))
  | ((with_reducible refine' ItE.fn_range ?q1 ?q2 ?_ ?q3); (case q1 => assumption); (case q2 => exact rfl); (case q3 => exact rfl))
  | ((with_reducible refine' ItE.fn_reversed ?q1 ?q2 ?_ ?q3); (case q1 => assumption); (case q2 => exact rfl); (case q3 => exact rfl))
  | ((with_reducible refine' ItE.fn_zip ?q1 ?q2 ?_ ?q3); (case q1 => assumption); (case q2 => exact rfl); (case q3 => exact rfl))
  | ((with_reducible refine' Ev.m_append ?_ ?q1 ?q2); (case q1 => exact rfl); (case q2 => exact rfl))
  | ((with_reducible refine' Ev.m_extend ?_ ?q1 ?q2); (case q1 => exact rfl); (case q2 => exact rfl))
  | ((with_reducible refine' Ev.m_pop ?_ ?q1 ?q2); (case q1 => exact rfl); (case q2 => exact rfl))
  | ((with_reducible refine' Ev.m_index ?_ ?q1 ?q2); (case q1 => exact rfl); (case q2 => exact rfl))
  | ((with_reducible refine' Ev.m_get ?_ ?q1 ?q2); (case q1 => exact rfl); (case q2 => exact rfl))
  | ((with_reducible refine' Ev.attr ?_ ?q1); (case q1 => with_unfolding_all rfl))
  | ((with_reducible refine' Ev.meth ?_ ?q1 ?q2); (case q1 => exact rfl); (case q2 => exact rfl))
  | ((with_reducible refine' Stm.setattr ?_ ?q1); (case q1 => with_unfolding_all rfl))
  | ((with_reducible refine' Ev.fnG ?q1 ?q2 ?q3 ?q4 ?_ ?q5 ?q6); (case q1 => assumption); (case q2 => exact rfl); (case q3 => exact rfl); (case q4 => exact rfl); (case q5 => exact rfl); (case q6 => decide))
  | (with_reducible refine' Stm.ret ?_)
  | (with_reducible refine' Stm.if ?_)
  | (with_reducible refine' Stm.cont ?_)
  | (with_reducible refine' Blk.nil ?_)
  | (with_reducible refine' Blk.cons ?_)
  | ((with_reducible refine' Stm.assign ?q1 ?_ ?q2); (case q1 => first | exact Or.inl rfl | exact stoC rfl rfl rfl); (case q2 => with_unfolding_all rfl))
  | ((with_reducible refine' Stm.setitem ?_ ?q1); (case q1 => with_unfolding_all rfl))
  | ((with_reducible refine' Stm.assignTs2 ?q1 ?q2 ?_ ?q3 ?q4); (case q4 => exact rfl); (case q3 => exact rfl); (case q1 => first | exact Or.inl rfl | exact stoC rfl rfl rfl); (case q2 => first | exact Or.inl rfl | exact stoC rfl rfl rfl))
  | ((with_reducible refine' Stm.assignTs3 ?q1 ?q2 ?q5 ?_ ?q3 ?q4); (case q4 => exact rfl); (case q3 => exact rfl); (case q1 => first | exact Or.inl rfl | exact stoC rfl rfl rfl); (case q2 => first | exact Or.inl rfl | exact stoC rfl rfl rfl); (case q5 => first | exact Or.inl rfl | exact stoC rfl rfl rfl))
  | ((with_reducible refine' Stm.assignT2 ?q1 ?q2 ?_ ?q3 ?q4); (case q4 => exact rfl); (case q3 => exact rfl); (case q1 => first | exact Or.inl rfl | exact stoC rfl rfl rfl); (case q2 => first | exact Or.inl rfl | exact stoC rfl rfl rfl))
  | ((with_reducible refine' Stm.assignT3 ?q1 ?q2 ?q5 ?_ ?q3 ?q4); (case q4 => exact rfl); (case q3 => exact rfl); (case q1 => first | exact Or.inl rfl | exact stoC rfl rfl rfl); (case q2 => first | exact Or.inl rfl | exact stoC rfl rfl rfl); (case q5 => first | exact Or.inl rfl | exact stoC rfl rfl rfl))
  | ((with_reducible refine' Stm.expr ?_ ?q1); (case q1 => with_unfolding_all rfl))
  | (with_reducible refine' Stm.while ?_)
  | ((with_reducible refine' Stm.for ?_ ?q1); (case q1 => intro _; with_unfolding_all rfl))
  | (with_reducible refine' ItE.val ?_)))
local macro_rules | `(tactic| walk_at "go") => `(tactic| repeat' (walk_at "ev"))
theorem feed_next (cells : List Int) (n : Nat) (S : Int) : M.dS (vPut [("cells", .lst (cells.map .int)), ("at", .int n), ("sum", .int S)] "at" (.int ((n : Int) + 1))) = feedM cells (n + 1) S := by
  unfold feedM; congr 1
theorem fmod_lt {w : Nat} (hw : 0 < w) (i : Int) : ∃ j : Nat, j < w ∧ i.fmod w = j := by
  have h1 : 0 ≤ i.fmod w := by rw [Int.fmod_eq_emod_of_nonneg _ (by omega)]; exact Int.emod_nonneg _ (by omega)
  have h2 : i.fmod w < w := by rw [Int.fmod_eq_emod_of_nonneg _ (by omega)]; exact Int.emod_lt_of_pos _ (by omega)
  exact ⟨(i.fmod w).toNat, by omega, by omega⟩
theorem draw_spec {c : Cx} (hT : Top' c) (k : Nat) {cells : List Int} {n : Nat} {S : Int} {F : Addr} {w : Nat} (hw : 0 < w) (hn : n ≤ 1000) (hc : cells.length ≤ 100) :
    Fn c (k + 1) (.ref 186) [.ref F, .int w] [(F, feedM cells n S)] fun x st' => ∃ j : Nat, j < w ∧ x = .int j ∧ st' = [(F, feedM cells (n + 1) S)] := by
  refine Fn.enter (Def.of hT 186 ["feed", "wide"] rfl rfl rfl rfl rfl rfl rfl rfl rfl rfl (bind2 fun a b => rfl) rfl) rfl rfl ?_
  walk_at "in"
  have m0 : (F, feedM cells n S) ∈ [(F, feedM cells n S)] := List.mem_singleton.mpr rfl
  have m1 : (F, feedM cells (n + 1) S) ∈ [(F, feedM cells (n + 1) S)] := List.mem_singleton.mpr rfl
  walk_at "go"
  refine ⟨⟨_, .dS m0⟩, Op2.atS m0 rfl ?_⟩
  walk_at "go"
  refine ⟨_, BinT.add, ?_⟩
  walk_at "go"
  refine Op3.putS (kvs := [("cells", .lst (cells.map .int)), ("at", .int n), ("sum", .int S)]) (st' := [(F, feedM cells (n + 1) S)]) (by rw [feed_next]; exact .head) (by rw [sizeLine_eq]; simp) ?_
  walk_at "go"
  refine ⟨⟨_, .dS m1⟩, Op2.atS (x := .int ((n + 1 : Nat) : Int)) m1 rfl ?_⟩
  walk_at "go"
  refine ⟨⟨_, .dS m1⟩, Op2.atS (x := .lst (cells.map .int)) m1 rfl ?_⟩
  walk_at "go"
  refine Fn.len (by simp; omega) ?_
  refine ⟨_, CmpT.le, ?_⟩
  by_cases hle : n + 1 ≤ cells.length
  · rw [if_pos (by simp; omega)]
    walk_at "go"
    refine ⟨⟨_, .dS m1⟩, Op2.atS (x := .lst (cells.map .int)) m1 rfl ?_⟩
    walk_at "go"
    refine ⟨_, BinT.sub, ⟨_, .lst _⟩, ?_⟩
    obtain ⟨v, hv⟩ : ∃ v, cells[n]? = some v := ⟨cells[n], List.getElem?_eq_getElem hle⟩
    have e : (((n + 1 : Nat) : Int) - 1) = n := by omega
    rw [e]
    refine Op2.item (x := .int v) (by omega) (by omega) (by simp [hv]) ?_
    walk_at "go"
    refine ⟨_, BinT.mod (by omega), ?_⟩
    obtain ⟨j, hj, ej⟩ := fmod_lt hw v
    exact ⟨j, hj, by rw [ej], rfl⟩
  · rw [if_neg (by simp; omega)]
    walk_at "go"
    have hmul : IntMulOk (5 * ((n + 1 : Nat) : Int)) ((n + 1 : Nat) : Int) := .of_right (intBits_le_64 (by omega) (by omega))
    refine ⟨_, BinT.mul (.of_left (by decide)), ?_⟩
    walk_at "go"
    refine ⟨_, BinT.mul hmul, ?_⟩
    walk_at "go"
    refine ⟨_, BinT.mul (.of_left (by decide)), _, BinT.add, ?_⟩
    walk_at "go"
    refine ⟨_, BinT.add, ?_⟩
    walk_at "go"
    refine ⟨⟨_, .dS m1⟩, Op2.atS (x := .int S) m1 rfl ?_⟩
    refine ⟨_, BinT.add, ?_⟩
    walk_at "go"
    refine ⟨_, BinT.mod (by omega), ?_⟩
    obtain ⟨j, hj, ej⟩ := fmod_lt hw (5 * ((n + 1 : Nat) : Int) * ((n + 1 : Nat) : Int) + 3 * ((n + 1 : Nat) : Int) + 1 + S)
    exact ⟨j, hj, by rw [ej], rfl⟩
noncomputable abbrev Place := Int × List Int
noncomputable def pv (p : Place) : V := .tup [.int p.1, .tup (p.2.map .int)]
noncomputable def sw (a b c : Int) : Int := if c = a then b else if c = b then a else c
noncomputable def swp (a b : Int) (p : Place) : Place := (p.1, p.2.map (sw a b))
noncomputable def nv (j : Nat) : V := .int j
theorem filter_true' {α : Type} (l : List α) : l.filter (fun _ => true) = l := List.filter_eq_self.mpr fun _ _ => rfl
theorem CmpT.eqI {f : Fm} {st : Store} {i j : Int} : CmpT f .Eq (.int i) (.int j) st (decide (i = j)) := by
  have h := CmpT.eq (f := f) (st := st) (Eqs.int i j)
  have e : (V.int i).beq (.int j) = decide (i = j) := by rw [V.beq, Bool.eq_iff_iff]; simp
  rwa [e] at h
theorem CmpT.neI {f : Fm} {st : Store} {i j : Int} : CmpT f .NotEq (.int i) (.int j) st (!decide (i = j)) := by
  have h := CmpT.ne (f := f) (st := st) (Eqs.int i j)
  have e : (V.int i).beq (.int j) = decide (i = j) := by rw [V.beq, Bool.eq_iff_iff]; simp
  rwa [e] at h
theorem cmpL_intsP : ∀ is js : List Int, cmpL (is.map .int) (js.map .int) = true
  | [], _ => rfl
  | _ :: _, [] => rfl
  | i :: is, j :: js => by simp [cmpL, V.cmp, cmpL_intsP is js]
theorem puL_ints : ∀ is : List Int, puL (is.map .int) = true
  | [] => rfl
  | i :: is => by simp [puL, V.pu, puL_ints is]
theorem depL_intsP : ∀ is : List Int, depL (is.map .int) = 0
  | [] => rfl
  | i :: is => by simp [depL, V.dep, depL_intsP is]
theorem dep_pv (p : Place) : (pv p).dep ≤ 4 := by simp [pv, V.dep, depL, depL_intsP]
theorem pu_pv (p : Place) : (pv p).pu = true := by simp [pv, V.pu, puL, puL_ints]
theorem cmp_pv (p q : Place) : (pv p).cmp (pv q) = true := by simp [pv, V.cmp, cmpL, cmpL_intsP]
theorem ints_inj : ∀ {is js : List Int}, is.map V.int = js.map V.int → is = js
  | [], [], _ => rfl
  | [], _ :: _, h => by simp at h
  | _ :: _, [], h => by simp at h
  | i :: is, j :: js, h => by simp at h; rw [h.1, ints_inj (is := is) (js := js) (by simpa using h.2)]
theorem pv_inj {p q : Place} (h : pv p = pv q) : p = q := by
  obtain ⟨r, row⟩ := p
  obtain ⟨r', row'⟩ := q
  simp only [pv, V.tup.injEq, List.cons.injEq, V.int.injEq, and_true] at h
  rw [h.1, ints_inj h.2]
theorem idx_spec {α : Type} [BEq α] [LawfulBEq α] {q : α} : ∀ {ps : List α}, q ∈ ps → ps[ps.idxOf q]? = some q ∧ ∀ m, m < ps.idxOf q → ps[m]? ≠ some q
  | [], h => nomatch h
  | p :: ps, h => by
    cases e : p == q with
    | true =>
      have := eq_of_beq e
      subst this; rw [List.idxOf_cons, e]; simp
    | false =>
      have hne : p ≠ q := fun h => by rw [h, beq_self_eq_true] at e; cases e
      have hm : q ∈ ps := (List.mem_cons.mp h).resolve_left fun h => hne h.symm
      obtain ⟨h1, h2⟩ := idx_spec hm
      rw [List.idxOf_cons, e]
      refine ⟨by simpa using h1, fun m hm' => ?_⟩
      cases m with
      | zero => simpa using hne
      | succ m => simpa using h2 m (by simpa using hm')
theorem sto2 {f : Fm} {a b : Str} (h1 : Sto f a) (h2 : Sto f b) : ∀ x ∈ [a, b], Sto f x := fun x hx => by
  rcases List.mem_cons.mp hx with rfl | hx
  · exact h1
  · rw [List.mem_singleton.mp hx]; exact h2
theorem sto3 {f : Fm} {a b d : Str} (h1 : Sto f a) (h2 : Sto f b) (h3 : Sto f d) : ∀ x ∈ [a, b, d], Sto f x := fun x hx => by
  rcases List.mem_cons.mp hx with rfl | hx
  · exact h1
  · exact sto2 h2 h3 x hx
theorem turn_spec {c : Cx} (hT : Top' c) (k : Nat) {ps : List Place} {a b : Int} {st : Store} (hl : ps.length ≤ 100) (hr : ∀ p ∈ ps, p.2.length ≤ 10) (hc : ∀ p ∈ ps, swp a b p ∈ ps) :
    Fn c (k + 1) (.ref 196) [.lst (ps.map pv), .int a, .int b] st fun x st' => x = .lst ((ps.map fun p => ps.idxOf (swp a b p)).map nv) ∧ st' = st := by
  refine Fn.enter (Def.of hT 196 ["places", "a", "b"] rfl rfl rfl rfl rfl rfl rfl rfl rfl rfl (bind3 fun a b d => rfl) rfl) rfl rfl ?_
  walk_at "in"
  walk_at "go"
  refine ⟨_, .inl rfl, fun C => ?_⟩
  refine CLoop.each pv (fun _ => true) (fun p => pv (swp a b p)) (fun vs => vs "a" = some (.int a) ∧ vs "b" = some (.int b)) rfl rfl rfl (fun p hp vs hJ => ?_) (by rw [sizeLine_eq]; simp; omega) ⟨rfl, rfl⟩ fun vs' hJ => ?_
  · obtain ⟨ha, hb⟩ := hJ
    refine Asg.tuple (names := ["r", "row"]) (sto2 (.inl rfl) (.inl rfl)) rfl ⟨⟨ha, hb⟩, Tests.nil ⟨rfl, rfl, fun _ => ?_⟩⟩ rfl rfl names2
    walk_at "go"
    refine ⟨_, .inr rfl, fun C' => ?_⟩
    refine CLoop.each V.int (fun _ => true) (fun i => .int (sw a b i)) (fun vs => vs "a" = some (.int a) ∧ vs "b" = some (.int b)) rfl rfl rfl (fun i hi vs hJ => ?_) (by rw [sizeLine_eq]; have := hr p hp; simp; omega) ⟨ha, hb⟩ fun vs' hJ => ?_
    · obtain ⟨ha, hb⟩ := hJ
      refine Asg.name (.inl rfl) ⟨⟨ha, hb⟩, Tests.nil ⟨rfl, rfl, fun _ => ?_⟩⟩
      walk_at "go"
      refine ⟨_, CmpT.eqI, ?_⟩
      by_cases h1 : i = a
      · rw [if_pos (by simpa using h1)]
        walk_at "go"
        exact ⟨by rw [sw, if_pos h1], rfl⟩
      · rw [if_neg (by simpa using h1)]
        walk_at "go"
        refine ⟨_, CmpT.eqI, ?_⟩
        by_cases h2 : i = b
        · rw [if_pos (by simpa using h2)]
          walk_at "go"
          exact ⟨by rw [sw, if_neg h1, if_pos h2], rfl⟩
        · rw [if_neg (by simpa using h2)]
          walk_at "go"
          exact ⟨by rw [sw, if_neg h1, if_neg h2], rfl⟩
    · rw [filter_true']
      walk_at "go"
      refine Fn.tuple (by rw [sizeLine_eq]; have := hr p hp; simp; omega) ?_
      walk_at "go"
      exact ⟨by rw [sizeLine_eq]; simp, by simp [pv, swp], rfl⟩
  · rw [filter_true', List.nil_append]
    walk_at "go"
    refine ⟨_, .inl rfl, fun C' => ?_⟩
    refine CLoop.each (fun p => pv (swp a b p)) (fun _ => true) (fun p => nv (ps.idxOf (swp a b p))) (fun vs => vs "places" = some (.lst (ps.map pv))) rfl rfl rfl (fun p hp vs hJ => ?_) (by rw [sizeLine_eq]; simp; omega) rfl fun vs' hJ => ?_
    · refine Asg.name (.inl rfl) ⟨hJ, Tests.nil ⟨rfl, rfl, fun _ => ?_⟩⟩
      refine Ev.m_index ?_ rfl rfl
      walk_at "go"
      refine ⟨.lst _, ?_⟩
      walk_at "go"
      obtain ⟨i1, i2⟩ := idx_spec (hc p hp)
      refine Fn.index (j := ps.idxOf (swp a b p)) (dep_pv _) (pu_pv _) (fun y hy => ?_) (by rw [List.getElem?_map, i1]; rfl) (fun m y hm hy => ?_) ?_ ⟨rfl, rfl⟩
      · obtain ⟨q, _, rfl⟩ := List.mem_map.mp hy
        exact ⟨dep_pv _, pu_pv _, cmp_pv _ _⟩
      · rw [List.getElem?_map] at hy
        obtain ⟨q, hq, rfl⟩ := Option.map_eq_some_iff.mp hy
        intro e
        have := pv_inj e
        subst this
        exact i2 m hm hq
      · have := (List.getElem?_eq_some_iff.mp i1).1
        omega
    · rw [filter_true', List.nil_append]
      exact ⟨by simp, rfl⟩
theorem irange_nv (n : Nat) : irange 0 n = (List.range n).map nv := by
  unfold irange nv
  refine List.map_congr_left fun i _ => ?_
  rw [Int.zero_add]
theorem Mk.rangeN {f : Fm} {target : Expr} {vs : Vars} {st : Store} {P : List V → Store → Prop} {n : Nat} (hn : (n : Int) < 2 ^ 62) (h : P ((List.range n).map nv) st) : Mk f target (.type "range") [.int n] vs st P := Mk.range hn (by rw [irange_nv]; exact h)
noncomputable def early (turn : List Nat) (most : Nat) : List Nat := ((List.range turn.length).filter fun i => decide (i < turn.getD i 0)).take most
noncomputable def at' (row : List Bool) (i : Nat) : Bool := row.getD i false
theorem nth_bool {row : List Bool} {i : Nat} (h : i < row.length) : (row.map V.bool)[((i : Int)).toNat]? = some (.bool (at' row i)) := by
  simp [at', List.getD, h]
theorem nth_nat {t : List Nat} {i : Nat} (h : i < t.length) : (t.map nv)[((i : Int)).toNat]? = some (.int (t.getD i 0 : Nat)) := by
  simp [List.getD, h, nv]
theorem first_spec {c : Cx} (hT : Top' c) (k : Nat) {row : List Bool} {turn : List Nat} {most : Nat} {st : Store} (hl : row.length ≤ 100) (ht : turn.length = row.length) (hr : ∀ t ∈ turn, t < row.length) :
    Fn c (k + 1) (.ref 206) [.lst (row.map .bool), .lst (turn.map nv), .int most] st fun x st' => x = .bool (leB ((early turn most).map (at' row)) ((early turn most).map fun i => at' row (turn.getD i 0))) ∧ st' = st := by
  have hgd : ∀ i, i < turn.length → turn.getD i 0 < row.length := fun i hi => hr _ (by simp [List.getD, hi])
  refine Fn.enter (Def.of hT 206 ["row", "turn", "most"] rfl rfl rfl rfl rfl rfl rfl rfl rfl rfl (bind3 fun a b d => rfl) rfl) rfl rfl ?_
  walk_at "in"
  walk_at "go"
  refine Fn.len (by simp; omega) ?_
  walk_at "go"
  rw [List.length_map]
  refine Mk.rangeN (by omega) fun C => ?_
  have htl : turn.length ≤ 100 := by omega
  refine CLoop.each nv (fun i => decide (i < turn.getD i 0)) nv (fun vs => vs "turn" = some (.lst (turn.map nv))) rfl rfl rfl (fun i hi vs hJ => ?_) (by rw [sizeLine_eq]; simp; omega) rfl fun vs' hJ => ?_
  · have hi := List.mem_range.mp hi
    refine Asg.name (.inl rfl) ⟨hJ, Tests.one ?_⟩
    walk_at "go"
    refine ⟨⟨_, .lst _⟩, Op2.item (by omega) (by omega) (nth_nat hi) ?_⟩
    walk_at "go"
    refine ⟨_, CmpT.gt, by simp, rfl, fun _ => ?_⟩
    walk_at "go"
    exact ⟨rfl, rfl⟩
  · rw [List.nil_append]
    walk_at "go"
    have hE : ((List.range turn.length).filter fun i => decide (i < turn.getD i 0)).length ≤ turn.length := by
      have := List.length_filter_le (fun i => decide (i < turn.getD i 0)) (List.range turn.length)
      simpa using this
    refine ⟨_, most, rfl, rfl, by rw [sizeLine_eq, List.length_map]; omega, ?_⟩
    have hT2 : (((List.range turn.length).filter fun i => decide (i < turn.getD i 0)).map nv).take most = (early turn most).map nv := by unfold early; rw [List.map_take]
    rw [hT2]
    have hel : (early turn most).length ≤ 100 := by unfold early; rw [List.length_take]; omega
    have hem : ∀ i ∈ early turn most, i < turn.length := fun i hi => List.mem_range.mp (List.mem_filter.mp (List.mem_of_mem_take hi)).1
    walk_at "go"
    refine ⟨_, .inl rfl, fun C' => ?_⟩
    refine CLoop.each nv (fun _ => true) (fun i => .bool (at' row i)) (fun vs => vs "row" = some (.lst (row.map .bool))) rfl rfl rfl (fun i hi vs hJ => ?_) (by rw [sizeLine_eq]; simp; omega) rfl fun vs' hJ => ?_
    · have hi := hem i hi
      refine Asg.name (.inl rfl) ⟨hJ, Tests.nil ⟨rfl, rfl, fun _ => ?_⟩⟩
      walk_at "go"
      refine ⟨⟨_, .lst _⟩, Op2.item (by omega) (by omega) (nth_bool (by omega)) ⟨rfl, rfl⟩⟩
    · rw [filter_true', List.nil_append]
      walk_at "go"
      refine ⟨_, .inl rfl, fun C'' => ?_⟩
      refine CLoop.each nv (fun _ => true) (fun i => .bool (at' row (turn.getD i 0))) (fun vs => vs "row" = some (.lst (row.map .bool)) ∧ vs "turn" = some (.lst (turn.map nv))) rfl rfl rfl (fun i hi vs hJ => ?_) (by rw [sizeLine_eq]; simp; omega) ⟨rfl, rfl⟩ fun vs' hJ => ?_
      · obtain ⟨h1, h2⟩ := hJ
        have hi := hem i hi
        refine Asg.name (.inl rfl) ⟨⟨h1, h2⟩, Tests.nil ⟨rfl, rfl, fun _ => ?_⟩⟩
        walk_at "go"
        refine ⟨⟨_, .lst _⟩, Op2.item (by omega) (by omega) (nth_nat hi) ?_⟩
        have := hgd i hi
        exact ⟨⟨_, .lst _⟩, Op2.item (by omega) (by omega) (nth_bool this) ⟨rfl, rfl⟩⟩
      · rw [filter_true', List.nil_append]
        have e1 : (early turn most).map (fun i => V.bool (at' row i)) = ((early turn most).map (at' row)).map V.bool := by rw [List.map_map]; rfl
        have e2 : (early turn most).map (fun i => V.bool (at' row (turn.getD i 0))) = ((early turn most).map fun i => at' row (turn.getD i 0)).map V.bool := by rw [List.map_map]; rfl
        rw [e1, e2]
        exact ⟨_, CmpT.leL (by simp), rfl, rfl⟩
noncomputable def iv (p : Place) (g : Int) : V := .tup [.int p.1, .tup (p.2.map .int), .int g]
noncomputable def gn (i : Nat) : Int := (i : Int) + 2
noncomputable def at0 (ps : List Place) (i : Nat) : Place := ps.getD i (0, [])
noncomputable def insV (ps : List Place) : List V := (List.range ps.length).map fun i => iv (at0 ps i) (gn i)
noncomputable def gatesL (ps : List Place) (n : Nat) : List (V × V) := (List.range n).map fun j => (pv (at0 ps j), .int (gn j))
noncomputable def seenL (ps : List Place) (n : Nat) : List (V × V) := (List.range n).map fun j => (pv (at0 ps j), .bool true)
noncomputable def tn (ps : List Place) (a b : Int) (i : Nat) : Nat := ps.idxOf (swp a b (at0 ps i))
noncomputable def prV (p : Int × Int) : V := .tup [.int p.1, .int p.2]
noncomputable def exPairs (ps : List Place) (a b : Int) (n : Nat) : List (Int × Int) := ((List.range n).filter fun i => decide (i < tn ps a b i)).map fun i => (gn i, gn (tn ps a b i))
theorem at0_get {ps : List Place} {i : Nat} (h : i < ps.length) : ps[i]? = some (at0 ps i) := by simp [at0, List.getD, h]
theorem isK_pv (p : Place) : isK true (pv p) := ⟨p.1, p.2, rfl⟩
theorem beq_pv (p q : Place) : (pv p).beq (pv q) = decide (p = q) := by
  by_cases h : p = q
  · subst h; rw [decide_eq_true rfl]; exact (V.beq_iff _ _).mpr rfl
  · rw [decide_eq_false h]
    cases hb : (pv p).beq (pv q) with
    | false => rfl
    | true => exact absurd (pv_inj ((V.beq_iff _ _).mp hb)) h
theorem range_split {n : Nat} {pre post : List Nat} {a : Nat} (h : List.range n = pre ++ a :: post) : a = pre.length ∧ pre.length < n := by
  have hl : n = pre.length + (post.length + 1) := by have := congrArg List.length h; simpa using this
  have e : (List.range n)[pre.length]? = some a := by rw [h]; simp
  rw [List.getElem?_range (by omega)] at e
  exact ⟨(Option.some.inj e).symm, by omega⟩
theorem snocRange {α : Type} (g : Nat → α) (n : Nat) : (List.range n).map g ++ [g n] = (List.range (n + 1)).map g := by rw [List.range_succ, List.map_append]; rfl
theorem any_pv {ps : List Place} (hnd : ps.Nodup) {n : Nat} (hn : n ≤ ps.length) (w : Nat → V) (q : Place) (hq : q ∈ ps) : ((List.range n).map fun j => (pv (at0 ps j), w j)).find? (fun kv => kv.1.beq (pv q)) = if ps.idxOf q < n then some (pv q, w (ps.idxOf q)) else none := by
  obtain ⟨i1, i2⟩ := idx_spec hq
  have hlt := (List.getElem?_eq_some_iff.mp i1).1
  have hat : at0 ps (ps.idxOf q) = q := by have := at0_get hlt; rw [i1] at this; exact (Option.some.inj this).symm
  have hne : ∀ j, j < ps.length → j ≠ ps.idxOf q → at0 ps j ≠ q := fun j hj hne e => by
    have h1 := at0_get hj
    rw [e] at h1
    exact hne (by
      have g1 := (List.getElem?_eq_some_iff.mp h1).2
      have g2 := (List.getElem?_eq_some_iff.mp i1).2
      exact (List.getElem_inj hnd).mp (g1.trans g2.symm))
  induction n with
  | zero => simp
  | succ n ih =>
    rw [List.range_succ, List.map_append, List.find?_append, ih (by omega)]
    by_cases h : ps.idxOf q < n
    · rw [if_pos h, if_pos (by omega)]; rfl
    · rw [if_neg h]
      simp only [List.map_cons, List.map_nil, List.find?_cons, List.find?_nil, beq_pv, Option.none_or]
      by_cases h2 : n = ps.idxOf q
      · rw [if_pos (by omega), h2, hat]; simp
      · rw [if_neg (by omega), decide_eq_false (hne n (by omega) h2)]
theorem tPut_new {kvs : List (V × V)} {k v : V} (h : kvs.find? (fun kv => kv.1.beq k) = none) : tPut kvs k v = kvs ++ [(k, v)] := by
  unfold tPut
  have : kvs.any (fun kv => kv.1.beq k) = false := by
    rw [List.any_eq_false]
    intro x hx
    exact List.find?_eq_none.mp h x hx
  rw [this]; rfl
theorem mem_at0 {ps : List Place} {i : Nat} (h : i < ps.length) : at0 ps i ∈ ps := List.mem_of_getElem? (at0_get h)
theorem idx_at0 {ps : List Place} (hnd : ps.Nodup) {i : Nat} (h : i < ps.length) : ps.idxOf (at0 ps i) = i := by
  obtain ⟨i1, _⟩ := idx_spec (mem_at0 h)
  have g1 := (List.getElem?_eq_some_iff.mp i1).2
  have g2 := (List.getElem?_eq_some_iff.mp (at0_get h)).2
  exact (List.getElem_inj hnd).mp (g1.trans g2.symm)
noncomputable def tbl (a b : Int) : List (Int × V) := ([a, b].zip [.int b, .int a]).foldl (fun acc p => vPut acc p.1 p.2) []
theorem tbl_at (a b c : Int) : (vAt (tbl a b) c).getD (.int c) = .int (sw a b c) := by
  have e1 : tbl a b = vPut [(a, .int b)] b (.int a) := rfl
  rw [e1]
  unfold vPut sw
  by_cases hab : a = b
  · subst hab
    simp [vAt]
    by_cases hc : c = a
    · subst hc; simp
    · rw [if_neg hc]; simp [List.find?_cons, Ne.symm hc]
  · simp [hab, vAt, List.find?_cons]
    by_cases hc : c = a
    · subst hc; simp
    · rw [if_neg hc]; simp [Ne.symm hc]
      by_cases hb : c = b
      · subst hb; simp
      · rw [if_neg hb]; simp [Ne.symm hb]
theorem eqs_pv (p q : Place) : Eqs (pv p) (pv q) := ⟨cmp_pv p q, Nat.le_succ_of_le (dep_pv p), pu_pv p, pu_pv q⟩
theorem CmpT.nePv {f : Fm} {st : Store} {p q : Place} : CmpT f .NotEq (pv p) (pv q) st (!decide (p = q)) := by
  have h := CmpT.ne (f := f) (st := st) (eqs_pv p q)
  rwa [beq_pv] at h
theorem CmpT.notInPv {f : Fm} {st : Store} {d : Addr} {kvs : List (V × V)} {q : Place} {b : Bool} (hm : (d, M.dT true kvs) ∈ st) (hb : (tAt kvs (pv q)).isSome = b) : CmpT f .NotIn (pv q) (.ref d) st (!b) := by
  have h := CmpT.notInT (f := f) (b := true) (x := pv q) hm (isK_pv q)
  rwa [hb] at h
theorem ex_snoc {ps : List Place} {a b : Int} {n : Nat} : exPairs ps a b (n + 1) = exPairs ps a b n ++ (if n < tn ps a b n then [(gn n, gn (tn ps a b n))] else []) := by
  unfold exPairs
  rw [List.range_succ, List.filter_append, List.map_append]
  congr 1
  by_cases h : n < tn ps a b n
  · rw [if_pos h, List.filter_cons_of_pos (by simpa using h)]; rfl
  · rw [if_neg h, List.filter_cons_of_neg (by simpa using h)]; rfl
theorem ex_len (ps : List Place) (a b : Int) (n : Nat) : (exPairs ps a b n).length ≤ n := by
  unfold exPairs
  rw [List.length_map]
  exact Nat.le_trans (List.length_filter_le _ _) (by simp)
theorem ex_spec {c : Cx} (hT : Top' c) (k : Nat) {ps : List Place} {a b : Int} {st : Store} (hl : ps.length ≤ 100) (hr : ∀ p ∈ ps, p.2.length ≤ 10) (hc : ∀ p ∈ ps, swp a b p ∈ ps) (hnd : ps.Nodup) :
    Fn c (k + 1) (.ref 26) [.lst (insV ps), .int a, .int b] st fun x st' => x = .lst ((exPairs ps a b ps.length).map prV) ∧ st' = st := by
  refine Fn.freeze (Fn.drop (Fn.enter (Def.of hT 26 ["inputs", "a", "b"] rfl rfl rfl rfl rfl rfl rfl rfl rfl rfl (bind3 fun a b d => rfl) rfl) rfl rfl ?_))
  walk_at "in"
  walk_at "go"
  refine Ev.dictT true fun D => ?_
  walk_at "go"
  refine ⟨by decide, fun L => ?_⟩
  walk_at "go"
  refine ⟨by rw [sizeLine_eq]; simp, _, _, rfl, ?_⟩
  walk_at "go"
  refine ⟨_, .inl rfl, ?_⟩
  refine Loop.inv (xs := List.range ps.length) (fun i : Nat => iv (at0 ps i) (gn i)) (fun pre vs st' => vs "inputs" = some (.lst (insV ps)) ∧ vs "a" = some (.int a) ∧ vs "b" = some (.int b) ∧ vs "found" = some (.ref L) ∧ vs "gates" = some (.ref D) ∧
    st' = (L, .list []) :: (D, .dT true (gatesL ps pre.length)) :: st) (fun pre i post vs st' e j => ?_) ⟨rfl, rfl, rfl, rfl, rfl, rfl⟩ (fun vs st' j => ?_)
  · obtain ⟨j1, j2, j3, j4, j5, rfl⟩ := j
    obtain ⟨rfl, hi⟩ := range_split e
    refine Asg.tuple (names := ["r", "row", "gate"]) (sto3 (.inl rfl) (.inl rfl) (.inl rfl)) rfl ?_ rfl rfl names3
    walk_at "go"
    refine ⟨by rw [sizeLine_eq]; simp, ?_⟩
    refine Op3.putT (b := true) (kvs := gatesL ps pre.length) (.tail .head) (isK_pv (at0 ps pre.length)) (by rw [sizeLine_eq]; simp [gatesL]; omega) ?_
    walk_at "go"
    refine ⟨j1, j2, j3, j4, j5, ?_⟩
    rw [List.length_append, List.length_singleton]
    have := any_pv hnd (n := pre.length) (by omega) (fun j => .int (gn j)) (at0 ps pre.length) (mem_at0 hi)
    rw [idx_at0 hnd hi, if_neg (Nat.lt_irrefl _)] at this
    rw [show (V.tup [V.int (at0 ps pre.length).1, V.tup ((at0 ps pre.length).2.map V.int)]) = pv (at0 ps pre.length) from rfl]
    unfold gatesL
    rw [tPut_new this]
    rw [snocRange fun j => (pv (at0 ps j), V.int (gn j))]
  · obtain ⟨j1, j2, j3, j4, j5, rfl⟩ := j
    rw [List.length_range]
    walk_at "go"
    refine Ev.dictPI [(.Name "a" _, .Name "b" _), (.Name "b" _, .Name "a" _)] rfl (by simp) (by decide) ?_
    refine EvP.cons (Ev.name j2 (Ev.name j3 (EvP.cons (Ev.name j3 (Ev.name j2 (EvP.nil ⟨[a, b], rfl, fun T => ?_⟩))))))
    walk_at "go"
    refine Ev.dictT true fun S => ?_
    walk_at "go"
    refine ⟨by rw [sizeLine_eq]; simp, _, _, rfl, ?_⟩
    walk_at "go"
    refine ⟨_, .inl rfl, ?_⟩
    refine Loop.inv (xs := List.range ps.length) (fun i : Nat => iv (at0 ps i) (gn i)) (fun pre vs st' => vs "table" = some (.ref T) ∧ vs "seen" = some (.ref S) ∧ vs "found" = some (.ref L) ∧ vs "gates" = some (.ref D) ∧
      st' = (S, .dT true (seenL ps pre.length)) :: (T, .dI (tbl a b)) :: (L, .list ((exPairs ps a b pre.length).map prV)) :: (D, .dT true (gatesL ps ps.length)) :: st) (fun pre i post vs st' e j => ?_) ⟨rfl, rfl, j4, j5, rfl⟩ (fun vs st' j => ?_)
    · clear j1 j2 j3 j4 j5
      obtain ⟨j1, j2, j3, j4, rfl⟩ := j
      obtain ⟨rfl, hi⟩ := range_split e
      refine Asg.tuple (names := ["r", "row", "gate"]) (sto3 (.inl rfl) (.inl rfl) (.inl rfl)) rfl ?_ rfl rfl names3
      have hp := mem_at0 hi
      generalize hpp : at0 ps pre.length = p at hp
      walk_at "go"
      refine ⟨_, .inr rfl, fun C => ?_⟩
      refine CLoop.each V.int (fun _ => true) (fun i => .int (sw a b i)) (fun vs => vs "table" = some (.ref T)) rfl rfl rfl (fun i hi vs hJ => ?_) (by rw [sizeLine_eq]; have := hr p hp; simp; omega) j1 fun vs' hJ => ?_
      · refine Asg.name (.inl rfl) ⟨hJ, Tests.nil ⟨rfl, rfl, fun _ => ?_⟩⟩
        walk_at "go"
        refine ⟨.dI (.tail _ (.head _)), ?_⟩
        walk_at "go"
        exact Fn.getI (.tail _ (.head _)) ⟨tbl_at a b i, rfl⟩
      rw [filter_true', List.nil_append]
      walk_at "go"
      have hm : p.2.map (fun i => V.int (sw a b i)) = (swp a b p).2.map .int := by simp [swp]
      rw [hm]
      refine Fn.tuple (by rw [sizeLine_eq]; have := hr p hp; simp [swp]; omega) ?_
      walk_at "go"
      refine ⟨by rw [sizeLine_eq]; simp, ?_⟩
      have hpre : ps.idxOf p = pre.length := by rw [← hpp]; exact idx_at0 hnd hi
      have htn : tn ps a b pre.length = ps.idxOf (swp a b p) := by unfold tn; rw [hpp]
      have hq := hc p hp
      obtain ⟨i1, i2⟩ := idx_spec hq
      have hqlt := (List.getElem?_eq_some_iff.mp i1).1
      have hgate : tAt (gatesL ps ps.length) (pv (swp a b p)) = some (.int (gn (tn ps a b pre.length))) := by
        unfold tAt gatesL
        rw [any_pv hnd (Nat.le_refl _) (fun j => V.int (gn j)) _ hq, if_pos hqlt, htn]; rfl
      have hseen : (tAt (seenL ps pre.length) (pv (swp a b p))).isSome = decide (ps.idxOf (swp a b p) < pre.length) := by
        unfold tAt seenL
        rw [any_pv hnd (by omega) (fun j => V.bool true) _ hq]
        by_cases h : ps.idxOf (swp a b p) < pre.length
        · rw [if_pos h, decide_eq_true h]; rfl
        · rw [if_neg h, decide_eq_false h]; rfl
      have hself : swp a b p = p ↔ ps.idxOf (swp a b p) = pre.length := ⟨fun e => by rw [e, hpre], fun e => by
        rw [e] at i1
        have := at0_get hi
        rw [hpp, i1] at this
        exact Option.some.inj this⟩
      -- the last store, whatever was found
      have last : ∀ fl : List (Int × Int), fl = exPairs ps a b (pre.length + 1) → Upd S (.dT true (seenL ps pre.length)) (.dT true (tPut (seenL ps pre.length) (pv p) (.bool true)))
          ((S, .dT true (seenL ps pre.length)) :: (T, .dI (tbl a b)) :: (L, .list (fl.map prV)) :: (D, .dT true (gatesL ps ps.length)) :: st)
          ((S, .dT true (seenL ps (pre ++ [pre.length]).length)) :: (T, .dI (tbl a b)) :: (L, .list ((exPairs ps a b (pre ++ [pre.length]).length).map prV)) :: (D, .dT true (gatesL ps ps.length)) :: st) := by
        rintro fl rfl
        have this := any_pv hnd (n := pre.length) (by omega) (fun j => .bool true) p hp
        rw [hpre, if_neg (Nat.lt_irrefl _)] at this
        have e3 : tPut (seenL ps pre.length) (pv p) (.bool true) = seenL ps (pre ++ [pre.length]).length := by
          unfold seenL
          rw [tPut_new this, List.length_append, List.length_singleton, ← snocRange fun j => (pv (at0 ps j), V.bool true), hpp]
        rw [e3, List.length_append, List.length_singleton]
        exact .head
      walk_at "go"
      refine ⟨by rw [sizeLine_eq]; simp, ?_⟩
      refine ⟨_, CmpT.nePv (p := swp a b p) (q := p), ?_⟩
      by_cases h1 : swp a b p = p
      · rw [if_neg (by simpa using h1), if_neg Bool.false_ne_true]
        walk_at "go"
        refine ⟨by rw [sizeLine_eq]; simp, ?_⟩
        refine Op3.putT (b := true) (kvs := seenL ps pre.length) (last _ ?_) (isK_pv p) (by rw [sizeLine_eq]; simp [seenL]; omega) ?_
        · rw [ex_snoc, if_neg (by rw [htn, hself.mp h1]; exact Nat.lt_irrefl _), List.append_nil]
        · walk_at "go"
          exact ⟨j1, j2, j3, j4, rfl⟩
      · rw [if_pos (by simpa using h1)]
        walk_at "go"
        refine ⟨_, CmpT.notInPv (q := swp a b p) (.head _) hseen, ?_⟩
        by_cases h2 : ps.idxOf (swp a b p) < pre.length
        · rw [if_neg (by simpa using h2), if_neg Bool.false_ne_true]
          walk_at "go"
          refine ⟨by rw [sizeLine_eq]; simp, ?_⟩
          refine Op3.putT (b := true) (kvs := seenL ps pre.length) (last _ ?_) (isK_pv p) (by rw [sizeLine_eq]; simp [seenL]; omega) ?_
          · rw [ex_snoc, if_neg (by rw [htn]; omega), List.append_nil]
          · walk_at "go"
            exact ⟨j1, j2, j3, j4, rfl⟩
        · rw [if_pos (by simpa using h2)]
          walk_at "go"
          refine ⟨.list (.tail _ (.tail _ (.head _))), ?_⟩
          walk_at "go"
          refine ⟨⟨_, .dT (b := true) (.tail _ (.tail _ (.tail _ (.head _))))⟩, Op2.atT (y := pv (swp a b p)) (.tail _ (.tail _ (.tail _ (.head _)))) (isK_pv (swp a b p)) hgate ?_⟩
          walk_at "go"
          refine ⟨by rw [sizeLine_eq]; simp, ?_⟩
          walk_at "go"
          refine Fn.append (.tail (.tail .head)) (by rw [sizeLine_eq, List.length_map]; have := ex_len ps a b pre.length; omega) ⟨.inr rfl, ?_⟩
          walk_at "go"
          refine ⟨by rw [sizeLine_eq]; simp, ?_⟩
          have ef : exPairs ps a b pre.length ++ [(gn pre.length, gn (tn ps a b pre.length))] = exPairs ps a b (pre.length + 1) := by
            rw [ex_snoc, if_pos]
            rw [htn]
            have : ps.idxOf (swp a b p) ≠ pre.length := fun e => h1 (hself.mpr e)
            omega
          have eM : (exPairs ps a b pre.length).map prV ++ [.tup [.int (gn pre.length), .int (gn (tn ps a b pre.length))]] = (exPairs ps a b pre.length ++ [(gn pre.length, gn (tn ps a b pre.length))]).map prV := by
            rw [List.map_append]; rfl
          rw [eM]
          refine Op3.putT (b := true) (kvs := seenL ps pre.length) (last _ ef) (isK_pv p) (by rw [sizeLine_eq]; simp [seenL]; omega) ?_
          walk_at "go"
          exact ⟨j1, j2, j3, j4, rfl⟩
    · obtain ⟨j1, j2, j3, j4, rfl⟩ := j
      rw [List.length_range]
      walk_at "go"
      exact ⟨(L, .list ((exPairs ps a b ps.length).map prV)) :: st, .cons _ (.cons _ (.cons_cons _ (List.sublist_cons_self _ _))), L, _, [], st, rfl, rfl, rfl, rfl⟩
theorem clsC {c : Cx} (hT : Top' c) : Cls c 149 := ⟨by rw [hT]; rfl, by rw [hT]; rfl, by rw [hT]; rfl, by rw [hT]; rfl, by rw [hT]; rfl, by rw [hT]; rfl⟩
theorem clsR {c : Cx} (hT : Top' c) : Cls c 175 := ⟨by rw [hT]; rfl, by rw [hT]; rfl, by rw [hT]; rfl, by rw [hT]; rfl, by rw [hT]; rfl, by rw [hT]; rfl⟩
theorem nnC {c : Cx} (hT : Top' c) : NoName c 149 "kinds" ∧ NoName c 149 "parts_now" ∧ NoName c 149 "known" := ⟨by unfold NoName; rw [hT]; rfl, by unfold NoName; rw [hT]; rfl, by unfold NoName; rw [hT]; rfl⟩
theorem nnR {c : Cx} (hT : Top' c) : NoName c 175 "circuit" := by unfold NoName; rw [hT]; rfl
structure CA where
  a : Addr
  dx : Addr
  K : Addr
  PN : Addr
  KN : Addr
noncomputable def kindS : Gt → Str
  | none => "input"
  | some _ => "and"
noncomputable def partsT (g : Gt) : V := .tup ((g.getD []).map .int)
noncomputable def kindsV (gs : List Gt) : List V := .str "" :: .str "true" :: gs.map fun g => .str (kindS g)
noncomputable def partsV (gs : List Gt) : List V := .tup [] :: .tup [] :: gs.map partsT
noncomputable def knownV (gs : List Gt) : List (V × V) := (knownL gs 2).map fun kv => (.tup (kv.1.map .int), .int kv.2)
noncomputable def cirO (x : CA) : Addr × M := (x.a, .inst 149 x.dx [("kinds", .ref x.K), ("parts_now", .ref x.PN), ("known", .ref x.KN)])
noncomputable def cir' (x : CA) (gs : List Gt) (kn : List (V × V)) : Store := [(x.KN, .dT false kn), (x.PN, .list (partsV gs)), (x.K, .list (kindsV gs)), cirO x]
noncomputable def cir (x : CA) (gs : List Gt) : Store := cir' x gs (knownV gs)
theorem meth {c : Cx} (hT : Top' c) {name : Str} {a : Addr} {C : Addr} (h1 : W.findIn (kh c.w.params) (.ref C) name = some (some (.ref a))) (h2 : W.typeIn (kh c.w.params) (.ref a) = some (.type "function")) (h3 : W.keepIn (kh c.w.params) (.ref a) = true) :
    W.findIn c.K (.ref C) name = some (some (.ref a)) ∧ W.typeIn c.K (.ref a) = some (.type "function") ∧ W.keepIn c.K (.ref a) = true := by rw [hT]; exact ⟨h1, h2, h3⟩

theorem new_gate_spec {c : Cx} (hT : Top' c) (k : Nat) {x : CA} {gs : List Gt} {kn : List (V × V)} (g : Gt) (hl : gs.length ≤ 1000) :
    Fn c (k + 1) (.ref 83) [.ref x.a, .str (kindS g), partsT g] (cir' x gs kn) fun v st' => v = .int ((gs.length : Int) + 2) ∧ st' = cir' x (gs ++ [g]) kn := by
  refine Fn.enter (Def.of hT 83 ["self", "kind", "parts"] rfl rfl rfl rfl rfl rfl rfl rfl rfl rfl (bind3 fun a b d => rfl) rfl) rfl rfl ?_
  walk_at "in"
  walk_at "go"
  refine ⟨x.a, _, _, _, _, rfl, .tail _ (.tail _ (.tail _ (.head _))), clsC hT, (nnC hT).1, rfl, ?_⟩
  refine ⟨.list (xs := kindsV gs) (.tail _ (.tail _ (.head _))), ?_⟩
  walk_at "go"
  refine Fn.append (.tail (.tail .head)) (by rw [sizeLine_eq]; simp [kindsV]; omega) ⟨.inr rfl, ?_⟩
  walk_at "go"
  refine ⟨x.a, _, _, _, _, rfl, .tail _ (.tail _ (.tail _ (.head _))), clsC hT, (nnC hT).2.1, rfl, ?_⟩
  refine ⟨.list (xs := partsV gs) (.tail _ (.head _)), ?_⟩
  walk_at "go"
  refine Fn.append (.tail .head) (by rw [sizeLine_eq]; simp [partsV]; omega) ⟨.inr rfl, ?_⟩
  walk_at "go"
  refine ⟨x.a, _, _, _, _, rfl, .tail _ (.tail _ (.tail _ (.head _))), clsC hT, (nnC hT).1, rfl, ?_⟩
  walk_at "go"
  refine Fn.lenO (xs := kindsV gs ++ [.str (kindS g)]) (.tail _ (.tail _ (.head _))) (by simp [kindsV]; omega) ?_
  walk_at "go"
  refine ⟨_, BinT.sub, ?_⟩
  refine ⟨?_, ?_⟩
  · congr 1; simp [kindsV]; omega
  · unfold cir' kindsV partsV
    simp
theorem knownV_none (gs : List Gt) : knownV (gs ++ [none]) = knownV gs := by
  unfold knownV; rw [knownL_app]; simp [knownL]
theorem knownV_some (gs : List Gt) (ps : List Int) : knownV (gs ++ [some ps]) = knownV gs ++ [(.tup (ps.map .int), .int ((gs.length : Int) + 2))] := by
  unfold knownV; rw [knownL_app]; simp [knownL]; omega
theorem knownV_len (gs : List Gt) : (knownV gs).length ≤ gs.length := by unfold knownV; rw [List.length_map]; exact knownL_len _ _
theorem new_input_spec {c : Cx} (hT : Top' c) (k : Nat) {x : CA} {gs : List Gt} (hl : gs.length ≤ 1000) :
    Fn c (k + 2) (.ref 90) [.ref x.a] (cir x gs) fun v st' => v = .int ((gs.length : Int) + 2) ∧ st' = cir x (gs ++ [none]) := by
  refine Fn.enter (Def.of hT 90 ["self"] rfl rfl rfl rfl rfl rfl rfl rfl rfl rfl (bind1 fun a => rfl) rfl) rfl rfl ?_
  walk_at "in"
  walk_at "go"
  obtain ⟨m1, m2, m3⟩ := meth hT (name := "new_gate") (a := 83) (C := 149) rfl rfl rfl
  refine ⟨x.a, _, _, _, _, rfl, .tail _ (.tail _ (.tail _ (.head _))), clsC hT, m1, m2, m3, rfl, ?_⟩
  walk_at "go"
  refine ⟨by rw [sizeLine_eq]; simp, ?_⟩
  walk_at "go"
  refine (new_gate_spec hT k none hl).mono ?_
  rintro v st' ⟨rfl, rfl⟩
  exact ⟨rfl, by unfold cir; rw [knownV_none]⟩
noncomputable def dF (f : List Int) : List (Int × V) := f.map fun g => (g, V.bool true)
theorem dF_any (f : List Int) (g : Int) : (dF f).any (fun kv => kv.1 = g) = decide (g ∈ f) := by
  unfold dF
  rw [List.any_map, Bool.eq_iff_iff]
  simp
theorem dF_put (f : List Int) (g : Int) : vPut (dF f) g (.bool true) = dF (if g ∈ f then f else f ++ [g]) := by
  unfold vPut
  rw [dF_any]
  by_cases h : g ∈ f
  · rw [decide_eq_true h, if_pos rfl, if_pos h]
    unfold dF
    rw [List.map_map]
    refine List.map_congr_left fun y _ => ?_
    by_cases hy : y = g <;> simp [hy]
  · rw [decide_eq_false h, if_neg Bool.false_ne_true, if_neg h]
    unfold dF; simp
theorem dF_at (f : List Int) (g : Int) : (vAt (dF f) g).isSome = decide (g ∈ f) := by
  rw [← dF_any]
  unfold vAt
  rw [Option.isSome_map, Bool.eq_iff_iff, List.find?_isSome, List.any_eq_true]
theorem known_at (gs : List Gt) (ps : List Int) : tAt (knownV gs) (.tup (ps.map .int)) = ((knownL gs 2).find? fun kv => kv.1 = ps).map fun kv => V.int kv.2 := by
  unfold tAt knownV
  rw [List.find?_map, Option.map_map]
  congr 1
  congr 1
  funext kv
  show (V.tup (kv.1.map .int)).beq (.tup (ps.map .int)) = decide (kv.1 = ps)
  by_cases h : kv.1 = ps
  · rw [decide_eq_true h]; exact (V.beq_iff _ _).mpr (by rw [h])
  · rw [decide_eq_false h]
    cases hb : (V.tup (kv.1.map .int)).beq (.tup (ps.map .int)) with
    | false => rfl
    | true =>
      have := (V.beq_iff _ _).mp hb
      injection this with this
      exact absurd (ints_inj this) h
structure Made (x : CA) (gs : List Gt) (gs' : List Gt) (r : Int) (m : Nat) (tv : (Nat → Bool) → Bool) : Prop where
  pre : gs <+: gs'
  len : gs'.length ≤ gs.length + m
  wf : WF gs'
  ok : Ok gs' r
  val : ∀ told, lit told gs' r = tv told
theorem made_m1 {x : CA} {gs : List Gt} {ns : List Int} (hW : WF gs) (h : ∀ told, ns.all (lit told gs) = false) : Made x gs gs (-1) 1 fun told => ns.all (lit told gs) :=
  ⟨List.prefix_refl gs, Nat.le_succ _, hW, Ok.one.neg, fun told => by rw [lit_m1, h]⟩
theorem all_false {told : Nat → Bool} {gs : List Gt} {ns : List Int} {p : Int} (hp : p ∈ ns) (h : lit told gs p = false) : ns.all (lit told gs) = false := List.all_eq_false.mpr ⟨p, hp, by simp [h]⟩
theorem all_same {told : Nat → Bool} {gs : List Gt} {ns f ps : List Int} (h1 : ∀ p ∈ f, p ∈ ns) (h2 : ∀ p ∈ ns, p = 1 ∨ p ∈ f) (hp : ps.Perm f) : ps.all (lit told gs) = ns.all (lit told gs) := by
  rw [Bool.eq_iff_iff, List.all_eq_true, List.all_eq_true]
  refine ⟨fun q p hp' => ?_, fun q p hp' => q p (h1 p (hp.mem_iff.mp hp'))⟩
  rcases h2 p hp' with rfl | h
  · exact lit_one
  · exact q p (hp.mem_iff.mpr h)
theorem all_of_spec {c : Cx} (hT : Top' c) (k : Nat) {x : CA} {gs : List Gt} {gv : V} {ns : List Int} (hg : gv = .lst (ns.map .int) ∨ gv = .tup (ns.map .int)) (hl : gs.length ≤ 900) (hW : WF gs) (hn : ns.length ≤ 10) (hok : ∀ p ∈ ns, Ok gs p) :
    Fn c (k + 2) (.ref 97) [.ref x.a, gv] (cir x gs) fun v st' => ∃ gs' r, v = .int r ∧ st' = cir x gs' ∧ Made x gs gs' r 1 fun told => ns.all (lit told gs) := by
  refine Fn.drop (Fn.enter (Def.of hT 97 ["self", "gates"] rfl rfl rfl rfl rfl rfl rfl rfl rfl rfl (bind2 fun a b => rfl) rfl) rfl rfl ?_)
  walk_at "in"
  walk_at "go"
  refine Ev.dictI fun F => ?_
  walk_at "go"
  refine ⟨_, hg, ?_⟩
  refine Loop.inv (xs := ns) V.int (fun pre vs st' => ∃ f : List Int, vs "self" = some (.ref x.a) ∧ vs "found" = some (.ref F) ∧ st' = (F, .dI (dF f)) :: cir x gs ∧ f.Nodup ∧ f.length ≤ pre.length ∧ (∀ p ∈ f, p ∈ pre ∧ p ≠ 1) ∧ (∀ p ∈ pre, p = 1 ∨ p ∈ f))
    (fun pre g post vs st' e j => ?_) ⟨[], rfl, rfl, rfl, .nil, Nat.le_refl _, (fun _ h => nomatch h), (fun _ h => nomatch h)⟩ (fun vs st' j => ?_)
  · obtain ⟨f, j1, j2, rfl, j3, j4, j5, j6⟩ := j
    have hgm : g ∈ ns := by rw [e]; simp
    have hpm : ∀ p ∈ pre, p ∈ ns := fun p hp => by rw [e]; simp [hp]
    refine Asg.name (.inl rfl) ?_
    walk_at "go"
    refine ⟨_, rfl, ?_⟩
    refine ⟨_, CmpT.eqI, ?_⟩
    by_cases h1 : g = -1
    · rw [if_pos (by simpa using h1)]
      walk_at "go"
      refine ⟨_, rfl, ?_⟩
      exact ⟨cir x gs, List.sublist_cons_self _ _, gs, -1, rfl, rfl, made_m1 hW fun told => all_false hgm (by rw [h1]; exact lit_m1)⟩
    · rw [if_neg (by simpa using h1)]
      walk_at "go"
      refine ⟨_, rfl, ?_⟩
      walk_at "go"
      refine ⟨_, CmpT.inI (kvs := dF f) (.head _), ?_⟩
      rw [dF_at]
      by_cases h2 : -g ∈ f
      · rw [if_pos (by simpa using h2)]
        walk_at "go"
        refine ⟨_, rfl, ?_⟩
        refine ⟨cir x gs, List.sublist_cons_self _ _, gs, -1, rfl, rfl, made_m1 hW fun told => ?_⟩
        have hm : -g ∈ ns := hpm _ (j5 _ h2).1
        cases hv : lit told gs g with
        | false => exact all_false hgm hv
        | true => exact all_false hm (by rw [lit_neg (hok g hgm).1, hv]; rfl)
      · rw [if_neg (by simpa using h2)]
        walk_at "go"
        refine ⟨_, CmpT.neI, ?_⟩
        by_cases h3 : g = 1
        · rw [if_neg (by simpa using h3)]
          walk_at "go"
          refine ⟨f, j1, j2, rfl, j3, by simp; omega, fun p hp => ⟨List.mem_append.mpr (.inl (j5 p hp).1), (j5 p hp).2⟩, fun p hp => ?_⟩
          rcases List.mem_append.mp hp with hp | hp
          · exact j6 p hp
          · exact .inl ((List.mem_singleton.mp hp).trans h3)
        · rw [if_pos (by simpa using h3)]
          walk_at "go"
          refine Op3.putI (st' := (F, .dI (dF (if g ∈ f then f else f ++ [g]))) :: cir x gs) (by rw [dF_put]; exact .head) (by rw [sizeLine_eq]; unfold dF; rw [List.length_map]; have := congrArg List.length e; simp at this; omega) ?_
          walk_at "go"
          refine ⟨_, j1, j2, rfl, ?_, ?_, fun p hp => ?_, fun p hp => ?_⟩
          · split
            · exact j3
            · rename_i hg'
              exact List.nodup_append.mpr ⟨j3, by simp, fun a ha b hb => by rw [List.mem_singleton.mp hb]; rintro rfl; exact hg' ha⟩
          · split
            · simp; omega
            · simp; omega
          · split at hp
            · exact ⟨List.mem_append.mpr (.inl (j5 p hp).1), (j5 p hp).2⟩
            · rcases List.mem_append.mp hp with hp | hp
              · exact ⟨List.mem_append.mpr (.inl (j5 p hp).1), (j5 p hp).2⟩
              · exact ⟨List.mem_append.mpr (.inr hp), by rw [List.mem_singleton.mp hp]; exact h3⟩
          · rcases List.mem_append.mp hp with hp | hp
            · rcases j6 p hp with h | h
              · exact .inl h
              · right
                split
                · exact h
                · exact List.mem_append.mpr (.inl h)
            · right
              rw [List.mem_singleton.mp hp]
              split
              · assumption
              · simp
  · obtain ⟨f, j1, j2, rfl, j3, j4, j5, j6⟩ := j
    walk_at "go"
    refine Fn.sortedD (kvs := dF f) (.head _) (by simp [dF]; omega) fun S ps hperm _ => ?_
    have hf : (dF f).map (·.1) = f := by unfold dF; rw [List.map_map]; exact (List.map_congr_left fun _ _ => rfl).trans (List.map_id f)
    rw [hf] at hperm
    refine ⟨S, _, [], _, rfl, rfl, ?_⟩
    walk_at "go"
    have hpl : ps.length ≤ 10 := by rw [hperm.length_eq]; omega
    refine Fn.tuple (by rw [sizeLine_eq, List.length_map]; omega) ?_
    walk_at "go"
    refine Fn.lenT (by simp; omega) ?_
    walk_at "go"
    refine ⟨_, CmpT.lt, ?_⟩
    have hall : ∀ told, ps.all (lit told gs) = ns.all (lit told gs) := fun told => all_same (fun p hp => (j5 p hp).1) j6 hperm
    have hpok : ∀ p ∈ ps, Ok gs p := fun p hp => hok p (j5 p (hperm.mem_iff.mp hp)).1
    rw [List.length_map]
    by_cases h2 : ps.length < 2
    · rw [if_pos (by simpa using (show (ps.length : Int) < 2 by omega))]
      walk_at "go"
      refine Fn.lenT (by simp; omega) ?_
      walk_at "go"
      refine ⟨_, CmpT.eqI, ?_⟩
      rw [List.length_map]
      by_cases h1 : ps.length = 1
      · rw [if_pos (by simpa using (show (ps.length : Int) = 1 by omega))]
        obtain ⟨p, rfl⟩ := List.length_eq_one_iff.mp h1
        walk_at "go"
        refine ⟨⟨_, .tup _⟩, Op2.itemT (x := .int p) (by decide) (by decide) rfl ?_⟩
        refine ⟨cir x gs, List.sublist_cons_self _ _, gs, p, rfl, rfl, List.prefix_refl gs, Nat.le_succ _, hW, hpok p List.mem_cons_self, fun told => ?_⟩
        rw [← hall]; simp
      · rw [if_neg (by simpa using (show ¬ (ps.length : Int) = 1 by omega))]
        have h0 : ps = [] := List.length_eq_zero_iff.mp (by omega)
        subst h0
        walk_at "go"
        refine ⟨cir x gs, List.sublist_cons_self _ _, gs, 1, rfl, rfl, List.prefix_refl gs, Nat.le_succ _, hW, Ok.one, fun told => ?_⟩
        rw [← hall, lit_one]; rfl
    · rw [if_neg (by simpa using (show ¬ (ps.length : Int) < 2 by omega))]
      refine Blk.less (List.sublist_cons_self _ _) ?_
      clear hf j2
      walk_at "go"
      have mm : ∀ g' kn, cirO x ∈ cir' x g' kn := fun g' kn => by simp [cir']
      refine ⟨x.a, _, _, _, _, rfl, mm gs (knownV gs), clsC hT, (nnC hT).2.2, rfl, ?_⟩
      refine ⟨_, CmpT.notInT (b := false) (kvs := knownV gs) (x := .tup (ps.map .int)) (.head _) ⟨ps, rfl⟩, ?_⟩
      rw [known_at]
      cases hfd : (knownL gs 2).find? (fun kv => kv.1 = ps) with
      | some kv =>
        obtain ⟨kps, n⟩ := kv
        have hk1 : kps = ps := by simpa using List.find?_some hfd
        subst hk1
        obtain ⟨k1, k2⟩ := knownL_mem (List.mem_of_find?_eq_some hfd)
        dsimp only at k1 k2
        have hat : tAt (knownV gs) (.tup (kps.map .int)) = some (.int (n : Nat)) := by rw [known_at, hfd]; rfl
        show Blk _ [] _ _ _
        walk_at "go"
        refine ⟨x.a, _, _, _, _, rfl, mm gs (knownV gs), clsC hT, (nnC hT).2.2, rfl, ?_⟩
        walk_at "go"
        refine ⟨⟨_, .dT (b := false) (.head _)⟩, Op2.atT (.head _) ⟨kps, rfl⟩ hat ?_⟩
        have hlt := (List.getElem?_eq_some_iff.mp k2).1
        refine ⟨cir x gs, List.Sublist.refl _, gs, n, rfl, rfl, List.prefix_refl gs, Nat.le_succ _, hW, ⟨by omega, by omega⟩, fun told => ?_⟩
        have e : (n : Int) = ((n - 2 : Nat) : Int) + 2 := by omega
        rw [e, lit_at hW k2, hall]
      | none =>
        show Blk _ [_] _ _ _
        walk_at "go"
        obtain ⟨m1, m2, m3⟩ := meth hT (name := "new_gate") (a := 83) (C := 149) rfl rfl rfl
        refine ⟨x.a, _, _, _, _, rfl, mm gs (knownV gs), clsC hT, m1, m2, m3, rfl, ?_⟩
        walk_at "go"
        refine (new_gate_spec hT k (some ps) (by omega)).mono ?_
        rintro v st' ⟨rfl, rfl⟩
        walk_at "go"
        refine ⟨x.a, _, _, _, _, rfl, mm (gs ++ [some ps]) (knownV gs), clsC hT, (nnC hT).2.2, rfl, ?_⟩
        walk_at "go"
        have hno : (knownV gs).find? (fun kv => kv.1.beq (.tup (ps.map .int))) = none := by
          have := known_at gs ps
          rw [hfd] at this
          unfold tAt at this
          simpa using this
        refine Op3.putT (b := false) (kvs := knownV gs) (st' := cir x (gs ++ [some ps])) (by rw [tPut_new hno, ← knownV_some]; exact .head) ⟨ps, rfl⟩ (by rw [sizeLine_eq]; have := knownV_len gs; omega) ?_
        walk_at "go"
        refine ⟨x.a, _, _, _, _, rfl, mm (gs ++ [some ps]) _, clsC hT, (nnC hT).2.2, rfl, ?_⟩
        walk_at "go"
        have hat : tAt (knownV (gs ++ [some ps])) (.tup (ps.map .int)) = some (.int ((gs.length : Int) + 2)) := by
          unfold tAt
          rw [knownV_some, List.find?_append, hno, Option.none_or]
          simp [(V.beq_iff (V.tup (ps.map .int)) _).mpr rfl]
        refine ⟨⟨_, .dT (b := false) (.head _)⟩, Op2.atT (.head _) ⟨ps, rfl⟩ hat ?_⟩
        refine ⟨cir x (gs ++ [some ps]), List.Sublist.refl _, gs ++ [some ps], _, rfl, rfl, List.prefix_append _ _, by simp, hW.and hpl hpok, ⟨by omega, by simp; omega⟩, fun told => ?_⟩
        rw [lit_new, ← hall]; rfl
theorem cir_mem (x : CA) (gs : List Gt) : cirO x ∈ cir x gs := by simp [cir, cir']
theorem both_spec {c : Cx} (hT : Top' c) (k : Nat) {x : CA} {gs : List Gt} {a b : Int} (hl : gs.length ≤ 900) (hW : WF gs) (ha : Ok gs a) (hb : Ok gs b) :
    Fn c (k + 3) (.ref 111) [.ref x.a, .int a, .int b] (cir x gs) fun v st' => ∃ gs' r, v = .int r ∧ st' = cir x gs' ∧ Made x gs gs' r 1 fun told => lit told gs a && lit told gs b := by
  refine Fn.enter (Def.of hT 111 ["self", "a", "b"] rfl rfl rfl rfl rfl rfl rfl rfl rfl rfl (bind3 fun a b d => rfl) rfl) rfl rfl ?_
  walk_at "in"
  walk_at "go"
  obtain ⟨m1, m2, m3⟩ := meth hT (name := "all_of") (a := 97) (C := 149) rfl rfl rfl
  refine ⟨x.a, _, _, _, _, rfl, cir_mem x gs, clsC hT, m1, m2, m3, rfl, ?_⟩
  walk_at "go"
  refine ⟨by rw [sizeLine_eq]; simp, ?_⟩
  walk_at "go"
  refine (all_of_spec hT k (ns := [a, b]) (.inr rfl) hl hW (by simp) (fun p hp => ?_)).mono ?_
  · rcases List.mem_cons.mp hp with rfl | hp
    · exact ha
    · rw [List.mem_singleton.mp hp]; exact hb
  · rintro v st' ⟨gs', r, rfl, rfl, M⟩
    exact ⟨gs', r, rfl, rfl, M.pre, M.len, M.wf, M.ok, fun told => by rw [M.val]; simp⟩
theorem either_spec {c : Cx} (hT : Top' c) (k : Nat) {x : CA} {gs : List Gt} {a b : Int} (hl : gs.length ≤ 900) (hW : WF gs) (ha : Ok gs a) (hb : Ok gs b) :
    Fn c (k + 3) (.ref 118) [.ref x.a, .int a, .int b] (cir x gs) fun v st' => ∃ gs' r, v = .int r ∧ st' = cir x gs' ∧ Made x gs gs' r 1 fun told => lit told gs a || lit told gs b := by
  refine Fn.enter (Def.of hT 118 ["self", "a", "b"] rfl rfl rfl rfl rfl rfl rfl rfl rfl rfl (bind3 fun a b d => rfl) rfl) rfl rfl ?_
  walk_at "in"
  walk_at "go"
  obtain ⟨m1, m2, m3⟩ := meth hT (name := "all_of") (a := 97) (C := 149) rfl rfl rfl
  refine ⟨x.a, _, _, _, _, rfl, cir_mem x gs, clsC hT, m1, m2, m3, rfl, ?_⟩
  walk_at "go"
  refine ⟨_, rfl, ?_⟩
  walk_at "go"
  refine ⟨_, rfl, ?_⟩
  walk_at "go"
  refine ⟨by rw [sizeLine_eq]; simp, ?_⟩
  walk_at "go"
  refine (all_of_spec hT k (ns := [-a, -b]) (.inr rfl) hl hW (by simp) (fun p hp => ?_)).mono ?_
  · rcases List.mem_cons.mp hp with rfl | hp
    · exact ha.neg
    · rw [List.mem_singleton.mp hp]; exact hb.neg
  · rintro v st' ⟨gs', r, rfl, rfl, M⟩
    refine ⟨r, rfl, gs', _, rfl, rfl, M.pre, M.len, M.wf, M.ok.neg, fun told => ?_⟩
    rw [lit_neg M.ok.1, M.val]
    simp only [List.all_cons, List.all_nil, Bool.and_true, lit_neg ha.1, lit_neg hb.1]
    cases lit told gs a <;> cases lit told gs b <;> rfl
noncomputable def lexV (told : Nat → Bool) (gs : List Gt) : List (Int × Int) → Bool
  | [] => true
  | (p, q) :: r => (!lit told gs p || lit told gs q) && ((!lit told gs p && lit told gs q) || lexV told gs r)
theorem lexV_mono {told : Nat → Bool} {gs gs' : List Gt} (hp : gs <+: gs') : ∀ {l : List (Int × Int)}, (∀ p ∈ l, Ok gs p.1 ∧ Ok gs p.2) → lexV told gs' l = lexV told gs l
  | [], _ => rfl
  | (p, q) :: r, h => by
    obtain ⟨h1, h2⟩ := h (p, q) List.mem_cons_self
    rw [lexV, lexV, lit_mono h1 hp, lit_mono h2 hp, lexV_mono hp fun p hp => h p (List.mem_cons_of_mem _ hp)]
theorem not_above_spec {c : Cx} (hT : Top' c) (k : Nat) {x : CA} {gs : List Gt} {pairs : List (Int × Int)} (hl : gs.length + 4 * pairs.length ≤ 800) (hW : WF gs) (hok : ∀ p ∈ pairs, Ok gs p.1 ∧ Ok gs p.2) :
    Fn c (k + 4) (.ref 33) [.ref x.a, .lst (pairs.map prV)] (cir x gs) fun v st' => ∃ gs' r, v = .int r ∧ st' = cir x gs' ∧ Made x gs gs' r (4 * pairs.length) fun told => lexV told gs pairs := by
  refine Fn.enter (Def.of hT 33 ["circuit", "pairs"] rfl rfl rfl rfl rfl rfl rfl rfl rfl rfl (bind2 fun a b => rfl) rfl) rfl rfl ?_
  walk_at "in"
  walk_at "go"
  refine Mk.reversed ?_
  rw [← List.map_reverse]
  refine Loop.inv (xs := pairs.reverse) prV (fun pre vs st' => ∃ gs' r, vs "circuit" = some (.ref x.a) ∧ vs "found" = some (.int r) ∧ st' = cir x gs' ∧ Made x gs gs' r (4 * pre.length) fun told => lexV told gs pre.reverse)
    (fun pre p post vs st' e j => ?_) ⟨gs, 1, rfl, rfl, rfl, List.prefix_refl gs, Nat.le_refl _, hW, Ok.one, fun told => lit_one⟩ (fun vs st' j => ?_)
  · obtain ⟨gs1, r1, j1, j2, rfl, M1⟩ := j
    obtain ⟨p, q⟩ := p
    have hlen : pairs.length = pre.length + (post.length + 1) := by have := congrArg List.length e; simpa using this
    have hpm : (p, q) ∈ pairs := List.mem_reverse.mp (by rw [e]; simp)
    obtain ⟨okp, okq⟩ := hok _ hpm
    refine Asg.tuple (names := ["one", "other"]) (sto2 (.inl rfl) (.inl rfl)) rfl ?_ rfl rfl names2
    walk_at "go"
    obtain ⟨m1, m2, m3⟩ := meth hT (name := "both") (a := 111) (C := 149) rfl rfl rfl
    obtain ⟨n1, n2, n3⟩ := meth hT (name := "either") (a := 118) (C := 149) rfl rfl rfl
    have l1 := M1.len
    refine ⟨x.a, _, _, _, _, rfl, cir_mem x gs1, clsC hT, m1, m2, m3, rfl, ?_⟩
    walk_at "go"
    refine ⟨x.a, _, _, _, _, rfl, cir_mem x gs1, clsC hT, n1, n2, n3, rfl, ?_⟩
    walk_at "go"
    refine ⟨_, rfl, ?_⟩
    walk_at "go"
    refine (either_spec hT k (gs := gs1) (a := -p) (b := q) (by omega) M1.wf (okp.mono M1.pre).neg (okq.mono M1.pre)).mono ?_
    rintro v st' ⟨gs2, r2, rfl, rfl, M2⟩
    have l2 := M2.len
    have le2 := M1.pre.trans M2.pre
    walk_at "go"
    refine ⟨x.a, _, _, _, _, rfl, cir_mem x gs2, clsC hT, n1, n2, n3, rfl, ?_⟩
    walk_at "go"
    refine ⟨x.a, _, _, _, _, rfl, cir_mem x gs2, clsC hT, m1, m2, m3, rfl, ?_⟩
    walk_at "go"
    refine ⟨_, rfl, ?_⟩
    walk_at "go"
    refine (both_spec hT k (gs := gs2) (a := -p) (b := q) (by omega) M2.wf (okp.mono le2).neg (okq.mono le2)).mono ?_
    rintro v st' ⟨gs3, r3, rfl, rfl, M3⟩
    have l3 := M3.len
    have le3 := le2.trans M3.pre
    walk_at "go"
    refine (either_spec hT k (gs := gs3) (a := r3) (b := r1) (by omega) M3.wf M3.ok (M1.ok.mono (M2.pre.trans M3.pre))).mono ?_
    rintro v st' ⟨gs4, r4, rfl, rfl, M4⟩
    have l4 := M4.len
    have le4 := le3.trans M4.pre
    walk_at "go"
    refine (both_spec hT k (gs := gs4) (a := r2) (b := r4) (by omega) M4.wf (M2.ok.mono (M3.pre.trans M4.pre)) M4.ok).mono ?_
    rintro v st' ⟨gs5, r5, rfl, rfl, M5⟩
    have l5 := M5.len
    walk_at "go"
    refine ⟨gs5, r5, j1, rfl, rfl, le4.trans M5.pre, by simp; omega, M5.wf, M5.ok, fun told => ?_⟩
    rw [M5.val, M4.val, lit_mono M2.ok (M3.pre.trans M4.pre), M2.val, M3.val, lit_mono M1.ok (M2.pre.trans M3.pre), M1.val, List.reverse_append]
    show _ = lexV told gs ((p, q) :: pre.reverse)
    rw [lexV, lit_neg okp.1, lit_neg okp.1, lit_mono okp M1.pre, lit_mono okq M1.pre, lit_mono okp le2, lit_mono okq le2]
  · obtain ⟨gs1, r1, j1, j2, rfl, M1⟩ := j
    walk_at "go"
    refine ⟨gs1, r1, rfl, rfl, ?_⟩
    rw [List.length_reverse, List.reverse_reverse] at M1
    exact M1
theorem bind4 {c : Cx} (hT : Top' c) {fd : FuncData} {n1 n2 n3 n4 : Str} (h : ∀ a b d e S, W.peek (kh c.w.params) S (bindArgs fd ⟨[a, b, d, e], []⟩) = some [(n1, a), (n2, b), (n3, d), (n4, e)]) : ∀ (s : Shared) (us : List Value), us.length = [n1, n2, n3, n4].length → c.K.In s.heap → BindsTo s fd ⟨us, []⟩ ([n1, n2, n3, n4].zip us)
  | _, [a, b, d, e], _, X => W.kp_binds X fun S => hT ▸ h a b d e S
  | _, [], e, _ => by simp at e
  | _, [_], e, _ => by simp at e
  | _, [_, _], e, _ => by simp at e
  | _, [_, _, _], e, _ => by simp at e
  | _, _ :: _ :: _ :: _ :: _ :: _, e, _ => by simp at e
theorem Fn.front {c : Cx} {k : Nat} {g : Value} {xs : List V} {st : Store} {P : V → Store → Prop} (p : Addr × M) (h : Fn c k g xs st P) : Fn c k g xs (p :: st) fun x st' => ∃ st1, st' = p :: st1 ∧ P x st1 := by
  have := Fn.frame [p] [] h
  rw [List.append_nil] at this
  refine this.mono ?_
  rintro x st' ⟨st1, rfl, q⟩
  exact ⟨st1, by simp, q⟩
noncomputable def nbrs (lot : List Int) : List (Int × Int) := lot.zip (lot.drop 1)
noncomputable def lotV (lot : List Int) : V := .tup (lot.map .int)
noncomputable def lotsV (lots : List (List Int)) : V := .tup (lots.map lotV)
noncomputable def moV : Option Nat → V
  | none => .none
  | some m => .int m
noncomputable def cutTo {α : Type} (mo : Option Nat) (l : List α) : List α := match mo with
  | none => l
  | some m => l.take m
theorem cutTo_len {α : Type} (mo : Option Nat) (l : List α) : (cutTo mo l).length ≤ l.length := by
  cases mo with
  | none => exact Nat.le_refl _
  | some m => show (l.take m).length ≤ _; rw [List.length_take]; exact Nat.min_le_right _ _
theorem cutTo_mem {α : Type} {mo : Option Nat} {l : List α} {a : α} (h : a ∈ cutTo mo l) : a ∈ l := by
  cases mo with
  | none => exact h
  | some m => exact List.mem_of_mem_take h
noncomputable def prs (ps : List Place) (mo : Option Nat) (ab : Int × Int) : List (Int × Int) := cutTo mo (exPairs ps ab.1 ab.2 ps.length)
theorem prs_ok {ps : List Place} {gs : List Gt} {mo : Option Nat} {a b : Int} (hg : ps.length ≤ gs.length) (hc : ∀ p ∈ ps, swp a b p ∈ ps) : ∀ p ∈ prs ps mo (a, b), Ok gs p.1 ∧ Ok gs p.2 := by
  intro p hp
  have hp := cutTo_mem hp
  unfold exPairs at hp
  obtain ⟨i, hi, rfl⟩ := List.mem_map.mp hp
  have hi' := List.mem_range.mp (List.mem_filter.mp hi).1
  have ht : tn ps a b i < ps.length := (List.getElem?_eq_some_iff.mp (idx_spec (hc _ (mem_at0 hi'))).1).1
  dsimp only at ht hi' ⊢
  refine ⟨⟨?_, ?_⟩, ⟨?_, ?_⟩⟩ <;> simp only [gn] <;> omega
theorem ev_cut {P : V → Store → Prop} {f : Fm} {vs : Vars} {st : Store} {p1 p2 p3 p4 p5 p6 p7 p8 p9 : Pos} {kk : Nat} {mo : Option Nat} {l : List (Int × Int)} (hl : l.length ≤ 1000) (h1 : vs "most" = some (moV mo)) (h2 : vs "pairs" = some (.lst (l.map prV))) (h3 : P (.lst ((cutTo mo l).map prV)) st) :
    Ev f (.IfExp (.Compare (.Name "most" p1) [.Is] [.Constant .none kk p2] p3) (.Name "pairs" p4) (.Subscript (.Name "pairs" p5) (.Slice none (some (.Name "most" p6)) none p7) p9) p8) vs st P := by
  walk_at "go"
  cases mo with
  | none =>
    refine ⟨_, CmpT.isNone (b := true) rfl, ?_⟩
    walk_at "go"
    exact h3
  | some m =>
    refine ⟨_, CmpT.isNone (b := false) rfl, ?_⟩
    walk_at "go"
    refine ⟨_, m, rfl, rfl, by rw [sizeLine_eq, List.length_map]; omega, ?_⟩
    rw [← List.map_take]
    exact h3
theorem leader_spec {c : Cx} (hT : Top' c) (k : Nat) {x : CA} {gs : List Gt} {ps : List Place} {lots : List (List Int)} {mo : Option Nat} (hl : gs.length ≤ 500) (hW : WF gs) (hn : ps.length ≤ 24) (hg : ps.length ≤ gs.length) (hr : ∀ p ∈ ps, p.2.length ≤ 10) (hnd : ps.Nodup)
    (hne : ∀ lot ∈ lots, lot ≠ [] ∧ lot.length ≤ 10) (hnb : (lots.flatMap nbrs).length ≤ 2) (hc : ∀ ab ∈ lots.flatMap nbrs, ∀ p ∈ ps, swp ab.1 ab.2 p ∈ ps) :
    Fn c (k + 5) (.ref 41) [.ref x.a, .lst (insV ps), lotsV lots, moV mo] (cir x gs) fun v st' => ∃ gs' r, v = .int r ∧ st' = cir x gs' ∧ Made x gs gs' r 193 fun told => (lots.flatMap nbrs).all fun ab => lexV told gs (prs ps mo ab) := by
  refine Fn.enter (Def.of hT 41 ["circuit", "inputs", "parts", "most"] rfl rfl rfl rfl rfl rfl rfl rfl rfl rfl (bind4 hT fun a b d e S => rfl) rfl) rfl rfl ?_
  walk_at "in"
  walk_at "go"
  refine ⟨by rw [sizeLine_eq]; simp, fun FL => ?_⟩
  walk_at "go"
  refine ⟨_, .inr rfl, ?_⟩
  let J : List (Int × Int) → Vars → Store → Prop := fun done vs st' => ∃ (gs' : List Gt) (rs : List Int), vs "circuit" = some (.ref x.a) ∧ vs "inputs" = some (.lst (insV ps)) ∧ vs "most" = some (moV mo) ∧ vs "found" = some (.ref FL) ∧ st' = (FL, .list (rs.map .int)) :: cir x gs' ∧
    gs <+: gs' ∧ gs'.length ≤ gs.length + 96 * done.length ∧ WF gs' ∧ rs.length = done.length ∧ (∀ r ∈ rs, Ok gs' r) ∧ ∀ told, rs.all (lit told gs') = done.all fun ab => lexV told gs (prs ps mo ab)
  refine Loop.inv (xs := lots) lotV (fun pre vs st' => J (pre.flatMap nbrs) vs st')
    (fun pre lot post vs st' e j => ?_) ⟨gs, [], rfl, rfl, rfl, rfl, rfl, List.prefix_refl gs, Nat.le_refl _, hW, rfl, (fun _ h => nomatch h), fun _ => rfl⟩ (fun vs st' j => ?_)
  · obtain ⟨gs1, rs, j1, j2, j3, j4, rfl, j5, j6, j7, j8, j9, j10⟩ := id j
    have hlot : lot ∈ lots := by rw [e]; simp
    obtain ⟨hl1, hl2⟩ := hne lot hlot
    have hpos : 1 ≤ lot.length := List.length_pos_iff.mpr hl1
    refine Asg.name (.inl rfl) ?_
    walk_at "go"
    refine ⟨lot.map .int, 1, rfl, rfl, Nat.le_refl _, by simpa using hpos, by rw [sizeLine_eq, List.length_map]; omega, ?_⟩
    walk_at "go"
    refine Mk.zip ?_
    have eZ : ((lot.map V.int).zip ((lot.map V.int).drop 1)).map (fun p => V.tup [p.1, p.2]) = (nbrs lot).map prV := by
      unfold nbrs
      rw [← List.map_drop, List.zip_map, List.map_map]
      rfl
    rw [eZ]
    refine Loop.inv (xs := nbrs lot) prV (fun pre2 vs st' => J (pre.flatMap nbrs ++ pre2) vs st')
      (fun pre2 ab post2 vs2 st2 e2 j => ?_) ⟨gs1, rs, j1, j2, j3, j4, rfl, j5, by simpa using j6, j7, by simpa using j8, j9, by simpa using j10⟩ (fun vs2 st2 j => ?_)
    · clear j1 j2 j3 j4 j5 j6 j7 j8 j9 j10
      obtain ⟨gs1, rs, j1, j2, j3, j4, rfl, j5, j6, j7, j8, j9, j10⟩ := j
      obtain ⟨a, b⟩ := ab
      have hab : (a, b) ∈ lots.flatMap nbrs := List.mem_flatMap.mpr ⟨lot, hlot, by rw [e2]; simp⟩
      have hlen : (pre.flatMap nbrs ++ pre2).length + 1 ≤ 2 := by
        have h1 := congrArg List.length (congrArg (List.flatMap nbrs) e)
        have h2 := congrArg List.length e2
        simp only [List.flatMap_append, List.flatMap_cons, List.length_append, List.length_cons] at h1 h2 ⊢
        omega
      have hpl := prs_ok (mo := mo) (gs := gs) hg (hc _ hab)
      have hpn : (prs ps mo (a, b)).length ≤ 24 := by
        have h1 := cutTo_len mo (exPairs ps a b ps.length)
        have h2 := ex_len ps a b ps.length
        show (cutTo mo (exPairs ps a b ps.length)).length ≤ 24
        omega
      refine Asg.tuple (names := ["a", "b"]) (sto2 (.inl rfl) (.inl rfl)) rfl ?_ rfl rfl names2
      walk_at "go"
      refine (ex_spec hT (k + 3) (by omega) hr (hc _ hab) hnd).mono ?_
      rintro v st' ⟨rfl, rfl⟩
      walk_at "go"
      refine ⟨.list (xs := rs.map .int) (.head _), ?_⟩
      refine EvL.cons (Ev.fnG hT rfl rfl rfl (EvL.cons (Ev.name j1 (EvL.cons (ev_cut (mo := mo) (l := exPairs ps a b ps.length) (by have := ex_len ps a b ps.length; omega) j3 rfl ?_) rfl) (by decide)) rfl) rfl (by decide)) rfl
      walk_at "go"
      refine (Fn.front (FL, .list (rs.map .int)) (not_above_spec hT k (gs := gs1) (pairs := prs ps mo (a, b)) (by omega) j7 fun p hp => ⟨(hpl p hp).1.mono j5, (hpl p hp).2.mono j5⟩)).mono ?_
      rintro v st' ⟨st1, rfl, gs2, r, rfl, rfl, M2⟩
      have l2 := M2.len
      walk_at "go"
      refine Fn.append .head (by rw [sizeLine_eq, List.length_map]; omega) ⟨.inr rfl, ?_⟩
      walk_at "go"
      refine ⟨gs2, rs ++ [r], j1, j2, j3, j4, by rw [List.map_append]; rfl, j5.trans M2.pre, by simp only [List.length_append, List.length_singleton] at j6 ⊢; omega, M2.wf, by simp [j8]; omega, fun r' hr' => ?_, fun told => ?_⟩
      · rcases List.mem_append.mp hr' with h | h
        · exact (j9 r' h).mono M2.pre
        · rw [List.mem_singleton.mp h]; exact M2.ok
      · have e3 : rs.all (lit told gs2) = rs.all (lit told gs1) := by
          rw [Bool.eq_iff_iff, List.all_eq_true, List.all_eq_true]
          exact ⟨fun q r' h => by rw [← lit_mono (j9 r' h) M2.pre]; exact q r' h, fun q r' h => by rw [lit_mono (j9 r' h) M2.pre]; exact q r' h⟩
        rw [List.all_append, e3, j10, ← List.append_assoc, List.all_append (xs := pre.flatMap nbrs ++ pre2)]
        congr 1
        simp only [List.all_cons, List.all_nil, Bool.and_true]
        rw [M2.val, lexV_mono j5 hpl]
    · walk_at "go"
      show J ((pre ++ [lot]).flatMap nbrs) _ _
      rw [List.flatMap_append, List.flatMap_cons, List.flatMap_nil, List.append_nil]
      exact j
  · obtain ⟨gs1, rs, j1, j2, j3, j4, rfl, j5, j6, j7, j8, j9, j10⟩ := j
    walk_at "go"
    obtain ⟨m1, m2, m3⟩ := meth hT (name := "all_of") (a := 97) (C := 149) rfl rfl rfl
    refine ⟨x.a, _, _, _, _, rfl, .tail _ (cir_mem x gs1), clsC hT, m1, m2, m3, rfl, ?_⟩
    refine EvL.cons (Ev.freeze (Ev.name j4 ⟨FL, _, [], _, rfl, rfl, ?_⟩ (by decide))) rfl
    walk_at "go"
    refine (all_of_spec hT (k + 2) (gs := gs1) (ns := rs) (.inl rfl) (by omega) j7 (by omega) j9).mono ?_
    rintro v st' ⟨gs', r, rfl, rfl, M⟩
    have := M.len
    exact ⟨gs', r, rfl, rfl, j5.trans M.pre, by omega, M.wf, M.ok, fun told => by rw [M.val, j10]⟩
theorem circuit_init {c : Cx} (hT : Top' c) (k : Nat) {a dx : Addr} {st : Store} : FnC c (k + 1) (.ref 55) [.ref a] ((a, .inst 149 dx []) :: st) fun y st' => y = .none ∧ ∃ x : CA, x.a = a ∧ st' = cir x [] ++ st := by
  refine FnC.enter (Def.of hT 55 ["self"] rfl rfl rfl rfl rfl rfl rfl rfl rfl rfl (bind1 fun a => rfl) rfl) rfl rfl ?_
  walk_at "in"
  walk_at "go"
  refine ⟨by rw [sizeLine_eq]; simp, fun K => ?_⟩
  walk_at "go"
  refine ⟨a, 149, dx, [], _, rfl, clsC hT, (nnC hT).1, rfl, by simp, .tail .head, ?_⟩
  walk_at "go"
  refine ⟨by rw [sizeLine_eq]; simp, ?_⟩
  walk_at "go"
  refine ⟨by rw [sizeLine_eq]; simp, ?_⟩
  walk_at "go"
  refine ⟨by rw [sizeLine_eq]; simp, fun PN => ?_⟩
  walk_at "go"
  refine ⟨a, 149, dx, [("kinds", .ref K)], _, rfl, clsC hT, (nnC hT).2.1, rfl, by simp, .tail (.tail .head), ?_⟩
  walk_at "go"
  refine Ev.dictT false fun KN => ?_
  walk_at "go"
  refine ⟨a, 149, dx, [("kinds", .ref K), ("parts_now", .ref PN)], _, rfl, clsC hT, (nnC hT).2.2, rfl, by simp, .tail (.tail (.tail .head)), ?_⟩
  walk_at "go"
  exact ⟨rfl, ⟨a, dx, K, PN, KN⟩, rfl, rfl⟩
theorem kind_spec {c : Cx} (hT : Top' c) (k : Nat) {x : CA} {gs : List Gt} {st : Store} {n : Nat} {y : V} (hl : n < 1000) (hm : cirO x ∈ st) (hp : (x.K, .list (kindsV gs)) ∈ st) (hy : (kindsV gs)[n]? = some y) :
    Fn c (k + 1) (.ref 69) [.ref x.a, nv n] st fun v st' => v = y ∧ st' = st := by
  refine Fn.enter (Def.of hT 69 ["self", "g"] rfl rfl rfl rfl rfl rfl rfl rfl rfl rfl (bind2 fun a b => rfl) rfl) rfl rfl ?_
  walk_at "in"
  walk_at "go"
  refine ⟨x.a, _, _, _, _, rfl, hm, clsC hT, (nnC hT).1, rfl, ?_⟩
  walk_at "go"
  refine Fn.abs ?_
  walk_at "go"
  have e : (if (n : Int) < 0 then -(n : Int) else n) = n := if_neg (by omega)
  rw [e]
  exact ⟨⟨_, .list hp⟩, Op2.itemO hp (by omega) (by omega) (by simpa using hy) ⟨rfl, rfl⟩⟩
theorem parts_spec {c : Cx} (hT : Top' c) (k : Nat) {x : CA} {gs : List Gt} {st : Store} {n : Nat} {y : V} (hl : n < 1000) (hm : cirO x ∈ st) (hp : (x.PN, .list (partsV gs)) ∈ st) (hy : (partsV gs)[n]? = some y) :
    Fn c (k + 1) (.ref 76) [.ref x.a, nv n] st fun v st' => v = y ∧ st' = st := by
  refine Fn.enter (Def.of hT 76 ["self", "g"] rfl rfl rfl rfl rfl rfl rfl rfl rfl rfl (bind2 fun a b => rfl) rfl) rfl rfl ?_
  walk_at "in"
  walk_at "go"
  refine ⟨x.a, _, _, _, _, rfl, hm, clsC hT, (nnC hT).2.1, rfl, ?_⟩
  walk_at "go"
  refine Fn.abs ?_
  walk_at "go"
  have e : (if (n : Int) < 0 then -(n : Int) else n) = n := if_neg (by omega)
  rw [e]
  exact ⟨⟨_, .list hp⟩, Op2.itemO hp (by omega) (by omega) (by simpa using hy) ⟨rfl, rfl⟩⟩
theorem reading_init {c : Cx} (hT : Top' c) (k : Nat) {a dx ca : Addr} {st : Store} : FnC c (k + 1) (.ref 167) [.ref a, .ref ca] ((a, .inst 175 dx []) :: st) fun y st' => y = .none ∧ st' = (a, .inst 175 dx [("circuit", .ref ca)]) :: st := by
  refine FnC.enter (Def.of hT 167 ["self", "circuit"] rfl rfl rfl rfl rfl rfl rfl rfl rfl rfl (bind2 fun a b => rfl) rfl) rfl rfl ?_
  walk_at "in"
  walk_at "go"
  refine ⟨a, 175, dx, [], _, rfl, clsR hT, nnR hT, rfl, by simp, .head, ?_⟩
  walk_at "go"
  exact ⟨rfl, rfl⟩
noncomputable def vv (told : Nat → Bool) (gs : List Gt) (m : Nat) : Bool := (vals told gs).getD m false
noncomputable def kdv (w : Nat → Bool) (ks : List Nat) : List (Int × V) := ks.map fun (m : Nat) => ((m : Int), V.bool (w m))
theorem kd_any (w : Nat → Bool) (ks : List Nat) (m : Nat) : (kdv w ks).any (fun kv => kv.1 = (m : Int)) = decide (m ∈ ks) := by
  unfold kdv
  rw [List.any_map, Bool.eq_iff_iff]
  simp only [List.any_eq_true, Function.comp_apply, decide_eq_true_eq]
  exact ⟨fun ⟨x, hx, e⟩ => by have : x = m := by omega
                              exact this ▸ hx, fun h => ⟨m, h, rfl⟩⟩
theorem kd_put (w : Nat → Bool) (ks : List Nat) (m : Nat) : vPut (kdv w ks) m (.bool (w m)) = kdv w (if m ∈ ks then ks else ks ++ [m]) := by
  unfold vPut
  rw [kd_any]
  by_cases h : m ∈ ks
  · rw [decide_eq_true h, if_pos rfl, if_pos h]
    unfold kdv
    rw [List.map_map]
    refine List.map_congr_left fun y _ => ?_
    show (if (y : Int) = (m : Int) then ((y : Int), V.bool (w m)) else _) = _
    by_cases hy : (y : Int) = m
    · have : y = m := by omega
      subst this; simp
    · rw [if_neg hy]
  · rw [decide_eq_false h, if_neg Bool.false_ne_true, if_neg h]
    unfold kdv; simp
theorem kd_at (w : Nat → Bool) : ∀ (ks : List Nat) (m : Nat), vAt (kdv w ks) m = if m ∈ ks then some (.bool (w m)) else none
  | [], m => rfl
  | k :: ks, m => by
    have ih := kd_at w ks m
    unfold vAt kdv at ih ⊢
    rw [List.map_cons, List.find?_cons]
    by_cases h : k = m
    · subst h; simp
    · have h' : ¬ (k : Int) = m := by omega
      simp only [decide_eq_false h', ih]
      by_cases hm : m ∈ ks
      · rw [if_pos hm, if_pos (List.mem_cons_of_mem _ hm)]
      · rw [if_neg hm, if_neg]
        intro e
        rcases List.mem_cons.mp e with e | e
        · exact h e.symm
        · exact hm e
theorem kd_some (w : Nat → Bool) (ks : List Nat) (m : Nat) : (vAt (kdv w ks) m).isSome = decide (m ∈ ks) := by
  rw [kd_at]
  by_cases h : m ∈ ks
  · rw [if_pos h, decide_eq_true h]; rfl
  · rw [if_neg h, decide_eq_false h]; rfl
theorem nodup_len : ∀ {n : Nat} {ks : List Nat}, ks.Nodup → (∀ m ∈ ks, m < n) → ks.length ≤ n
  | 0, ks, _, h => by
    cases ks with
    | nil => exact Nat.le_refl _
    | cons k ks => exact absurd (h k List.mem_cons_self) (Nat.not_lt_zero _)
  | n + 1, ks, hnd, h => by
    have ih := nodup_len (n := n) (hnd.erase n) fun m hm => by
      have := (hnd.mem_erase_iff).mp hm
      have := h m this.2
      omega
    by_cases hn : n ∈ ks
    · rw [List.length_erase_of_mem hn] at ih; omega
    · rw [List.erase_of_not_mem hn] at ih; omega
noncomputable def pt (ps : List Int) : List Nat := ps.map Int.natAbs
theorem abs_nat (p : Int) : (if p < 0 then -p else p) = (p.natAbs : Nat) := by split <;> omega
noncomputable def partsAt (gs : List Gt) (n : Nat) : List Int := if n < 2 then [] else ((gs.getD (n - 2) none).getD [])
theorem partsV_at {gs : List Gt} {n : Nat} (h : n < gs.length + 2) : (partsV gs)[n]? = some (.tup ((partsAt gs n).map .int)) := by
  unfold partsV partsAt
  match n with
  | 0 => rfl
  | 1 => rfl
  | n + 2 =>
    have hn : n < gs.length := by omega
    have e : (n + 2 < 2) = False := by simp
    simp [hn, partsT, e]
noncomputable def kindAt (gs : List Gt) (n : Nat) : Str := if n = 0 then "" else if n = 1 then "true" else kindS (gs.getD (n - 2) none)
theorem kindsV_at {gs : List Gt} {n : Nat} (h : n < gs.length + 2) : (kindsV gs)[n]? = some (.str (kindAt gs n)) := by
  unfold kindsV kindAt
  match n with
  | 0 => rfl
  | 1 => rfl
  | n + 2 =>
    have hn : n < gs.length := by omega
    simp [hn]
noncomputable def Turn (f : Fm) (test : Expr) (body : List Stmt) (vs : Vars) (st : Store) (R : Vars → Store → Prop) : Prop :=
  Tst f test vs st fun b st1 => b = true ∧ Blk f body vs st1 fun y st2 => match y with | .next vs2 => R vs2 st2 | .cont vs2 => R vs2 st2 | .ret _ => False
theorem Turn.go {f : Fm} {test : Expr} {body : List Stmt} {vs : Vars} {st : Store} {R : Vars → Store → Prop} {P : Fl → Store → Prop} (h : Turn f test body vs st R) (hR : ∀ vs2 st2, R vs2 st2 → WLoop f test body vs2 st2 P) : WLoop f test body vs st P := by
  refine WLoop.step (h.mono ?_)
  rintro b st1 ⟨rfl, h2⟩
  rw [if_pos rfl]
  refine h2.mono fun y st2 q => ?_
  cases y with
  | next vs2 => exact hR _ _ q
  | cont vs2 => exact hR _ _ q
  | ret v => exact q.elim
noncomputable def missing (gs : List Gt) (ks : List Nat) (n : Nat) : List Nat := (pt (partsAt gs n)).filter fun m => decide (m ∉ ks)
noncomputable def addk (n : Nat) (ks : List Nat) : List Nat := if n ∈ ks then ks else ks ++ [n]
theorem addk_mem (n : Nat) (ks : List Nat) : n ∈ addk n ks ∧ ∀ m ∈ ks, m ∈ addk n ks := by
  unfold addk
  by_cases h : n ∈ ks
  · rw [if_pos h]; exact ⟨h, fun _ h => h⟩
  · rw [if_neg h]; exact ⟨by simp, fun m hm => List.mem_append.mpr (.inl hm)⟩
theorem partsAt_lt {gs : List Gt} (hW : WF gs) {n : Nat} : (partsAt gs n).length ≤ 10 ∧ ∀ p ∈ partsAt gs n, p ≠ 0 ∧ p.natAbs < n := by
  unfold partsAt
  by_cases h : n < 2
  · rw [if_pos h]; exact ⟨by simp, fun p hp => by simp at hp⟩
  · rw [if_neg h]
    cases e : gs[n - 2]? with
    | none => simp [List.getD, e]
    | some g =>
      cases g with
      | none => simp [List.getD, e]
      | some ps =>
        obtain ⟨h1, h2⟩ := hW _ _ e
        have e2 : ((gs.getD (n - 2) none).getD []) = ps := by simp [List.getD, e]
        rw [e2]
        exact ⟨h1, fun p hp => by have := h2 p hp; exact ⟨this.1, by omega⟩⟩
theorem missing_lt {gs : List Gt} (hW : WF gs) {ks : List Nat} {n : Nat} : (missing gs ks n).length ≤ 10 ∧ ∀ m ∈ missing gs ks n, 0 < m ∧ m < n := by
  obtain ⟨h1, h2⟩ := partsAt_lt hW (n := n)
  refine ⟨Nat.le_trans (List.length_filter_le _ _) (by unfold pt; rw [List.length_map]; exact h1), fun m hm => ?_⟩
  obtain ⟨p, hp, rfl⟩ := List.mem_map.mp (List.mem_filter.mp hm).1
  have := h2 p hp
  exact ⟨by have := this.1; omega, this.2⟩
theorem missing_none {gs : List Gt} {ks ks' : List Nat} {n : Nat} (h1 : ∀ m ∈ ks, m ∈ ks') (h2 : ∀ m ∈ missing gs ks n, m ∈ ks') : missing gs ks' n = [] := by
  unfold missing at *
  rw [List.filter_eq_nil_iff]
  intro m hm
  by_cases h : m ∈ ks
  · simp [h1 m h]
  · simp [h2 m (List.mem_filter.mpr ⟨hm, by simpa using h⟩)]
theorem dfs {f : Fm} {test : Expr} {body : List Stmt} {P : Fl → Store → Prop} {gs : List Gt} (hW : WF gs) (J : List Nat → List Nat → Vars → Store → Prop)
    (step : ∀ ks ss n vs st, J ks (ss ++ [n]) vs st → 0 < n → n < gs.length + 2 → ss.length ≤ 20000 → Turn f test body vs st fun vs2 st2 => if n ∉ ks ∧ missing gs ks n ≠ [] then J ks ((ss ++ [n]) ++ missing gs ks n) vs2 st2 else J (addk n ks) ss vs2 st2) :
    ∀ n, 0 < n → n < gs.length + 2 → ∀ ks ss vs st, J ks (ss ++ [n]) vs st → ss.length + 11 * n ≤ 20000 → (∀ ks' vs' st', (∀ m ∈ ks, m ∈ ks') → n ∈ ks' → J ks' ss vs' st' → WLoop f test body vs' st' P) → WLoop f test body vs st P := by
  intro n
  induction n using Nat.strongRecOn with
  | ind n ih =>
    intro hn0 hn ks ss vs st j hb hP
    -- the last turn at n
    have last : ∀ ks' vs' st', (∀ m ∈ ks, m ∈ ks') → J ks' (ss ++ [n]) vs' st' → (n ∈ ks' ∨ missing gs ks' n = []) → WLoop f test body vs' st' P := by
      intro ks' vs' st' hk j' hm
      refine (step ks' ss n vs' st' j' hn0 hn (by omega)).go fun vs2 st2 r => ?_
      rw [if_neg fun h => by
        rcases hm with hm | hm
        · exact h.1 hm
        · exact h.2 hm] at r
      obtain ⟨a1, a2⟩ := addk_mem n ks'
      exact hP (addk n ks') vs2 st2 (fun m hm => a2 m (hk m hm)) a1 r
    by_cases h1 : n ∈ ks
    · exact last ks vs st (fun _ h => h) j (.inl h1)
    by_cases h2 : missing gs ks n = []
    · exact last ks vs st (fun _ h => h) j (.inr h2)
    refine (step ks ss n vs st j hn0 hn (by omega)).go fun vs2 st2 r => ?_
    rw [if_pos ⟨h1, h2⟩] at r
    obtain ⟨m1, m2⟩ := missing_lt hW (ks := ks) (n := n)
    -- the missing ones, from the last on
    have down : ∀ k (ms : List Nat), ms.length = k → (∀ m ∈ ms, m ∈ missing gs ks n) → ∀ ks' vs' st', (∀ m ∈ ks, m ∈ ks') → (∀ m ∈ missing gs ks n, m ∈ ms ∨ m ∈ ks') → J ks' ((ss ++ [n]) ++ ms) vs' st' → k ≤ 10 → WLoop f test body vs' st' P := by
      intro k
      induction k with
      | zero =>
        intro ms hl hm ks' vs' st' hk hk2 j' _
        have : ms = [] := List.length_eq_zero_iff.mp hl
        subst this
        rw [List.append_nil] at j'
        refine last ks' vs' st' hk j' (.inr (missing_none hk fun m hm' => (hk2 m hm').resolve_left fun h => nomatch h))
      | succ k ihk =>
        intro ms hl hm ks' vs' st' hk hk2 j' hk10
        have e : ms = ms.take k ++ [ms[k]'(by omega)] := by
          have := List.take_append_drop k ms
          rw [List.drop_eq_getElem_cons (show k < ms.length by omega), List.drop_of_length_le (show ms.length ≤ k + 1 by omega)] at this
          exact this.symm
        generalize hmk : ms[k]'(by omega) = mk at e
        have hmk2 : mk ∈ missing gs ks n := hm mk (by rw [e]; simp)
        obtain ⟨hpos, hlt⟩ := m2 mk hmk2
        rw [e, ← List.append_assoc] at j'
        refine ih mk hlt hpos (by omega) ks' _ vs' st' j' (by rw [List.length_append, List.length_append, List.length_take, List.length_singleton]; omega) fun ks2 vs3 st3 q1 q2 j3 => ?_
        refine ihk (ms.take k) (by rw [List.length_take]; omega) (fun m hm' => hm m (List.mem_of_mem_take hm')) ks2 vs3 st3 (fun m hm' => q1 m (hk m hm')) (fun m hm' => ?_) j3 (by omega)
        rcases hk2 m hm' with h | h
        · rw [e] at h
          rcases List.mem_append.mp h with h | h
          · exact .inl h
          · rw [List.mem_singleton.mp h]; exact .inr q2
        · exact .inr (q1 m h)
    exact down _ (missing gs ks n) rfl (fun _ h => h) ks vs2 st2 (fun _ h => h) (fun m hm => .inl hm) r m1
theorem CmpT.eqS {f : Fm} {st : Store} {i j : Str} : CmpT f .Eq (.str i) (.str j) st (i == j) := CmpT.eq (f := f) (st := st) (Eqs.str i j)
theorem CmpT.eqB {f : Fm} {st : Store} {i j : Bool} : CmpT f .Eq (.bool i) (.bool j) st (i == j) := CmpT.eq (f := f) (st := st) (Eqs.bool i j)
theorem gate_cases {told : Nat → Bool} {gs : List Gt} (hW : WF gs) {n : Nat} (h0 : 0 < n) (hn : n < gs.length + 2) :
    ((kindAt gs n == "input") = true ∧ vv told gs n = told n) ∨ ((kindAt gs n == "input") = false ∧ vv told gs n = (partsAt gs n).all (lit told gs)) := by
  unfold kindAt partsAt
  match n with
  | 1 =>
    refine .inr ⟨rfl, ?_⟩
    have := lit_one (told := told) (gs := gs)
    unfold lit litv at this
    simpa [vv] using this
  | n + 2 =>
    have hn : n < gs.length := by omega
    have e0 : (n + 2 < 2) = False := by simp
    have e1 : (n + 2 = 1) = False := by simp
    have e2 : (n + 2 = 0) = False := by simp
    have e3 : gs[n]? = some gs[n] := List.getElem?_eq_getElem hn
    have key : vv told gs (n + 2) = lit told gs ((n : Int) + 2) := by
      unfold vv lit litv
      have : ((n : Int) + 2).natAbs = n + 2 := by omega
      rw [this, decide_eq_true (by omega : (0 : Int) < n + 2)]
      cases (vals told gs).getD (n + 2) false <;> rfl
    simp only [e0, e1, e2, if_false, Nat.add_sub_cancel]
    have e4 : gs.getD n none = gs[n] := by simp [List.getD, e3]
    rw [e4]
    cases hg : gs[n] with
    | some ps =>
      rw [hg] at e3
      exact .inr ⟨rfl, by rw [key, lit_at hW e3]; rfl⟩
    | none =>
      refine .inl ⟨rfl, ?_⟩
      rw [key]
      have e : gs = gs.take n ++ ([none] ++ gs.drop (n + 1)) := by
        have h1 : gs.drop n = none :: gs.drop (n + 1) := by rw [List.drop_eq_getElem_cons hn, hg]
        calc gs = gs.take n ++ gs.drop n := (List.take_append_drop n gs).symm
          _ = _ := by rw [h1]; rfl
      have hl : (gs.take n).length = n := by rw [List.length_take]; omega
      have k1 := lit_new (told := told) (gs := gs.take n) none
      rw [hl] at k1
      have pre1 : gs.take n ++ [none] <+: gs := ⟨gs.drop (n + 1), by rw [List.append_assoc]; exact e.symm⟩
      rw [lit_mono (gs' := gs) ⟨by omega, by rw [List.length_append, hl]; simp; omega⟩ pre1, k1]
      show told (vals told (gs.take n)).length = _
      rw [vals_length, hl]
theorem value_spec {c : Cx} (hT : Top' c) (k : Nat) {x : CA} {ra rdx TD : Addr} {base : Store} {gs : List Gt} {td : List (Int × V)} {told : Nat → Bool} {g : Int} (hl : gs.length ≤ 900) (hW : WF gs) (htd : ∀ n : Nat, (vAt td n).getD (.bool false) = .bool (told n)) (hg : Ok gs g)
    (mR : (ra, M.inst 175 rdx [("circuit", .ref x.a)]) ∈ base) (mT : (TD, M.dI td) ∈ base) (mC : cirO x ∈ base) (mK : (x.K, M.list (kindsV gs)) ∈ base) (mP : (x.PN, M.list (partsV gs)) ∈ base) :
    Fn c (k + 2) (.ref 172) [.ref ra, .int g, .ref TD] base fun v st' => v = .bool (lit told gs g) ∧ st' = base := by
  refine Fn.drop (Fn.enter (Def.of hT 172 ["self", "g", "inputs"] rfl rfl rfl rfl rfl rfl rfl rfl rfl rfl (bind3 fun a b d => rfl) rfl) rfl rfl ?_)
  walk_at "in"
  walk_at "go"
  refine Ev.dictPI [(.Constant (.int 1) 0 ⟨0, 0, 0, 0⟩, .Constant (.bool true) 0 ⟨0, 0, 0, 0⟩)] rfl (by simp) (by simp) ?_
  refine EvP.cons (Ev.int (Ev.bool (EvP.nil ⟨[1], rfl, fun KD => ?_⟩)))
  walk_at "go"
  refine Fn.abs ?_
  walk_at "go"
  refine ⟨by rw [sizeLine_eq]; simp, fun SD => ?_⟩
  walk_at "go"
  refine ⟨by rw [sizeLine_eq]; simp, _, _, rfl, ?_⟩
  walk_at "go"
  rw [abs_nat]
  let w := vv told gs
  let J : List Nat → List Nat → Vars → Store → Prop := fun ks ss vs st' => vs "self" = some (.ref ra) ∧ vs "g" = some (.int g) ∧ vs "inputs" = some (.ref TD) ∧ vs "known" = some (.ref KD) ∧ vs "stack" = some (.ref SD) ∧
    st' = (SD, .list (ss.map nv)) :: (KD, .dI (kdv w ks)) :: base ∧ ks.Nodup ∧ (∀ m ∈ ks, m < gs.length + 2) ∧ 1 ∈ ks
  have w1 : w 1 = true := by
    have := lit_one (told := told) (gs := gs)
    unfold lit litv at this
    simpa [w, vv] using this
  have j0 : J [1] [g.natAbs] (((noVars.sets ["self", "g", "inputs"] [V.ref ra, V.int g, V.ref TD]).set "known" (.ref KD)).set "stack" (.ref SD)) ((SD, .list [.int (g.natAbs : Nat)]) :: (KD, .dI [((1 : Int), .bool true)]) :: base) := by
    refine ⟨rfl, rfl, rfl, rfl, rfl, ?_, by simp, fun m hm => by rw [List.mem_singleton.mp hm]; omega, by simp⟩
    show _ = (SD, M.list [nv g.natAbs]) :: (KD, M.dI [(((1 : Nat) : Int), V.bool (w 1))]) :: base
    rw [w1]
    rfl
  refine dfs hW J (fun ks ss n vs st' j hn0 hn hz => ?_) g.natAbs (by have := hg.1; omega) hg.2 [1] [] _ _ j0 (by have := hg.2; simp; omega) fun ks vs st' _ hk j => ?_
  · obtain ⟨j1, j2, j3, j4, j5, rfl, j6, j7, j8⟩ := j
    unfold Turn
    have eS : (ss ++ [n]).map nv = ss.map nv ++ [nv n] := by simp
    rw [eS]
    have hsz : (ss.map nv ++ [nv n]).length ≤ 20001 := by simp; omega
    have hn900 : n < 1000 := by omega
    obtain ⟨m1, m2, m3⟩ := meth hT (name := "parts") (a := 76) (C := 149) rfl rfl rfl
    obtain ⟨n1, n2, n3⟩ := meth hT (name := "kind") (a := 69) (C := 149) rfl rfl rfl
    walk_at "go"
    refine Fn.lenO (.head _) (by omega) ?_
    walk_at "go"
    refine ⟨_, CmpT.gt, by simp, ?_⟩
    walk_at "go"
    refine ⟨_, rfl, ⟨_, .list (.head _)⟩, ?_⟩
    refine Op2.lastO (xs := ss.map nv) (x := nv n) (.head _) ?_
    walk_at "go"
    refine ⟨_, _, _, _, _, rfl, .tail _ (.tail _ mR), clsR hT, nnR hT, rfl, ?_⟩
    refine ⟨_, _, _, _, _, rfl, .tail _ (.tail _ mC), clsC hT, m1, m2, m3, rfl, ?_⟩
    walk_at "go"
    refine (parts_spec hT k hn900 (.tail _ (.tail _ mC)) (.tail _ (.tail _ mP)) (partsV_at hn)).mono ?_
    rintro v st' ⟨rfl, rfl⟩
    refine ⟨_, .inr rfl, fun C => ?_⟩
    obtain ⟨pl1, pl2⟩ := partsAt_lt hW (n := n)
    refine CLoop.each V.int (fun p => decide (p.natAbs ∉ ks)) (fun p => nv p.natAbs) (fun vs => vs "known" = some (.ref KD)) rfl rfl rfl (fun p hp vs hJ => ?_) (by rw [sizeLine_eq]; simp; omega) j4 fun vs' hJ => ?_
    · refine Asg.name (.inl rfl) ⟨hJ, Tests.one ?_⟩
      walk_at "go"
      refine Fn.abs ?_
      rw [abs_nat]
      walk_at "go"
      refine ⟨_, CmpT.notInI (kvs := kdv w ks) (.tail _ (.head _)), ?_⟩
      refine ⟨by rw [kd_some]; simp, rfl, fun _ => ?_⟩
      walk_at "go"
      refine Fn.abs ?_
      rw [abs_nat]
      walk_at "go"
      exact ⟨rfl, rfl⟩
    have eM : [] ++ ((partsAt gs n).filter fun p => decide (p.natAbs ∉ ks)).map (fun p => nv p.natAbs) = (missing gs ks n).map nv := by
      unfold missing pt
      rw [List.filter_map, List.map_map, List.nil_append]
      rfl
    rw [eM]
    have hml := (missing_lt hW (ks := ks) (n := n)).1
    walk_at "go"
    refine ⟨_, CmpT.notInI (kvs := kdv w ks) (.tail _ (.head _)), ?_⟩
    rw [kd_some]
    have hkl := nodup_len j6 j7
    have hput : w n = w n → ∀ b, b = w n → Upd KD (.dI (kdv w ks)) (.dI (vPut (kdv w ks) n (.bool b))) ((SD, .list (ss.map nv)) :: (KD, .dI (kdv w ks)) :: base) ((SD, .list (ss.map nv)) :: (KD, .dI (kdv w (addk n ks))) :: base) := by
      rintro - b rfl
      rw [kd_put]
      exact .tail .head
    have hJ' : ∀ vs2 : Vars, vs2 "self" = some (.ref ra) → vs2 "g" = some (.int g) → vs2 "inputs" = some (.ref TD) → vs2 "known" = some (.ref KD) → vs2 "stack" = some (.ref SD) → J (addk n ks) ss vs2 ((SD, .list (ss.map nv)) :: (KD, .dI (kdv w (addk n ks))) :: base) := by
      intro vs2 q1 q2 q3 q4 q5
      refine ⟨q1, q2, q3, q4, q5, rfl, ?_, ?_, (addk_mem n ks).2 1 j8⟩
      · unfold addk
        split
        · exact j6
        · rename_i h
          exact List.nodup_append.mpr ⟨j6, by simp, fun a ha b hb => by rw [List.mem_singleton.mp hb]; rintro rfl; exact h ha⟩
      · intro m hm
        unfold addk at hm
        split at hm
        · exact j7 m hm
        · rcases List.mem_append.mp hm with hm | hm
          · exact j7 m hm
          · rw [List.mem_singleton.mp hm]; exact hn
    by_cases hc : n ∉ ks ∧ missing gs ks n ≠ []
    · obtain ⟨h1, h2⟩ := hc
      have hpos : 0 < (missing gs ks n).length := List.length_pos_iff.mpr h2
      rw [if_pos (by simpa using h1)]
      walk_at "go"
      refine Fn.len (by simp; omega) ?_
      walk_at "go"
      refine ⟨_, CmpT.gt, ?_⟩
      rw [if_pos (by simpa using hpos)]
      walk_at "go"
      refine ⟨.list (.head _), ?_⟩
      walk_at "go"
      refine Fn.extend .head (by rw [sizeLine_eq, List.length_map]; omega) ⟨.inr rfl, ?_⟩
      walk_at "go"
      show (if n ∉ ks ∧ missing gs ks n ≠ [] then J ks ((ss ++ [n]) ++ missing gs ks n) _ _ else J (addk n ks) ss _ _)
      rw [if_pos ⟨h1, h2⟩]
      exact ⟨j1, j2, j3, j4, j5, by simp, j6, j7, j8⟩
    have hc2 : n ∈ ks ∨ missing gs ks n = [] := by
      by_cases h : n ∈ ks
      · exact .inl h
      · exact .inr (Classical.byContradiction fun h2 => hc ⟨h, h2⟩)
    by_cases hc2 : n ∈ ks
    · rw [if_neg (by simpa using hc2)]
      walk_at "go"
      refine ⟨.list (.head _), ?_⟩
      walk_at "go"
      refine Fn.pop (y := nv n) .head (by rw [sizeLine_eq, List.length_map]; omega) ⟨.inl ⟨_, rfl⟩, ?_⟩
      walk_at "go"
      refine ⟨_, _, _, _, _, rfl, .tail _ (.tail _ mR), clsR hT, nnR hT, rfl, ?_⟩
      refine ⟨_, _, _, _, _, rfl, .tail _ (.tail _ mC), clsC hT, n1, n2, n3, rfl, ?_⟩
      walk_at "go"
      refine (kind_spec hT k hn900 (.tail _ (.tail _ mC)) (.tail _ (.tail _ mK)) (kindsV_at hn)).mono ?_
      rintro v st' ⟨rfl, rfl⟩
      walk_at "go"
      refine ⟨_, CmpT.eqS, ?_⟩
      rcases gate_cases (told := told) hW hn0 hn with ⟨k1, k2⟩ | ⟨k1, k2⟩
      · rw [if_pos k1]
        walk_at "go"
        refine ⟨.dI (.tail _ (.tail _ mT)), ?_⟩
        walk_at "go"
        refine Fn.getI (.tail _ (.tail _ mT)) ?_
        rw [htd]
        walk_at "go"
        refine Op3.putI (kvs := kdv w ks) (hput rfl _ k2.symm) (by rw [sizeLine_eq]; unfold kdv; rw [List.length_map]; omega) ?_
        walk_at "go"
        show (if n ∉ ks ∧ missing gs ks n ≠ [] then J ks ((ss ++ [n]) ++ missing gs ks n) _ _ else J (addk n ks) ss _ _)
        rw [if_neg hc]
        exact hJ' _ j1 j2 j3 j4 j5
      · rw [if_neg (by rw [k1]; exact Bool.false_ne_true)]
        walk_at "go"
        refine ⟨_, CmpT.notInI (kvs := kdv w ks) (.tail _ (.head _)), ?_⟩
        rw [kd_some]
        by_cases hk : n ∈ ks
        · rw [if_neg (by simpa using hk)]
          walk_at "go"
          show (if n ∉ ks ∧ missing gs ks n ≠ [] then J ks ((ss ++ [n]) ++ missing gs ks n) _ _ else J (addk n ks) ss _ _)
          rw [if_neg hc]
          have := hJ' ((vs.set "here" (nv n)).set "missing" (.lst ((missing gs ks n).map nv))) j1 j2 j3 j4 j5
          rw [show addk n ks = ks from if_pos hk] at this ⊢
          exact this
        · rw [if_pos (by simpa using hk)]
          have hmiss : ∀ p ∈ partsAt gs n, p.natAbs ∈ ks := by
            have hme : missing gs ks n = [] := Classical.byContradiction fun h => hc ⟨hk, h⟩
            intro p hp
            unfold missing pt at hme
            rw [List.filter_eq_nil_iff] at hme
            have := hme p.natAbs (List.mem_map.mpr ⟨p, hp, rfl⟩)
            simpa using this
          walk_at "go"
          refine ⟨_, _, _, _, _, rfl, .tail _ (.tail _ mR), clsR hT, nnR hT, rfl, ?_⟩
          refine ⟨_, _, _, _, _, rfl, .tail _ (.tail _ mC), clsC hT, m1, m2, m3, rfl, ?_⟩
          walk_at "go"
          refine (parts_spec hT k hn900 (.tail _ (.tail _ mC)) (.tail _ (.tail _ mP)) (partsV_at hn)).mono ?_
          rintro v st' ⟨rfl, rfl⟩
          refine ⟨_, .inr rfl, fun C => ?_⟩
          refine CLoop.each V.int (fun _ => true) (fun p => .bool (lit told gs p)) (fun vs => vs "known" = some (.ref KD)) rfl rfl rfl (fun p hp vs hJ => ?_) (by rw [sizeLine_eq]; simp; omega) j4 fun vs' hJ => ?_
          · refine Asg.name (.inl rfl) ⟨hJ, Tests.nil ⟨rfl, rfl, fun _ => ?_⟩⟩
            walk_at "go"
            refine Fn.abs ?_
            rw [abs_nat]
            walk_at "go"
            refine ⟨⟨_, .dI (.tail _ (.head _))⟩, Op2.atI (kvs := kdv w ks) (.tail _ (.head _)) (by rw [kd_at, if_pos (hmiss p hp)]) ?_⟩
            walk_at "go"
            refine ⟨_, CmpT.gt, ?_⟩
            exact ⟨_, CmpT.eqB, rfl, rfl⟩
          rw [filter_true', List.nil_append]
          have eB : (partsAt gs n).map (fun p => V.bool (lit told gs p)) = ((partsAt gs n).map (lit told gs)).map V.bool := by rw [List.map_map]; rfl
          rw [eB]
          walk_at "go"
          refine Fn.all ?_
          have eA : ((partsAt gs n).map (lit told gs)).all id = w n := by rw [List.all_map]; exact k2.symm
          rw [eA]
          walk_at "go"
          refine Op3.putI (kvs := kdv w ks) (hput rfl _ rfl) (by rw [sizeLine_eq]; unfold kdv; rw [List.length_map]; omega) ?_
          walk_at "go"
          show (if n ∉ ks ∧ missing gs ks n ≠ [] then J ks ((ss ++ [n]) ++ missing gs ks n) _ _ else J (addk n ks) ss _ _)
          rw [if_neg hc]
          exact hJ' _ j1 j2 j3 j4 j5
    · have hme : missing gs ks n = [] := Classical.byContradiction fun h => hc ⟨hc2, h⟩
      rw [if_pos (by simpa using hc2)]
      walk_at "go"
      refine Fn.len (by simp; omega) ?_
      walk_at "go"
      refine ⟨_, CmpT.gt, ?_⟩
      rw [if_neg (by rw [hme]; simp)]
      walk_at "go"
      refine ⟨.list (.head _), ?_⟩
      walk_at "go"
      refine Fn.pop (y := nv n) .head (by rw [sizeLine_eq, List.length_map]; omega) ⟨.inl ⟨_, rfl⟩, ?_⟩
      walk_at "go"
      refine ⟨_, _, _, _, _, rfl, .tail _ (.tail _ mR), clsR hT, nnR hT, rfl, ?_⟩
      refine ⟨_, _, _, _, _, rfl, .tail _ (.tail _ mC), clsC hT, n1, n2, n3, rfl, ?_⟩
      walk_at "go"
      refine (kind_spec hT k hn900 (.tail _ (.tail _ mC)) (.tail _ (.tail _ mK)) (kindsV_at hn)).mono ?_
      rintro v st' ⟨rfl, rfl⟩
      walk_at "go"
      refine ⟨_, CmpT.eqS, ?_⟩
      rcases gate_cases (told := told) hW hn0 hn with ⟨k1, k2⟩ | ⟨k1, k2⟩
      · rw [if_pos k1]
        walk_at "go"
        refine ⟨.dI (.tail _ (.tail _ mT)), ?_⟩
        walk_at "go"
        refine Fn.getI (.tail _ (.tail _ mT)) ?_
        rw [htd]
        walk_at "go"
        refine Op3.putI (kvs := kdv w ks) (hput rfl _ k2.symm) (by rw [sizeLine_eq]; unfold kdv; rw [List.length_map]; omega) ?_
        walk_at "go"
        show (if n ∉ ks ∧ missing gs ks n ≠ [] then J ks ((ss ++ [n]) ++ missing gs ks n) _ _ else J (addk n ks) ss _ _)
        rw [if_neg hc]
        exact hJ' _ j1 j2 j3 j4 j5
      · rw [if_neg (by rw [k1]; exact Bool.false_ne_true)]
        walk_at "go"
        refine ⟨_, CmpT.notInI (kvs := kdv w ks) (.tail _ (.head _)), ?_⟩
        rw [kd_some]
        by_cases hk : n ∈ ks
        · rw [if_neg (by simpa using hk)]
          walk_at "go"
          show (if n ∉ ks ∧ missing gs ks n ≠ [] then J ks ((ss ++ [n]) ++ missing gs ks n) _ _ else J (addk n ks) ss _ _)
          rw [if_neg hc]
          have := hJ' ((vs.set "here" (nv n)).set "missing" (.lst ((missing gs ks n).map nv))) j1 j2 j3 j4 j5
          rw [show addk n ks = ks from if_pos hk] at this ⊢
          exact this
        · rw [if_pos (by simpa using hk)]
          have hmiss : ∀ p ∈ partsAt gs n, p.natAbs ∈ ks := by
            have hme : missing gs ks n = [] := Classical.byContradiction fun h => hc ⟨hk, h⟩
            intro p hp
            unfold missing pt at hme
            rw [List.filter_eq_nil_iff] at hme
            have := hme p.natAbs (List.mem_map.mpr ⟨p, hp, rfl⟩)
            simpa using this
          walk_at "go"
          refine ⟨_, _, _, _, _, rfl, .tail _ (.tail _ mR), clsR hT, nnR hT, rfl, ?_⟩
          refine ⟨_, _, _, _, _, rfl, .tail _ (.tail _ mC), clsC hT, m1, m2, m3, rfl, ?_⟩
          walk_at "go"
          refine (parts_spec hT k hn900 (.tail _ (.tail _ mC)) (.tail _ (.tail _ mP)) (partsV_at hn)).mono ?_
          rintro v st' ⟨rfl, rfl⟩
          refine ⟨_, .inr rfl, fun C => ?_⟩
          refine CLoop.each V.int (fun _ => true) (fun p => .bool (lit told gs p)) (fun vs => vs "known" = some (.ref KD)) rfl rfl rfl (fun p hp vs hJ => ?_) (by rw [sizeLine_eq]; simp; omega) j4 fun vs' hJ => ?_
          · refine Asg.name (.inl rfl) ⟨hJ, Tests.nil ⟨rfl, rfl, fun _ => ?_⟩⟩
            walk_at "go"
            refine Fn.abs ?_
            rw [abs_nat]
            walk_at "go"
            refine ⟨⟨_, .dI (.tail _ (.head _))⟩, Op2.atI (kvs := kdv w ks) (.tail _ (.head _)) (by rw [kd_at, if_pos (hmiss p hp)]) ?_⟩
            walk_at "go"
            refine ⟨_, CmpT.gt, ?_⟩
            exact ⟨_, CmpT.eqB, rfl, rfl⟩
          rw [filter_true', List.nil_append]
          have eB : (partsAt gs n).map (fun p => V.bool (lit told gs p)) = ((partsAt gs n).map (lit told gs)).map V.bool := by rw [List.map_map]; rfl
          rw [eB]
          walk_at "go"
          refine Fn.all ?_
          have eA : ((partsAt gs n).map (lit told gs)).all id = w n := by rw [List.all_map]; exact k2.symm
          rw [eA]
          walk_at "go"
          refine Op3.putI (kvs := kdv w ks) (hput rfl _ rfl) (by rw [sizeLine_eq]; unfold kdv; rw [List.length_map]; omega) ?_
          walk_at "go"
          show (if n ∉ ks ∧ missing gs ks n ≠ [] then J ks ((ss ++ [n]) ++ missing gs ks n) _ _ else J (addk n ks) ss _ _)
          rw [if_neg hc]
          exact hJ' _ j1 j2 j3 j4 j5
  · obtain ⟨j1, j2, j3, j4, j5, rfl, j6, j7, j8⟩ := j
    refine WLoop.step ?_
    walk_at "go"
    refine Fn.lenO (.head _) (by simp) ?_
    walk_at "go"
    refine ⟨_, CmpT.gt, ?_⟩
    rw [if_neg (by simp)]
    walk_at "go"
    refine Fn.abs ?_
    rw [abs_nat]
    walk_at "go"
    refine ⟨⟨_, .dI (.tail _ (.head _))⟩, Op2.atI (kvs := kdv w ks) (.tail _ (.head _)) (by rw [kd_at, if_pos hk]) ?_⟩
    walk_at "go"
    refine ⟨_, CmpT.gt, ?_⟩
    refine ⟨_, CmpT.eqB, ?_⟩
    exact ⟨base, .cons _ (.cons _ (List.Sublist.refl _)), rfl, rfl⟩
noncomputable def bl (lots : List (List Int)) (every : List Int) (r : Nat) (w : Nat × Nat × Nat) : List Place :=
  if w.1 = 0 then (lots.getD w.2.1 []).map fun a => ((r : Int), [a])
  else if w.1 = 1 then every.map fun a => ((r : Int), [a])
  else if w.1 = 2 then (lots.getD w.2.1 []).flatMap fun a => (lots.getD w.2.2 []).map fun b => ((r : Int), [a, b])
  else every.flatMap fun a => (every.filter fun b => !decide (a = b)).map fun b => ((r : Int), [a, b])
noncomputable def plc (lots : List (List Int)) (every : List Int) (ws : List (Nat × Nat × Nat)) : List Place := ws.zipIdx.flatMap fun p => bl lots every p.2 p.1
theorem plc_snoc (lots : List (List Int)) (every : List Int) (ws : List (Nat × Nat × Nat)) (w : Nat × Nat × Nat) : plc lots every (ws ++ [w]) = plc lots every ws ++ bl lots every ws.length w := by
  unfold plc
  rw [List.zipIdx_append, List.flatMap_append]
  simp
theorem lot_get {lots : List (List Int)} {i : Nat} (h : i < lots.length) : (lots.map lotV)[((i : Int)).toNat]? = some (lotV (lots.getD i [])) := by
  simp [List.getD, h]
theorem flatMap_len {α β : Type} (f : α → List β) (k : Nat) : ∀ {l : List α}, (∀ a ∈ l, (f a).length ≤ k) → (l.flatMap f).length ≤ l.length * k
  | [], _ => by simp
  | a :: l, h => by
    have h1 := h a List.mem_cons_self
    have h2 := flatMap_len f k (l := l) fun b hb => h b (List.mem_cons_of_mem _ hb)
    rw [List.flatMap_cons, List.length_append, List.length_cons, Nat.add_mul]; omega
theorem bl_len {lots : List (List Int)} {every : List Int} {r : Nat} {w : Nat × Nat × Nat} (h1 : ∀ i, (lots.getD i []).length ≤ 4) (h2 : every.length ≤ 4) : (bl lots every r w).length ≤ 16 := by
  unfold bl
  have a1 := h1 w.2.1
  have a2 := h1 w.2.2
  split
  · rw [List.length_map]; omega
  split
  · rw [List.length_map]; omega
  split
  · refine Nat.le_trans (flatMap_len _ 4 fun a _ => by rw [List.length_map]; exact a2) (by omega)
  · refine Nat.le_trans (flatMap_len _ 4 fun a _ => ?_) (Nat.le_trans (Nat.mul_le_mul_right 4 h2) (by omega))
    rw [List.length_map]
    exact Nat.le_trans (List.length_filter_le _ _) h2
theorem places_spec {c : Cx} (hT : Top' c) (k : Nat) {cells : List Int} {n : Nat} {S : Int} {F : Addr} {lots : List (List Int)} (hn : n ≤ 500) (hc : cells.length ≤ 100) (h0 : lots ≠ []) (hl : lots.length ≤ 4) (hfl : lots.flatten.length ≤ 4) :
    Fn c (k + 2) (.ref 191) [.ref F, lotsV lots] [(F, feedM cells n S)] fun v st' => ∃ (every : List Int) (ws : List (Nat × Nat × Nat)) (m : Nat), v = .lst ((plc lots every ws).map pv) ∧ st' = [(F, feedM cells m S)] ∧ m ≤ n + 7 ∧ every.Perm lots.flatten ∧ every.Pairwise (· ≤ ·) ∧
      (1 ≤ ws.length ∧ ws.length ≤ 2) ∧ ∀ w ∈ ws, w.1 < 4 ∧ w.2.1 < lots.length ∧ w.2.2 < lots.length := by
  refine Fn.freeze (Fn.enter (Def.of hT 191 ["feed", "lots"] rfl rfl rfl rfl rfl rfl rfl rfl rfl rfl (bind2 fun a b => rfl) rfl) rfl rfl ?_)
  walk_at "in"
  walk_at "go"
  refine ⟨_, .inr rfl, fun C => ?_⟩
  refine CLoop.nest lotV (fun lot => lot.map V.int) (fun _ => True) rfl rfl rfl rfl (fun x => by with_unfolding_all rfl) (fun lot hlot vs _ => ?_) ?_ trivial fun vs' _ => ?_
  · refine Asg.name (.inl rfl) (Tests.nil ⟨rfl, rfl, ?_⟩)
    walk_at "go"
    refine ⟨_, .inr rfl, rfl, fun ys hys => ?_⟩
    have hll : lot.length ≤ 4 := Nat.le_trans (List.sublist_flatten_of_mem hlot).length_le hfl
    refine CLoop.each V.int (fun _ => true) V.int (fun _ => True) rfl rfl rfl (fun a ha vs _ => ?_) (by rw [sizeLine_eq]; omega) trivial fun vs' _ => ?_
    · refine Asg.name (.inl rfl) ⟨trivial, Tests.nil ⟨rfl, rfl, fun _ => ?_⟩⟩
      walk_at "go"
      exact ⟨rfl, rfl⟩
    · rw [filter_true']
      exact ⟨trivial, rfl, rfl⟩
  · have : (lots.flatMap fun lot => lot.map V.int).length = lots.flatten.length := by simp [List.length_flatMap, List.length_flatten]
    simp only [List.length_nil]; omega
  have eF : [] ++ lots.flatMap (fun lot => lot.map V.int) = lots.flatten.map V.int := by rw [List.nil_append, List.map_flatten]; rfl
  rw [eF]
  walk_at "go"
  refine Fn.sorted (by omega) fun a0 every hperm hsort => ?_
  refine ⟨a0, _, [], _, rfl, rfl, ?_⟩
  walk_at "go"
  refine ⟨by rw [sizeLine_eq]; simp, fun PL => ?_⟩
  walk_at "go"
  refine ⟨by rw [sizeLine_eq]; simp, _, _, rfl, ?_⟩
  walk_at "go"
  refine (Fn.front _ (draw_spec hT k (w := 2) (by decide) (by omega) hc)).mono ?_
  rintro v st' ⟨st1, rfl, j, hj, rfl, rfl⟩
  walk_at "go"
  refine ⟨_, BinT.add, ?_⟩
  walk_at "go"
  have eN : (1 : Int) + (j : Int) = ((1 + j : Nat) : Int) := by omega
  rw [eN]
  refine Mk.rangeN (by omega) ?_
  have hlot4 : ∀ i, (lots.getD i []).length ≤ 4 := fun i => by
    cases e : lots[i]? with
    | none => simp [List.getD, e]
    | some lot =>
      simp only [List.getD, e, Option.getD_some]
      exact Nat.le_trans (List.sublist_flatten_of_mem (List.mem_of_getElem? e)).length_le hfl
  have hev4 : every.length ≤ 4 := by rw [hperm.length_eq]; exact hfl
  have hpos : 0 < lots.length := List.length_pos_iff.mpr h0
  refine Loop.inv (xs := List.range (1 + j)) nv (fun pre vs st' => ∃ (ws : List (Nat × Nat × Nat)) (m : Nat), vs "feed" = some (.ref F) ∧ vs "lots" = some (lotsV lots) ∧ vs "every" = some (.lst (every.map .int)) ∧ vs "places" = some (.ref PL) ∧
    st' = [(PL, .list ((plc lots every ws).map pv)), (F, feedM cells m S)] ∧ m = n + 1 + 3 * pre.length ∧ ws.length = pre.length ∧ (plc lots every ws).length ≤ 16 * pre.length ∧ ∀ w ∈ ws, w.1 < 4 ∧ w.2.1 < lots.length ∧ w.2.2 < lots.length)
    (fun pre r post vs st' e j => ?_) ⟨[], n + 1, rfl, rfl, rfl, rfl, rfl, rfl, rfl, Nat.le_refl _, (fun _ h => nomatch h)⟩ (fun vs st' j => ?_)
  · obtain ⟨ws, m, j1, j2, j3, j4, rfl, j5, j6, j7, j8⟩ := j
    obtain ⟨rfl, hr⟩ := range_split e
    refine Asg.name (stoC rfl rfl rfl) ?_
    walk_at "go"
    refine (Fn.front _ (draw_spec hT k (w := 4) (by decide) (by omega) hc)).mono ?_
    rintro v st' ⟨st1, rfl, w1, hw1, rfl, rfl⟩
    walk_at "go"
    refine Fn.lenT (by simp; omega) ?_
    rw [List.length_map]
    walk_at "go"
    refine (Fn.front _ (draw_spec hT k (w := lots.length) hpos (by omega) hc)).mono ?_
    rintro v st' ⟨st1, rfl, w2, hw2, rfl, rfl⟩
    refine ⟨⟨_, .tup _⟩, Op2.itemT (by omega) (by omega) (lot_get hw2) ?_⟩
    walk_at "go"
    refine Fn.lenT (by simp; omega) ?_
    rw [List.length_map]
    walk_at "go"
    refine (Fn.front _ (draw_spec hT k (w := lots.length) hpos (by omega) hc)).mono ?_
    rintro v st' ⟨st1, rfl, w3, hw3, rfl, rfl⟩
    refine ⟨⟨_, .tup _⟩, Op2.itemT (by omega) (by omega) (lot_get hw3) ?_⟩
    walk_at "go"
    refine ⟨by rw [sizeLine_eq]; simp, _, _, _, rfl, ?_⟩
    have hone := hlot4 w2
    have hoth := hlot4 w3
    have hbl : (bl lots every pre.length (w1, w2, w3)).length ≤ 16 := bl_len hlot4 hev4
    have fin : ∀ vs2 : Vars, vs2 "feed" = some (.ref F) → vs2 "lots" = some (lotsV lots) → vs2 "every" = some (.lst (every.map .int)) → vs2 "places" = some (.ref PL) → ∀ st2, st2 = [(PL, .list ((plc lots every (ws ++ [(w1, w2, w3)])).map pv)), (F, feedM cells (m + 1 + 1 + 1) S)] →
        ∃ (ws : List (Nat × Nat × Nat)) (m : Nat), vs2 "feed" = some (.ref F) ∧ vs2 "lots" = some (lotsV lots) ∧ vs2 "every" = some (.lst (every.map .int)) ∧ vs2 "places" = some (.ref PL) ∧
    st2 = [(PL, .list ((plc lots every ws).map pv)), (F, feedM cells m S)] ∧ m = n + 1 + 3 * (pre ++ [pre.length]).length ∧ ws.length = (pre ++ [pre.length]).length ∧ (plc lots every ws).length ≤ 16 * (pre ++ [pre.length]).length ∧ ∀ w ∈ ws, w.1 < 4 ∧ w.2.1 < lots.length ∧ w.2.2 < lots.length := by
      intro vs2 q1 q2 q3 q4 st2 q5
      refine ⟨ws ++ [(w1, w2, w3)], m + 1 + 1 + 1, q1, q2, q3, q4, q5, by simp; omega, by simp [j6], ?_, fun w hw => ?_⟩
      · rw [plc_snoc, List.length_append, List.length_append, List.length_singleton, j6]; omega
      · rcases List.mem_append.mp hw with hw | hw
        · exact j8 w hw
        · rw [List.mem_singleton.mp hw]; exact ⟨hw1, hw2, hw3⟩
    have up : ∀ ys : List V, ys = (bl lots every ws.length (w1, w2, w3)).map pv → Upd PL (.list ((plc lots every ws).map pv)) (.list ((plc lots every ws).map pv ++ ys)) [(PL, .list ((plc lots every ws).map pv)), (F, feedM cells (m + 1 + 1 + 1) S)] [(PL, .list ((plc lots every (ws ++ [(w1, w2, w3)])).map pv)), (F, feedM cells (m + 1 + 1 + 1) S)] := by
      rintro ys rfl
      rw [plc_snoc, List.map_append]
      exact .head
    walk_at "go"
    refine ⟨_, CmpT.eqI, ?_⟩
    by_cases h0 : w1 = 0
    · rw [if_pos (by simpa using h0)]
      walk_at "go"
      refine ⟨.list (.head _), ?_⟩
      walk_at "go"
      refine ⟨_, .inr rfl, fun C => ?_⟩
      refine CLoop.each V.int (fun _ => true) (fun a => pv ((pre.length : Nat), [a])) (fun vs => vs "r" = some (nv pre.length)) rfl rfl rfl (fun a ha vs hJ => ?_) (by rw [sizeLine_eq]; simp only [List.length_nil]; omega) rfl fun vs' hJ => ?_
      · refine Asg.name (.inl rfl) ⟨hJ, Tests.nil ⟨rfl, rfl, fun _ => ?_⟩⟩
        walk_at "go"
        refine ⟨by rw [sizeLine_eq]; simp, ?_⟩
        walk_at "go"
        exact ⟨by rw [sizeLine_eq]; simp, rfl, rfl⟩
      rw [filter_true', List.nil_append]
      walk_at "go"
      refine Fn.extend (up _ ?_) (by rw [sizeLine_eq, List.length_map, List.length_map]; omega) ⟨.inr rfl, ?_⟩
      · rw [j6]; unfold bl; rw [if_pos h0]; rw [List.map_map]; rfl
      walk_at "go"
      exact fin _ j1 j2 j3 j4 _ rfl
    rw [if_neg (by simpa using h0)]
    walk_at "go"
    refine ⟨_, CmpT.eqI, ?_⟩
    by_cases h1 : w1 = 1
    · rw [if_pos (by simpa using (show (w1 : Int) = 1 by omega))]
      walk_at "go"
      refine ⟨.list (.head _), ?_⟩
      walk_at "go"
      refine ⟨_, .inl rfl, fun C => ?_⟩
      refine CLoop.each V.int (fun _ => true) (fun a => pv ((pre.length : Nat), [a])) (fun vs => vs "r" = some (nv pre.length)) rfl rfl rfl (fun a ha vs hJ => ?_) (by rw [sizeLine_eq]; simp only [List.length_nil]; omega) rfl fun vs' hJ => ?_
      · refine Asg.name (.inl rfl) ⟨hJ, Tests.nil ⟨rfl, rfl, fun _ => ?_⟩⟩
        walk_at "go"
        refine ⟨by rw [sizeLine_eq]; simp, ?_⟩
        walk_at "go"
        exact ⟨by rw [sizeLine_eq]; simp, rfl, rfl⟩
      rw [filter_true', List.nil_append]
      walk_at "go"
      refine Fn.extend (up _ ?_) (by rw [sizeLine_eq, List.length_map, List.length_map]; omega) ⟨.inr rfl, ?_⟩
      · rw [j6]; unfold bl; rw [if_neg h0, if_pos h1]; rw [List.map_map]; rfl
      walk_at "go"
      exact fin _ j1 j2 j3 j4 _ rfl
    rw [if_neg (by simpa using (show ¬ (w1 : Int) = 1 by omega))]
    walk_at "go"
    refine ⟨_, CmpT.eqI, ?_⟩
    by_cases h2 : w1 = 2
    · rw [if_pos (by simpa using (show (w1 : Int) = 2 by omega))]
      walk_at "go"
      refine ⟨.list (.head _), ?_⟩
      walk_at "go"
      refine ⟨_, .inr rfl, fun C => ?_⟩
      refine CLoop.nest V.int (fun a => (lots.getD w3 []).map fun b => pv ((pre.length : Nat), [a, b])) (fun vs => vs "r" = some (nv pre.length) ∧ vs "other" = some (lotV (lots.getD w3 []))) rfl rfl rfl rfl (fun x => by with_unfolding_all rfl) (fun a ha vs hJ => ?_) ?_ ⟨rfl, rfl⟩ fun vs' hJ => ?_
      · obtain ⟨q1, q2⟩ := hJ
        refine Asg.name (.inl rfl) (Tests.nil ⟨rfl, rfl, ?_⟩)
        walk_at "go"
        refine ⟨_, .inr rfl, rfl, fun ys hys => ?_⟩
        refine CLoop.each V.int (fun _ => true) (fun b => pv ((pre.length : Nat), [a, b])) (fun vs => (vs "r" = some (nv pre.length) ∧ vs "other" = some (lotV (lots.getD w3 []))) ∧ vs "a" = some (.int a)) rfl rfl rfl (fun b hb vs hJ => ?_) (by rw [sizeLine_eq]; omega) ⟨⟨q1, q2⟩, rfl⟩ fun vs' hJ => ?_
        · obtain ⟨⟨q1, q2⟩, q3⟩ := hJ
          refine Asg.name (.inl rfl) ⟨⟨⟨q1, q2⟩, q3⟩, Tests.nil ⟨rfl, rfl, fun _ => ?_⟩⟩
          walk_at "go"
          refine ⟨by rw [sizeLine_eq]; simp, ?_⟩
          walk_at "go"
          exact ⟨by rw [sizeLine_eq]; simp, rfl, rfl⟩
        · rw [filter_true']
          exact ⟨hJ.1, rfl, rfl⟩
      · have := flatMap_len (fun a : Int => (lots.getD w3 []).map fun b => pv ((pre.length : Nat), [a, b])) 4 (l := lots.getD w2 []) fun a _ => by rw [List.length_map]; exact hoth
        simp only [List.length_nil]; omega
      rw [List.nil_append]
      walk_at "go"
      have hfm : ((lots.getD w2 []).flatMap fun a => (lots.getD w3 []).map fun b => pv ((pre.length : Nat), [a, b])) = (bl lots every ws.length (w1, w2, w3)).map pv := by
        rw [j6]; unfold bl
        rw [if_neg h0, if_neg h1, if_pos h2, List.map_flatMap]
        congr 1
        funext a
        rw [List.map_map]; rfl
      refine Fn.extend (up _ hfm) (by rw [sizeLine_eq, List.length_map, hfm, List.length_map, j6]; omega) ⟨.inr rfl, ?_⟩
      walk_at "go"
      exact fin _ j1 j2 j3 j4 _ rfl
    · rw [if_neg (by simpa using (show ¬ (w1 : Int) = 2 by omega))]
      walk_at "go"
      refine ⟨.list (.head _), ?_⟩
      walk_at "go"
      refine ⟨_, .inl rfl, fun C => ?_⟩
      refine CLoop.nest V.int (fun a => (every.filter fun b => !decide (a = b)).map fun b => pv ((pre.length : Nat), [a, b])) (fun vs => vs "r" = some (nv pre.length) ∧ vs "every" = some (.lst (every.map .int))) rfl rfl rfl rfl (fun x => by with_unfolding_all rfl) (fun a ha vs hJ => ?_) ?_ ⟨rfl, j3⟩ fun vs' hJ => ?_
      · obtain ⟨q1, q2⟩ := hJ
        refine Asg.name (.inl rfl) (Tests.nil ⟨rfl, rfl, ?_⟩)
        walk_at "go"
        refine ⟨_, .inl rfl, rfl, fun ys hys => ?_⟩
        refine CLoop.each V.int (fun b => !decide (a = b)) (fun b => pv ((pre.length : Nat), [a, b])) (fun vs => (vs "r" = some (nv pre.length) ∧ vs "every" = some (.lst (every.map .int))) ∧ vs "a" = some (.int a)) rfl rfl rfl (fun b hb vs hJ => ?_) (by rw [sizeLine_eq]; omega) ⟨⟨q1, q2⟩, rfl⟩ fun vs' hJ => ?_
        · obtain ⟨⟨q1, q2⟩, q3⟩ := hJ
          refine Asg.name (.inl rfl) ⟨⟨⟨q1, q2⟩, q3⟩, Tests.one ?_⟩
          walk_at "go"
          refine ⟨_, CmpT.neI, rfl, rfl, fun _ => ?_⟩
          walk_at "go"
          refine ⟨by rw [sizeLine_eq]; simp, ?_⟩
          walk_at "go"
          exact ⟨by rw [sizeLine_eq]; simp, rfl, rfl⟩
        · exact ⟨hJ.1, rfl, rfl⟩
      · have := flatMap_len (fun a : Int => (every.filter fun b => !decide (a = b)).map fun b => pv ((pre.length : Nat), [a, b])) 4 (l := every) fun a _ => by rw [List.length_map]; exact Nat.le_trans (List.length_filter_le _ _) hev4
        simp only [List.length_nil]; omega
      rw [List.nil_append]
      walk_at "go"
      have hfm : (every.flatMap fun a => (every.filter fun b => !decide (a = b)).map fun b => pv ((pre.length : Nat), [a, b])) = (bl lots every ws.length (w1, w2, w3)).map pv := by
        rw [j6]; unfold bl
        rw [if_neg h0, if_neg h1, if_neg h2, List.map_flatMap]
        congr 1
        funext a
        rw [List.map_map]; rfl
      refine Fn.extend (up _ hfm) (by rw [sizeLine_eq, List.length_map, hfm, List.length_map, j6]; omega) ⟨.inr rfl, ?_⟩
      walk_at "go"
      exact fin _ j1 j2 j3 j4 _ rfl
  · obtain ⟨ws, m, j1, j2, j3, j4, rfl, j5, j6, j7, j8⟩ := j
    walk_at "go"
    rw [List.length_range] at j5 j6
    exact ⟨PL, _, [], _, rfl, rfl, every, ws, m, rfl, rfl, by omega, hperm, hsort, ⟨by omega, by omega⟩, j8⟩
noncomputable def rV (r : List Bool) : V := .lst (r.map .bool)
noncomputable def tV (t : List Nat) : V := .lst (t.map nv)
noncomputable def app (r : List Bool) (t : List Nat) : List Bool := t.map (at' r)
theorem bools_inj : ∀ {is js : List Bool}, is.map V.bool = js.map V.bool → is = js
  | [], [], _ => rfl
  | [], _ :: _, h => by simp at h
  | _ :: _, [], h => by simp at h
  | i :: is, j :: js, h => by simp at h; rw [h.1, bools_inj (is := is) (js := js) (by simpa using h.2)]
theorem rV_inj {r s : List Bool} (h : rV r = rV s) : r = s := by unfold rV at h; injection h with h; exact bools_inj h
theorem cmpL_bools : ∀ is js : List Bool, cmpL (is.map .bool) (js.map .bool) = true
  | [], _ => rfl
  | _ :: _, [] => rfl
  | i :: is, j :: js => by simp [cmpL, V.cmp, cmpL_bools is js]
theorem puL_bools : ∀ is : List Bool, puL (is.map .bool) = true
  | [] => rfl
  | i :: is => by simp [puL, V.pu, puL_bools is]
theorem depL_bools : ∀ is : List Bool, depL (is.map .bool) = 0
  | [] => rfl
  | i :: is => by simp [depL, V.dep, depL_bools is]
theorem rV_ok (r s : List Bool) : (rV r).dep ≤ 4 ∧ (rV r).pu = true ∧ (rV r).cmp (rV s) = true := by
  simp [rV, V.dep, V.pu, V.cmp, depL_bools, puL_bools, cmpL_bools]
theorem any_rV (rows : List (List Bool)) (r : List Bool) : (rows.map rV).any (·.beq (rV r)) = decide (r ∈ rows) := by
  rw [List.any_map, Bool.eq_iff_iff, List.any_eq_true]
  simp only [Function.comp_apply, V.beq_iff, decide_eq_true_eq]
  exact ⟨fun ⟨x, hx, e⟩ => rV_inj e ▸ hx, fun h => ⟨r, h, rfl⟩⟩
noncomputable def encB : List Bool → Nat
  | [] => 0
  | b :: r => 2 * encB r + (if b = true then 1 else 0)
theorem encB_lt : ∀ r : List Bool, encB r < 2 ^ r.length
  | [] => by decide
  | b :: r => by
    have := encB_lt r
    rw [encB, List.length_cons, Nat.pow_succ]
    split <;> omega
theorem encB_inj : ∀ {r s : List Bool}, r.length = s.length → encB r = encB s → r = s
  | [], [], _, _ => rfl
  | [], _ :: _, h, _ => by simp at h
  | _ :: _, [], h, _ => by simp at h
  | a :: r, b :: s, h, e => by
    rw [encB, encB] at e
    have hl : r.length = s.length := by simpa using h
    have e1 : encB r = encB s := by split at e <;> split at e <;> omega
    have e2 : a = b := by cases a <;> cases b <;> simp at e ⊢ <;> omega
    rw [e2, encB_inj hl e1]
theorem rows_len {rows : List (List Bool)} {N : Nat} (hnd : rows.Nodup) (hl : ∀ r ∈ rows, r.length = N) : rows.length ≤ 2 ^ N := by
  have h1 : (rows.map encB).Nodup := by
    unfold List.Nodup
    rw [List.pairwise_map]
    exact hnd.imp_of_mem fun ha hb hne e => hne (encB_inj ((hl _ ha).trans (hl _ hb).symm) e)
  have := nodup_len h1 (n := 2 ^ N) fun m hm => by
    obtain ⟨r, hr, rfl⟩ := List.mem_map.mp hm
    rw [← hl r hr]; exact encB_lt r
  simpa using this
theorem pow24 {N : Nat} (h : N ≤ 24) : 2 ^ N ≤ sizeLine := Nat.pow_le_pow_right (by decide) h
theorem orbit_spec {c : Cx} (hT : Top' c) (k : Nat) {row : List Bool} {turns : List (List Nat)} {N : Nat} {st : Store} (hN : N ≤ 24) (hr : row.length = N) (htl : turns.length ≤ 10) (ht : ∀ t ∈ turns, t.length = N ∧ ∀ i ∈ t, i < N) :
    Fn c (k + 1) (.ref 201) [rV row, .lst (turns.map tV)] st fun v st' => ∃ rows : List (List Bool), v = .lst (rows.map rV) ∧ st' = st ∧ rows ≠ [] ∧ rows.Nodup ∧ (∀ r ∈ rows, r.length = N) ∧ ∀ r ∈ rows, ∀ t ∈ turns, app r t ∈ rows := by
  refine Fn.freeze (Fn.enter (Def.of hT 201 ["row", "turns"] rfl rfl rfl rfl rfl rfl rfl rfl rfl rfl (bind2 fun a b => rfl) rfl) rfl rfl ?_)
  walk_at "in"
  walk_at "go"
  refine ⟨by rw [sizeLine_eq]; simp, fun FL => ?_⟩
  walk_at "go"
  refine ⟨by rw [sizeLine_eq]; simp, _, _, rfl, ?_⟩
  walk_at "go"
  let J : Nat → Vars → Store → Prop := fun m vs st' => ∃ (rows : List (List Bool)) (kk : Nat), vs "turns" = some (.lst (turns.map tV)) ∧ vs "found" = some (.ref FL) ∧ vs "k" = some (.int kk) ∧ st' = (FL, .list (rows.map rV)) :: st ∧
    m = 2 ^ N - kk ∧ kk ≤ rows.length ∧ rows ≠ [] ∧ rows.Nodup ∧ (∀ r ∈ rows, r.length = N) ∧ ∀ i, i < kk → ∀ t ∈ turns, app (rows.getD i []) t ∈ rows
  refine WLoop.inv J (n := 2 ^ N) (fun m vs st' j => ?_) ⟨[row], 0, rfl, rfl, rfl, rfl, (Nat.sub_zero _).symm, Nat.zero_le _, by simp, by simp, fun r h => by rw [List.mem_singleton.mp h]; exact hr, fun i hi => absurd hi (Nat.not_lt_zero _)⟩
  obtain ⟨rows, kk, j1, j2, j3, rfl, j4, j5, j6, j7, j8, j9⟩ := j
  have hlen := rows_len j7 j8
  have hsz := pow24 hN
  have hs2 := sizeLine_eq
  walk_at "go"
  refine Fn.lenO (.head _) (by simp; omega) ?_
  walk_at "go"
  refine ⟨_, CmpT.lt, ?_⟩
  rw [List.length_map]
  by_cases hk : kk < rows.length
  · rw [if_pos (by simpa using hk)]
    walk_at "go"
    refine ⟨_, .inl rfl, ?_⟩
    let r0 := rows.getD kk []
    have hr0 : rows[kk]? = some r0 := by simp [r0, List.getD, hk]
    have hr0m : r0 ∈ rows := List.mem_of_getElem? hr0
    have hr0l : r0.length = N := j8 _ hr0m
    have hkk : (kk : Int) < 2 ^ 63 := by have : kk < 16777216 := by omega
                                         omega
    refine Loop.inv (xs := turns) tV (fun pre vs st' => ∃ rows2 : List (List Bool), vs "turns" = some (.lst (turns.map tV)) ∧ vs "found" = some (.ref FL) ∧ vs "k" = some (.int kk) ∧ st' = (FL, .list (rows2.map rV)) :: st ∧ rows <+: rows2 ∧ rows2.Nodup ∧ (∀ r ∈ rows2, r.length = N) ∧ ∀ t ∈ pre, app r0 t ∈ rows2)
      (fun pre t post vs2 st2 e j => ?_) ⟨rows, j1, j2, j3, rfl, List.prefix_refl _, j7, j8, fun _ h => nomatch h⟩ (fun vs2 st2 j => ?_)
    · clear j1 j2 j3
      obtain ⟨rows2, j1, j2, j3, rfl, q1, q2, q3, q4⟩ := j
      have htm : t ∈ turns := by rw [e]; simp
      obtain ⟨t1, t2⟩ := ht t htm
      have hlen2 := rows_len q2 q3
      have hr2 : rows2[kk]? = some r0 := by
        obtain ⟨more, rfl⟩ := q1
        rw [List.getElem?_append_left hk]; exact hr0
      refine Asg.name (.inl rfl) ?_
      walk_at "go"
      refine ⟨_, .inl rfl, fun C => ?_⟩
      refine CLoop.each nv (fun _ => true) (fun i => .bool (at' r0 i)) (fun vs => vs "found" = some (.ref FL) ∧ vs "k" = some (.int kk)) rfl rfl rfl (fun i hi vs hJ => ?_) (by simp only [List.length_nil]; omega) ⟨j2, j3⟩ fun vs' hJ => ?_
      · obtain ⟨p1, p2⟩ := hJ
        refine Asg.name (.inl rfl) ⟨⟨p1, p2⟩, Tests.nil ⟨rfl, rfl, fun _ => ?_⟩⟩
        walk_at "go"
        refine ⟨⟨_, .list (.head _)⟩, Op2.itemO (.head _) (by omega) hkk (x := rV r0) (by simp [hr2]) ?_⟩
        walk_at "go"
        have hi2 := t2 i hi
        exact ⟨⟨_, .lst _⟩, Op2.item (by omega) (by omega) (nth_bool (by omega)) ⟨rfl, rfl⟩⟩
      rw [filter_true', List.nil_append]
      have eA : t.map (fun i => V.bool (at' r0 i)) = (app r0 t).map V.bool := by unfold app; rw [List.map_map]; rfl
      rw [eA]
      walk_at "go"
      refine ⟨_, CmpT.notInO (x := rV (app r0 t)) (.head _) (rV_ok _ []).2.1 (fun y hy => ?_), ?_⟩
      · obtain ⟨r, _, rfl⟩ := List.mem_map.mp hy
        exact rV_ok r _
      rw [any_rV]
      by_cases hm : app r0 t ∈ rows2
      · rw [if_neg (by simpa using hm)]
        walk_at "go"
        refine ⟨rows2, j1, j2, j3, rfl, q1, q2, q3, fun u hu => ?_⟩
        rcases List.mem_append.mp hu with hu | hu
        · exact q4 u hu
        · rw [List.mem_singleton.mp hu]; exact hm
      · rw [if_pos (by simpa using hm)]
        walk_at "go"
        refine ⟨.list (.head _), ?_⟩
        walk_at "go"
        refine Fn.append .head (by rw [List.length_map]; omega) ⟨.inr rfl, ?_⟩
        walk_at "go"
        refine ⟨rows2 ++ [app r0 t], j1, j2, j3, by rw [List.map_append]; rfl, q1.trans (List.prefix_append _ _), ?_, ?_, fun u hu => ?_⟩
        · exact List.nodup_append.mpr ⟨q2, by simp, fun a ha b hb => by rw [List.mem_singleton.mp hb]; rintro rfl; exact hm ha⟩
        · intro r hr
          rcases List.mem_append.mp hr with hr | hr
          · exact q3 r hr
          · rw [List.mem_singleton.mp hr]; unfold app; rw [List.length_map]; exact t1
        · rcases List.mem_append.mp hu with hu | hu
          · exact List.mem_append.mpr (.inl (q4 u hu))
          · rw [List.mem_singleton.mp hu]; simp
    · clear j1 j2 j3
      obtain ⟨rows2, j1, j2, j3, rfl, q1, q2, q3, q4⟩ := j
      walk_at "go"
      refine ⟨_, BinT.add, ?_⟩
      walk_at "go"
      obtain ⟨more, rfl⟩ := q1
      refine ⟨2 ^ N - (kk + 1), by omega, rows ++ more, kk + 1, j1, j2, rfl, rfl, rfl, by rw [List.length_append]; omega, by simp [j6], q2, q3, fun i hi t htm => ?_⟩
      have hg : (rows ++ more).getD i [] = rows.getD i [] := by
        simp only [List.getD]
        rw [List.getElem?_append_left (by omega)]
      rw [hg]
      by_cases hik : i < kk
      · exact List.mem_append.mpr (.inl (j9 i hik t htm))
      · have : i = kk := by omega
        subst this
        exact q4 t htm
  · rw [if_neg (by simpa using hk)]
    walk_at "go"
    refine ⟨FL, _, [], _, rfl, rfl, rows, rfl, rfl, j6, j7, j8, fun r hr t htm => ?_⟩
    obtain ⟨i, hi, rfl⟩ := List.getElem_of_mem hr
    have := j9 i (by omega) t htm
    simpa [List.getD, hi] using this

noncomputable def valB : List Bool → Nat
  | [] => 0
  | b :: r => (if b = true then 2 ^ r.length else 0) + valB r
theorem valB_lt : ∀ r : List Bool, valB r < 2 ^ r.length
  | [] => by decide
  | b :: r => by
    have := valB_lt r
    rw [valB, List.length_cons, Nat.pow_succ]
    split <;> omega
theorem ltB_iff : ∀ {r s : List Bool}, r.length = s.length → (ltB r s = true ↔ valB r < valB s)
  | [], [], _ => by simp [ltB, valB]
  | [], _ :: _, h => by simp at h
  | _ :: _, [], h => by simp at h
  | a :: r, b :: s, h => by
    have hl : r.length = s.length := by simpa using h
    have ih := ltB_iff hl
    have h1 := valB_lt r
    have h2 := valB_lt s
    rw [hl] at h1
    cases a <;> cases b <;> simp [ltB, valB, hl, ih] <;> omega
theorem min_row : ∀ {rows : List (List Bool)}, rows ≠ [] → ∃ m ∈ rows, ∀ r ∈ rows, valB m ≤ valB r
  | [], h => absurd rfl h
  | [r], _ => ⟨r, List.mem_cons_self, fun s hs => by rw [List.mem_singleton.mp hs]; exact Nat.le_refl _⟩
  | r :: s :: rows, _ => by
    obtain ⟨m, hm, hmin⟩ := min_row (rows := s :: rows) (by simp)
    by_cases h : valB r ≤ valB m
    · refine ⟨r, List.mem_cons_self, fun q hq => ?_⟩
      rcases List.mem_cons.mp hq with rfl | hq
      · exact Nat.le_refl _
      · exact Nat.le_trans h (hmin q hq)
    · refine ⟨m, List.mem_cons_of_mem _ hm, fun q hq => ?_⟩
      rcases List.mem_cons.mp hq with rfl | hq
      · omega
      · exact hmin q hq
theorem leB_take : ∀ {xs ys : List Bool} (n : Nat), leB xs ys = true → leB (xs.take n) (ys.take n) = true
  | [], _, n, _ => by simp [leB]
  | _ :: _, [], n, _ => by cases n <;> simp [leB]
  | x :: xs, y :: ys, 0, _ => by simp [leB]
  | x :: xs, y :: ys, n + 1, h => by
    rw [List.take_succ_cons, List.take_succ_cons]
    rw [leB] at h ⊢
    by_cases e : x = y
    · rw [if_pos e] at h ⊢; exact leB_take n h
    · rw [if_neg e] at h ⊢; exact h
theorem lex_inv {r : Nat → Bool} {t : Nat → Nat} {N : Nat} (ht : ∀ i, i < N → t (t i) = i) (hlt : ∀ i, i < N → t i < N) : ∀ k s, s + k = N → (∀ j, j < s → r j = r (t j)) →
    ltB ((List.range' s k).map fun i => r (t i)) ((List.range' s k).map r) = !leB (((List.range' s k).filter fun i => decide (i < t i)).map r) (((List.range' s k).filter fun i => decide (i < t i)).map fun i => r (t i))
  | 0, s, _, _ => rfl
  | k + 1, s, hs, hj => by
    rw [List.range'_succ, List.map_cons, List.map_cons, ltB]
    by_cases e : r (t s) = r s
    · rw [if_pos e]
      have ih := lex_inv ht hlt k (s + 1) (by omega) fun j h => by
        by_cases h2 : j < s
        · exact hj j h2
        · have : j = s := by omega
          subst this; exact e.symm
      rw [ih]
      by_cases h : s < t s
      · rw [List.filter_cons_of_pos (by simpa using h), List.map_cons, List.map_cons, leB, if_pos e.symm]
      · rw [List.filter_cons_of_neg (by simpa using h)]
    · rw [if_neg e]
      have h : s < t s := by
        by_cases h : s < t s
        · exact h
        · exfalso
          by_cases h2 : t s = s
          · exact e (by rw [h2])
          · have := hj (t s) (by omega)
            rw [ht s (by omega)] at this
            exact e this
      rw [List.filter_cons_of_pos (by simpa using h), List.map_cons, List.map_cons, leB, if_neg fun h => e h.symm]
      cases h1 : r s <;> cases h2 : r (t s) <;> simp [h1, h2] at e ⊢
theorem lexV_le {told : Nat → Bool} {gs : List Gt} {r : Nat → Bool} {t : Nat → Nat} : ∀ {l : List Nat}, (∀ i ∈ l, lit told gs (gn i) = r i ∧ lit told gs (gn (t i)) = r (t i)) →
    lexV told gs (l.map fun i => (gn i, gn (t i))) = leB (l.map r) (l.map fun i => r (t i))
  | [], _ => rfl
  | i :: l, h => by
    obtain ⟨h1, h2⟩ := h i List.mem_cons_self
    rw [List.map_cons, List.map_cons, List.map_cons, lexV, leB, h1, h2, lexV_le fun j hj => h j (List.mem_cons_of_mem _ hj)]
    cases r i <;> cases r (t i) <;> simp

noncomputable def trn (ps : List Place) (ab : Int × Int) : List Nat := ps.map fun p => ps.idxOf (swp ab.1 ab.2 p)
theorem trn_get {ps : List Place} {ab : Int × Int} {i : Nat} (h : i < ps.length) : (trn ps ab).getD i 0 = tn ps ab.1 ab.2 i := by
  unfold trn tn
  simp [List.getD, h, at0]
theorem sw_sw (a b c : Int) : sw a b (sw a b c) = c := by
  unfold sw
  split
  · rename_i h; subst h
    split
    · rename_i h; exact h
    · simp
  · split
    · rename_i h1 h2; subst h2; simp
    · rfl
theorem swp_swp (a b : Int) (p : Place) : swp a b (swp a b p) = p := by
  unfold swp
  simp only [List.map_map]
  have : (sw a b ∘ sw a b) = id := funext fun c => sw_sw a b c
  rw [this, List.map_id]
section
variable {ps : List Place} {a b : Int} (hc : ∀ p ∈ ps, swp a b p ∈ ps) (hnd : ps.Nodup)
include hc in
theorem tn_lt {i : Nat} (h : i < ps.length) : tn ps a b i < ps.length ∧ at0 ps (tn ps a b i) = swp a b (at0 ps i) := by
  obtain ⟨i1, _⟩ := idx_spec (hc _ (mem_at0 h))
  have hlt := (List.getElem?_eq_some_iff.mp i1).1
  refine ⟨hlt, ?_⟩
  have := at0_get hlt
  rw [i1] at this
  exact (Option.some.inj this).symm
include hc hnd in
theorem tn_tn {i : Nat} (h : i < ps.length) : tn ps a b (tn ps a b i) = i := by
  obtain ⟨_, h2⟩ := tn_lt hc h
  show ps.idxOf (swp a b (at0 ps (tn ps a b i))) = i
  rw [h2, swp_swp]
  exact idx_at0 hnd h
end
theorem trn_ok {ps : List Place} {ab : Int × Int} (hc : ∀ p ∈ ps, swp ab.1 ab.2 p ∈ ps) : (trn ps ab).length = ps.length ∧ ∀ i ∈ trn ps ab, i < ps.length := by
  refine ⟨by unfold trn; simp, fun i hi => ?_⟩
  obtain ⟨p, hp, rfl⟩ := List.mem_map.mp hi
  exact (List.getElem?_eq_some_iff.mp (idx_spec (hc p hp)).1).1
theorem getD_fun {row : List Bool} : (List.range row.length).map (at' row) = row := by
  refine List.ext_getElem (by simp) fun i h1 h2 => ?_
  simp [at', List.getD]
  have : i < row.length := h2
  simp [this]
theorem app_fun {row : List Bool} {ps : List Place} {ab : Int × Int} : app row (trn ps ab) = (List.range ps.length).map fun i => at' row (tn ps ab.1 ab.2 i) := by
  refine List.ext_getElem (by simp [app, trn]) fun i h1 h2 => ?_
  have h : i < ps.length := by simpa using h2
  simp [app, trn, tn, at0, List.getD, h]
noncomputable def upE (ps : List Place) (ab : Int × Int) : List Nat := (List.range ps.length).filter fun i => decide (i < tn ps ab.1 ab.2 i)
theorem early_eq {ps : List Place} {ab : Int × Int} (m : Nat) : early (trn ps ab) m = (upE ps ab).take m := by
  unfold early upE
  have : (trn ps ab).length = ps.length := by unfold trn; simp
  rw [this]
  congr 1
  refine List.filter_congr fun i hi => ?_
  rw [trn_get (List.mem_range.mp hi)]
theorem prs_eq (ps : List Place) (mo : Option Nat) (ab : Int × Int) : prs ps mo ab = (cutTo mo (upE ps ab)).map fun i => (gn i, gn (tn ps ab.1 ab.2 i)) := by
  unfold prs exPairs upE
  cases mo with
  | none => rfl
  | some m => show List.take m _ = _; rw [← List.map_take]; rfl
theorem upE_lt {ps : List Place} {ab : Int × Int} {i : Nat} (h : i ∈ upE ps ab) : i < ps.length := List.mem_range.mp (List.mem_filter.mp h).1
theorem full_lex {row : List Bool} {ps : List Place} {ab : Int × Int} (hr : row.length = ps.length) (hc : ∀ p ∈ ps, swp ab.1 ab.2 p ∈ ps) (hnd : ps.Nodup) :
    leB ((upE ps ab).map (at' row)) ((upE ps ab).map fun i => at' row (tn ps ab.1 ab.2 i)) = !ltB (app row (trn ps ab)) row := by
  have := lex_inv (r := at' row) (t := tn ps ab.1 ab.2) (N := ps.length) (fun i h => tn_tn hc hnd h) (fun i h => (tn_lt hc h).1) ps.length 0 (by omega) (fun j h => absurd h (Nat.not_lt_zero _))
  rw [← List.range_eq_range'] at this
  rw [← app_fun] at this
  have e : (List.range ps.length).map (at' row) = row := by rw [← hr]; exact getD_fun
  rw [e] at this
  rw [this]
  unfold upE
  rw [Bool.not_not]
noncomputable def Wv (turns : List (List Nat)) (row : List Bool) : Bool := turns.all fun t => !ltB (app row t) row
noncomputable def Fv (most : Nat) (row : List Bool) (t : List Nat) : Bool := leB ((early t most).map (at' row)) ((early t most).map fun i => at' row (t.getD i 0))
noncomputable def Cv (turns : List (List Nat)) (most : Nat) (row : List Bool) : Bool := turns.all fun t => Fv most row t
theorem gates_say {told : Nat → Bool} {gs : List Gt} {row : List Bool} {ps : List Place} (hr : row.length = ps.length) (h : ∀ i, i < ps.length → lit told gs (gn i) = at' row i) (nb : List (Int × Int)) (hc : ∀ ab ∈ nb, ∀ p ∈ ps, swp ab.1 ab.2 p ∈ ps) (hnd : ps.Nodup) :
    (nb.all fun ab => lexV told gs (prs ps none ab)) = Wv (nb.map (trn ps)) row ∧ ∀ m, (nb.all fun ab => lexV told gs (prs ps (some m) ab)) = Cv (nb.map (trn ps)) m row := by
  have key : ∀ mo : Option Nat, ∀ ab ∈ nb, lexV told gs (prs ps mo ab) = leB ((cutTo mo (upE ps ab)).map (at' row)) ((cutTo mo (upE ps ab)).map fun i => at' row (tn ps ab.1 ab.2 i)) := by
    intro mo ab hab
    rw [prs_eq]
    exact lexV_le fun i hi => by
      have hi := upE_lt (cutTo_mem hi)
      exact ⟨h i hi, h _ (tn_lt (hc ab hab) hi).1⟩
  refine ⟨?_, fun m => ?_⟩
  · unfold Wv
    rw [List.all_map, Bool.eq_iff_iff, List.all_eq_true, List.all_eq_true]
    have k : ∀ ab ∈ nb, lexV told gs (prs ps none ab) = !ltB (app row (trn ps ab)) row := fun ab hab => by
      rw [key none ab hab]; exact full_lex hr (hc ab hab) hnd
    exact ⟨fun q ab hab => by have := q ab hab; rw [k ab hab] at this; exact this, fun q ab hab => by have := q ab hab; rw [k ab hab]; exact this⟩
  · unfold Cv
    rw [List.all_map, Bool.eq_iff_iff, List.all_eq_true, List.all_eq_true]
    have k : ∀ ab ∈ nb, lexV told gs (prs ps (some m) ab) = Fv m row (trn ps ab) := fun ab hab => by
      rw [key (some m) ab hab]
      unfold Fv
      rw [early_eq]
      show leB (((upE ps ab).take m).map _) (((upE ps ab).take m).map _) = _
      congr 1
      refine List.map_congr_left fun i hi => ?_
      rw [trn_get (upE_lt (List.mem_of_mem_take hi))]
    exact ⟨fun q ab hab => by have := q ab hab; rw [k ab hab] at this; exact this, fun q ab hab => by have := q ab hab; rw [k ab hab]; exact this⟩
theorem least_row {rows : List (List Bool)} {ps : List Place} {nb : List (Int × Int)} (h0 : rows ≠ []) (hl : ∀ r ∈ rows, r.length = ps.length) (hcl : ∀ r ∈ rows, ∀ t ∈ nb.map (trn ps), app r t ∈ rows) (hc : ∀ ab ∈ nb, ∀ p ∈ ps, swp ab.1 ab.2 p ∈ ps) (hnd : ps.Nodup) :
    ∃ m ∈ rows, Wv (nb.map (trn ps)) m = true ∧ ∀ k, Cv (nb.map (trn ps)) k m = true := by
  obtain ⟨m, hm, hmin⟩ := min_row h0
  have hlt : ∀ ab ∈ nb, ltB (app m (trn ps ab)) m = false := fun ab hab => by
    have ha := hcl m hm (trn ps ab) (List.mem_map.mpr ⟨ab, hab, rfl⟩)
    cases h : ltB (app m (trn ps ab)) m with
    | false => rfl
    | true =>
      have := (ltB_iff ((hl _ ha).trans (hl m hm).symm)).mp h
      have := hmin _ ha
      omega
  refine ⟨m, hm, ?_, fun k => ?_⟩
  · unfold Wv
    rw [List.all_map, List.all_eq_true]
    intro ab hab
    show (!ltB (app m (trn ps ab)) m) = true
    rw [hlt ab hab]; rfl
  · unfold Cv
    rw [List.all_map, List.all_eq_true]
    intro ab hab
    show Fv k m (trn ps ab) = true
    have h := full_lex (hl m hm) (hc ab hab) hnd
    rw [hlt ab hab] at h
    have h2 := leB_take k h
    unfold Fv
    rw [early_eq, List.map_take, List.map_take]
    have e : (upE ps ab).map (fun i => at' m ((trn ps ab).getD i 0)) = (upE ps ab).map fun i => at' m (tn ps ab.1 ab.2 i) := List.map_congr_left fun i hi => by rw [trn_get (upE_lt hi)]
    rw [e]
    exact h2

noncomputable def LOTS : List (List (List Int)) := [[[0, 1, 2]], [[0], [1, 2]], [[0, 1], [2, 3]], [[0, 2], [1]]]
noncomputable def evOf (lots : List (List Int)) : List Int := if lots.flatten.length = 3 then [0, 1, 2] else [0, 1, 2, 3]
theorem ev_ok : ∀ lots ∈ LOTS, (evOf lots).Perm lots.flatten ∧ (evOf lots).Pairwise (· ≤ ·) := by decide +kernel
theorem ev_eq {lots : List (List Int)} {every : List Int} (h : lots ∈ LOTS) (hp : every.Perm lots.flatten) (hs : every.Pairwise (· ≤ ·)) : every = evOf lots := by
  obtain ⟨h1, h2⟩ := ev_ok lots h
  exact (hp.trans h1.symm).eq_of_pairwise (fun a b _ _ h1 h2 => Int.le_antisymm h1 h2) hs h2
noncomputable def blOk (lots : List (List Int)) (r : Nat) (w : Nat × Nat × Nat) : Bool :=
  let l := bl lots (evOf lots) r w
  decide l.Nodup && decide (l.length ≤ 12) && l.all (fun p => decide (p.1 = (r : Int)) && decide (p.2.length ≤ 2)) && (lots.flatMap nbrs).all fun ab => l.all fun p => decide (swp ab.1 ab.2 p ∈ l)
theorem bl_ok : ∀ lots ∈ LOTS, ∀ r < 2, ∀ a < 4, ∀ b < lots.length, ∀ d < lots.length, blOk lots r (a, b, d) = true := by decide +kernel
theorem lots_ok : ∀ lots ∈ LOTS, lots ≠ [] ∧ lots.length ≤ 4 ∧ lots.flatten.length ≤ 4 ∧ (∀ lot ∈ lots, lot ≠ [] ∧ lot.length ≤ 10) ∧ (lots.flatMap nbrs).length ≤ 2 := by decide +kernel
structure POk (lots : List (List Int)) (ps : List Place) : Prop where
  nd : ps.Nodup
  len : ps.length ≤ 24
  row : ∀ p ∈ ps, p.2.length ≤ 10
  cl : ∀ ab ∈ lots.flatMap nbrs, ∀ p ∈ ps, swp ab.1 ab.2 p ∈ ps
theorem blOk_iff {lots : List (List Int)} {r : Nat} {w : Nat × Nat × Nat} (h : blOk lots r w = true) : (bl lots (evOf lots) r w).Nodup ∧ (bl lots (evOf lots) r w).length ≤ 12 ∧ (∀ p ∈ bl lots (evOf lots) r w, p.1 = (r : Int) ∧ p.2.length ≤ 2) ∧ ∀ ab ∈ lots.flatMap nbrs, ∀ p ∈ bl lots (evOf lots) r w, swp ab.1 ab.2 p ∈ bl lots (evOf lots) r w := by
  unfold blOk at h
  simp only [Bool.and_eq_true, decide_eq_true_eq, List.all_eq_true] at h
  exact ⟨h.1.1.1, h.1.1.2, h.1.2, h.2⟩
theorem places_ok {lots : List (List Int)} {every : List Int} {ws : List (Nat × Nat × Nat)} (h : lots ∈ LOTS) (hp : every.Perm lots.flatten) (hs : every.Pairwise (· ≤ ·)) (hl : 1 ≤ ws.length ∧ ws.length ≤ 2) (hw : ∀ w ∈ ws, w.1 < 4 ∧ w.2.1 < lots.length ∧ w.2.2 < lots.length) : POk lots (plc lots every ws) := by
  rw [ev_eq h hp hs]
  have hb : ∀ r < 2, ∀ w ∈ ws, (bl lots (evOf lots) r w).Nodup ∧ (bl lots (evOf lots) r w).length ≤ 12 ∧ (∀ p ∈ bl lots (evOf lots) r w, p.1 = (r : Int) ∧ p.2.length ≤ 2) ∧ ∀ ab ∈ lots.flatMap nbrs, ∀ p ∈ bl lots (evOf lots) r w, swp ab.1 ab.2 p ∈ bl lots (evOf lots) r w :=
    fun r hr w hwm => blOk_iff (bl_ok lots h r hr w.1 (hw w hwm).1 w.2.1 (hw w hwm).2.1 w.2.2 (hw w hwm).2.2)
  match ws, hl, hb with
  | [w], _, hb =>
    have e : plc lots (evOf lots) [w] = bl lots (evOf lots) 0 w := by simp [plc]
    rw [e]
    obtain ⟨h1, h2, h3, h4⟩ := hb 0 (by decide) w (by simp)
    exact ⟨h1, by omega, fun p hp => by have := (h3 p hp).2; omega, h4⟩
  | [w, v], _, hb =>
    have e : plc lots (evOf lots) [w, v] = bl lots (evOf lots) 0 w ++ bl lots (evOf lots) 1 v := by simp [plc]
    rw [e]
    obtain ⟨h1, h2, h3, h4⟩ := hb 0 (by decide) w (by simp)
    obtain ⟨k1, k2, k3, k4⟩ := hb 1 (by decide) v (by simp)
    refine ⟨List.nodup_append.mpr ⟨h1, k1, fun p hp q hq e => ?_⟩, by rw [List.length_append]; omega, fun p hp => ?_, fun ab hab p hp => ?_⟩
    · have a1 := (h3 p hp).1
      have a2 := (k3 q hq).1
      rw [e, a2] at a1
      omega
    · rcases List.mem_append.mp hp with hp | hp
      · have := (h3 p hp).2; omega
      · have := (k3 p hp).2; omega
    · rcases List.mem_append.mp hp with hp | hp
      · exact List.mem_append.mpr (.inl (h4 ab hab p hp))
      · exact List.mem_append.mpr (.inr (k4 ab hab p hp))
  | [], hl, _ => exact absurd hl.1 (by simp)
  | _ :: _ :: _ :: _, hl, _ => exact absurd hl.2 (by simp)
theorem LOTS_get {j : Nat} (h : j < 4) : (LOTS.map lotsV)[((j : Int)).toNat]? = some (lotsV (LOTS.getD j [])) ∧ LOTS.getD j [] ∈ LOTS := by
  match j, h with
  | 0, _ => exact ⟨rfl, by decide⟩
  | 1, _ => exact ⟨rfl, by decide⟩
  | 2, _ => exact ⟨rfl, by decide⟩
  | 3, _ => exact ⟨rfl, by decide⟩
theorem Fn.back {c : Cx} {k : Nat} {g : Value} {xs : List V} {st : Store} {P : V → Store → Prop} (post : Store) (h : Fn c k g xs st P) : Fn c k g xs (st ++ post) fun x st' => ∃ st1, st' = st1 ++ post ∧ P x st1 := (Fn.frame [] post h).mono fun x st' ⟨st1, e, p⟩ => ⟨st1, e, p⟩
noncomputable def inG (n : Nat) : List Gt := List.replicate n none
theorem inG_snoc (n : Nat) : inG n ++ [none] = inG (n + 1) := by unfold inG; rw [List.replicate_succ']
theorem inG_wf : ∀ n, WF (inG n)
  | 0 => WF.nil
  | n + 1 => by rw [← inG_snoc]; exact (inG_wf n).input
theorem inG_len (n : Nat) : (inG n).length = n := by unfold inG; simp
theorem inG_lit (told : Nat → Bool) {n i : Nat} (h : i < n) : lit told (inG n) (gn i) = told (i + 2) := by
  have e : inG n = inG i ++ [none] ++ inG (n - (i + 1)) := by
    rw [inG_snoc]; unfold inG
    rw [List.replicate_append_replicate]; congr 1; omega
  have pre : inG i ++ [none] <+: inG n := ⟨_, e.symm⟩
  have h1 := lit_new (told := told) (gs := inG i) none
  rw [inG_len] at h1
  show lit told (inG n) ((i : Int) + 2) = _
  rw [lit_mono (gs := inG i ++ [none]) ⟨by omega, by rw [List.length_append, inG_len]; simp; omega⟩ pre, h1]
  show told (vals told (inG i)).length = _
  rw [vals_length, inG_len]
theorem split_at0 {ps pre post : List Place} {p : Place} (e : ps = pre ++ p :: post) : at0 ps pre.length = p := by
  subst e; simp [at0, List.getD]
theorem LOTS_all {lots : List (List Int)} (h : lots ∈ LOTS) : lots ≠ [] ∧ lots.length ≤ 4 ∧ lots.flatten.length ≤ 4 ∧ (∀ lot ∈ lots, lot ≠ [] ∧ lot.length ≤ 10) ∧ (lots.flatMap nbrs).length ≤ 2 := lots_ok lots h
noncomputable def tellL (row : List Bool) (n : Nat) : List (Int × V) := (List.range n).map fun i => (gn i, V.bool (at' row i))
noncomputable def tellD (row : List Bool) (n : Nat) : List (Int × V) := (tellL row n).foldl (fun a p => vPut a p.1 p.2) []
noncomputable def toldOf (row : List Bool) (n : Nat) (j : Nat) : Bool := if 2 ≤ j ∧ j < n + 2 then at' row (j - 2) else false
theorem vAt_app {kvs more : List (Int × V)} {k : Int} : vAt (kvs ++ more) k = (vAt kvs k).or (vAt more k) := by
  unfold vAt
  rw [List.find?_append]
  cases List.find? (fun kv => decide (kv.1 = k)) kvs <;> rfl
theorem vPut_fresh {kvs : List (Int × V)} {k : Int} {v : V} (h : vAt kvs k = none) : vPut kvs k v = kvs ++ [(k, v)] := by
  unfold vPut
  have : kvs.any (fun kv => decide (kv.1 = k)) = false := by
    unfold vAt at h
    rw [Option.map_eq_none_iff, List.find?_eq_none] at h
    rw [List.any_eq_false]
    exact h
  rw [this]; rfl
theorem tellL_at (row : List Bool) : ∀ n (j : Nat), vAt (tellL row n) j = if 2 ≤ j ∧ j < n + 2 then some (.bool (at' row (j - 2))) else none
  | 0, j => by
    rw [if_neg (by omega)]; rfl
  | n + 1, j => by
    have e : tellL row (n + 1) = tellL row n ++ [(gn n, V.bool (at' row n))] := by unfold tellL; rw [← snocRange]
    rw [e, vAt_app, tellL_at row n j]
    by_cases h : 2 ≤ j ∧ j < n + 2
    · rw [if_pos h, if_pos (by omega)]; rfl
    · rw [if_neg h]
      show vAt [(gn n, V.bool (at' row n))] j = _
      unfold vAt gn
      rw [List.find?_cons]
      by_cases h2 : j = n + 2
      · subst h2
        have : decide ((n : Int) + 2 = ((n + 2 : Nat) : Int)) = true := by simp
        rw [this, if_pos (by omega)]; rfl
      · have : decide ((n : Int) + 2 = (j : Int)) = false := by simp; omega
        rw [this, if_neg (by omega)]; rfl
theorem tellD_eq (row : List Bool) (n : Nat) : tellD row n = tellL row n := by
  unfold tellD
  induction n with
  | zero => rfl
  | succ n ih =>
    have e : tellL row (n + 1) = tellL row n ++ [(gn n, V.bool (at' row n))] := by unfold tellL; rw [← snocRange]
    rw [e, List.foldl_append, ih]
    show vPut (tellL row n) (gn n) _ = _
    refine vPut_fresh ?_
    have : gn n = ((n + 2 : Nat) : Int) := by unfold gn; omega
    rw [this, tellL_at, if_neg (by omega)]
theorem tellD_at (row : List Bool) (n j : Nat) : (vAt (tellD row n) j).getD (.bool false) = .bool (toldOf row n j) := by
  rw [tellD_eq, tellL_at]
  unfold toldOf
  by_cases h : 2 ≤ j ∧ j < n + 2
  · rw [if_pos h, if_pos h]; rfl
  · rw [if_neg h, if_neg h]; rfl
theorem insV_get {ps : List Place} {i : Nat} (h : i < ps.length) : (insV ps)[((i : Int)).toNat]? = some (iv (at0 ps i) (gn i)) := by
  unfold insV; simp [h]
theorem toldOf_at {row : List Bool} {n i : Nat} (h : i < n) : toldOf row n (i + 2) = at' row i := by
  unfold toldOf; rw [if_pos (by omega)]; rfl
theorem CmpT.eqNil {f : Fm} {st : Store} {ts : List (List Nat)} : CmpT f .Eq (.lst (ts.map tV)) (.lst []) st ts.isEmpty := by
  have hd : ∀ ts : List (List Nat), depL (ts.map tV) ≤ 1 := by
    intro ts
    induction ts with
    | nil => simp [depL]
    | cons t ts ih =>
      have : (tV t).dep = 1 := by
        have h0 : depL (t.map nv) = 0 := by
          induction t with
          | nil => rfl
          | cons a t iht => simp [depL, nv, V.dep, iht]
        simp [tV, V.dep, h0]
      simp [depL, this, ih]
  have hp : ∀ ts : List (List Nat), puL (ts.map tV) = true := by
    intro ts
    induction ts with
    | nil => rfl
    | cons t ts ih =>
      have : (tV t).pu = true := by
        have h0 : puL (t.map nv) = true := by
          induction t with
          | nil => rfl
          | cons a t iht => simp [puL, nv, V.pu, iht]
        simp [tV, V.pu, h0]
      simp [puL, this, ih]
  have e : Eqs (.lst (ts.map tV)) (.lst []) := ⟨by simp [V.cmp]; exact .inr (by cases ts <;> rfl), by simp only [V.dep]; have := hd ts; omega, by simp only [V.pu]; exact hp ts, rfl⟩
  have h := CmpT.eq (f := f) (st := st) e
  have e2 : (V.lst (ts.map tV)).beq (.lst []) = ts.isEmpty := by cases ts <;> rfl
  rwa [e2] at h
theorem CmpT.neB {f : Fm} {st : Store} {i j : Bool} : CmpT f .NotEq (.bool i) (.bool j) st (!(i == j)) := CmpT.ne (f := f) (st := st) (Eqs.bool i j)
theorem filter_none {α : Type} (p : α → Bool) : ∀ l : List α, (l.filter p).isEmpty = l.all fun a => !p a
  | [] => rfl
  | a :: l => by
    rw [List.filter_cons, List.all_cons, ← filter_none p l]
    cases p a <;> rfl
theorem any_true {α : Type} {g : α → Bool} {l : List α} {a : α} (ha : a ∈ l) (h : g a = true) : ((l.map g).map V.bool).any (·.beq (.bool true)) = true := by
  rw [List.any_eq_true]
  exact ⟨.bool true, List.mem_map.mpr ⟨true, List.mem_map.mpr ⟨a, ha, h⟩, rfl⟩, rfl⟩
theorem bools_ok {α : Type} {g : α → Bool} {l : List α} : ∀ y ∈ (l.map g).map V.bool, y.dep ≤ 4 ∧ y.pu = true ∧ y.cmp (.bool true) = true := by
  intro y hy
  obtain ⟨b, _, rfl⟩ := List.mem_map.mp hy
  exact ⟨Nat.zero_le _, rfl, rfl⟩
theorem law_spec {c : Cx} (hT : Top' c) (k : Nat) {ns : List Int} (hn : ns.length ≤ 63) :
    FnC c (k + 7) (.ref 211) [.lst (ns.map .int)] [] fun v st' => v = .bool true := by
  refine FnC.enter (Def.of hT 211 ["script"] rfl rfl rfl rfl rfl rfl rfl rfl rfl rfl (bind1 fun a => rfl) rfl) rfl rfl ?_
  walk_at "in"
  walk_at "go"
  refine ⟨_, 40, rfl, rfl, by rw [sizeLine_eq, List.length_map]; omega, ?_⟩
  rw [← List.map_take]
  refine ⟨_, .inl rfl, fun C => ?_⟩
  have hcl : (ns.take 40).length ≤ 40 := by rw [List.length_take]; exact Nat.min_le_left _ _
  generalize ns.take 40 = cells at hcl
  refine CLoop.each V.int (fun _ => true) V.int (fun _ => True) rfl rfl rfl (fun a ha vs _ => ?_) (by rw [sizeLine_eq]; simp only [List.length_nil]; omega) trivial fun vs' _ => ?_
  · refine Asg.name (.inl rfl) ⟨trivial, Tests.nil ⟨rfl, rfl, fun _ => ?_⟩⟩
    walk_at "go"
    exact Fn.int ⟨rfl, rfl⟩
  rw [filter_true', List.nil_append]
  walk_at "go"
  refine Ev.dictPS [(.Constant (.str "cells") 0 ⟨0, 0, 0, 0⟩, .Name "cells" ⟨143, 21, 143, 26⟩), (.Constant (.str "at") 0 ⟨0, 0, 0, 0⟩, .Constant (.int 0) 0 ⟨0, 0, 0, 0⟩), (.Constant (.str "sum") 0 ⟨0, 0, 0, 0⟩, _)] rfl (by simp) (by simp) ?_
  refine EvP.cons (Ev.str (Ev.name rfl (EvP.cons (Ev.str (Ev.int (EvP.cons (Ev.str ?_)))))))
  walk_at "go"
  refine ⟨_, .inl rfl, fun C => ?_⟩
  refine CLoop.each V.int (fun _ => true) (fun i => .int ((if i < 0 then -i else i).fmod 1009)) (fun _ => True) rfl rfl rfl (fun a ha vs _ => ?_) (by rw [sizeLine_eq]; simp only [List.length_nil]; omega) trivial fun vs' _ => ?_
  · refine Asg.name (.inl rfl) ⟨trivial, Tests.nil ⟨rfl, rfl, fun _ => ?_⟩⟩
    walk_at "go"
    refine Fn.abs ?_
    walk_at "go"
    exact ⟨_, BinT.mod (by decide), rfl, rfl⟩
  rw [filter_true', List.nil_append]
  have eS : cells.map (fun i => V.int ((if i < 0 then -i else i).fmod 1009)) = (cells.map fun i => (if i < 0 then -i else i).fmod 1009).map V.int := by rw [List.map_map]; rfl
  rw [eS]
  walk_at "go"
  refine Fn.sum fun S => EvP.nil ⟨["cells", "at", "sum"], rfl, fun F => ?_⟩
  show Blk _ _ _ [(F, feedM cells 0 S)] _
  walk_at "go"
  repeat (refine ⟨by rw [sizeLine_eq]; simp, ?_⟩; walk_at "go")
  intro LL
  walk_at "go"
  refine (Fn.front _ (draw_spec hT (k + 5) (n := 0) (w := 4) (by decide) (by omega) (by omega))).mono ?_
  rintro v st' ⟨st1, rfl, j, hj, rfl, rfl⟩
  obtain ⟨hj1, hj2⟩ := LOTS_get hj
  refine ⟨⟨_, .list (.head _)⟩, Op2.itemO (xs := LOTS.map lotsV) (.head _) (by omega) (by omega) hj1 ?_⟩
  generalize LOTS.getD j [] = lots at hj2
  clear hj1 hj j
  obtain ⟨o1, o2, o3, o4, o5⟩ := LOTS_all hj2
  refine Blk.less (List.sublist_cons_self _ _) ?_
  walk_at "go"
  refine (places_spec hT (k + 4) (n := 0 + 1) (by omega) (by omega) o1 o2 o3).mono ?_
  rintro v st' ⟨every, ws, m, rfl, rfl, hm, hperm, hsort, hwl, hw⟩
  have PO := places_ok hj2 hperm hsort hwl hw
  generalize plc lots every ws = ps at PO
  clear hw hwl hsort hperm
  walk_at "go"
  refine (draw_spec hT (k + 5) (n := m) (w := 4) (by decide) (by omega) (by omega)).mono ?_
  rintro v st' ⟨mo, hmo, rfl, rfl⟩
  walk_at "go"
  refine ⟨by rw [sizeLine_eq]; simp, _, _, rfl, ?_⟩
  walk_at "go"
  obtain ⟨i1, i2, i3⟩ := meth hT (name := "__init__") (a := 55) (C := 149) rfl rfl rfl
  refine Fn.make (k := k + 5) (clsC hT) i1 i2 fun a dx => (circuit_init hT (k + 4)).mono ?_
  rintro y st' ⟨rfl, x, rfl, rfl⟩
  refine ⟨rfl, ?_⟩
  walk_at "go"
  refine ⟨_, .inl rfl, fun C => ?_⟩
  generalize hm1 : m + 1 = m1
  have hm1' : m1 ≤ 9 := by omega
  refine CLoop.inv pv (fun pre vs st ys => vs "circuit" = some (.ref x.a) ∧ st = cir x (inG pre.length) ++ [(F, feedM cells m1 S)] ∧ ys = (List.range pre.length).map fun i => iv (at0 ps i) (gn i)) rfl rfl rfl (fun pre p post vs st ys e j => ?_) ⟨rfl, rfl, rfl⟩ fun vs st ys j => ?_
  · obtain ⟨q1, rfl, rfl⟩ := j
    have hpl : pre.length ≤ 24 := by have h1 := congrArg List.length e; have := PO.len; simp at h1; omega
    refine Asg.tuple (names := ["r", "row"]) (sto2 (.inl rfl) (.inl rfl)) rfl ?_ rfl rfl names2
    refine Tests.nil ⟨rfl, ?_⟩
    walk_at "go"
    obtain ⟨n1, n2, n3⟩ := meth hT (name := "new_input") (a := 90) (C := 149) rfl rfl rfl
    refine ⟨x.a, _, _, _, _, rfl, List.mem_append.mpr (.inl (cir_mem x _)), clsC hT, n1, n2, n3, rfl, ?_⟩
    walk_at "go"
    refine (Fn.back _ (new_input_spec hT (k + 4) (gs := inG pre.length) (by rw [inG_len]; omega))).mono ?_
    rintro v st' ⟨st1, rfl, rfl, rfl⟩
    walk_at "go"
    refine ⟨by rw [sizeLine_eq]; simp, by rw [sizeLine_eq]; simp; omega, q1, by rw [inG_snoc, List.length_append, List.length_singleton], ?_⟩
    rw [inG_len, List.length_append, List.length_singleton, ← snocRange fun i => iv (at0 ps i) (gn i), split_at0 e]
    rfl
  obtain ⟨q1, rfl, rfl⟩ := j
  clear q1
  have eI : ((List.range ps.length).map fun i => iv (at0 ps i) (gn i)) = insV ps := rfl
  rw [eI]
  walk_at "go"
  refine (Fn.back _ (leader_spec hT (k + 1) (gs := inG ps.length) (lots := lots) (mo := none) (by rw [inG_len]; have := PO.len; omega) (inG_wf _) PO.len (by rw [inG_len]; exact Nat.le_refl _) PO.row PO.nd o4 o5 PO.cl)).mono ?_
  rintro v st' ⟨st1, rfl, gs1, r1, rfl, rfl, M1⟩
  have l1 := M1.len
  rw [inG_len] at l1
  have hN := PO.len
  walk_at "go"
  refine (Fn.back _ (leader_spec hT (k + 1) (gs := gs1) (lots := lots) (mo := some mo) (by omega) M1.wf PO.len (by have := M1.pre.length_le; rw [inG_len] at this; exact this) PO.row PO.nd o4 o5 PO.cl)).mono ?_
  rintro v st' ⟨st1, rfl, gs2, r2, rfl, rfl, M2⟩
  have l2 := M2.len
  walk_at "go"
  refine ⟨by rw [sizeLine_eq]; simp, _, _, rfl, ?_⟩
  walk_at "go"
  refine ⟨_, .inr rfl, fun C => ?_⟩
  refine CLoop.nest lotV (fun lot => (nbrs lot).map fun ab => tV (trn ps ab)) (fun vs => vs "places" = some (.lst (ps.map pv))) rfl rfl rfl rfl (fun x => by with_unfolding_all rfl) (fun lot hlot vs hJ => ?_) ?_ rfl fun vs' hJ => ?_
  · obtain ⟨hl1, hl2⟩ := o4 lot hlot
    have hpos : 1 ≤ lot.length := List.length_pos_iff.mpr hl1
    refine Asg.name (.inl rfl) (Tests.nil ⟨rfl, rfl, ?_⟩)
    walk_at "go"
    refine ⟨lot.map .int, 1, rfl, rfl, Nat.le_refl _, by simpa using hpos, by rw [sizeLine_eq, List.length_map]; omega, ?_⟩
    walk_at "go"
    refine Mk.zip ?_
    have eZ : ((lot.map V.int).zip ((lot.map V.int).drop 1)).map (fun p => V.tup [p.1, p.2]) = (nbrs lot).map prV := by
      unfold nbrs
      rw [← List.map_drop, List.zip_map, List.map_map]
      rfl
    rw [eZ]
    refine ⟨rfl, fun ys hys => ?_⟩
    have hnb : (nbrs lot).length ≤ 2 := by
      have h1 : (nbrs lot).length ≤ (lots.flatMap nbrs).length := by
        rw [List.flatMap_def]
        exact (List.sublist_flatten_of_mem (List.mem_map.mpr ⟨lot, hlot, rfl⟩)).length_le
      omega
    refine CLoop.each prV (fun _ => true) (fun ab => tV (trn ps ab)) (fun vs => vs "places" = some (.lst (ps.map pv))) rfl rfl rfl (fun ab hab vs hJ => ?_) (by rw [sizeLine_eq]; omega) hJ fun vs' hJ => ?_
    · have habm : ab ∈ lots.flatMap nbrs := List.mem_flatMap.mpr ⟨lot, hlot, hab⟩
      refine Asg.tuple (names := ["a", "b"]) (sto2 (.inl rfl) (.inl rfl)) rfl ⟨hJ, Tests.nil ⟨rfl, rfl, fun _ => ?_⟩⟩ rfl rfl names2
      walk_at "go"
      refine (turn_spec hT (k + 5) (by omega) PO.row (PO.cl ab habm)).mono ?_
      rintro v st' ⟨rfl, rfl⟩
      exact ⟨rfl, rfl⟩
    · rw [filter_true']
      exact ⟨hJ, rfl, rfl⟩
  · have := flatMap_len (fun lot : List Int => (nbrs lot).map fun ab => tV (trn ps ab)) 10 (l := lots) fun lot hlot => by
      rw [List.length_map]
      unfold nbrs
      rw [List.length_zip]
      have := (o4 lot hlot).2
      omega
    simp only [List.length_nil]; omega
  have eT : [] ++ lots.flatMap (fun lot => (nbrs lot).map fun ab => tV (trn ps ab)) = ((lots.flatMap nbrs).map (trn ps)).map tV := by
    rw [List.nil_append, List.map_map, List.map_flatMap]; rfl
  rw [eT]
  have hnc : ∀ ab ∈ lots.flatMap nbrs, ∀ p ∈ ps, swp ab.1 ab.2 p ∈ ps := PO.cl
  have hnd := PO.nd
  clear eT eI
  have Wsay : ∀ (told : Nat → Bool) (row : List Bool), row.length = ps.length → (∀ i, i < ps.length → told (i + 2) = at' row i) → lit told gs2 r1 = Wv ((lots.flatMap nbrs).map (trn ps)) row ∧ lit told gs2 r2 = Cv ((lots.flatMap nbrs).map (trn ps)) mo row := by
    intro told row hr ht
    have hin : ∀ i, i < ps.length → lit told (inG ps.length) (gn i) = at' row i := fun i hi => (inG_lit told hi).trans (ht i hi)
    have okn : ∀ i, i < ps.length → Ok (inG ps.length) (gn i) := fun i hi => ⟨by unfold gn; omega, by rw [inG_len]; unfold gn; omega⟩
    have g1 := (gates_say hr hin (lots.flatMap nbrs) hnc hnd).1
    have g2 := (gates_say (gs := gs1) hr (fun i hi => (lit_mono (okn i hi) M1.pre).trans (hin i hi)) (lots.flatMap nbrs) hnc hnd).2 mo
    exact ⟨by rw [lit_mono M1.ok M2.pre, M1.val, g1], by rw [M2.val, g2]⟩
  generalize hnbs : lots.flatMap nbrs = nb at hnc o5 Wsay
  have tOk : ∀ t ∈ nb.map (trn ps), t.length = ps.length ∧ ∀ i ∈ t, i < ps.length := fun t ht => by
    obtain ⟨ab, hab, rfl⟩ := List.mem_map.mp ht
    exact trn_ok (hnc ab hab)
  have ok1 : Ok gs2 r1 := M1.ok.mono M2.pre
  have ok2 := M2.ok
  have wf2 := M2.wf
  have l3 : gs2.length ≤ 900 := by omega
  clear M1 M2 l1 l2
  walk_at "go"
  obtain ⟨b1, b2, b3⟩ := meth hT (name := "__init__") (a := 167) (C := 175) rfl rfl rfl
  refine Fn.make (k := k + 5) (clsR hT) b1 b2 fun ra rdx => (reading_init hT (k + 4)).mono ?_
  rintro y st' ⟨rfl, rfl⟩
  refine ⟨rfl, ?_⟩
  walk_at "go"
  refine ⟨by rw [sizeLine_eq]; simp, fun WH => ?_⟩
  walk_at "go"
  refine ⟨by rw [sizeLine_eq]; simp, fun CU => ?_⟩
  walk_at "go"
  refine ⟨by rw [sizeLine_eq]; simp, _, _, _, rfl, ?_⟩
  walk_at "go"
  refine ⟨_, .inl rfl, fun C => ?_⟩
  let PRE : Store := (CU, .list []) :: (WH, .list []) :: (ra, .inst 175 rdx [("circuit", .ref x.a)]) :: cir x gs2
  refine CLoop.inv pv (fun pre vs st ys => ∃ rb : List Bool, vs "feed" = some (.ref F) ∧ st = PRE ++ [(F, feedM cells (m1 + pre.length) S)] ∧ ys = rb.map .bool ∧ rb.length = pre.length) rfl rfl rfl (fun pre p post vs st ys e j => ?_) ⟨[], rfl, rfl, rfl, rfl⟩ fun vs st ys j => ?_
  · obtain ⟨rb, q1, rfl, rfl, q2⟩ := j
    have hpl : pre.length ≤ 24 := by have h1 := congrArg List.length e; simp at h1; omega
    refine Asg.name (.inl rfl) (Tests.nil ⟨rfl, ?_⟩)
    walk_at "go"
    refine (Fn.frame PRE [] (draw_spec hT (k + 5) (n := m1 + pre.length) (w := 2) (by decide) (by omega) (by omega))).mono ?_
    rintro v st' ⟨st1, rfl, j, hj, rfl, rfl⟩
    walk_at "go"
    refine ⟨_, CmpT.eqI, ?_⟩
    exact ⟨by rw [sizeLine_eq, List.length_map]; omega, rb ++ [decide ((j : Int) = 1)], q1, by rw [List.length_append]; rfl, by rw [List.map_append]; rfl, by simp [q2]⟩
  obtain ⟨rb, q1, rfl, rfl, q2⟩ := j
  clear q1
  generalize hM2 : feedM cells (m1 + ps.length) S = fm
  walk_at "go"
  refine (orbit_spec hT (k + 5) (row := rb) (turns := nb.map (trn ps)) (N := ps.length) hN q2 (by rw [List.length_map]; omega) tOk).mono ?_
  rintro v st' ⟨rows, rfl, rfl, w1, w2, w3, w4⟩
  refine ⟨_, .inl rfl, ?_⟩
  have hrl := rows_len w2 w3
  have hrz := pow24 hN
  have hs2 := sizeLine_eq
  obtain ⟨mrow, y1, y2, y3⟩ := least_row w1 w3 w4 hnc hnd
  generalize hT' : nb.map (trn ps) = turns at tOk Wsay y2 y3 w4
  have htl : turns.length ≤ 2 := by rw [← hT', List.length_map]; exact o5
  let base : Store := (ra, .inst 175 rdx [("circuit", .ref x.a)]) :: (cir x gs2 ++ [(F, fm)])
  refine Loop.inv (xs := rows) rV (fun pre vs st' => vs "inputs" = some (.lst (insV ps)) ∧ vs "whole" = some (.int r1) ∧ vs "cut" = some (.int r2) ∧ vs "turns" = some (.lst (turns.map tV)) ∧ vs "reading" = some (.ref ra) ∧ vs "wholes" = some (.ref WH) ∧ vs "cuts" = some (.ref CU) ∧ vs "most" = some (.int mo) ∧
    st' = (CU, .list ((pre.map (Cv turns mo)).map .bool)) :: (WH, .list ((pre.map (Wv turns)).map .bool)) :: base) (fun pre row post vs st' e j => ?_) ⟨rfl, rfl, rfl, rfl, rfl, rfl, rfl, rfl, rfl⟩ (fun vs st' j => ?_)
  · obtain ⟨j1, j2, j3, j4, j5, j6, j7, j8, rfl⟩ := j
    have hrm : row ∈ rows := by rw [e]; simp
    have hlr := w3 row hrm
    have hpl : pre.length < rows.length := by have h1 := congrArg List.length e; simp at h1; omega
    refine Asg.name (stoC rfl rfl rfl) ?_
    walk_at "go"
    refine Fn.len (by rw [List.length_map]; omega) ?_
    rw [List.length_map]
    walk_at "go"
    refine Mk.rangeN (by omega) fun C => ?_
    refine CLoop.each nv (fun _ => true) (fun i => pairV (gn i, .bool (at' row i))) (fun vs => vs "inputs" = some (.lst (insV ps)) ∧ vs "row" = some (rV row)) rfl rfl rfl (fun i hi vs hJ => ?_) (by simp only [List.length_nil, List.length_range]; omega) ⟨j1, rfl⟩ fun vs' hJ => ?_
    · obtain ⟨p1, p2⟩ := hJ
      have hi := List.mem_range.mp hi
      refine Asg.name (.inl rfl) ⟨⟨p1, p2⟩, Tests.nil ⟨rfl, rfl, fun _ => ?_⟩⟩
      walk_at "go"
      refine ⟨⟨_, .lst _⟩, Op2.item (by omega) (by omega) (insV_get (by omega)) ?_⟩
      walk_at "go"
      refine ⟨⟨_, .tup _⟩, Op2.itemT (x := .int (gn i)) (by decide) (by decide) rfl ?_⟩
      walk_at "go"
      refine ⟨⟨_, .lst _⟩, Op2.item (by omega) (by omega) (nth_bool (by omega)) ?_⟩
      walk_at "go"
      exact ⟨by rw [sizeLine_eq]; simp, rfl, rfl⟩
    rw [filter_true', List.nil_append]
    have eD : (List.range row.length).map (fun i => pairV (gn i, .bool (at' row i))) = (tellL row row.length).map pairV := by unfold tellL; rw [List.map_map]; rfl
    rw [eD]
    walk_at "go"
    refine Fn.dict (by unfold tellL; rw [List.length_map, List.length_range]; omega) fun TD => ?_
    walk_at "go"
    have e0 : (tellL row row.length).foldl (fun a p => vPut a p.1 p.2) [] = tellD row row.length := rfl
    rw [e0]
    obtain ⟨W1, W2⟩ := Wsay (toldOf row row.length) row hlr fun i hi => toldOf_at (by omega)
    have mR : (ra, M.inst 175 rdx [("circuit", .ref x.a)]) ∈ base := .head _
    have mC : cirO x ∈ base := .tail _ (List.mem_append.mpr (.inl (cir_mem x gs2)))
    have mK : (x.K, M.list (kindsV gs2)) ∈ base := .tail _ (List.mem_append.mpr (.inl (by simp [cir, cir'])))
    have mP : (x.PN, M.list (partsV gs2)) ∈ base := .tail _ (List.mem_append.mpr (.inl (by simp [cir, cir'])))
    obtain ⟨v1, v2, v3⟩ := meth hT (name := "value_of") (a := 172) (C := 175) rfl rfl rfl
    refine ⟨.list (.tail _ (.tail _ (.head _))), ?_⟩
    walk_at "go"
    refine ⟨ra, _, _, _, _, rfl, .tail _ (.tail _ (.tail _ mR)), clsR hT, v1, v2, v3, rfl, ?_⟩
    walk_at "go"
    refine (value_spec hT (k + 4) l3 wf2 (fun n => tellD_at row row.length n) ok1 (.tail _ (.tail _ (.tail _ mR))) (.head _) (.tail _ (.tail _ (.tail _ mC))) (.tail _ (.tail _ (.tail _ mK))) (.tail _ (.tail _ (.tail _ mP)))).mono ?_
    rintro v st' ⟨rfl, rfl⟩
    rw [W1]
    walk_at "go"
    refine Fn.append (.tail (.tail .head)) (by rw [List.length_map, List.length_map]; omega) ⟨.inr rfl, ?_⟩
    walk_at "go"
    refine ⟨.list (.tail _ (.head _)), ?_⟩
    walk_at "go"
    refine ⟨ra, _, _, _, _, rfl, .tail _ (.tail _ (.tail _ mR)), clsR hT, v1, v2, v3, rfl, ?_⟩
    walk_at "go"
    refine (value_spec hT (k + 4) l3 wf2 (fun n => tellD_at row row.length n) ok2 (.tail _ (.tail _ (.tail _ mR))) (.head _) (.tail _ (.tail _ (.tail _ mC))) (.tail _ (.tail _ (.tail _ mK))) (.tail _ (.tail _ (.tail _ mP)))).mono ?_
    rintro v st' ⟨rfl, rfl⟩
    rw [W2]
    walk_at "go"
    refine Fn.append (.tail .head) (by rw [List.length_map, List.length_map]; omega) ⟨.inr rfl, ?_⟩
    refine Blk.less (List.sublist_cons_self _ _) ?_
    clear mR mC mK mP v1 v2 v3 W1 W2 e0 eD
    walk_at "go"
    refine ⟨_, rfl, ⟨_, .list (.tail _ (.head _))⟩, ?_⟩
    refine Op2.lastO (xs := (pre.map (Wv turns)).map .bool) (x := .bool (Wv turns row)) (.tail _ (.head _)) ?_
    walk_at "go"
    refine ⟨_, .inl rfl, fun C => ?_⟩
    refine CLoop.each tV (fun t => ltB (app row t) row) tV (fun vs => vs "row" = some (rV row)) rfl rfl rfl (fun t ht vs hJ => ?_) (by simp only [List.length_nil]; omega) rfl fun vs' hJ => ?_
    · obtain ⟨t1, t2⟩ := tOk t ht
      refine Asg.name (.inl rfl) ⟨hJ, Tests.one ?_⟩
      walk_at "go"
      refine ⟨_, .inl rfl, fun C' => ?_⟩
      refine CLoop.each nv (fun _ => true) (fun i => .bool (at' row i)) (fun vs => vs "row" = some (rV row)) rfl rfl rfl (fun i hi vs hJ => ?_) (by simp only [List.length_nil]; omega) hJ fun vs' hJ => ?_
      · refine Asg.name (.inl rfl) ⟨hJ, Tests.nil ⟨rfl, rfl, fun _ => ?_⟩⟩
        walk_at "go"
        have hi2 := t2 i hi
        exact ⟨⟨_, .lst _⟩, Op2.item (by omega) (by omega) (nth_bool (by omega)) ⟨rfl, rfl⟩⟩
      rw [filter_true', List.nil_append]
      have eA : t.map (fun i => V.bool (at' row i)) = (app row t).map V.bool := by unfold app; rw [List.map_map]; rfl
      rw [eA]
      walk_at "go"
      refine ⟨_, CmpT.ltL (bs := app row t) (cs := row) (by unfold app; rw [List.length_map]; omega), rfl, rfl, fun _ => ?_⟩
      walk_at "go"
      exact ⟨rfl, rfl⟩
    rw [List.nil_append]
    refine Ev.freeze (Ev.list (EvL.nil ⟨by rw [sizeLine_eq]; simp, fun a => ⟨a, [], [], _, rfl, rfl, ?_⟩⟩))
    refine ⟨_, CmpT.eqNil, _, CmpT.neB, ?_⟩
    have eW : (turns.filter fun t => ltB (app row t) row).isEmpty = Wv turns row := filter_none _ _
    rw [eW, if_neg (by simp)]
    walk_at "go"
    refine ⟨_, rfl, ⟨_, .list (.head _)⟩, ?_⟩
    refine Op2.lastO (xs := (pre.map (Cv turns mo)).map .bool) (x := .bool (Cv turns mo row)) (.head _) ?_
    walk_at "go"
    refine ⟨_, .inl rfl, fun C => ?_⟩
    refine CLoop.each tV (fun t => !Fv mo row t) tV (fun vs => vs "row" = some (rV row) ∧ vs "most" = some (.int mo)) rfl rfl rfl (fun t ht vs hJ => ?_) (by simp only [List.length_nil]; omega) ⟨rfl, j8⟩ fun vs' hJ => ?_
    · obtain ⟨p1, p2⟩ := hJ
      obtain ⟨t1, t2⟩ := tOk t ht
      refine Asg.name (.inl rfl) ⟨⟨p1, p2⟩, Tests.one ?_⟩
      refine Tst.not (Tst.value ?_ rfl)
      walk_at "go"
      refine (first_spec hT (k + 5) (row := row) (turn := t) (most := mo) (by omega) (by omega) (fun i hi => by have := t2 i hi; omega)).mono ?_
      rintro v st' ⟨rfl, rfl⟩
      refine ⟨_, rfl, rfl, rfl, fun _ => ?_⟩
      walk_at "go"
      exact ⟨rfl, rfl⟩
    rw [List.nil_append]
    refine Ev.freeze (Ev.list (EvL.nil ⟨by rw [sizeLine_eq]; simp, fun a => ⟨a, [], [], _, rfl, rfl, ?_⟩⟩))
    refine ⟨_, CmpT.eqNil, _, CmpT.neB, ?_⟩
    have eC : (turns.filter fun t => !Fv mo row t).isEmpty = Cv turns mo row := by
      rw [filter_none]; unfold Cv
      simp only [Bool.not_not]
    rw [eC, if_neg (by simp)]
    walk_at "go"
    exact ⟨j1, j2, j3, j4, j5, j6, j7, j8, by simp only [List.map_append, List.map_cons, List.map_nil]; rfl⟩
  · obtain ⟨j1, j2, j3, j4, j5, j6, j7, j8, rfl⟩ := j
    walk_at "go"
    refine Ev.and2 ?_
    walk_at "go"
    refine ⟨_, CmpT.inO (x := .bool true) (.tail _ (.head _)) rfl bools_ok, _, rfl, ?_⟩
    rw [any_true y1 y2]
    walk_at "go"
    refine ⟨_, CmpT.inO (x := .bool true) (.head _) rfl bools_ok, ?_⟩
    rw [any_true y1 (y3 mo)]
end Lay
end
open PySem PySem.W PyProof.Rows
namespace Lay

theorem well_ints {P : Params} {h : Heap} {G : Fz} : ∀ {vs : List Value} {ns : List Int}, WellAll P h vs (ofPys (ns.map PyData.int)) → RepL G vs (ns.map .int)
  | [], [], _ => .nil
  | [], _ :: _, w => by cases w
  | _ :: _, [], w => by cases w
  | v :: vs, n :: ns, w => by
    cases w with
    | cons h1 h2 => cases h1; exact .cons (.int _ _) (well_ints h2)
theorem well_list {P : Params} {h : Heap} {a : Addr} {ns : List Int} (w : Well P h (.ref a) (ofPy (PyData.list (ns.map PyData.int)))) : ∃ vs : List Value, h.get? a = some { cls := .type "list", data := .seq vs.toArray } ∧ WellAll P h vs (ofPys (ns.map PyData.int)) := by
  have w' : Well P h (.ref a) (.list (ofPys (ns.map PyData.int))) := w
  cases w' with
  | list h1 h2 => exact ⟨_, h1, h2⟩
noncomputable def allG (h : Heap) : Fz := fun a => (h.get? a).map (Prod.mk true)
theorem allG_iff {h : Heap} {a : Addr} {p : Bool × Obj} : allG h a = some p ↔ p.1 = true ∧ h.get? a = some p.2 := by
  unfold allG
  cases e : h.get? a with
  | none => simp
  | some o =>
    obtain ⟨b, q⟩ := p
    simp
theorem post_true (ns : List Int) : PySem.Challenge.rw_nu0268_01.row.claim.post [ofPy (PyData.list (List.map PyData.int ns))] (WData.bool true) [ofPy (PyData.list (List.map PyData.int ns))] = true := by
  show (WShape.has [] (.bool true) .bool && WTm.holds [] (.eq .res (.lit (.bool true))) { args := _, res := some (.bool true), after := _ }) = true
  rw [Bool.and_eq_true]
  refine ⟨?_, ?_⟩
  · first | rfl | (simp [WShape.has]; done) | (unfold WShape.has; rfl) | (unfold WShape.has; decide)
  · first | rfl | (simp [WTm.holds]; done) | (simp [WTm.holds, WTm.value]; done) | kernel_rfl
theorem fa_of {mg : Str → Option Value} {x : Str} {a b : Addr} (h1 : mg x = some (.ref a)) (h2 : mg x = some (.ref b)) : a = b := by
  rw [h1] at h2
  injection h2 with h2
  injection h2
theorem no_imports : importsNone vwT = true := by decide +kernel
theorem top_sysm {h : Heap} (x : h.NoSeer) : ∃ o, h.get? sysModules = some o := let ⟨_, ⟨o, _, _, e, _⟩, _⟩ := x.mods; ⟨o, e⟩
noncomputable def cxOf (w : World) (h : Heap) (mg mb : Str → Option Value) (KX : (kh w.params).In h) (g : h.Ns mainGlobals mg) (b : h.Ns builtinsNs mb) (nl : h.NoLimit) (bl : ∀ x : Str, x ≠ "__name__" → mb x = bootBuiltins x) (sm : ∃ o, h.get? sysModules = some o) : Cx :=
  ⟨PySem.Challenge.rw_nu0268_01.row.prog, w, h, kh w.params, mg, mb, KX, g, b, nl, bl, sm⟩
theorem HS.start (c : Cx) : HS c (allG c.h₀) [] c.h₀ := ⟨fun a p e => (allG_iff.mp e).2, fun a o e => allG_iff.mpr ⟨rfl, e⟩, fun p hp => (nomatch hp), .nil, fun b hb => (nomatch hb)⟩
end Lay
open Lay
theorem PySem.Challenge.cw_nu0268_01_holds : PySem.Challenge.rw_nu0268_01.Holds := by
  w_on
  refine holds_law (by kernel_rfl) fun said => ?_
  refine holds_open (d := PySem.DefRec.mk "law" (defT 14).1 (defT 14).2.1 (defT 14).2.2 ⟨141, 0, 159, 42⟩) (kwd := []) (q := vwT) (loose := ["leader"]) (Xt := xt) (XP := XL vwT []) (Yf := hookT.obs) (Ya := hookT.val) (YP := hookT.says) (N := 2550) leftTop hookT.of hookT.keeps (fun s e => xl_of s (Bool.and_eq_true_iff.mp e).1) XL.keeps (by kernel_rfl) (by kernel_rfl) (by kernel_rfl) (fun s e => recFacts_of (Bool.and_eq_true_iff.mp e).2) (by rfl) said (by decide +kernel) ⟨rfl, rfl, rfl, rfl, rfl, by decide +kernel⟩ (by w_witness2) ?_
  intro w s₀ s₁ mg mb G Y fa o pm cd doc dV kV ho hdd hcd hD hmg hg args vals as hpre hlay hrd hwl hlo
  have KX := kIn_of Y
  refine Ground.open G ?_
  intro T B D TE TW
  wrow_args hpre hlay hrd hwl hlo
  refine enter_call ?_
  rename_i ns _ _ _ _ _ _ _ a _ _ _ _ wl _ _ _ hlen _
  have hns : ns.length ≤ 63 := by omega
  obtain ⟨us, hl1, hl2⟩ := well_list wl
  let c : Cx := cxOf w s₁.heap mg mb KX T.g T.b T.nolimit T.builtins (top_sysm (T.seer no_imports))
  have hT : Top' c := rfl
  have hfa : fa = 211 := fa_of (x := "law") hmg (W.mg_of (n := "law") KX T.g rfl)
  subst hfa
  have hr : RepL (allG s₁.heap) [.ref a] [.lst (ns.map .int)] := .cons (.lst (allG_iff.mpr ⟨rfl, hl1⟩) rfl rfl ⟨rfl, rfl⟩ (by simpa using well_ints hl2)) .nil
  have hA : Lim (0 + 7) callerA := ⟨rfl, by decide, by decide⟩
  refine law_spec (c := c) hT 0 hns callerA (allG s₁.heap) s₁ [.ref a] _ hA (HS.start c) hr ?_
  rintro v x G' st' h' tk rfl rv le H
  cases rv
  refine GoodW.toG ⟨.inl ⟨_, .bool true, [], rfl, fun _ => rfl, .bool true, ?_, ?_⟩, fun b o e => H.old b o e, rfl, hg⟩
  · exact post_true ns
  · exact fun _ => ⟨.nil, fun _ h => nomatch h⟩
