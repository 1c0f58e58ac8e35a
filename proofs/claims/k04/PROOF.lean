import PyProof.Rows.All
import Wide.All
import OpenK.AllK
import Wide.FinOn
import HandS.ForMost
import HandS.Exc
import HandS.Defaults
import HandS.HeadHook2
import HandS.HeadEnd
import HandS.Head2
import HandS.TupAny
import HandS.Flow
import HandS.IsInst
import KE.DatumIndex
import KE.KStar
import HandS.TupMul
import HandS.Conv
import HandS.Sort
import KE.KDictList
import PyProof.SumAny
import PyProof.SumWalk
import HandS.Style
import KE.GoesMore
import KE.GoesEnum
import HandS.Walk
import HandS.Zip
import HandS.Star
import HandS.More
import HandS.SetKeys
import HandS.Comp
import HandS.List
import HandS.Call
import HandS.HeadHook3
import HandS.Codes
import PySem.Challenge.RW_limbpages_k04_whole_sayings_and_their_lo
set_option Elab.async false
set_option linter.all false
set_option maxRecDepth 100000
set_option maxHeartbeats 0

namespace PD
open PySem PySem.Spec PyProof.Rows L2

/-! ### values of the plain reading: trees, and places of changeable things -/
inductive D where
  | non | bl (b : Bool) | int (i : Int) | str (s : Str) | tup (xs : List D) | lst (xs : List D) | flst (xs : List D) | ref (i : Nat) | fn (x : Str)
  deriving Inhabited
/-- a changeable thing -/
inductive MO where
  | lst (xs : List D) | dct (kvs : List (Key × D))
  deriving Inhabited
abbrev MH := List MO
structure Mp where
  m : Nat → Addr
  hid : List Addr
def own (μ : Mp) (n : Nat) (a : Addr) : Prop := a ∈ μ.hid ∨ ∃ i, i < n ∧ μ.m i = a
/-- a list that nobody changes -/
def FrzL (μ : Mp) (n : Nat) (H : Hp) (a : Addr) (xs : List V) : Prop := H a = some (.lst xs) ∧ ¬ own μ n a
/-- a list that nobody can change: locked, or the module's own -/
def SqF (K : PySem.W.Frag) (H : Hp) (a : Addr) (xs : List V) : Prop := (∃ o, H a = some (.frz o (.lst xs))) ∨
    ∃ (o : Obj) (its : Array Value) (n : Nat), K.lookup a = some o ∧ o.cls = .type "list" ∧ o.dict = none ∧ o.data = .seq its n ∧ its.size ≤ sizeLine ∧ Vals xs its.toList
theorem SqF.sq {K : PySem.W.Frag} {H : Hp} {a : Addr} {xs : List V} : SqF K H a xs → SqL K H a xs
  | .inl h => .inl (.inr h)
  | .inr h => .inr h

section
variable (K : PySem.W.Frag) (mg : Str → Option Value) (μ : Mp) (n : Nat) (H : Hp)
mutual
inductive Rep : D → V → Prop
  | non : Rep .non .non
  | bl (b : Bool) : Rep (.bl b) (.bl b)
  | int (i : Int) : Rep (.int i) (.int i)
  | str (s : Str) : Rep (.str s) (.str s)
  | tup {a : Addr} {xs : List D} {vs : List V} : SqT K H a vs → RepL xs vs → Rep (.tup xs) (.ref a)
  | lst {a : Addr} {xs : List D} {vs : List V} : FrzL μ n H a vs → RepL xs vs → Rep (.lst xs) (.ref a)
  | flst {a : Addr} {xs : List D} {vs : List V} : SqF K H a vs → RepL xs vs → Rep (.flst xs) (.ref a)
  | ref {i : Nat} : i < n → Rep (.ref i) (.ref (μ.m i))
  | fn {x : Str} {f : Addr} : mg x = some (.ref f) → Rep (.fn x) (.ref f)
inductive RepL : List D → List V → Prop
  | nil : RepL [] []
  | cons {x : D} {v : V} {xs : List D} {vs : List V} : Rep x v → RepL xs vs → RepL (x :: xs) (v :: vs)
end
def RepKV : List (Key × D) → List (Key × V) → Prop := Paired fun p q => p.1 = q.1 ∧ Rep K mg μ n H p.2 q.2
def RepO : MO → Option HO → Prop
  | .lst xs, o => ∃ vs, o = some (.lst vs) ∧ RepL K mg μ n H xs vs
  | .dct kvs, o => ∃ vs, o = some (.dK vs) ∧ RepKV K mg μ n H kvs vs
end
structure Good (K : PySem.W.Frag) (mg : Str → Option Value) (μ : Mp) (h : MH) (H : Hp) : Prop where
  inj : ∀ i j, i < h.length → j < h.length → μ.m i = μ.m j → i = j
  hidm : ∀ i, i < h.length → μ.m i ∉ μ.hid
  hid : ∀ a, a ∈ μ.hid → ∃ o, H a = some o
  objs : ∀ i o, h[i]? = some o → RepO K mg μ h.length H o (H (μ.m i))
/-- what values stay the same by -/
structure Step0 (K : PySem.W.Frag) (μ : Mp) (n : Nat) (H : Hp) (μ' : Mp) (n' : Nat) (H' : Hp) : Prop where
  len : n ≤ n'
  m : ∀ i, i < n → μ'.m i = μ.m i
  tup : ∀ a xs, SqT K H a xs → SqT K H' a xs
  frz : ∀ a xs, FrzL μ n H a xs → FrzL μ' n' H' a xs
  sqf : ∀ a xs, SqF K H a xs → SqF K H' a xs
/-- from one state to a later one -/
structure Step (K : PySem.W.Frag) (μ : Mp) (n : Nat) (H : Hp) (μ' : Mp) (n' : Nat) (H' : Hp) : Prop extends Step0 K μ n H μ' n' H' where
  hid : μ'.hid = μ.hid
  hids : ∀ a o, a ∈ μ.hid → H a = some o → H' a = some o
section
variable {K : PySem.W.Frag} {mg : Str → Option Value} {μ μ' μ'' : Mp} {n n' n'' : Nat} {H H' H'' : Hp}
theorem Step.refl : Step K μ n H μ n H := ⟨⟨Nat.le_refl _, fun _ _ => rfl, fun _ _ h => h, fun _ _ h => h, fun _ _ h => h⟩, rfl, fun _ _ _ h => h⟩
theorem Step.trans (a : Step K μ n H μ' n' H') (b : Step K μ' n' H' μ'' n'' H'') : Step K μ n H μ'' n'' H'' :=
  ⟨⟨Nat.le_trans a.len b.len, fun i hi => (b.m i (Nat.lt_of_lt_of_le hi a.len)).trans (a.m i hi), fun c xs h => b.tup c xs (a.tup c xs h), fun c xs h => b.frz c xs (a.frz c xs h), fun c xs h => b.sqf c xs (a.sqf c xs h)⟩, b.hid.trans a.hid,
    fun c o hc h => b.hids c o (by rw [a.hid]; exact hc) (a.hids c o hc h)⟩
mutual
theorem Rep.step0 (s : Step0 K μ n H μ' n' H') : ∀ {d : D} {v : V}, Rep K mg μ n H d v → Rep K mg μ' n' H' d v
  | .non, _, .non => .non
  | .bl _, _, .bl b => .bl b
  | .int _, _, .int b => .int b
  | .str _, _, .str b => .str b
  | .tup _, _, .tup h l => .tup (s.tup _ _ h) (RepL.step0 s l)
  | .lst _, _, .lst h l => .lst (s.frz _ _ h) (RepL.step0 s l)
  | .flst _, _, .flst h l => .flst (s.sqf _ _ h) (RepL.step0 s l)
  | .ref _, _, .ref h => by
    have e := s.m _ h
    rw [← e]
    exact .ref (Nat.lt_of_lt_of_le h s.len)
  | .fn _, _, .fn h => .fn h
theorem RepL.step0 (s : Step0 K μ n H μ' n' H') : ∀ {ds : List D} {vs : List V}, RepL K mg μ n H ds vs → RepL K mg μ' n' H' ds vs
  | [], _, .nil => .nil
  | _ :: _, _, .cons h l => .cons (Rep.step0 s h) (RepL.step0 s l)
end
theorem Rep.step (s : Step K μ n H μ' n' H') {d : D} {v : V} (r : Rep K mg μ n H d v) : Rep K mg μ' n' H' d v := r.step0 s.toStep0
theorem RepL.step (s : Step K μ n H μ' n' H') {ds : List D} {vs : List V} (r : RepL K mg μ n H ds vs) : RepL K mg μ' n' H' ds vs := r.step0 s.toStep0
theorem RepL.length : ∀ {ds : List D} {vs : List V}, RepL K mg μ n H ds vs → ds.length = vs.length
  | [], _, .nil => rfl
  | _ :: _, _, .cons _ l => congrArg Nat.succ (RepL.length l)
theorem RepL.get : ∀ {ds : List D} {vs : List V} {i : Nat} {d : D}, RepL K mg μ n H ds vs → ds[i]? = some d → ∃ v, vs[i]? = some v ∧ Rep K mg μ n H d v
  | [], _, _, _, .nil, e => by simp at e
  | x :: xs, _, 0, d, .cons h _, e => by simp at e; subst e; exact ⟨_, rfl, h⟩
  | x :: xs, _, i + 1, d, .cons _ l, e => by
    obtain ⟨v, h1, h2⟩ := RepL.get (i := i) l (by simpa using e)
    exact ⟨v, by simpa using h1, h2⟩
theorem RepL.get' : ∀ {ds : List D} {vs : List V} {i : Nat} {v : V}, RepL K mg μ n H ds vs → vs[i]? = some v → ∃ d, ds[i]? = some d ∧ Rep K mg μ n H d v
  | [], _, _, _, .nil, e => by simp at e
  | x :: xs, _, 0, d, .cons h _, e => by simp at e; subst e; exact ⟨_, rfl, h⟩
  | x :: xs, _, i + 1, d, .cons _ l, e => by
    obtain ⟨v, h1, h2⟩ := RepL.get' (i := i) l (by simpa using e)
    exact ⟨v, by simpa using h1, h2⟩
theorem RepL.append : ∀ {xs ys : List D} {us vs : List V}, RepL K mg μ n H xs us → RepL K mg μ n H ys vs → RepL K mg μ n H (xs ++ ys) (us ++ vs)
  | [], _, _, _, .nil, r => r
  | _ :: _, _, _, _, .cons h l, r => .cons h (RepL.append l r)
theorem RepL.take : ∀ {xs : List D} {us : List V} (k : Nat), RepL K mg μ n H xs us → RepL K mg μ n H (xs.take k) (us.take k)
  | _, _, 0, _ => by simpa using RepL.nil
  | [], _, _ + 1, .nil => .nil
  | _ :: _, _, k + 1, .cons h l => .cons h (RepL.take k l)
theorem RepL.drop : ∀ {xs : List D} {us : List V} (k : Nat), RepL K mg μ n H xs us → RepL K mg μ n H (xs.drop k) (us.drop k)
  | _, _, 0, r => r
  | [], _, _ + 1, .nil => .nil
  | _ :: _, _, k + 1, .cons _ l => RepL.drop k l
theorem RepL.set {d : D} {v : V} (r : Rep K mg μ n H d v) : ∀ {xs : List D} {us : List V} (k : Nat), RepL K mg μ n H xs us → RepL K mg μ n H (xs.set k d) (us.set k v)
  | [], _, _, .nil => .nil
  | _ :: _, _, 0, .cons _ l => .cons r l
  | _ :: _, _, k + 1, .cons h l => .cons h (RepL.set r k l)
theorem RepL.reverse : ∀ {xs : List D} {us : List V}, RepL K mg μ n H xs us → RepL K mg μ n H xs.reverse us.reverse
  | [], _, .nil => .nil
  | _ :: _, _, .cons h l => by
    rw [List.reverse_cons, List.reverse_cons]
    exact RepL.append (RepL.reverse l) (.cons h .nil)
theorem RepO.step0 (s : Step0 K μ n H μ' n' H') {o : MO} {p : HO} (r : RepO K mg μ n H o (some p)) : RepO K mg μ' n' H' o (some p) := by
  cases o with
  | lst xs =>
    obtain ⟨vs, e, r⟩ := r
    exact ⟨vs, e, r.step0 s⟩
  | dct kvs =>
    obtain ⟨vs, e, r⟩ := r
    refine ⟨vs, e, ?_⟩
    clear e
    induction r with
    | nil => exact .nil
    | cons h _ ih => exact .cons ⟨h.1, h.2.step0 s⟩ ih
theorem RepO.step (s : Step K μ n H μ' n' H') {o : MO} {p : HO} (r : RepO K mg μ n H o (some p)) : RepO K mg μ' n' H' o (some p) := RepO.step0 s.toStep0 r
theorem RepO.there {o : MO} {p : Option HO} (r : RepO K mg μ n H o p) : ∃ q, p = some q := by
  cases o with
  | lst xs => obtain ⟨vs, e, r⟩ := r; exact ⟨_, e⟩
  | dct xs => obtain ⟨vs, e, r⟩ := r; exact ⟨_, e⟩
/-- a new object at an untracked address, not of the changeable things -/
theorem Step.new {p : Addr} {o : HO} (hp : H p = none) : Step K μ n H μ n (upd H p o) := by
  have ne : ∀ {b : Addr} {u : HO}, H b = some u → upd H p o b = some u := fun {b u} e => by
    rw [upd_ne (ne_of_none e hp)]; exact e
  refine ⟨⟨Nat.le_refl _, fun _ _ => rfl, fun a xs h => ?_, fun a xs h => ⟨ne h.1, h.2⟩, fun a xs h => ?_⟩, rfl, fun a u _ h => ne h⟩
  · rcases h with (h | ⟨u, h⟩) | h
    · exact .inl (.inl (ne h))
    · exact .inl (.inr ⟨u, ne h⟩)
    · exact .inr h
  · rcases h with ⟨u, h⟩ | h
    · exact .inl ⟨u, ne h⟩
    · exact .inr h
end
section
variable {K : PySem.W.Frag} {mg : Str → Option Value} {μ μ' μ'' : Mp} {h h' h'' : MH} {H H' H'' : Hp}
/-- later with the same changeable things -/
theorem Good.keep (g : Good K mg μ h H) (s : Step K μ h.length H μ h.length H') (k : ∀ i, i < h.length → H' (μ.m i) = H (μ.m i)) : Good K mg μ h H' := by
  refine ⟨g.inj, g.hidm, fun a ha => ?_, fun i o e => ?_⟩
  · obtain ⟨o, q⟩ := g.hid a ha
    exact ⟨o, s.hids a o ha q⟩
  · have r := g.objs i o e
    have hi : i < h.length := (List.getElem?_eq_some_iff.mp e).1
    obtain ⟨q, eq⟩ := r.there
    rw [k i hi]
    rw [eq] at r ⊢
    exact r.step s
theorem Good.new (g : Good K mg μ h H) {p : Addr} {o : HO} (hp : H p = none) : Good K mg μ h (upd H p o) :=
  g.keep (Step.new hp) fun i hi => by
    obtain ⟨q, eq⟩ := (g.objs i _ (List.getElem?_eq_getElem hi)).there
    exact upd_ne (ne_of_none eq hp)
/-- a new changeable thing -/
def Mp.push (μ : Mp) (n : Nat) (p : Addr) : Mp := ⟨fun i => if i = n then p else μ.m i, μ.hid⟩
theorem Step.push {n : Nat} {p : Addr} {o : HO} (hp : H p = none) (ht : ∀ xs, o ≠ .tup xs) : Step K μ n H (μ.push n p) (n + 1) (upd H p o) := by
  have ne : ∀ {b : Addr} {u : HO}, H b = some u → upd H p o b = some u := fun {b u} e => by
    rw [upd_ne (ne_of_none e hp)]; exact e
  refine ⟨⟨Nat.le_succ _, fun i hi => if_neg (Nat.ne_of_lt hi), fun a xs h => ?_, fun a xs h => ?_, fun a xs h => ?_⟩, rfl, fun a u _ h => ne h⟩
  · rcases h with (h | ⟨u, h⟩) | h
    · exact .inl (.inl (ne h))
    · exact .inl (.inr ⟨u, ne h⟩)
    · exact .inr h
  · obtain ⟨h, q⟩ := h
    refine ⟨ne h, fun w => q ?_⟩
    rcases w with w | ⟨i, hi, e⟩
    · exact .inl w
    · by_cases z : i = n
      · subst z
        have e : (if i = i then p else μ.m i) = a := e
        rw [if_pos rfl] at e
        exact absurd e.symm (ne_of_none h hp)
      · have e : (if i = n then p else μ.m i) = a := e
        rw [if_neg z] at e
        exact .inr ⟨i, by omega, e⟩
  · rcases h with ⟨u, h⟩ | h
    · exact .inl ⟨u, ne h⟩
    · exact .inr h
theorem Good.push (g : Good K mg μ h H) {p : Addr} {o : HO} {x : MO} (hp : H p = none) (ht : ∀ xs, o ≠ .tup xs) (r : RepO K mg μ h.length H x (some o)) : Good K mg (μ.push h.length p) (h ++ [x]) (upd H p o) := by
  have st : Step K μ h.length H (μ.push h.length p) (h.length + 1) (upd H p o) := Step.push hp ht
  have np : ∀ i, i < h.length → μ.m i ≠ p := fun i hi => by
    obtain ⟨q, eq⟩ := (g.objs i _ (List.getElem?_eq_getElem hi)).there
    exact ne_of_none eq hp
  have ml : ∀ i, i < h.length → (μ.push h.length p).m i = μ.m i := fun i hi => if_neg (Nat.ne_of_lt hi)
  have me : (μ.push h.length p).m h.length = p := if_pos rfl
  have hl : (h ++ [x]).length = h.length + 1 := by simp
  refine ⟨fun i j hi hj e => ?_, fun i hi => ?_, fun a ha => ?_, fun i o' e => ?_⟩
  · rw [hl] at hi hj
    rcases Nat.lt_or_eq_of_le (Nat.le_of_lt_succ hi) with hi | hi <;> rcases Nat.lt_or_eq_of_le (Nat.le_of_lt_succ hj) with hj | hj
    · rw [ml i hi, ml j hj] at e; exact g.inj i j hi hj e
    · rw [ml i hi, hj, me] at e; exact absurd e (np i hi)
    · rw [ml j hj, hi, me] at e; exact absurd e.symm (np j hj)
    · omega
  · rw [hl] at hi
    show _ ∉ μ.hid
    rcases Nat.lt_or_eq_of_le (Nat.le_of_lt_succ hi) with hi | hi
    · rw [ml i hi]; exact g.hidm i hi
    · rw [hi, me]
      intro w
      obtain ⟨q, eq⟩ := g.hid p w
      rw [hp] at eq; cases eq
  · obtain ⟨q, eq⟩ := g.hid a ha
    exact ⟨q, st.hids a q ha eq⟩
  · rw [hl]
    by_cases hi : i < h.length
    · rw [List.getElem?_append_left hi] at e
      have r' := g.objs i o' e
      obtain ⟨q, eq⟩ := r'.there
      rw [ml i hi, upd_ne (np i hi), eq]
      rw [eq] at r'
      exact r'.step st
    · have : i = h.length := by
        have := (List.getElem?_eq_some_iff.mp e).1
        rw [hl] at this; omega
      subst this
      simp at e
      subst e
      rw [me, upd_same]
      exact r.step st
/-- a changeable thing is changed -/
theorem Step.set {o : HO} {i : Nat} (g : Good K mg μ h H) (hi : i < h.length) (ho : ∃ xs, H (μ.m i) = some (.lst xs) ∨ ∃ kvs, H (μ.m i) = some (.dK kvs)) : Step K μ h.length H μ h.length (upd H (μ.m i) o) := by
  refine ⟨⟨Nat.le_refl _, fun _ _ => rfl, fun a xs q => ?_, fun a xs q => ?_, fun a xs q => ?_⟩, rfl, fun a u ha q => ?_⟩
  · rcases q with (q | ⟨u, q⟩) | q
    · refine .inl (.inl ?_)
      rw [upd_ne]; exact q
      rintro rfl
      rw [q] at ho
      rcases ho with ⟨_, ho | ⟨_, ho⟩⟩ <;> cases ho
    · refine .inl (.inr ⟨u, ?_⟩)
      rw [upd_ne]; exact q
      rintro rfl
      rw [q] at ho
      rcases ho with ⟨_, ho | ⟨_, ho⟩⟩ <;> cases ho
    · exact .inr q
  · obtain ⟨q, w⟩ := q
    refine ⟨?_, w⟩
    rw [upd_ne]; exact q
    rintro rfl
    exact w (.inr ⟨i, hi, rfl⟩)
  · rcases q with ⟨u, q⟩ | q
    · refine .inl ⟨u, ?_⟩
      rw [upd_ne]; exact q
      rintro rfl
      rw [q] at ho
      rcases ho with ⟨_, ho | ⟨_, ho⟩⟩ <;> cases ho
    · exact .inr q
  · rw [upd_ne]; exact q
    rintro rfl
    exact g.hidm i hi ha
theorem RepO.ho {n : Nat} {o : MO} {p : Option HO} (r : RepO K mg μ n H o p) : (∃ xs, p = some (.lst xs) ∨ ∃ kvs, p = some (.dK kvs)) := by
  cases o with
  | lst xs => obtain ⟨vs, e, r⟩ := r; exact ⟨vs, .inl e⟩
  | dct xs => obtain ⟨vs, e, r⟩ := r; exact ⟨[], .inr ⟨_, e⟩⟩
theorem Good.set (g : Good K mg μ h H) {i : Nat} {o : HO} {x : MO} (hi : i < h.length) (r : RepO K mg μ h.length H x (some o)) : Good K mg μ (h.set i x) (upd H (μ.m i) o) ∧ Step K μ h.length H μ (h.set i x).length (upd H (μ.m i) o) := by
  have st : Step K μ h.length H μ h.length (upd H (μ.m i) o) := Step.set g hi (g.objs i _ (List.getElem?_eq_getElem hi)).ho
  have hl : (h.set i x).length = h.length := by simp
  rw [hl]
  refine ⟨⟨by rw [hl]; exact g.inj, by rw [hl]; exact g.hidm, fun a ha => ?_, fun j o' e => ?_⟩, st⟩
  · obtain ⟨q, eq⟩ := g.hid a ha
    exact ⟨q, st.hids a q ha eq⟩
  · rw [hl]
    by_cases z : i = j
    · subst z
      rw [List.getElem?_set_self hi] at e
      cases e
      rw [upd_same]
      exact r.step st
    · rw [List.getElem?_set_ne z] at e
      have hj : j < h.length := (List.getElem?_eq_some_iff.mp e).1
      have r' := g.objs j o' e
      obtain ⟨q, eq⟩ := r'.there
      rw [upd_ne (fun w => z (g.inj j i hj hi w).symm), eq]
      rw [eq] at r'
      exact r'.step st
end
end PD


namespace PD
open PySem PySem.Spec PyProof.Rows L2

/-! ### the plain language -/
inductive BOp where | add | sub | mul | fdiv | mod | pow
inductive COp where | eq | ne | lt | le | gt | ge | is | isn | mem | nmem
inductive Ty where | int | bool | str | tuple | list | dict
inductive Bi where | len | int | abs | max | min | all | any | sum | tuple | list | repr | isinst (t : Ty) | lrange | tvals | sumL
inductive Me where | append | pop | setdefault | join
mutual
inductive E where
  | non | bl (b : Bool) | int (i : Int) | str (s : Str) | var (i : Nat) | glob (x : Str)
  | bin (o : BOp) (a b : E) | neg (a : E) | not (a : E) | cmp (o : COp) (a b : E) | chain (o p : COp) (a b c : E)
  | and (a b : E) | or (a b : E) | ife (t a b : E)
  | tup (st : List Bool) (es : List E) | dsp (st : List Bool) (es : List E) | mut (e : E) | dct
  | ix (a i : E) | sl (a : E) (lo hi : Option E) | rev (a : E)
  | call (f : Str) (args : List E) (ks : List Str) (kws : List E) (pm : List Nat)
  | bi (b : Bi) (args : List E)
  | me (m : Me) (o : E) (args : List E)
  | comp (own : List Nat) (elt : E) (tg : T) (it : I) (ifs : List E)
  | comp2 (own : List Nat) (elt : E) (tg : T) (it : I) (ifs : List E) (tg1 : T) (it1 : I) (ifs1 : List E)
  | gix (x : Str) (tab : List (Str × D)) (i : E)
inductive T where
  | var (i : Nat) | tup (ts : List T) | sub (o i : E)
inductive I where
  | seq (e : E) | range1 (a : E) | range2 (a b : E) | range3 (a b c : E) | enum (a : E) | zip (a b : E)
end
inductive S where
  | expr (e : E) | asg (t : T) (e : E) | par (i j : Nat) (a b : E)
  | ite (t : E) (a b : List S) | whl (t : E) (b : List S) | for_ (t : T) (it : I) (b : List S)
  | ret (e : E) | retn | brk | cnt | pass | stuck

/-! ### what it does -/
abbrev Env := List (Option D)
abbrev M (α : Type) := MH → Option (α × MH)
def M.ret {α : Type} (a : α) : M α := fun h => some (a, h)
def M.fail {α : Type} : M α := fun _ => none
def M.bind {α β : Type} (x : M α) (f : α → M β) : M β := fun h => match x h with
  | none => none
  | some (a, h') => f a h'
def M.of {α : Type} (o : Option α) : M α := fun h => match o with
  | none => none
  | some a => some (a, h)
def M.look {α : Type} (f : MH → Option α) : M α := fun h => match f h with
  | none => none
  | some a => some (a, h)
def M.guard (b : Bool) : M Unit := fun h => if b = true then some ((), h) else none

/-! a value as data -/
mutual
def dat : D → Option PyData
  | .non => some .none
  | .bl b => some (.bool b)
  | .int i => some (.int i)
  | .str s => some (.str s)
  | .tup xs => (datL xs).map .tuple
  | .lst xs => (datL xs).map .list
  | .flst xs => (datL xs).map .list
  | .ref _ => none
  | .fn _ => none
def datL : List D → Option (List PyData)
  | [] => some []
  | x :: xs => match dat x, datL xs with
    | some p, some ps => some (p :: ps)
    | _, _ => none
end
def dat1 (h : MH) : D → Option PyData
  | .ref i => match h[i]? with
    | some (.lst xs) => (datL xs).map .list
    | _ => none
  | d => dat d
/-- the items of a list, a tuple -/
def items (h : MH) : D → Option (List D)
  | .tup xs => some xs
  | .lst xs => some xs
  | .flst xs => some xs
  | .ref i => match h[i]? with
    | some (.lst xs) => some xs
    | _ => none
  | _ => none
/-- the items of a list or tuple that nobody changes, the signs of a text -/
def signs (s : Str) : List D := s.cps.toList.map fun c => .str ⟨#[c]⟩
def still : D → Option (List D)
  | .tup xs => some xs
  | .lst xs => some xs
  | .flst xs => some xs
  | .str s => some (signs s)
  | _ => none
def truth (h : MH) : D → Option Bool
  | .non => some false
  | .bl b => some b
  | .int i => some (i != 0)
  | .str s => if s.length ≤ sizeLine then some (s.length != 0) else none
  | .tup xs => some (!xs.isEmpty)
  | .lst xs => some (!xs.isEmpty)
  | .flst xs => some (!xs.isEmpty)
  | .ref i => match h[i]? with
    | some (.lst xs) => some (!xs.isEmpty)
    | _ => none
  | .fn _ => none
def keyOf : D → Option Key
  | .int i => some (.inl i)
  | .str s => some (.inr s)
  | _ => none
def valD (kvs : List (Key × D)) (k : Key) : Option D := (kvs.find? fun kv => decide (kv.1 = k)).map (·.2)
def putD (kvs : List (Key × D)) (k : Key) (v : D) : List (Key × D) :=
  if (kvs.any fun kv => decide (kv.1 = k)) = true then kvs.map fun kv => if kv.1 = k then (kv.1, v) else kv else kvs ++ [(k, v)]
def small (i : Int) : Bool := decide (-(2 ^ 64) < i) && decide (i < 2 ^ 64)
def repL {α : Type} (xs : List α) : Nat → List α
  | 0 => []
  | k + 1 => xs ++ repL xs k
/-- a list of a value as sequences are -/
def listy (h : MH) : D → Option (List D)
  | .lst xs => some xs
  | .flst xs => some xs
  | .ref k => match h[k]? with
    | some (.lst xs) => some xs
    | _ => none
  | _ => none
def binop (o : BOp) (x y : D) (h : MH) : Option D := match o, x, y with
  | .add, .int i, .int j => some (.int (i + j))
  | .add, .str s, .str t => if s.length + t.length ≤ sizeLine then some (.str (s ++ t)) else none
  | .add, .tup xs, .tup ys => if xs.length + ys.length ≤ sizeLine then some (.tup (xs ++ ys)) else none
  | .add, x, y => match listy h x, listy h y with
    | some xs, some ys => if xs.length + ys.length ≤ sizeLine then some (.lst (xs ++ ys)) else none
    | _, _ => none
  | .sub, .int i, .int j => some (.int (i - j))
  | .mul, .int i, .int j => if (small i || small j) = true then some (.int (i * j)) else none
  | .mul, .lst xs, .int k => if -(2 ^ 63) ≤ k ∧ k < 2 ^ 63 ∧ xs.length * k.toNat ≤ sizeLine then some (.lst (repL xs k.toNat)) else none
  | .mul, .tup xs, .int k => if -(2 ^ 63) ≤ k ∧ k < 2 ^ 63 ∧ xs.length * k.toNat + 16 ≤ sizeLine then some (.tup (repL xs k.toNat)) else none
  | .fdiv, .int i, .int j => if j ≠ 0 ∧ j.natAbs < 1073741824 then some (.int (i.fdiv j)) else none
  | .mod, .int i, .int j => if j ≠ 0 then some (.int (i.fmod j)) else none
  | .pow, .int i, .int j => if 0 ≤ j ∧ j ≤ 1000000 ∧ i.natAbs < 2 ^ 64 then some (.int (i ^ j.toNat)) else none
  | _, _, _ => none
def eqd (h : MH) (x y : D) : Option Bool := match x, y with
  | .str s, .str t => some (decide (s = t))
  | x, y => eqd0 h x y
where eqd0 (h : MH) (x y : D) : Option Bool := match dat1 h x, dat1 h y with
  | some p, some q => if (SeqAt.shaped p && SeqAt.shaped q) = true then some (PyData.eqv p q) else none
  | _, _ => none
def plainD : D → Bool
  | .int _ => true
  | .str _ => true
  | .bl _ => true
  | .non => true
  | _ => false
def isNon : D → Bool
  | .non => true
  | _ => false
def cmpop (o : COp) (x y : D) (h : MH) : Option Bool := match o with
  | .eq => eqd h x y
  | .ne => (eqd h x y).map not
  | .lt => match x, y with | .int i, .int j => some (decide (i < j)) | _, _ => none
  | .le => match x, y with | .int i, .int j => some (decide (i ≤ j)) | _, _ => none
  | .gt => match x, y with | .int i, .int j => some (decide (j < i)) | _, _ => none
  | .ge => match x, y with | .int i, .int j => some (decide (j ≤ i)) | _, _ => none
  | .is => match x, y with
    | x, .non => some (isNon x)
    | .bl a, .bl b => some (a == b)
    | _, _ => none
  | .isn => match x, y with
    | x, .non => some (!isNon x)
    | .bl a, .bl b => some (!(a == b))
    | _, _ => none
  | .mem => memd h x y
  | .nmem => (memd h x y).map not
where memd (h : MH) (x y : D) : Option Bool := match x, y with
    | .str s, .str t => some (!(Builtin.Str.occurrences t s 0 t.length 1).isEmpty)
    | x, y => match dat1 h x, dat1 h y with
      | some d, some (.list ds) => if (SeqAt.shaped d && SeqAt.shaped (.list ds)) = true then some (ds.any fun z => PyData.eqv z d) else none
      | some d, some (.tuple ds) => if (SeqAt.shaped d && SeqAt.shaped (.tuple ds)) = true then some (ds.any fun z => PyData.eqv z d) else none
      | _, _ => none
def index (h : MH) (x i : D) : Option D := match x, i with
  | .tup xs, .int i => atI xs i
  | .lst xs, .int i => atI xs i
  | .flst xs, .int i => atI xs i
  | .str s, .int i => if s.length ≤ sizeLine then (atI s.cps.toList i).map fun c => .str ⟨#[c]⟩ else none
  | .ref k, i => match h[k]?, i with
    | some (.lst xs), .int i => atI xs i
    | some (.dct kvs), i => (keyOf i).bind (valD kvs)
    | _, _ => none
  | _, _ => none
def setop (x i d : D) (h : MH) : Option MH := match x with
  | .ref k => match h[k]? with
    | some (.lst xs) => match i with
      | .int i => (ixN xs.length i).map fun j => h.set k (.lst (xs.set j d))
      | _ => none
    | some (.dct kvs) => match keyOf i with
      | some key => if kvs.length < sizeLine then some (h.set k (.dct (putD kvs key d))) else none
      | none => none
    | none => none
  | _ => none
def cutD (xs : List D) (lo hi : Option Int) : List D := (xs.drop (HT.sIx xs.length 0 lo)).take (HT.sIx xs.length xs.length hi - HT.sIx xs.length 0 lo)
def slice (h : MH) (x : D) (lo hi : Option Int) : Option D := match x with
  | .tup xs => some (.tup (cutD xs lo hi))
  | .lst xs => some (.lst (cutD xs lo hi))
  | .flst xs => some (.lst (cutD xs lo hi))
  | .ref k => match h[k]? with
    | some (.lst xs) => some (.lst (cutD xs lo hi))
    | _ => none
  | .str s => if s.length ≤ sizeLine then some (.str (cutS s lo hi)) else none
  | _ => none
def revop (h : MH) (x : D) : Option D := match x with
  | .tup xs => some (.tup xs.reverse)
  | .lst xs => some (.lst xs.reverse)
  | .flst xs => some (.lst xs.reverse)
  | .ref k => match h[k]? with
    | some (.lst xs) => some (.lst xs.reverse)
    | _ => none
  | _ => none
def isT (t : Ty) : D → Option Bool
  | .non => some false
  | .bl _ => some (match t with | .int => true | .bool => true | _ => false)
  | .int _ => some (match t with | .int => true | _ => false)
  | .str _ => some (match t with | .str => true | _ => false)
  | .tup _ => some (match t with | .tuple => true | _ => false)
  | .lst _ => some (match t with | .list => true | _ => false)
  | .flst _ => some (match t with | .list => true | _ => false)
  | _ => none
def boolsOf : List D → Option (List Bool)
  | [] => some []
  | .bl b :: r => (boolsOf r).map (b :: ·)
  | _ => none
def intsOf : List D → Option (List Int)
  | [] => some []
  | .int b :: r => (intsOf r).map (b :: ·)
  | _ => none
def maxL : List Int → Option Int
  | [] => none
  | [x] => some x
  | x :: r => (maxL r).map fun m => max x m
def minL : List Int → Option Int
  | [] => none
  | [x] => some x
  | x :: r => (minL r).map fun m => min x m
def irange (a b : Int) : List D := (List.range (b - a).toNat).map fun (i : Nat) => .int (a + i)
def reprD (h : MH) (x : D) : Option D := match dat1 h x with
  | some p => if (p.showable && !p.hasDict && decide (p.depth ≤ 64) && decide (p.shown.length + 64 ≤ sizeLine)) = true then some (.str p.shown) else none
  | none => none
/-- lists of a list -/
def listsOf (h : MH) : List D → Option (List (List D))
  | [] => some []
  | x :: r => match listy h x, listsOf h r with
    | some xs, some ys => some (xs :: ys)
    | _, _ => none
def strsOf : List D → Option (List Str)
  | [] => some []
  | .str b :: r => (strsOf r).map (b :: ·)
  | _ => none
def biop (b : Bi) (xs : List D) (h : MH) : Option D := match b, xs with
  | .len, [.str s] => if s.length ≤ sizeLine then some (.int s.length) else none
  | .len, [x] => (items h x).map fun xs => .int xs.length
  | .int, [.int i] => some (.int i)
  | .int, [.bl b] => some (.int (if b then 1 else 0))
  | .abs, [.int i] => some (.int (if i < 0 then -i else i))
  | .max, [.int i, .int j] => some (.int (if j > i then j else i))
  | .min, [.int i, .int j] => some (.int (if j < i then j else i))
  | .max, [x] => ((listy h x).bind fun xs => (intsOf xs).bind maxL).map .int
  | .min, [x] => ((listy h x).bind fun xs => (intsOf xs).bind minL).map .int
  | .all, [x] => ((listy h x).bind boolsOf).map fun bs => .bl (bs.all id)
  | .any, [x] => ((listy h x).bind boolsOf).map fun bs => .bl (bs.any id)
  | .sum, [x] => ((listy h x).bind intsOf).map fun ns => .int ns.sum
  | .tuple, [.tup xs] => some (.tup xs)
  | .tuple, [x] => (listy h x).map .tup
  | .list, [x] => (items h x).map .lst
  | .repr, [x] => reprD h x
  | .isinst t, [x] => (isT t x).map .bl
  | .lrange, [.int j] => if -(2 ^ 62) ≤ j ∧ j < 2 ^ 62 ∧ j.toNat ≤ sizeLine then some (.lst (irange 0 j)) else none
  | .lrange, [.int i, .int j] => if -(2 ^ 62) ≤ i ∧ i < 2 ^ 62 ∧ -(2 ^ 62) ≤ j ∧ j < 2 ^ 62 ∧ (j - i).toNat ≤ sizeLine then some (.lst (irange i j)) else none
  | .tvals, [.ref k] => match h[k]? with
    | some (.dct kvs) => if kvs.length ≤ sizeLine then some (.tup (kvs.map (·.2))) else none
    | _ => none
  | .sumL, [x, .lst []] => match (listy h x).bind (listsOf h) with
    | some (ys :: yss) => if (ys :: yss).flatten.length ≤ sizeLine then some (.lst (ys :: yss).flatten) else none
    | _ => none
  | _, _ => none
/-- of which builtin type a receiver is -/
def kindOf (h : MH) : D → Option Ty
  | .str _ => some .str
  | .tup _ => some .tuple
  | .lst _ => some .list
  | .flst _ => some .list
  | .ref k => match h[k]? with
    | some (.lst _) => some .list
    | some (.dct _) => some .dict
    | none => none
  | _ => none
def meop (t : Ty) (m : Me) (o : D) (xs : List D) (h : MH) : Option (D × MH) := match t, m, o, xs with
  | .list, .append, .ref k, [x] => match h[k]? with
    | some (.lst ys) => if ys.length < sizeLine then some (.non, h.set k (.lst (ys ++ [x]))) else none
    | _ => none
  | .list, .pop, .ref k, [] => match h[k]? with
    | some (.lst ys) => (ys[ys.length - 1]?).map fun y => (y, h.set k (.lst ys.dropLast))
    | _ => none
  | .dict, .setdefault, .ref k, [y, z] => match h[k]?, keyOf y with
    | some (.dct kvs), some key => if kvs.length < sizeLine then (match valD kvs key with
      | some d => some (d, h)
      | none => some (z, h.set k (.dct (putD kvs key z)))) else none
    | _, _ => none
  | .str, .join, .str s, [x] => match (items h x).bind strsOf with
    | some ys => if (ys.map (·.length)).sum + ys.length * s.length ≤ 16777216 then some (.str (Txt.join s ys), h) else none
    | none => none
  | _, _, _, _ => none
/-- arguments in the parameters' order -/
def pick {α : Type} (pm : List Nat) (zs : List α) : List α := if pm.isEmpty = true then zs else pm.filterMap fun i => zs[i]?
mutual
/-- names only things before k -/
def below (k : Nat) : D → Bool
  | .ref i => decide (i < k)
  | .tup xs => belowL k xs
  | .lst xs => belowL k xs
  | .flst xs => belowL k xs
  | _ => true
def belowL (k : Nat) : List D → Bool
  | [] => true
  | x :: xs => below k x && belowL k xs
end
/-- what may be put into x: B things are older than the running function -/
def okput (B : Nat) (x : D) (xs : List D) : Bool := match x with
  | .ref k => decide (B ≤ k) || belowL k xs
  | _ => true
def wipeD (ρ : Env) : List Nat → Env
  | [] => ρ
  | v :: vs => (wipeD ρ vs).set v none
/-- a comprehension's turns -/
def compL (asg : D → Env → M Env) (ifs : Env → M Bool) (elt : Env → M D) (ρ : Env) : List D → M (List D)
  | [] => .ret []
  | x :: xs => .bind (asg x ρ) fun ρ1 => .bind (ifs ρ1) fun b =>
    if b = true then .bind (elt ρ1) fun y => .bind (compL asg ifs elt ρ xs) fun ys => .ret (y :: ys) else compL asg ifs elt ρ xs
/-- .. of two clauses -/
def compL2 (asg : D → Env → M Env) (ifs : Env → M Bool) (it1 : Env → M (List D)) (asg1 : D → Env → M Env) (ifs1 : Env → M Bool) (elt : Env → M D) (vs1 : List Nat) (ρ : Env) : List D → M (List D)
  | [] => .ret []
  | x :: xs => .bind (asg x ρ) fun ρ1 => .bind (ifs ρ1) fun b =>
    if b = true then .bind (it1 ρ1) fun ys => .bind (compL asg1 ifs1 elt (wipeD ρ1 vs1) ys) fun as => .bind (compL2 asg ifs it1 asg1 ifs1 elt vs1 ρ xs) fun bs => .ret (as ++ bs) else compL2 asg ifs it1 asg1 ifs1 elt vs1 ρ xs
mutual
def tvs : T → List Nat
  | .var i => [i]
  | .tup ts => tvsL ts
  | .sub _ _ => []
def tvsL : List T → List Nat
  | [] => []
  | t :: ts => tvs t ++ tvsL ts
end
def optI : Option D → Option (Option Int)
  | none => some none
  | some (.int i) => some (some i)
  | _ => none
def enumL (k : Nat) : List D → List D
  | [] => []
  | x :: xs => .tup [.int k, x] :: enumL (k + 1) xs
def zipL : List D → List D → List D
  | x :: xs, y :: ys => .tup [x, y] :: zipL xs ys
  | _, _ => []
def rangeL (a c : Int) : Nat → List D
  | 0 => []
  | k + 1 => .int a :: rangeL (a + c) c k
/-- an item of a display, starred or not -/
def spread (st : Option Bool) (x : D) : M (List D) := if st = some true then .look fun h => items h x else .ret [x]
/-- a table of the module at a key -/
def gixD (tab : List (Str × D)) : D → Option D
  | .str s => (tab.find? fun p => decide (p.1 = s)).map (·.2)
  | _ => none
section
variable (C : Str → List D → M D) (G : Str → Option D) (B : Nat)
mutual
def ev : E → Env → M D
  | .non, _ => .ret .non
  | .bl b, _ => .ret (.bl b)
  | .int i, _ => .ret (.int i)
  | .str s, _ => .ret (.str s)
  | .var i, ρ => match ρ[i]? with
    | some (some d) => .ret d
    | _ => .fail
  | .glob x, _ => .of (G x)
  | .bin o a b, ρ => .bind (ev a ρ) fun x => .bind (ev b ρ) fun y => .look (binop o x y)
  | .neg a, ρ => .bind (ev a ρ) fun x => match x with
    | .int i => .ret (.int (-i))
    | _ => .fail
  | .not a, ρ => .bind (ev a ρ) fun x => .bind (.look fun h => truth h x) fun b => .ret (.bl !b)
  | .cmp o a b, ρ => .bind (ev a ρ) fun x => .bind (ev b ρ) fun y => .bind (.look (cmpop o x y)) fun r => .ret (.bl r)
  | .chain o p a b c, ρ => .bind (ev a ρ) fun x => .bind (ev b ρ) fun y => .bind (.look (cmpop o x y)) fun r =>
    if r = true then .bind (ev c ρ) fun z => .bind (.look (cmpop p y z)) fun r => .ret (.bl r) else .ret (.bl false)
  | .and a b, ρ => .bind (ev a ρ) fun x => .bind (.look fun h => truth h x) fun t => if t = true then ev b ρ else .ret x
  | .or a b, ρ => .bind (ev a ρ) fun x => .bind (.look fun h => truth h x) fun t => if t = true then .ret x else ev b ρ
  | .ife t a b, ρ => .bind (ev t ρ) fun x => .bind (.look fun h => truth h x) fun r => if r = true then ev a ρ else ev b ρ
  | .tup st es, ρ => .bind (evL es st ρ) fun xs => if xs.length ≤ sizeLine then .ret (.tup xs) else .fail
  | .dsp st es, ρ => .bind (evL es st ρ) fun xs => if xs.length ≤ sizeLine then .ret (.lst xs) else .fail
  | .mut e, ρ => .bind (ev e ρ) fun x => match x with
    | .lst xs => fun h => some (.ref h.length, h ++ [.lst xs])
    | _ => .fail
  | .dct, _ => fun h => some (.ref h.length, h ++ [.dct []])
  | .ix a i, ρ => .bind (ev a ρ) fun x => .bind (ev i ρ) fun y => .look fun h => index h x y
  | .sl a lo hi, ρ => .bind (ev a ρ) fun x => .bind (evO lo ρ) fun l => .bind (evO hi ρ) fun u => .look fun h => slice h x l u
  | .rev a, ρ => .bind (ev a ρ) fun x => .look fun h => revop h x
  | .call f args _ kws pm, ρ => .bind (evL args [] ρ) fun xs => .bind (evL kws [] ρ) fun ys => C f (pick pm (xs ++ ys))
  | .bi b args, ρ => .bind (evL args [] ρ) fun xs => .look (biop b xs)
  | .me m o args, ρ => .bind (ev o ρ) fun x => .bind (.look fun h => kindOf h x) fun t => .bind (evL args [] ρ) fun xs => fun h => if okput B x xs = true then meop t m x xs h else none
  | .comp own elt tg it ifs, ρ => .bind (evI it ρ) fun xs => if xs.length ≤ sizeLine then .bind (compL (evA tg) (evIfs ifs) (ev elt) (wipeD ρ own) xs) fun ys => .ret (.lst ys) else .fail
  | .comp2 own elt tg it ifs tg1 it1 ifs1, ρ => .bind (evI it ρ) fun xs => .bind (compL2 (evA tg) (evIfs ifs) (evI it1) (evA tg1) (evIfs ifs1) (ev elt) (tvs tg1) (wipeD ρ own) xs) fun ys => if ys.length ≤ sizeLine then .ret (.lst ys) else .fail
  | .gix _ tab i, ρ => .bind (ev i ρ) fun y => .of (gixD tab y)
def evO : Option E → Env → M (Option Int)
  | none, _ => .ret none
  | some e, ρ => .bind (ev e ρ) fun x => match x with
    | .int i => .ret (some i)
    | _ => .fail
def evL : List E → List Bool → Env → M (List D)
  | [], _, _ => .ret []
  | e :: es, st, ρ => .bind (ev e ρ) fun x => .bind (spread st.head? x) fun xs => .bind (evL es st.tail ρ) fun ys => .ret (xs ++ ys)
def evIfs : List E → Env → M Bool
  | [], _ => .ret true
  | e :: es, ρ => .bind (ev e ρ) fun x => .bind (.look fun h => truth h x) fun b => if b = true then evIfs es ρ else .ret false
def evI : I → Env → M (List D)
  | .seq e, ρ => .bind (ev e ρ) fun x => .of (still x)
  | .range1 a, ρ => .bind (ev a ρ) fun x => match x with
    | .int j => if -(2 ^ 62) ≤ j ∧ j < 2 ^ 62 then .ret (irange 0 j) else .fail
    | _ => .fail
  | .range2 a b, ρ => .bind (ev a ρ) fun x => .bind (ev b ρ) fun y => match x, y with
    | .int i, .int j => if -(2 ^ 62) ≤ i ∧ i < 2 ^ 62 ∧ -(2 ^ 62) ≤ j ∧ j < 2 ^ 62 then .ret (irange i j) else .fail
    | _, _ => .fail
  | .range3 _ _ _, _ => .fail
  | .enum a, ρ => .bind (ev a ρ) fun x => .bind (.of (still x)) fun xs => .ret (enumL 0 xs)
  | .zip a b, ρ => .bind (ev a ρ) fun x => .bind (ev b ρ) fun y => .bind (.of (still x)) fun xs => .bind (.of (still y)) fun ys => .ret (zipL xs ys)
def evA : T → D → Env → M Env
  | .var i, d, ρ => .ret (ρ.set i (some d))
  | .tup ts, d, ρ => match d with
    | .tup xs => if xs.length = ts.length then evAs ts xs ρ else .fail
    | _ => .fail
  | .sub o i, d, ρ => .bind (ev o ρ) fun x => .bind (ev i ρ) fun y => fun h => if okput B x [d] = true then (setop x y d h).map fun h' => (ρ, h') else none
def evAs : List T → List D → Env → M Env
  | [], [], ρ => .ret ρ
  | t :: ts, d :: ds, ρ => .bind (evA t d ρ) fun ρ1 => evAs ts ds ρ1
  | _, _, _ => .fail
end
/-- an expression as a test -/
def evT (e : E) (ρ : Env) : M Bool := .bind (ev C G B e ρ) fun x => .look fun h => truth h x
/-- how a statement ends -/
inductive Ctl where | nx | bk | ct | rt (d : D)
def forL (asg : D → Env → M Env) (body : Env → M (Ctl × Env)) : List D → Env → M (Ctl × Env)
  | [], ρ => .ret (.nx, ρ)
  | x :: xs, ρ => .bind (asg x ρ) fun ρ1 => .bind (body ρ1) fun r => match r.1 with
    | .nx => forL asg body xs r.2
    | .ct => forL asg body xs r.2
    | .bk => .ret (.nx, r.2)
    | .rt d => .ret (.rt d, r.2)
def whileL (test : Env → M Bool) (body : Env → M (Ctl × Env)) : Nat → Env → M (Ctl × Env)
  | 0, _ => .fail
  | k + 1, ρ => .bind (test ρ) fun b => if b = true then .bind (body ρ) fun r => match r.1 with
    | .nx => whileL test body k r.2
    | .ct => whileL test body k r.2
    | .bk => .ret (.nx, r.2)
    | .rt d => .ret (.rt d, r.2)
    else .ret (.nx, ρ)
variable (W : Nat)
mutual
def ex : S → Env → M (Ctl × Env)
  | .expr e, ρ => .bind (ev C G B e ρ) fun _ => .ret (.nx, ρ)
  | .asg t e, ρ => .bind (ev C G B e ρ) fun d => .bind (evA C G B t d ρ) fun ρ1 => .ret (.nx, ρ1)
  | .par i j a b, ρ => .bind (ev C G B a ρ) fun x => .bind (ev C G B b ρ) fun y => .ret (.nx, (ρ.set i (some x)).set j (some y))
  | .ite t a b, ρ => .bind (evT C G B t ρ) fun r => if r = true then exL a ρ else exL b ρ
  | .whl t b, ρ => whileL (evT C G B t) (exL b) W ρ
  | .for_ t it b, ρ => .bind (evI C G B it ρ) fun xs => forL (evA C G B t) (exL b) xs ρ
  | .ret e, ρ => .bind (ev C G B e ρ) fun d => .ret (.rt d, ρ)
  | .retn, ρ => .ret (.rt .non, ρ)
  | .brk, ρ => .ret (.bk, ρ)
  | .cnt, ρ => .ret (.ct, ρ)
  | .pass, ρ => .ret (.nx, ρ)
  | .stuck, _ => .fail
def exL : List S → Env → M (Ctl × Env)
  | [], ρ => .ret (.nx, ρ)
  | s :: r, ρ => .bind (ex s ρ) fun q => match q.1 with
    | .nx => exL r q.2
    | c => .ret (c, q.2)
end
end
end PD


namespace PD
open PySem PySem.Spec L2
open PyProof.Rows hiding St

/-! ### readings by functions -/
structure Sl (K : PySem.W.Frag) (mg : Str → Option Value) (μ : Mp) (n : Nat) (H : Hp) (σ : St) (ρ : Env) : Prop where
  len : ρ.length = σ.length
  at_ : ∀ (i : Nat) (d : D), ρ[i]? = some (some d) → ∃ v, σ[i]? = some (some v) ∧ Rep K mg μ n H d v
section
variable {K : PySem.W.Frag} {mg : Str → Option Value} {μ μ' : Mp} {n n' : Nat} {H H' : Hp} {σ : St} {ρ : Env}
theorem Sl.step (s : Step K μ n H μ' n' H') (l : Sl K mg μ n H σ ρ) : Sl K mg μ' n' H' σ ρ :=
  ⟨l.len, fun i d e => let ⟨v, h1, h2⟩ := l.at_ i d e; ⟨v, h1, h2.step s⟩⟩
theorem Sl.set {d : D} {v : V} (l : Sl K mg μ n H σ ρ) (r : Rep K mg μ n H d v) (i : Nat) : Sl K mg μ n H (σ.set i (some v)) (ρ.set i (some d)) := by
  refine ⟨by simp [l.len], fun j e h => ?_⟩
  by_cases hj : i = j
  · subst hj
    by_cases hi : i < ρ.length
    · rw [List.getElem?_set_self hi] at h
      cases h
      exact ⟨v, by rw [List.getElem?_set_self (by rw [← l.len]; exact hi)], r⟩
    · rw [List.getElem?_eq_none (by simpa using hi)] at h; cases h
  · rw [List.getElem?_set_ne hj] at h
    obtain ⟨w, h1, h2⟩ := l.at_ j e h
    exact ⟨w, by rw [List.getElem?_set_ne hj]; exact h1, h2⟩
theorem Sl.wipe (l : Sl K mg μ n H σ ρ) : ∀ vs : List Nat, Sl K mg μ n H (L2.wipe σ vs) (wipeD ρ vs)
  | [] => l
  | v :: vs => by
    have ih := Sl.wipe l vs
    refine ⟨?_, fun j e h => ?_⟩
    · show ((wipeD ρ vs).set v none).length = ((L2.wipe σ vs).set v none).length
      simp [ih.len]
    · have h : ((wipeD ρ vs).set v none)[j]? = some (some e) := h
      show ∃ w, ((L2.wipe σ vs).set v none)[j]? = some (some w) ∧ _
      by_cases hj : v = j
      · subst hj
        by_cases hi : v < (wipeD ρ vs).length
        · rw [List.getElem?_set_self hi] at h; cases h
        · rw [List.getElem?_eq_none (by simpa using hi)] at h; cases h
      · rw [List.getElem?_set_ne hj] at h
        obtain ⟨w, h1, h2⟩ := ih.at_ j e h
        exact ⟨w, by rw [List.getElem?_set_ne hj]; exact h1, h2⟩
end
/-- made anew just now: a list that nobody else names -/
def Fresh (K : PySem.W.Frag) (mg : Str → Option Value) (μ : Mp) (n : Nat) (H : Hp) (μ' : Mp) (h' : MH) (H' : Hp) (d : D) (v : V) : Prop :=
  ∀ xs, d = .lst xs → ∃ H0 p vs, v = .ref p ∧ H0 p = none ∧ H' = upd H0 p (.lst vs) ∧ Step K μ n H μ' h'.length H0 ∧ Good K mg μ' h' H0 ∧ RepL K mg μ' h'.length H0 xs vs
def tD (fr : Bool) (K : PySem.W.Frag) (mg : Str → Option Value) (f : Env → M D) : TE := fun σ H Q => ∃ μ ρ h d h', Good K mg μ h H ∧ Sl K mg μ h.length H σ ρ ∧ f ρ h = some (d, h') ∧
  ∀ μ' v H', Step K μ h.length H μ' h'.length H' → Good K mg μ' h' H' → Rep K mg μ' h'.length H' d v → (fr = true → Fresh K mg μ h.length H μ' h' H' d v) → Q v H'
def tT (K : PySem.W.Frag) (mg : Str → Option Value) (f : Env → M Bool) : TT := fun σ H Q => ∃ μ ρ h b h', Good K mg μ h H ∧ Sl K mg μ h.length H σ ρ ∧ f ρ h = some (b, h') ∧
  ∀ μ' H', Step K μ h.length H μ' h'.length H' → Good K mg μ' h' H' → Q b H'
def tL (K : PySem.W.Frag) (mg : Str → Option Value) (f : Env → M (List D)) : TA := fun σ H Q => ∃ μ ρ h ds h', Good K mg μ h H ∧ Sl K mg μ h.length H σ ρ ∧ f ρ h = some (ds, h') ∧
  ∀ μ' vs H', Step K μ h.length H μ' h'.length H' → Good K mg μ' h' H' → RepL K mg μ' h'.length H' ds vs → Q vs H'
/-- a weaker reading -/
theorem peImp {X : Cx} {e : Expr} {t t' : TE} (h : PE X e t) (i : ∀ σ H Q, t' σ H Q → t σ H Q) : PE X e t' := ⟨fun pins s σ H Q I q => h.run pins s σ H Q I (i σ H Q q)⟩
theorem ptImp {X : Cx} {e : Expr} {t t' : TT} (h : PT X e t) (i : ∀ σ H Q, t' σ H Q → t σ H Q) : PT X e t' := ⟨fun pins s σ H Q I q => h.run pins s σ H Q I (i σ H Q q)⟩
theorem paImp {X : Cx} {e : List Expr} {t t' : TA} (h : PA X e t) (i : ∀ σ H Q, t' σ H Q → t σ H Q) : PA X e t' := ⟨fun pos pins s σ H Q I q => h.run pos pins s σ H Q I (i σ H Q q)⟩

theorem M.bind_eq {α β : Type} {x : M α} {f : α → M β} {h : MH} {r : β × MH} (e : M.bind x f h = some r) : ∃ a h1, x h = some (a, h1) ∧ f a h1 = some r := by
  unfold M.bind at e
  cases q : x h with
  | none => rw [q] at e; cases e
  | some p => rw [q] at e; exact ⟨p.1, p.2, rfl, e⟩
theorem M.look_eq {α : Type} {f : MH → Option α} {h : MH} {r : α × MH} (e : M.look f h = some r) : f h = some r.1 ∧ r.2 = h := by
  unfold M.look at e
  cases q : f h with
  | none => rw [q] at e; cases e
  | some p => rw [q] at e; cases e; exact ⟨rfl, rfl⟩
theorem M.of_eq {α : Type} {o : Option α} {h : MH} {r : α × MH} (e : M.of o h = some r) : o = some r.1 ∧ r.2 = h := by
  unfold M.of at e
  cases o with
  | none => cases e
  | some p => cases e; exact ⟨rfl, rfl⟩
theorem M.ret_eq {α : Type} {a : α} {h : MH} {r : α × MH} (e : M.ret a h = some r) : r.1 = a ∧ r.2 = h := by cases e; exact ⟨rfl, rfl⟩

/-- an operation on two values -/
def rD2 (fr : Bool) (K : PySem.W.Frag) (mg : Str → Option Value) (f : D → D → MH → Option D) : R2 := fun x y H Q => ∃ μ h dx dy d, Good K mg μ h H ∧ Rep K mg μ h.length H dx x ∧ Rep K mg μ h.length H dy y ∧ f dx dy h = some d ∧
  ∀ v H', Step K μ h.length H μ h.length H' → Good K mg μ h H' → Rep K mg μ h.length H' d v → (fr = true → Fresh K mg μ h.length H μ h H' d v) → Q v H'
theorem Fresh.back {K : PySem.W.Frag} {mg : Str → Option Value} {μ0 μ μ' : Mp} {n0 n : Nat} {H0 H H' : Hp} {h' : MH} {d : D} {v : V} (s : Step K μ0 n0 H0 μ n H) (f : Fresh K mg μ n H μ' h' H' d v) : Fresh K mg μ0 n0 H0 μ' h' H' d v := fun xs e =>
  let ⟨G, p, vs, h1, h2, h3, h4, h5, h6⟩ := f xs e
  ⟨G, p, vs, h1, h2, h3, s.trans h4, h5, h6⟩
section
variable {X : Cx} {fr fa fb : Bool} {f g : Env → M D} {a b : Expr} {pos : Pos}
/-- the part of two operands -/
theorem two {K : PySem.W.Frag} {mg : Str → Option Value} {k : D → D → MH → Option D} {σ : St} {H : Hp} {Q : VK} (h : tD fr K mg (fun ρ => .bind (f ρ) fun x => .bind (g ρ) fun y => .look (k x y)) σ H Q) : tOp (rD2 fr K mg k) (tD fa K mg f) (tD fb K mg g) σ H Q := by
  obtain ⟨μ, ρ, h, d, h', gd, sl, e, q⟩ := h
  obtain ⟨x, h1, e1, e⟩ := M.bind_eq e
  obtain ⟨y, h2, e2, e⟩ := M.bind_eq e
  obtain ⟨e3, e4⟩ := M.look_eq e
  cases e4
  refine ⟨μ, ρ, h, x, h1, gd, sl, e1, fun μ1 v1 H1 s1 g1 r1 _ => ?_⟩
  refine ⟨μ1, ρ, h1, y, h', g1, sl.step s1, e2, fun μ2 v2 H2 s2 g2 r2 _ => ?_⟩
  refine ⟨μ2, h', x, y, d, g2, r1.step s2, r2, e3, fun v H3 s3 g3 r3 f3 => ?_⟩
  exact q μ2 v H3 ((s1.trans s2).trans s3) g3 r3 fun w => (f3 w).back (s1.trans s2)
theorem pe_binD {op : Operator} {k : D → D → MH → Option D} (ho : OpR X (binaryOp op) (rD2 fr X.K X.mg k)) (ha : PE X a (tD fa X.K X.mg f)) (hb : PE X b (tD fb X.K X.mg g)) :
    PE X (.BinOp a op b pos) (tD fr X.K X.mg fun ρ => .bind (f ρ) fun x => .bind (g ρ) fun y => .look (k x y)) :=
  peImp (pe_op ho ha hb) fun _ _ _ h => two h
end

/-! ### values -/
section
variable {K : PySem.W.Frag} {mg : Str → Option Value} {μ : Mp} {h : MH} {H : Hp}
theorem listAt {d : D} {v : V} {xs : List D} (g : Good K mg μ h H) (r : Rep K mg μ h.length H d v) (e : listy h d = some xs) : ∃ a vs, v = .ref a ∧ SqL K H a vs ∧ RepL K mg μ h.length H xs vs := by
  cases r with
  | lst z l => cases e; exact ⟨_, _, rfl, SqL.of z.1, l⟩
  | flst z l => cases e; exact ⟨_, _, rfl, z.sq, l⟩
  | @ref i hi =>
    have e : (match h[i]? with | some (.lst xs) => some xs | _ => none) = some xs := e
    cases q : h[i]? with
    | none => rw [q] at e; cases e
    | some o =>
      rw [q] at e
      cases o with
      | lst ys =>
        cases e
        obtain ⟨vs, h1, h2⟩ := g.objs i _ q
        exact ⟨_, vs, rfl, SqL.of h1, h2⟩
      | dct _ => cases e
  | _ => cases e
theorem seqAt {d : D} {v : V} {xs : List D} (g : Good K mg μ h H) (r : Rep K mg μ h.length H d v) (e : items h d = some xs) : ∃ a vs, v = .ref a ∧ (SqL K H a vs ∨ SqT K H a vs) ∧ RepL K mg μ h.length H xs vs := by
  cases r with
  | tup z l => cases e; exact ⟨_, _, rfl, .inr z, l⟩
  | lst z l => cases e; exact ⟨_, _, rfl, .inl (SqL.of z.1), l⟩
  | flst z l => cases e; exact ⟨_, _, rfl, .inl z.sq, l⟩
  | @ref i hi =>
    obtain ⟨a, vs, h1, h2, h3⟩ := listAt g (Rep.ref hi) e
    exact ⟨a, vs, h1, .inl h2, h3⟩
  | _ => cases e
mutual
theorem dat_dp : ∀ {d : D} {v : V} {p : PyData}, Rep K mg μ n H d v → dat d = some p → Dp K H v p
  | .non, _, _, .non, e => by cases e; exact .non
  | .bl _, _, _, .bl b, e => by cases e; exact .bl b
  | .int _, _, _, .int b, e => by cases e; exact .int b
  | .str _, _, _, .str b, e => by cases e; exact .str b
  | .tup xs, _, _, .tup z l, e => by
    have e : (datL xs).map PyData.tuple = some _ := e
    obtain ⟨ps, e1, e2⟩ := Option.map_eq_some_iff.mp e
    subst e2
    exact .tup z (datL_dp l e1)
  | .lst xs, _, _, .lst z l, e => by
    have e : (datL xs).map PyData.list = some _ := e
    obtain ⟨ps, e1, e2⟩ := Option.map_eq_some_iff.mp e
    subst e2
    exact .lst (SqL.of z.1) (datL_dp l e1)
  | .flst xs, _, _, .flst z l, e => by
    have e : (datL xs).map PyData.list = some _ := e
    obtain ⟨ps, e1, e2⟩ := Option.map_eq_some_iff.mp e
    subst e2
    exact .lst z.sq (datL_dp l e1)
  | .ref _, _, _, .ref _, e => nomatch e
  | .fn _, _, _, .fn _, e => nomatch e
theorem datL_dp : ∀ {ds : List D} {vs : List V} {ps : List PyData}, RepL K mg μ n H ds vs → datL ds = some ps → DpAll K H vs ps
  | [], _, _, .nil, e => by cases e; exact .nil
  | x :: xs, _, _, .cons r l, e => by
    have e : (match dat x, datL xs with | some p, some ps => some (p :: ps) | _, _ => none) = some _ := e
    cases e1 : dat x with
    | none => rw [e1] at e; cases e
    | some p =>
      cases e2 : datL xs with
      | none => rw [e1, e2] at e; cases e
      | some ps => rw [e1, e2] at e; cases e; exact .cons (dat_dp r e1) (datL_dp l e2)
end
theorem dat1_dp {d : D} {v : V} {p : PyData} (g : Good K mg μ h H) (r : Rep K mg μ h.length H d v) (e : dat1 h d = some p) : Dp K H v p := by
  cases r with
  | @ref i hi =>
    have e : (match h[i]? with | some (.lst xs) => (datL xs).map PyData.list | _ => none) = some p := e
    cases q : h[i]? with
    | none => rw [q] at e; cases e
    | some o =>
      rw [q] at e
      cases o with
      | lst ys =>
        obtain ⟨ps, e1, e2⟩ := Option.map_eq_some_iff.mp e
        subst e2
        obtain ⟨vs, h1, h2⟩ := g.objs i _ q
        exact .lst (SqL.of h1) (datL_dp h2 e1)
      | dct _ => cases e
  | non => cases e; exact .non
  | bl b => cases e; exact .bl b
  | int b => cases e; exact .int b
  | str b => cases e; exact .str b
  | tup z l => exact dat_dp (.tup z l) e
  | lst z l => exact dat_dp (.lst z l) e
  | flst z l => exact dat_dp (.flst z l) e
  | fn z => cases e
theorem RepL.isEmpty {xs : List D} {vs : List V} (l : RepL K mg μ n H xs vs) : vs.isEmpty = xs.isEmpty := by cases l <;> rfl
theorem tru_rep {d : D} {v : V} {b : Bool} (g : Good K mg μ h H) (r : Rep K mg μ h.length H d v) (e : truth h d = some b) : TruV K v H b := by
  cases r with
  | non => cases e; rfl
  | bl b => cases e; rfl
  | int b => cases e; rfl
  | str s =>
    have e : (if s.length ≤ sizeLine then some (s.length != 0) else none) = some b := e
    by_cases z : s.length ≤ sizeLine
    · rw [if_pos z] at e
      refine ⟨z, ?_⟩
      cases e
      cases q : s.length with
      | zero => rfl
      | succ k =>
        show (k + 1 != 0) = (((k + 1 : Nat) : Int) != 0)
        have h1 : (k + 1 != 0) = true := by simp
        have h2 : (((k + 1 : Nat) : Int) != 0) = true := by
          rw [bne_iff_ne]; omega
        rw [h1, h2]
    · rw [if_neg z] at e; cases e
  | tup z l => cases e; exact .inr (.inl ⟨_, z, by rw [l.isEmpty]⟩)
  | lst z l => cases e; exact .inl ⟨_, SqL.of z.1, by rw [l.isEmpty]⟩
  | flst z l => cases e; exact .inl ⟨_, z.sq, by rw [l.isEmpty]⟩
  | @ref i hi =>
    have e : (match h[i]? with | some (.lst xs) => some (!xs.isEmpty) | _ => none) = some b := e
    cases q : h[i]? with
    | none => rw [q] at e; cases e
    | some o =>
      rw [q] at e
      cases o with
      | lst ys =>
        cases e
        obtain ⟨vs, h1, h2⟩ := g.objs i _ q
        exact .inl ⟨_, SqL.of h1, by rw [h2.isEmpty]⟩
      | dct _ => cases e
  | fn z => cases e
end
end PD


namespace PM
open PySem PySem.Spec PyProof.Rows L2
/-! ### a tuple so many times: none, once -/
theorem tuple_mul1 (l : Addr) (items : Array Value) (n : Nat) (dd : Option Addr) (sl : Array (Option Value)) (x : Int) (u : Tok) (c0 : (decide (x < -(2 ^ 63)) || decide (x ≥ 2 ^ 63)) = false) (c1 : (items.isEmpty || x == 1) = true) :
    Meets (Builtin.«tuple.__mul__» ⟨[.ref l, .int x u], []⟩) (fun _ R s => s.heap.get? l = some { cls := .type "tuple", dict := dd, data := .seq items n, slots := sl } ∧
      R (.ok (.ret (Value.ref l))) s) :=
  .of_wp fun prog w A R s h => by
    obtain ⟨hp, g, d, tk, os⟩ := s
    obtain ⟨hl, h⟩ := h
    have f1 := AutoSeq1.idx_int
    wp_walk using wpAny_loadPart' hl
    repeat (first
      | (refine wpAny_ite_false (decide_eq_false (by rw [c0]; exact Bool.false_ne_true)) ?_; wp_walk using wpAny_loadPart' hl)
      | (refine wpAny_ite_true (decide_eq_true (by rw [c1])) ?_; wp_walk using wpAny_loadPart' hl))
    exact ⟨_, rfl, h⟩
theorem tuple_mul0 (l : Addr) (items : Array Value) (n : Nat) (dd : Option Addr) (sl : Array (Option Value)) (x : Int) (u : Tok) (c0 : (decide (x < -(2 ^ 63)) || decide (x ≥ 2 ^ 63)) = false) (c1 : (items.isEmpty || x == 1) = false) (c2 : (decide (x ≤ 0) || items.isEmpty) = true) :
    Meets (Builtin.«tuple.__mul__» ⟨[.ref l, .int x u], []⟩) (fun _ R s => s.heap.get? l = some { cls := .type "tuple", dict := dd, data := .seq items n, slots := sl } ∧
      R (.ok (.ret (Value.ref s.heap.objs.size))) { s with heap := s.heap.push { cls := Value.type "tuple", data := Data.seq #[] }, toks := s.toks }) :=
  .of_wp fun prog w A R s h => by
    obtain ⟨hp, g, d, tk, os⟩ := s
    obtain ⟨hl, h⟩ := h
    have f1 := AutoSeq1.idx_int
    wp_walk using wpAny_loadPart' hl
    repeat (first
      | (refine wpAny_ite_false (decide_eq_false (by rw [c0]; exact Bool.false_ne_true)) ?_; wp_walk using wpAny_loadPart' hl)
      | (refine wpAny_ite_false (decide_eq_false (by rw [c1]; exact Bool.false_ne_true)) ?_; wp_walk using wpAny_loadPart' hl)
      | (refine wpAny_ite_true (decide_eq_true (by rw [c2])) ?_; wp_walk using wpAny_loadPart' hl)
      | (refine wpAny_ite_false (decide_eq_false (by decide)) ?_; wp_walk using wpAny_loadPart' hl))
    exact ⟨_, rfl, h⟩
/-- tuple * int, by how often -/
def rMulT (K : PySem.W.Frag) : R2 := fun x y H Q => ∃ l k xs, x = .ref l ∧ y = .int k ∧ SqT K H l xs ∧ -(2 ^ 63) ≤ k ∧ k < 2 ^ 63 ∧ xs.length * k.toNat + 16 ≤ sizeLine ∧
  (xs = [] ∨ k = 1 → Q (.ref l) H) ∧ (¬ (xs = [] ∨ k = 1) → ∀ p, H p = none → Q (.ref p) (upd H p (.tup (List.replicate k.toNat xs).flatten)))
section
variable {X : Cx}
theorem op_mulT : OpR X (binaryOp .Mult) (rMulT X.K) := by
  intro pins s σ H x y v u Q I rx ry h
  obtain ⟨l, k, xs, rfl, rfl, hT, h1, h2, hz, q1, q2⟩ := h
  cases rx
  obtain ⟨t, rfl⟩ := ry
  obtain ⟨its, r, ⟨⟨cls, dd, data, sl⟩, ho, hc, n, hd⟩, hs⟩ := I.tuple hT
  simp only at hc hd
  subst hc hd
  have hle : its.length = xs.length := r.length.symm
  have he : its = [] ↔ xs = [] := ⟨fun e => List.eq_nil_of_length_eq_zero (by rw [← hle, e]; rfl), fun e => List.eq_nil_of_length_eq_zero (by rw [hle, e]; rfl)⟩
  have hi : its.toArray.isEmpty = decide (xs = []) := by
    cases its with
    | nil => rw [decide_eq_true (he.mp rfl)]; rfl
    | cons a b => rw [decide_eq_false fun e => (nomatch he.mpr e)]; rfl
  have hsz0 : its.toArray.size = xs.length := by rw [List.size_toArray, hle]
  have c0 : (decide (k < -(2 ^ 63)) || decide (k ≥ 2 ^ 63)) = false := by
    rw [decide_eq_false (by omega), decide_eq_false (by omega)] <;> rfl
  have sl16 : sizeLine = 16777216 := sizeLine_eq
  by_cases w : xs = [] ∨ k = 1
  · have c1 : (its.toArray.isEmpty || k == 1) = true := by
      rw [hi]
      rcases w with w | w
      · rw [decide_eq_true w]; rfl
      · rw [w]; simp
    refine wpAny_binaryOp_repeat_ref (T := "tuple") (U := "int") (by decide) ⟨_, ho, rfl⟩ (fun s' => typeIs_int s' k t) noFill_tuple_mul F.fills_int_mul F.slot_int_rmul repeat_tuple F.slot_int_index.lookup
      (call_meets F.slot_int_rmul (typeIs_int s k t) F.entry_int_rmul (F.args_int_rmul_2 _ _) (int_rmul_tuple k t l its.toArray n dd sl)
        ⟨ho, rfl, ⟨_, ho, rfl⟩, call_meets F.slot_tuple_mul ⟨_, ho, rfl⟩ F.entry_tuple_mul (F.args_tuple_mul_2 _ _) (tuple_mul1 l its.toArray n dd sl k t c0 c1) ⟨ho, ?_⟩⟩)
    exact ⟨.ref l, H, I, rfl, q1 w⟩
  · have w1 : xs ≠ [] := fun e => w (.inl e)
    have w2 : k ≠ 1 := fun e => w (.inr e)
    have c1 : (its.toArray.isEmpty || k == 1) = false := by
      rw [hi, decide_eq_false w1, Bool.false_or]
      exact beq_eq_false_iff_ne.mpr w2
    by_cases z : k ≤ 0
    · have c2 : (decide (k ≤ 0) || its.toArray.isEmpty) = true := by rw [decide_eq_true z]; rfl
      refine wpAny_binaryOp_repeat_ref (T := "tuple") (U := "int") (by decide) ⟨_, ho, rfl⟩ (fun s' => typeIs_int s' k t) noFill_tuple_mul F.fills_int_mul F.slot_int_rmul repeat_tuple F.slot_int_index.lookup
        (call_meets F.slot_int_rmul (typeIs_int s k t) F.entry_int_rmul (F.args_int_rmul_2 _ _) (int_rmul_tuple k t l its.toArray n dd sl)
          ⟨ho, rfl, ⟨_, ho, rfl⟩, call_meets F.slot_tuple_mul ⟨_, ho, rfl⟩ F.entry_tuple_mul (F.args_tuple_mul_2 _ _) (tuple_mul0 l its.toArray n dd sl k t c0 c1 c2) ⟨ho, ?_⟩⟩)
      have e0 : k.toNat = 0 := by omega
      have q2 := q2 w s.heap.objs.size (I.hok.fresh (Nat.le_refl _))
      rw [e0] at q2
      exact ⟨.ref s.heap.objs.size, _, I.laid (t' := s.toks) (o := .tup []) (fun b ob q => Heap.get?_push_of_some _ q) (Nat.le_refl _) ⟨Nat.zero_le _, [], .nil, IsTup.new _ _⟩, rfl, q2⟩
    · have c2 : (decide (k ≤ 0) || its.toArray.isEmpty) = false := by
        rw [hi, decide_eq_false w1, Bool.or_false]
        exact decide_eq_false z
      have hk : k = (k.toNat : Int) := by omega
      have hm : ((its.toArray.size : Nat) : Int) * k ≤ 16777200 := by
        rw [hsz0, hk, ← Int.natCast_mul]; omega
      have c4 : Builtin.Tuple.tupleTooMany (((its.toArray.size : Nat) : Int) * k) = false := by
        unfold Builtin.Tuple.tupleTooMany
        rw [sizeLine_eq]
        exact decide_eq_false (by omega)
      have flen : (List.replicate k.toNat its).flatten.length ≤ sizeLine := by
        rw [PyProof.Rows.lm_len_rep_flat, hle, Nat.mul_comm]
        omega
      refine wpAny_binaryOp_repeat_ref (T := "tuple") (U := "int") (by decide) ⟨_, ho, rfl⟩ (fun s' => typeIs_int s' k t) noFill_tuple_mul F.fills_int_mul F.slot_int_rmul repeat_tuple F.slot_int_index.lookup
        (call_meets F.slot_int_rmul (typeIs_int s k t) F.entry_int_rmul (F.args_int_rmul_2 _ _) (int_rmul_tuple k t l its.toArray n dd sl)
          ⟨ho, rfl, ⟨_, ho, rfl⟩, call_meets F.slot_tuple_mul ⟨_, ho, rfl⟩ F.entry_tuple_mul (F.args_tuple_mul_2 _ _) (tuple_mulW l its.toArray n dd sl k t c0 c1 c2 (by omega) c4 (by rw [size_rep, List.size_toArray]; exact flen)) ⟨ho, ?_⟩⟩)
      rw [size_rep]
      refine ⟨.ref s.heap.objs.size, _, I.laid (t' := s.toks) (o := .tup (List.replicate k.toNat xs).flatten) (fun b ob q => Heap.get?_push_of_some _ q) (Nat.le_refl _) ?_, rfl, q2 w _ (I.hok.fresh (Nat.le_refl _))⟩
      exact ⟨by rw [PyProof.Rows.lm_len_rep_flat, Nat.mul_comm]; omega, _, r.rep k.toNat, IsTup.new _ _⟩
end
end PM


namespace PD
open PySem PySem.Spec L2
open PyProof.Rows hiding St
/-! ### operators by values -/
section
variable {K : PySem.W.Frag} {mg : Str → Option Value} {μ : Mp} {h : MH} {H : Hp} {n : Nat}
theorem Good.notown (g : Good K mg μ h H) {p : Addr} (hp : H p = none) : ¬ own μ h.length p := fun w => by
  rcases w with w | ⟨i, hi, e⟩
  · obtain ⟨o, q⟩ := g.hid p w
    rw [hp] at q; cases q
  · obtain ⟨q, eq⟩ := (g.objs i _ (List.getElem?_eq_getElem hi)).there
    rw [e, hp] at eq; cases eq
/-- what a list that was made now brings -/
theorem newLst (g : Good K mg μ h H) {p : Addr} (hp : H p = none) {xs : List D} {vs : List V} (l : RepL K mg μ h.length H xs vs) :
    Step K μ h.length H μ h.length (upd H p (.lst vs)) ∧ Good K mg μ h (upd H p (.lst vs)) ∧ Rep K mg μ h.length (upd H p (.lst vs)) (.lst xs) (.ref p) ∧ Fresh K mg μ h.length H μ h (upd H p (.lst vs)) (.lst xs) (.ref p) := by
  have st : Step K μ h.length H μ h.length (upd H p (.lst vs)) := Step.new hp
  refine ⟨st, g.new hp, .lst ⟨upd_same, g.notown hp⟩ (l.step st), fun ys e => ?_⟩
  cases e
  exact ⟨H, p, vs, rfl, hp, rfl, Step.refl, g, l⟩
theorem newTup (g : Good K mg μ h H) {p : Addr} (hp : H p = none) {xs : List D} {vs : List V} (l : RepL K mg μ h.length H xs vs) :
    Step K μ h.length H μ h.length (upd H p (.tup vs)) ∧ Good K mg μ h (upd H p (.tup vs)) ∧ Rep K mg μ h.length (upd H p (.tup vs)) (.tup xs) (.ref p) := by
  have st : Step K μ h.length H μ h.length (upd H p (.tup vs)) := Step.new hp
  exact ⟨st, g.new hp, .tup (SqT.of upd_same) (l.step st)⟩
theorem notLst {fr : Bool} {μ' : Mp} {n : Nat} {h' : MH} {H' : Hp} {d : D} {v : V} (e : ∀ xs, d ≠ .lst xs) : fr = true → Fresh K mg μ n H μ' h' H' d v := fun _ xs q => absurd q (e xs)
theorem RepL.nil_iff {xs : List D} {vs : List V} (l : RepL K mg μ n H xs vs) : vs = [] ↔ xs = [] := by cases l <;> simp
theorem rep_rep {xs : List D} {vs : List V} (l : RepL K mg μ n H xs vs) : ∀ k : Nat, RepL K mg μ n H (repL xs k) (List.replicate k vs).flatten
  | 0 => .nil
  | k + 1 => by
    rw [List.replicate_succ, List.flatten_cons]
    exact l.append (rep_rep l k)
end
section
variable {X : Cx}
theorem add_lists {a b : Addr} {its its2 : List Value} {prog : Program} {w : World} {A : Around} {E : Value → Shared → Prop} {s : Shared} {Q : Value → Shared → Prop} (hl : PlainL s.heap a its.toArray) (hb : PlainL s.heap b its2.toArray)
    (h : Q (.ref s.heap.objs.size) { s with heap := s.heap.push { cls := .type "list", data := .seq (its ++ its2).toArray } }) (hsz : its.length + its2.length ≤ sizeLine) : wpAny (model prog w) A (binaryOp .Add (.ref a) (.ref b)) Q E s := by
  obtain ⟨⟨cls, dd, data, sl⟩, n, ho, hc, hd, hs⟩ := id hl
  obtain ⟨⟨cls2, dd2, data2, sl2⟩, n2, ho2, hc2, hd2, hs2⟩ := id hb
  simp only at hc hd hs hc2 hd2 hs2
  subst hc hd hs hc2 hd2 hs2
  have e : its.toArray ++ its2.toArray = (its ++ its2).toArray := by simp
  refine concat_meets ⟨_, ho, rfl⟩ ⟨_, ho2, rfl⟩ noFill_list_add seq_list_add PySem.F.slot_list_add PySem.F.entry_list_add (PySem.F.args_list_add_2 _ _) (PyProof.Rows.list_addW a b its.toArray its2.toArray n n2 none none sl sl2 (by simpa using hsz)) ⟨ho, ho2, ?_⟩
  rw [e]
  exact h
def rCatL (K : PySem.W.Frag) : R2 := fun x y H Q => ∃ l b xs zs, x = .ref l ∧ y = .ref b ∧ SqL K H l xs ∧ SqL K H b zs ∧ xs.length + zs.length ≤ sizeLine ∧ ∀ p, H p = none → Q (.ref p) (upd H p (.lst (xs ++ zs)))
theorem op_catL : OpR X (binaryOp .Add) (rCatL X.K) := by
  intro pins s σ H x y v u Q I rx ry h
  obtain ⟨l, b, xs, zs, rfl, rfl, hH, hB, hz, q⟩ := h
  cases rx
  cases ry
  obtain ⟨its, r, hl, _⟩ := I.list hH
  obtain ⟨its2, r2, hl2, _⟩ := I.list hB
  refine add_lists hl hl2 ?_ (by rw [← r.length, ← r2.length]; exact hz)
  exact ⟨.ref _, _, I.lnew (t' := s.toks) (r.append r2) (by rw [List.length_append]; omega), rfl, q _ I.fresh⟩

theorem add_look {h : MH} {x y d : D} (e : binop .add x y h = some d) :
    (∃ i j, x = .int i ∧ y = .int j ∧ d = .int (i + j)) ∨ (∃ s t, x = .str s ∧ y = .str t ∧ s.length + t.length ≤ sizeLine ∧ d = .str (s ++ t)) ∨ (∃ xs ys, x = .tup xs ∧ y = .tup ys ∧ xs.length + ys.length ≤ sizeLine ∧ d = .tup (xs ++ ys)) ∨
    (∃ xs ys, listy h x = some xs ∧ listy h y = some ys ∧ xs.length + ys.length ≤ sizeLine ∧ d = .lst (xs ++ ys)) := by
  have fin : (match listy h x, listy h y with
    | some xs, some ys => if xs.length + ys.length ≤ sizeLine then some (D.lst (xs ++ ys)) else none
    | _, _ => none) = some d → ∃ xs ys, listy h x = some xs ∧ listy h y = some ys ∧ xs.length + ys.length ≤ sizeLine ∧ d = .lst (xs ++ ys) := fun e => by
    cases e1 : listy h x with
    | none => rw [e1] at e; cases e
    | some xs =>
      cases e2 : listy h y with
      | none => rw [e1, e2] at e; cases e
      | some ys =>
        rw [e1, e2] at e
        have e : (if xs.length + ys.length ≤ sizeLine then some (D.lst (xs ++ ys)) else none) = some d := e
        by_cases z : xs.length + ys.length ≤ sizeLine
        · rw [if_pos z] at e; cases e; exact ⟨xs, ys, rfl, rfl, z, rfl⟩
        · rw [if_neg z] at e; cases e
  cases x with
  | int i => cases y with
    | int j => cases e; exact .inl ⟨i, j, rfl, rfl, rfl⟩
    | _ => exact .inr (.inr (.inr (fin e)))
  | str s => cases y with
    | str t =>
      have e : (if s.length + t.length ≤ sizeLine then some (D.str (s ++ t)) else none) = some d := e
      by_cases z : s.length + t.length ≤ sizeLine
      · rw [if_pos z] at e; cases e; exact .inr (.inl ⟨s, t, rfl, rfl, z, rfl⟩)
      · rw [if_neg z] at e; cases e
    | _ => exact .inr (.inr (.inr (fin e)))
  | tup xs => cases y with
    | tup ys =>
      have e : (if xs.length + ys.length ≤ sizeLine then some (D.tup (xs ++ ys)) else none) = some d := e
      by_cases z : xs.length + ys.length ≤ sizeLine
      · rw [if_pos z] at e; cases e; exact .inr (.inr (.inl ⟨xs, ys, rfl, rfl, z, rfl⟩))
      · rw [if_neg z] at e; cases e
    | _ => exact .inr (.inr (.inr (fin e)))
  | _ => exact .inr (.inr (.inr (fin (by cases y <;> exact e))))
theorem op_addD : OpR X (binaryOp .Add) (rD2 true X.K X.mg (binop .add)) := by
  intro pins s σ H x y v u Q I rx ry h
  obtain ⟨μ, h, dx, dy, d, g, r1, r2, e, q⟩ := h
  rcases add_look e with ⟨i, j, rfl, rfl, rfl⟩ | ⟨a, b, rfl, rfl, z, rfl⟩ | ⟨xs, ys, rfl, rfl, z, rfl⟩ | ⟨xs, ys, e1, e2, z, rfl⟩
  · cases r1; cases r2
    exact op_add pins s σ H _ _ v u Q I rx ry ⟨i, j, rfl, rfl, q _ H Step.refl g (.int _) (notLst nofun)⟩
  · cases r1; cases r2
    exact op_add_str pins s σ H _ _ v u Q I rx ry ⟨a, b, rfl, rfl, z, q _ H Step.refl g (.str _) (notLst nofun)⟩
  · cases r1 with
    | tup t1 l1 =>
      cases r2 with
      | tup t2 l2 =>
        refine op_catA pins s σ H _ _ v u Q I rx ry ⟨_, _, _, _, rfl, rfl, t1, t2, by rw [← l1.length, ← l2.length]; exact z, fun w => ?_, fun _ w => ?_, fun _ _ p hp => ?_⟩
        · have := l1.nil_iff.mp w
          subst this
          exact q _ H Step.refl g (.tup t2 l2) (notLst nofun)
        · have := l2.nil_iff.mp w
          subst this
          exact q _ H Step.refl g (by rw [List.append_nil]; exact .tup t1 l1) (notLst nofun)
        · obtain ⟨h1, h2, h3⟩ := newTup g hp (l1.append l2)
          exact q _ _ h1 h2 h3 (notLst nofun)
  · obtain ⟨a, vs, rfl, hx, l1⟩ := listAt g r1 e1
    obtain ⟨b, ws, rfl, hy, l2⟩ := listAt g r2 e2
    refine op_catL pins s σ H _ _ v u Q I rx ry ⟨a, b, vs, ws, rfl, rfl, hx, hy, by rw [← l1.length, ← l2.length]; exact z, fun p hp => ?_⟩
    obtain ⟨h1, h2, h3, h4⟩ := newLst g hp (l1.append l2)
    exact q _ _ h1 h2 h3 fun _ => h4
theorem op_subD : OpR X (binaryOp .Sub) (rD2 true X.K X.mg (binop .sub)) := by
  intro pins s σ H x y v u Q I rx ry h
  obtain ⟨μ, h, dx, dy, d, g, r1, r2, e, q⟩ := h
  cases dx <;> cases dy <;> try cases e
  cases r1; cases r2
  exact op_sub pins s σ H _ _ v u Q I rx ry ⟨_, _, rfl, rfl, q _ H Step.refl g (.int _) (notLst nofun)⟩
theorem op_fdivD : OpR X (binaryOp .FloorDiv) (rD2 true X.K X.mg (binop .fdiv)) := by
  intro pins s σ H x y v u Q I rx ry h
  obtain ⟨μ, h, dx, dy, d, g, r1, r2, e, q⟩ := h
  cases dx <;> cases dy <;> try cases e
  cases r1; cases r2
  rename_i i j
  have e : (if j ≠ 0 ∧ j.natAbs < 1073741824 then some (D.int (i.fdiv j)) else none) = some d := e
  by_cases z : j ≠ 0 ∧ j.natAbs < 1073741824
  · rw [if_pos z] at e; cases e
    exact op_fdivN pins s σ H _ _ v u Q I rx ry ⟨_, _, rfl, rfl, z, q _ H Step.refl g (.int _) (notLst nofun)⟩
  · rw [if_neg z] at e; cases e
theorem op_modD : OpR X (binaryOp .Mod) (rD2 true X.K X.mg (binop .mod)) := by
  intro pins s σ H x y v u Q I rx ry h
  obtain ⟨μ, h, dx, dy, d, g, r1, r2, e, q⟩ := h
  cases dx <;> cases dy <;> try cases e
  cases r1; cases r2
  rename_i i j
  have e : (if j ≠ 0 then some (D.int (i.fmod j)) else none) = some d := e
  by_cases z : j ≠ 0
  · rw [if_pos z] at e; cases e
    exact op_modN pins s σ H _ _ v u Q I rx ry ⟨_, _, rfl, rfl, z, q _ H Step.refl g (.int _) (notLst nofun)⟩
  · rw [if_neg z] at e; cases e
theorem op_powD : OpR X (binaryOp .Pow) (rD2 true X.K X.mg (binop .pow)) := by
  intro pins s σ H x y v u Q I rx ry h
  obtain ⟨μ, h, dx, dy, d, g, r1, r2, e, q⟩ := h
  cases dx <;> cases dy <;> try cases e
  cases r1; cases r2
  rename_i i j
  have e : (if 0 ≤ j ∧ j ≤ 1000000 ∧ i.natAbs < 2 ^ 64 then some (D.int (i ^ j.toNat)) else none) = some d := e
  by_cases z : 0 ≤ j ∧ j ≤ 1000000 ∧ i.natAbs < 2 ^ 64
  · rw [if_pos z] at e; cases e
    exact op_pow pins s σ H _ _ v u Q I rx ry ⟨_, _, rfl, rfl, z, q _ H Step.refl g (.int _) (notLst nofun)⟩
  · rw [if_neg z] at e; cases e
theorem op_mulD : OpR X (binaryOp .Mult) (rD2 true X.K X.mg (binop .mul)) := by
  intro pins s σ H x y v u Q I rx ry h
  obtain ⟨μ, h, dx, dy, d, g, r1, r2, e, q⟩ := h
  cases dx <;> cases dy <;> try cases e
  · cases r1; cases r2
    rename_i i j
    have e : (if (small i || small j) = true then some (D.int (i * j)) else none) = some d := e
    by_cases z : (small i || small j) = true
    · rw [if_pos z] at e; cases e
      refine op_mul pins s σ H _ _ v u Q I rx ry ⟨_, _, rfl, rfl, ?_, q _ H Step.refl g (.int _) (notLst nofun)⟩
      simp only [small, Bool.or_eq_true, Bool.and_eq_true, decide_eq_true_eq] at z
      exact z
    · rw [if_neg z] at e; cases e
  · rename_i xs k
    have e : (if -(2 ^ 63) ≤ k ∧ k < 2 ^ 63 ∧ xs.length * k.toNat + 16 ≤ sizeLine then some (D.tup (repL xs k.toNat)) else none) = some d := e
    by_cases z : -(2 ^ 63) ≤ k ∧ k < 2 ^ 63 ∧ xs.length * k.toNat + 16 ≤ sizeLine
    · rw [if_pos z] at e; cases e
      cases r1 with
      | tup z1 l1 =>
        cases r2
        refine PM.op_mulT pins s σ H _ _ v u Q I rx ry ⟨_, k, _, rfl, rfl, z1, z.1, z.2.1, by rw [← l1.length]; exact z.2.2, fun w => ?_, fun w p hp => ?_⟩
        · refine q _ H Step.refl g ?_ (notLst nofun)
          rcases w with w | w
          · have := l1.nil_iff.mp w
            subst this
            have e0 : ∀ j, repL ([] : List D) j = [] := fun j => by induction j with
              | zero => rfl
              | succ j ih => show [] ++ repL [] j = []; rw [ih]; rfl
            rw [e0]
            exact .tup z1 l1
          · subst w
            show Rep _ _ _ _ _ (.tup (repL xs 1)) _
            have e1 : repL xs 1 = xs := by show xs ++ [] = xs; simp
            rw [e1]
            exact .tup z1 l1
        · obtain ⟨h1, h2, h3⟩ := newTup g hp (rep_rep l1 k.toNat)
          exact q _ _ h1 h2 h3 (notLst nofun)
    · rw [if_neg z] at e; cases e
  · rename_i xs k
    have e : (if -(2 ^ 63) ≤ k ∧ k < 2 ^ 63 ∧ xs.length * k.toNat ≤ sizeLine then some (D.lst (repL xs k.toNat)) else none) = some d := e
    by_cases z : -(2 ^ 63) ≤ k ∧ k < 2 ^ 63 ∧ xs.length * k.toNat ≤ sizeLine
    · rw [if_pos z] at e; cases e
      cases r1 with
      | lst z1 l1 =>
        cases r2
        refine op_rep pins s σ H _ _ v u Q I rx ry ⟨_, k, _, rfl, rfl, z1.1, z.1, z.2.1, by rw [← l1.length]; exact z.2.2, fun p hp => ?_⟩
        obtain ⟨h1, h2, h3, h4⟩ := newLst g hp (rep_rep l1 k.toNat)
        exact q _ _ h1 h2 h3 fun _ => h4
    · rw [if_neg z] at e; cases e
def opOf : BOp → Operator
  | .add => .Add
  | .sub => .Sub
  | .mul => .Mult
  | .fdiv => .FloorDiv
  | .mod => .Mod
  | .pow => .Pow
theorem op_D (o : BOp) : OpR X (binaryOp (opOf o)) (rD2 true X.K X.mg (binop o)) := by
  cases o
  · exact op_addD
  · exact op_subD
  · exact op_mulD
  · exact op_fdivD
  · exact op_modD
  · exact op_powD
/-! ### comparisons by values -/
def rC2 (K : PySem.W.Frag) (mg : Str → Option Value) (f : D → D → MH → Option Bool) : R2 := fun x y H Q => ∃ μ h dx dy b, Good K mg μ h H ∧ Rep K mg μ h.length H dx x ∧ Rep K mg μ h.length H dy y ∧ f dx dy h = some b ∧ Q (.bl b) H
def copOf : COp → CmpOp
  | .eq => .Eq
  | .ne => .NotEq
  | .lt => .Lt
  | .le => .LtE
  | .gt => .Gt
  | .ge => .GtE
  | .is => .Is
  | .isn => .IsNot
  | .mem => .In
  | .nmem => .NotIn
theorem eqd_look0 {h : MH} {x y : D} {b : Bool} (e : eqd.eqd0 h x y = some b) : ∃ p q, dat1 h x = some p ∧ dat1 h y = some q ∧ SeqAt.shaped p = true ∧ SeqAt.shaped q = true ∧ b = PyData.eqv p q := by
  unfold eqd.eqd0 at e
  cases e1 : dat1 h x with
  | none => rw [e1] at e; cases e
  | some p =>
    cases e2 : dat1 h y with
    | none => rw [e1, e2] at e; cases e
    | some q =>
      rw [e1, e2] at e
      have e : (if (SeqAt.shaped p && SeqAt.shaped q) = true then some (PyData.eqv p q) else none) = some b := e
      by_cases z : (SeqAt.shaped p && SeqAt.shaped q) = true
      · rw [if_pos z] at e; cases e
        rw [Bool.and_eq_true] at z
        exact ⟨p, q, rfl, rfl, z.1, z.2, rfl⟩
      · rw [if_neg z] at e; cases e
theorem eqd_look {h : MH} {x y : D} {b : Bool} (e : eqd h x y = some b) : (∃ s t, x = .str s ∧ y = .str t ∧ b = decide (s = t)) ∨ ∃ p q, dat1 h x = some p ∧ dat1 h y = some q ∧ SeqAt.shaped p = true ∧ SeqAt.shaped q = true ∧ b = PyData.eqv p q := by
  unfold eqd at e
  split at e
  · cases e; exact .inl ⟨_, _, rfl, rfl, rfl⟩
  · exact .inr (eqd_look0 e)
theorem is_none_look {K : PySem.W.Frag} {mg : Str → Option Value} {μ : Mp} {n : Nat} {H : Hp} {d : D} {v : V} (r : Rep K mg μ n H d v) : isNon d = decide (v = .non) := by
  cases r <;> simp [isNon]
theorem op_isND : OpR X (compareOp .Is) (rC2 X.K X.mg (cmpop .is)) := by
  intro pins s σ H x y v u Q I rx ry h
  obtain ⟨μ, h, dx, dy, b, g, r1, r2, e, q⟩ := h
  cases dy with
  | non =>
    cases r2
    have e : some (isNon dx) = some b := by cases dx <;> exact e
    have e := Option.some.inj e
    rw [is_none_look r1] at e
    subst e
    exact op_isN pins s σ H x .non v u Q I rx ry ⟨rfl, q⟩
  | bl c =>
    cases dx with
    | bl a =>
      cases e
      cases r1; cases r2
      cases rx; cases ry
      exact is_bool ⟨.bl _, H, I, rfl, q⟩
    | _ => cases e
  | _ => cases dx <;> cases e
theorem op_isnND : OpR X (compareOp .IsNot) (rC2 X.K X.mg (cmpop .isn)) := by
  intro pins s σ H x y v u Q I rx ry h
  obtain ⟨μ, h, dx, dy, b, g, r1, r2, e, q⟩ := h
  cases dy with
  | non =>
    cases r2
    have e : some (!isNon dx) = some b := by cases dx <;> exact e
    have e := Option.some.inj e
    rw [is_none_look r1] at e
    subst e
    exact op_notN pins s σ H x .non v u Q I rx ry ⟨rfl, q⟩
  | bl c =>
    cases dx with
    | bl a =>
      cases e
      cases r1; cases r2
      cases rx; cases ry
      exact isnot_bool ⟨.bl _, H, I, rfl, q⟩
    | _ => cases e
  | _ => cases dx <;> cases e
theorem op_eqND (hu : X.A.units + 65 < cLine) : OpR X (compareOp .Eq) (rC2 X.K X.mg (cmpop .eq)) := by
  intro pins s σ H x y v u Q I rx ry h
  obtain ⟨μ, h, dx, dy, b, g, r1, r2, e, q⟩ := h
  rcases eqd_look e with ⟨s1, t1, rfl, rfl, rfl⟩ | ⟨p, p', e1, e2, s1, s2, rfl⟩
  · cases r1; cases r2
    have z : decide (s1 = t1) = decide (V.str s1 = V.str t1) := by simp
    rw [z] at q
    exact op_eq pins s σ H _ _ v u Q I rx ry ⟨rfl, q⟩
  exact op_eqD (by omega) pins s σ H x y v u Q I rx ry ⟨p, p', dat1_dp g r1 e1, dat1_dp g r2 e2, s1, s2, q⟩
theorem op_neND (hu : X.A.units + 65 < cLine) : OpR X (compareOp .NotEq) (rC2 X.K X.mg (cmpop .ne)) := by
  intro pins s σ H x y v u Q I rx ry h
  obtain ⟨μ, h, dx, dy, b, g, r1, r2, e, q⟩ := h
  obtain ⟨c, e', rfl⟩ := Option.map_eq_some_iff.mp (show (eqd h dx dy).map not = some b from e)
  rcases eqd_look e' with ⟨s1, t1, rfl, rfl, rfl⟩ | ⟨p, p', e1, e2, s1, s2, rfl⟩
  · cases r1; cases r2
    have z : decide (s1 = t1) = decide (V.str s1 = V.str t1) := by simp
    rw [z] at q
    exact op_ne pins s σ H _ _ v u Q I rx ry ⟨rfl, q⟩
  exact op_neD (by omega) pins s σ H x y v u Q I rx ry ⟨p, p', dat1_dp g r1 e1, dat1_dp g r2 e2, s1, s2, q⟩
theorem op_ltND : OpR X (compareOp .Lt) (rC2 X.K X.mg (cmpop .lt)) := by
  intro pins s σ H x y v u Q I rx ry h
  obtain ⟨μ, h, dx, dy, b, g, r1, r2, e, q⟩ := h
  cases dx <;> cases dy <;> cases e
  cases r1; cases r2
  exact op_lt pins s σ H _ _ v u Q I rx ry ⟨_, _, rfl, rfl, q⟩
theorem op_leND : OpR X (compareOp .LtE) (rC2 X.K X.mg (cmpop .le)) := by
  intro pins s σ H x y v u Q I rx ry h
  obtain ⟨μ, h, dx, dy, b, g, r1, r2, e, q⟩ := h
  cases dx <;> cases dy <;> cases e
  cases r1; cases r2
  exact op_le pins s σ H _ _ v u Q I rx ry ⟨_, _, rfl, rfl, q⟩
theorem op_gtND : OpR X (compareOp .Gt) (rC2 X.K X.mg (cmpop .gt)) := by
  intro pins s σ H x y v u Q I rx ry h
  obtain ⟨μ, h, dx, dy, b, g, r1, r2, e, q⟩ := h
  cases dx <;> cases dy <;> cases e
  cases r1; cases r2
  exact op_gt pins s σ H _ _ v u Q I rx ry ⟨_, _, rfl, rfl, q⟩
theorem op_geND : OpR X (compareOp .GtE) (rC2 X.K X.mg (cmpop .ge)) := by
  intro pins s σ H x y v u Q I rx ry h
  obtain ⟨μ, h, dx, dy, b, g, r1, r2, e, q⟩ := h
  cases dx <;> cases dy <;> cases e
  cases r1; cases r2
  exact op_ge pins s σ H _ _ v u Q I rx ry ⟨_, _, rfl, rfl, q⟩
theorem mem_look {h : MH} {x y : D} {b : Bool} (e : cmpop.memd h x y = some b) :
    (∃ s t, x = .str s ∧ y = .str t ∧ b = !(Builtin.Str.occurrences t s 0 t.length 1).isEmpty) ∨
    (∃ d ds, dat1 h x = some d ∧ dat1 h y = some (.list ds) ∧ SeqAt.shaped d = true ∧ SeqAt.shaped (.list ds) = true ∧ b = ds.any fun z => PyData.eqv z d) ∨
    (∃ d ds, dat1 h x = some d ∧ dat1 h y = some (.tuple ds) ∧ SeqAt.shaped d = true ∧ SeqAt.shaped (.tuple ds) = true ∧ b = ds.any fun z => PyData.eqv z d) := by
  have fin : (match dat1 h x, dat1 h y with
      | some d, some (.list ds) => if (SeqAt.shaped d && SeqAt.shaped (.list ds)) = true then some (ds.any fun z => PyData.eqv z d) else none
      | some d, some (.tuple ds) => if (SeqAt.shaped d && SeqAt.shaped (.tuple ds)) = true then some (ds.any fun z => PyData.eqv z d) else none
      | _, _ => none) = some b → (∃ d ds, dat1 h x = some d ∧ dat1 h y = some (.list ds) ∧ SeqAt.shaped d = true ∧ SeqAt.shaped (.list ds) = true ∧ b = ds.any fun z => PyData.eqv z d) ∨
    (∃ d ds, dat1 h x = some d ∧ dat1 h y = some (.tuple ds) ∧ SeqAt.shaped d = true ∧ SeqAt.shaped (.tuple ds) = true ∧ b = ds.any fun z => PyData.eqv z d) := fun e => by
    cases e1 : dat1 h x with
    | none => rw [e1] at e; cases e
    | some d =>
      cases e2 : dat1 h y with
      | none => rw [e1, e2] at e; cases e
      | some p =>
        rw [e1, e2] at e
        cases p with
        | list ds =>
          have e : (if (SeqAt.shaped d && SeqAt.shaped (.list ds)) = true then some (ds.any fun z => PyData.eqv z d) else none) = some b := e
          by_cases z : (SeqAt.shaped d && SeqAt.shaped (.list ds)) = true
          · rw [if_pos z] at e; cases e
            rw [Bool.and_eq_true] at z
            exact .inl ⟨d, ds, rfl, rfl, z.1, z.2, rfl⟩
          · rw [if_neg z] at e; cases e
        | tuple ds =>
          have e : (if (SeqAt.shaped d && SeqAt.shaped (.tuple ds)) = true then some (ds.any fun z => PyData.eqv z d) else none) = some b := e
          by_cases z : (SeqAt.shaped d && SeqAt.shaped (.tuple ds)) = true
          · rw [if_pos z] at e; cases e
            rw [Bool.and_eq_true] at z
            exact .inr ⟨d, ds, rfl, rfl, z.1, z.2, rfl⟩
          · rw [if_neg z] at e; cases e
        | _ => cases e
  cases x with
  | str s => cases y with
    | str t => cases e; exact .inl ⟨s, t, rfl, rfl, rfl⟩
    | _ => exact .inr (fin e)
  | _ => exact .inr (fin (by cases y <;> exact e))
theorem op_inND (hu : X.A.units + 65 < cLine) : OpR X (compareOp .In) (rC2 X.K X.mg (cmpop .mem)) := by
  intro pins s σ H x y v u Q I rx ry h
  obtain ⟨μ, h, dx, dy, b, g, r1, r2, e, q⟩ := h
  rcases mem_look e with ⟨a, c, rfl, rfl, rfl⟩ | ⟨d, ds, e1, e2, s1, s2, rfl⟩ | ⟨d, ds, e1, e2, s1, s2, rfl⟩
  · cases r1; cases r2
    exact op_in_str pins s σ H _ _ v u Q I rx ry ⟨_, _, rfl, rfl, q⟩
  · obtain ⟨as, r1⟩ := Dp.reads I d x v (dat1_dp g r1 e1) rx
    obtain ⟨bs, r2⟩ := Dp.reads I _ y u (dat1_dp g r2 e2) ry
    exact SeqAt.in_list_reads r2 r1 (SeqAt.canLay_of_shaped s2) (SeqAt.canLay_of_shaped s1) (room_in_shaped s1 hu) ⟨.bl _, H, I, rfl, q⟩
  · obtain ⟨as, r1⟩ := Dp.reads I d x v (dat1_dp g r1 e1) rx
    obtain ⟨bs, r2⟩ := Dp.reads I _ y u (dat1_dp g r2 e2) ry
    exact SeqAt.in_tuple_reads r2 r1 (SeqAt.canLay_of_shaped s2) (SeqAt.canLay_of_shaped s1) (room_in_shaped s1 hu) ⟨.bl _, H, I, rfl, q⟩
theorem op_ninND (hu : X.A.units + 65 < cLine) : OpR X (compareOp .NotIn) (rC2 X.K X.mg (cmpop .nmem)) := by
  intro pins s σ H x y v u Q I rx ry h
  obtain ⟨μ, h, dx, dy, b, g, r1, r2, e, q⟩ := h
  obtain ⟨c, e', rfl⟩ := Option.map_eq_some_iff.mp (show (cmpop.memd h dx dy).map not = some b from e)
  rcases mem_look e' with ⟨a, c, rfl, rfl, rfl⟩ | ⟨d, ds, e1, e2, s1, s2, rfl⟩ | ⟨d, ds, e1, e2, s1, s2, rfl⟩
  · cases r1; cases r2
    exact op_notin_str pins s σ H _ _ v u Q I rx ry ⟨_, _, rfl, rfl, q⟩
  · obtain ⟨as, r1⟩ := Dp.reads I d x v (dat1_dp g r1 e1) rx
    obtain ⟨bs, r2⟩ := Dp.reads I _ y u (dat1_dp g r2 e2) ry
    exact SeqAt.notIn_list_reads r2 r1 (SeqAt.canLay_of_shaped s2) (SeqAt.canLay_of_shaped s1) (room_in_shaped s1 hu) ⟨.bl _, H, I, rfl, q⟩
  · obtain ⟨as, r1⟩ := Dp.reads I d x v (dat1_dp g r1 e1) rx
    obtain ⟨bs, r2⟩ := Dp.reads I _ y u (dat1_dp g r2 e2) ry
    exact SeqAt.notIn_tuple_reads r2 r1 (SeqAt.canLay_of_shaped s2) (SeqAt.canLay_of_shaped s1) (room_in_shaped s1 hu) ⟨.bl _, H, I, rfl, q⟩
theorem cop_D (hu : X.A.units + 65 < cLine) (o : COp) : OpR X (compareOp (copOf o)) (rC2 X.K X.mg (cmpop o)) := by
  cases o
  · exact op_eqND hu
  · exact op_neND hu
  · exact op_ltND
  · exact op_leND
  · exact op_gtND
  · exact op_geND
  · exact op_isND
  · exact op_isnND
  · exact op_inND hu
  · exact op_ninND hu
/-! ### subscripts by values -/
theorem RepL.atI {K : PySem.W.Frag} {mg : Str → Option Value} {μ : Mp} {n : Nat} {H : Hp} {xs : List D} {vs : List V} {i : Int} {d : D} (l : RepL K mg μ n H xs vs) (e : L2.atI xs i = some d) : ∃ v, L2.atI vs i = some v ∧ Rep K mg μ n H d v := by
  unfold L2.atI at e ⊢
  rw [← l.length]
  cases q : ixN xs.length i with
  | none => rw [q] at e; cases e
  | some j =>
    rw [q] at e
    exact l.get e
end
end PD


namespace PM
open PySem PySem.Spec PyProof.Rows L2
open PySem.W (KdlSrc kdl_extend kdl_values)
/-! ### tuple(d.values()) -/
section
variable {prog : Program} {w : World} {A : Around} {E : Value → Shared → Prop} {s : Shared} {T : String} {r d : Addr} {n : Nat} {Pv : Nat → Value → Prop} {OK : Heap → Prop}
theorem collect_kdl {Q : List Value → Shared → Prop} (K : KdlSrc prog w T r d n Pv OK) (hh : A.handled = none) (hok : OK s.heap) (hn : n ≤ sizeLine)
    (hQ : ∀ (h' : Heap) (tk : Nat) (acc : Array Value), (∀ b o, s.heap.get? b = some o → h'.get? b = some o) → ItemsOf Pv acc n → Q acc.toList { s with heap := h', toks := tk }) :
    wpAny (model prog w) A (collect (.ref r)) Q E s := by
  unfold collect
  refine wpAny_bind (wpAny_runValue (codeAny_builtin F.entry_proto_collect ?_))
  rw [Around.under_plainId F.plain_proto_collect _]
  show wpAny _ A.in1 (newList [] >>= fun l => again (.builtin "list.__iadd__" ⟨[l, .ref r], []⟩)) _ _ s
  refine wpAny_bind (wpAny_newObj_type ?_)
  refine wpAny_pure ⟨plainId_quiet F.plain_list_iadd _, codeAny_builtin F.entry_list_iadd ?_⟩
  rw [Around.under_plainId F.plain_list_iadd _]
  show wpAny _ A.in1 (Builtin.List.listExtendWith (.ref s.heap.objs.size) (.ref r) (.ref s.heap.objs.size)) _ _ _
  have hS : (s.heap.push { cls := .type "list", data := .seq ([] : List Value).toArray }).get? s.heap.objs.size = some { cls := .type "list", data := .seq #[] 0 } := Heap.get?_push_size _ rfl
  have hlt := K.there _ hok
  refine wpAny_mono (kdl_extend (A := A) (R := fun rr s' => rr = .ok (.ret (.ref s.heap.objs.size)) ∧ ∃ (h' : Heap) (tk : Nat) (acc : Array Value) (c' : Nat), s' = { s with heap := h', toks := tk } ∧
      (∀ b o, s.heap.get? b = some o → h'.get? b = some o) ∧ h'.get? s.heap.objs.size = some { cls := .type "list", dict := none, data := .seq acc c', slots := #[] } ∧ ItemsOf Pv acc n)
    (s := { s with heap := s.heap.push { cls := .type "list", data := .seq ([] : List Value).toArray } }) K hh (K.keep _ _ hok fun b _ o e => Heap.get?_push_of_some _ e) s.heap.objs.size (Nat.ne_of_gt hlt.1) (Nat.ne_of_gt hlt.2) _ 0 hS
    (fun h' tk acc c' hk e hi => ⟨rfl, h', tk, acc, c', rfl, fun b o q => hk b o (Nat.ne_of_lt (Heap.lt_size q)) (Heap.get?_push_of_some _ q), e, hi⟩) hn) (fun fin s' h => ?_) (fun e s' h => ?_)
  · cases fin with
    | done f =>
      obtain ⟨e, h', tk, acc, c', rfl, hk, hS', hi⟩ := h
      cases e
      show wpAny _ A (load s.heap.objs.size >>= _) _ _ _
      exact wpAny_bind (wpAny_load hS' (wpAny_pure (hQ h' tk acc hk hi)))
    | again c' =>
      refine ⟨h.1, codeAny_mono h.2 fun rr s'' hr' => ?_⟩
      obtain ⟨rfl, h', tk, acc, c', rfl, hk, hS', hi⟩ := hr'
      show wpAny _ A (load s.heap.objs.size >>= _) _ _ _
      exact wpAny_bind (wpAny_load hS' (wpAny_pure (hQ h' tk acc hk hi)))
  · exact absurd h.1 (by simp)
theorem code_tuple_kdl {Q₁ : Value → Shared → Prop} (K : KdlSrc prog w T r d n Pv OK) (hT : (Value.type T == Value.type "tuple") = false) (hh : A.handled = none) (hok : OK s.heap) (hn : n ≤ sizeLine)
    (h : ∀ (h' : Heap) (tk : Nat) (acc : Array Value), (∀ b o, s.heap.get? b = some o → h'.get? b = some o) → ItemsOf Pv acc n →
      Q₁ (.ref h'.objs.size) { s with heap := h'.push { cls := .type "tuple", data := .seq acc }, toks := tk }) :
    codeAny (model prog w) A (.call (.builtin "tuple.__new__") ⟨[.type "tuple", .ref r], []⟩) (wants Q₁ E) s := by
  refine codeAny_of_tree ?_
  show wpAny _ A.in1 (do checkBuiltinCall "tuple.__new__" ⟨[.type "tuple", .ref r], []⟩; again (.builtin "tuple.__new__" ⟨[.type "tuple", .ref r], []⟩)) _ _ s
  refine wpAny_bind (wpAny_of_eq (F.newCall_tuple_1 _) (wpAny_pure ⟨plainId_quiet F.plain_tuple_new _, codeAny_builtin F.entry_tuple_new ?_⟩))
  rw [Around.under_plainId F.plain_tuple_new _]
  have hsub := sub_tuple_self
  have hinit := init_tuple_lookup
  have hmh := madeHere_tuple
  have hTI : s.TypeIs (.ref r) T := K.type s hok
  have hh1 : A.in1.handled = none := hh
  wp_walk using wpAny_typeOf hTI, collect_kdl (A := A.in1) K hh1 hok hn
  intro h' tk acc hk hacc
  show wpAny _ _ (Builtin.Tuple.tupleExact acc.toList.toArray >>= fun v => ret v) _ _ _
  unfold Builtin.Tuple.tupleExact
  refine wpAny_bind (wpAny_newObj_type ?_ (by show acc.toList.toArray.size ≤ sizeLine; simp only [Array.toArray_toList]; rw [hacc.1]; exact hn))
  refine wpAny_pure ?_
  have e : acc.toList.toArray = acc := by simp
  rw [e]
  exact h h' tk acc hk hacc
theorem call_tuple_kdl {Q : Value → Shared → Prop} (K : KdlSrc prog w T r d n Pv OK) (hh : A.handled = none) (hok : OK s.heap) (hn : n ≤ sizeLine)
    (hQ : ∀ (h' : Heap) (tk : Nat) (acc : Array Value), (∀ b o, s.heap.get? b = some o → h'.get? b = some o) → ItemsOf Pv acc n →
      Q (.ref h'.objs.size) { s with heap := h'.push { cls := .type "tuple", data := .seq acc }, toks := tk }) :
    wpAny (model prog w) A (call (.type "tuple") [.ref r]) Q E s := by
  refine callType_codes (Q₁ := fun obj s₁ => s₁.TypeIs obj "tuple" ∧ Q obj s₁) F.called_tuple (F.typeCall_tuple_1 _) F.entry_object_init
    (code_tuple_kdl (A := A.in1) K K.notTuple hh hok hn fun h' tk acc hk hacc => ⟨⟨_, Heap.get?_push_size _ rfl, rfl⟩, hQ h' tk acc hk hacc⟩) fun obj s₁ h₁ => ?_
  exact ⟨h₁.1, F.args_object_init_2 obj _, object_init_meets F.called_tuple.init.lookup F.called_tuple.made (by decide) prog w A.in1 _ s₁ ⟨h₁.1, rfl, h₁.2⟩⟩
end
/-- tuple(o.values()) -/
def tTupVals (td : TE) : TE := fun σ H Q => td σ H fun x H1 => ∃ a kvs, x = V.ref a ∧ H1 a = some (.dK kvs) ∧ kvs.length ≤ sizeLine ∧ ∀ p, H1 p = none → Q (.ref p) (upd H1 p (.tup (kvs.map (·.2))))
section
variable {X : Cx} {o : Expr} {p pos apos mpos : Pos} {td : TE}
theorem pe_tupVals (hc : X.calm = true) (hg : Gl X "tuple") (hm : X.mg "tuple" = none) (hd : PE X o td) (hbase : attributeBase o "values" X.env (eval o X.env) = eval o X.env) (hline : (apos.endLine == mpos.line) = true)
    (hse : starEach [Expr.Call (.Attribute o "values" apos) [] [] mpos] X.env = [(false, eval (Expr.Call (.Attribute o "values" apos) [] [] mpos) X.env)] := by rfl) :
    PE X (.Call (.Name "tuple" p) [.Call (.Attribute o "values" apos) [] [] mpos] [] pos) (tTupVals td) := by
  refine ⟨fun pins s σ H Q I h => ?_⟩
  refine wpAny_Call_Name_kw (ld_blt I hg hm (u := .type "tuple") (by first | rfl | decide +kernel) ?_ (by first | decide +kernel | decide) (by first | decide +kernel | decide))
  rw [hse]
  refine PySem.callWith_type1 (wpAny_Call_method0_late hbase hline (thn (hd.run pins s σ H _ I h) fun v s1 ⟨x, H1, I1, r1, a, kvs, ex, ha, hz, q⟩ => ?_))
  subst ex
  obtain rfl : v = Value.ref a := r1
  obtain ⟨_, hsys, vs, rel, dof⟩ := dk_of I1.hok ha
  obtain ⟨ep, dat⟩ := dof.dictAt
  have dat' := dat
  obtain ⟨ob, es, ho, ex, hdat, hko, hpr, hnd⟩ := dat'
  refine ⟨"dict", "dict.values", F.plainAttrs_dict, F.slot_dict_values, F.type_dict_values, ⟨ob, ho, ex.1⟩, fun b e => ?_, Calls.callWith_builtin rfl (PySem.evalArgs_none ?_)⟩
  · cases e
    exact ⟨ob, ho, ex.2.1⟩
  refine call_meetsIn F.slot_dict_values ⟨ob, ho, ex.1⟩ F.entry_dict_values (F.args_dict_values_1 _) (meets_dict_values (mixKind X.prog X.w) a hsys) ⟨⟨vs, dof⟩, ?_⟩
  have k1 : ∀ b u, s1.heap.get? b = some u → (s1.heap.push { cls := .type "dict_values", data := .fields #[.ref a] }).get? b = some u := fun b u e => Heap.get?_push_of_some _ e
  have dat1 : (s1.heap.push { cls := .type "dict_values", data := .fields #[.ref a] }).DictAt (mixKind X.prog X.w) a vs ep := dat.keep k1
  have hl : kvs.length = vs.length := KV.length rel
  refine call_tuple_kdl (s := { s1 with heap := s1.heap.push { cls := .type "dict_values", data := .fields #[.ref a] } }) (kdl_values (knd := mixKind X.prog X.w) (r := s1.heap.objs.size) (d := a) (kvs := vs) (ep := ep)) (I.ok.hd hc) ⟨⟨_, Heap.get?_push_size _ rfl, rfl, rfl⟩, dat1⟩ (by omega) fun h' tk acc hk hacc => ?_
  have I2 : Inv X pins σ H1 { s1 with heap := h', toks := tk } := I1.kept (t' := tk) fun b u e => hk b u (k1 b u e)
  have hv : Vals (kvs.map (·.2)) acc.toList := by
    have key : ∀ (xs : List V) (us : List Value), xs.length = us.length → (∀ (j : Nat) (x : V) (u : Value), xs[j]? = some x → us[j]? = some u → RelV x u) → Vals xs us := by
      intro xs
      induction xs with
      | nil => intro us e _; cases us with
        | nil => exact .nil
        | cons _ _ => cases e
      | cons x xs ih => intro us e h; cases us with
        | nil => cases e
        | cons u us => exact .cons (h 0 x u rfl rfl) (ih us (Nat.succ.inj e) fun j y w h1 h2 => h (j + 1) y w (by simpa using h1) (by simpa using h2))
    refine key _ _ (by rw [List.length_map, hl]; exact hacc.1.symm) fun j x u hx hu => ?_
    rw [Array.getElem?_toList] at hu
    obtain ⟨k, hk⟩ := hacc.2 j u hu
    obtain ⟨y, h1, h2⟩ := KV.at' rel hk
    rw [List.getElem?_map, h1] at hx
    cases hx
    exact h2
  refine ⟨.ref h'.objs.size, upd H1 h'.objs.size (.tup (kvs.map (·.2))), I2.laid (t' := tk) (fun b o e => Heap.get?_push_of_some _ e) (Nat.le_refl _) (show ObjOk X.prog X.w _ _ _ (.tup (kvs.map (·.2))) from ⟨by rw [List.length_map]; exact hz, acc.toList, hv, ?_⟩), rfl, q _ (I2.hok.fresh (Nat.le_refl _))⟩
  have := IsTup.new h' acc
  simpa using this
end
end PM


namespace PM
open PySem PySem.Spec L2
open PyProof.Rows hiding St
/-! ### sum(lists, []) -/
section
variable {prog : Program} {w : World} {A : Around} {R : Result → Shared → Prop} {I : Addr} {n : Nat}
theorem code_sum_lists (hh : A.in1.handled = none) {ax : Addr} (hax : ax ≠ I) (ads : List Addr) (its : List (List Value)) (hn : its.length = n) (hna : ads.length = n) (S : Addr) (hSI : S ≠ I) (hSx : S ≠ ax) (h0 : Heap)
    (hitem : ∀ (i : Nat) ad xs, ads[i]? = some ad → its[i]? = some xs → ad ≠ S ∧ ad ≠ I ∧ PlainL h0 ad xs.toArray) :
    ∀ (k i : Nat) (s : Shared) (acc : Addr) (accs : List Value) (c : Nat) (stage : Int), n - i = k → i ≤ n → s.heap.IsListIter I ax i → s.heap.IsList ax (ads.map Value.ref).toArray → (∀ b o, b ≠ S → b ≠ I → h0.get? b = some o → s.heap.get? b = some o) →
    s.heap.get? S = some { cls := .type "list", dict := none, data := .seq #[.ref acc] c, slots := #[] } → PlainL s.heap acc accs.toArray → acc ≠ S → acc ≠ I → accs.length + (its.drop i).flatten.length ≤ sizeLine →
    (∀ (h' : Heap) (tk : Nat) (p : Addr), (∀ b o, b ≠ S → b ≠ I → h0.get? b = some o → h'.get? b = some o) → PlainL h' p (accs ++ (its.drop i).flatten).toArray →
      ((p = acc ∧ i = n ∧ ∀ o, s.heap.get? acc = some o → h'.get? acc = some o) ∨ S < p ∧ ∃ c', h'.get? p = some { cls := .type "list", data := .seq (accs ++ (its.drop i).flatten).toArray c' }) → R (.ok (.ret (.ref p))) { s with heap := h', toks := tk }) →
    codeAny (model prog w) A (.builtin "sum.loop" ⟨[.ref I, .ref S, rawInt stage, rawInt 0], []⟩) R s := by
  have W := Walks.list (prog := prog) (w := w) (A := A.in1) hh I ax hax (ads.map Value.ref).toArray
  have hsz : (ads.map Value.ref).toArray.size = n := by simp [hna]
  rw [hsz] at W
  have hSw : S ∉ [I] := by simpa using hSI
  intro k
  induction k with
  | zero =>
    intro i s acc accs c stage hk hi hit hlx hkeep hS hacc hne hnI hlen hR
    have hin : i = n := by omega
    subst hin
    refine codeAny_builtin F.entry_sum_loop ?_
    rw [Around.under_plainId F.plain_sum_loop _]
    show wpAny _ A.in1 (seqItems? (.ref S) >>= _) _ _ s
    refine wpAny_bind (wpAny_seqItems hS rfl ?_)
    show wpAny _ A.in1 (tryCatch (pyNext (.ref I)) _ >>= _) _ _ s
    refine wpAny_bind (wpAny_tryCatch (W.done s _ _ ⟨hit, hlx⟩ fun h' tk hm => ?_))
    have hd : its.drop i = [] := List.drop_of_length_le (by omega)
    rw [hd, List.flatten_nil, List.append_nil] at hR
    exact wpAny_pure (hR h' tk acc (fun b o h1 h2 e => hm b o (by simpa using h2) (hkeep b o h1 h2 e)) (hacc.at fun o e => hm acc o (by simpa using hnI) e) (.inl ⟨rfl, rfl, fun o e => hm acc o (by simpa using hnI) e⟩))
  | succ k ih =>
    intro i s acc accs c stage hk hi hit hlx hkeep hS hacc hne hnI hlen hR
    have hlt : i < n := by omega
    refine codeAny_builtin F.entry_sum_loop ?_
    rw [Around.under_plainId F.plain_sum_loop _]
    show wpAny _ A.in1 (seqItems? (.ref S) >>= _) _ _ s
    refine wpAny_bind (wpAny_seqItems hS rfl ?_)
    show wpAny _ A.in1 (tryCatch (pyNext (.ref I)) _ >>= _) _ _ s
    refine wpAny_bind (wpAny_tryCatch (W.item i s _ _ hlt ⟨hit, hlx⟩ fun v h' tk hP hst' hm => ?_))
    obtain ⟨ad, had⟩ : ∃ ad, ads[i]? = some ad := ⟨_, List.getElem?_eq_getElem (by omega)⟩
    have hv : v = .ref ad := by
      have : (ads.map Value.ref).toArray[i]? = some v := hP
      simp [had] at this
      exact this.symm
    subst hv
    obtain ⟨xs, hx⟩ : ∃ xs, its[i]? = some xs := ⟨_, List.getElem?_eq_getElem (by omega)⟩
    obtain ⟨a1, a2, a3⟩ := hitem i ad xs had hx
    have b3 : PlainL h' ad xs.toArray := a3.at fun o e => hm _ _ (by simpa using a2) (hkeep _ _ a1 a2 e)
    have b4 : PlainL h' acc accs.toArray := hacc.at fun o e => hm acc o (by simpa using hnI) e
    have hd : its.drop i = xs :: its.drop (i + 1) := by
      obtain ⟨q1, q2⟩ := List.getElem?_eq_some_iff.mp hx
      rw [List.drop_eq_getElem_cons q1, q2]
    have hfl : (its.drop i).flatten = xs ++ (its.drop (i + 1)).flatten := by rw [hd]; rfl
    rw [hfl, List.length_append] at hlen
    rw [hfl] at hR
    have hS' := hm S _ hSw hS
    show wpAny _ A.in1 ((holding [Value.ref ad] (binaryOp .Add (.ref acc) (.ref ad))).attempt >>= _) _ _ _
    refine wpAny_bind (wpAny_attempt (wpAny_holding (PD.add_lists b4 b3 ?_ (by omega))))
    have hSp : S < h'.objs.size := Heap.lt_size hS'
    obtain ⟨hi', hl'⟩ := hst'
    have hIp : I < h'.objs.size := by obtain ⟨o, e, _⟩ := hi'; exact Heap.lt_size e
    have hxp : ax < h'.objs.size := by obtain ⟨o, e, _⟩ := hl'; exact Heap.lt_size e
    have kp : ∀ {b o}, h'.get? b = some o → (h'.push { cls := .type "list", data := .seq (accs ++ xs).toArray }).get? b = some o := fun e => Heap.get?_push_of_some _ e
    have hS1 := kp hS'
    show wpAny _ A.in1 (updateSeq S (fun _ => #[.ref h'.objs.size]) >>= _) _ _ _
    refine wpAny_bind (wpAny_updateSeq hS1 rfl ?_)
    have hS2 := Heap.get?_update_self (Obj.mapSeq fun _ => #[Value.ref h'.objs.size]) hS1 rfl
    refine wpAny_bind (wpAny_letGo ?_)
    refine wpAny_bind (wpAny_updateSeq hS2 rfl (wpAny_pure ⟨plainId_quiet F.plain_sum_loop _, ?_⟩))
    have hS3 := Heap.get?_update_self (Obj.mapSeq fun _ => #[Value.ref h'.objs.size]) hS2 rfl
    have kq : ∀ {b o}, b ≠ S → h'.get? b = some o → (((h'.push { cls := .type "list", data := .seq (accs ++ xs).toArray }).update S (Obj.mapSeq fun _ => #[Value.ref h'.objs.size])).update S (Obj.mapSeq fun _ => #[Value.ref h'.objs.size])).get? b = some o := fun {b o} hb e => by
      rw [Heap.get?_update_other _ _ (Ne.symm hb), Heap.get?_update_other _ _ (Ne.symm hb)]
      exact kp e
    have hpS : h'.objs.size ≠ S := Nat.ne_of_gt hSp
    have hpI : h'.objs.size ≠ I := Nat.ne_of_gt hIp
    have hp : (((h'.push { cls := .type "list", data := .seq (accs ++ xs).toArray }).update S (Obj.mapSeq fun _ => #[Value.ref h'.objs.size])).update S (Obj.mapSeq fun _ => #[Value.ref h'.objs.size])).get? h'.objs.size = some { cls := .type "list", data := .seq (accs ++ xs).toArray } := by
      rw [Heap.get?_update_other _ _ (Ne.symm hpS), Heap.get?_update_other _ _ (Ne.symm hpS)]
      exact Heap.get?_push_size _ rfl
    refine ih (i + 1) _ h'.objs.size (accs ++ xs) _ 2 (by omega) hlt ?_ ?_ (fun b o h1 h2 e => kq h1 (hm b o (by simpa using h2) (hkeep b o h1 h2 e))) hS3 ⟨_, _, hp, rfl, rfl, rfl⟩ hpS hpI (by rw [List.length_append]; omega) fun h2 tk2 p k1 k2 k3 => ?_
    · obtain ⟨o, e, r⟩ := hi'; exact ⟨o, kq (Ne.symm hSI) e, r⟩
    · obtain ⟨o, e, r⟩ := hl'; exact ⟨o, kq (Ne.symm hSx) e, r⟩
    · rw [List.append_assoc] at k2 k3
      refine hR h2 tk2 p k1 k2 (.inr ?_)
      rcases k3 with ⟨rfl, rfl, k4⟩ | k3
      · refine ⟨hSp, 0, ?_⟩
        have hd0 : its.drop (i + 1) = [] := List.drop_of_length_le (by omega)
        rw [hd0, List.flatten_nil, List.append_nil]
        exact k4 _ hp
      · exact k3
end
theorem args_sum2 (a b : Value) : argsOk "sum" ⟨[a, b], []⟩ := by unfold argsOk; kernel_rfl
section
variable {X : Cx}
def rSumL (K : PySem.W.Frag) : List V → Hp → VK → Prop := fun vs H Q => ∃ (a b : Addr) (xss : List (List V)) (ads : List Addr), vs = [.ref a, .ref b] ∧ SqL K H a (ads.map V.ref) ∧ SqL K H b [] ∧ xss.length = ads.length ∧
  (∀ (i : Nat) ad xs, ads[i]? = some ad → xss[i]? = some xs → SqL K H ad xs) ∧ ads ≠ [] ∧ xss.flatten.length ≤ sizeLine ∧ ∀ p, H p = none → Q (.ref p) (upd H p (.lst xss.flatten))
theorem vals_refs : ∀ {ads : List Addr} {us : List Value}, Vals (ads.map V.ref) us → us = ads.map Value.ref
  | [], _, .nil => rfl
  | _ :: _, _, .cons r l => by
    cases r
    rw [vals_refs l]; rfl
theorem pick_lists {P : Nat → List V → List Value → Prop} : ∀ (xss : List (List V)), (∀ (i : Nat) xs, xss[i]? = some xs → ∃ its, Vals xs its ∧ P i xs its) →
    ∃ itss : List (List Value), itss.length = xss.length ∧ ∀ (i : Nat) xs its, xss[i]? = some xs → itss[i]? = some its → Vals xs its ∧ P i xs its
  | xss, h => by
    refine ⟨(List.range xss.length).map fun i => if hi : i < xss.length then Classical.choose (h i xss[i] (List.getElem?_eq_getElem hi)) else [], by simp, fun i xs its e1 e2 => ?_⟩
    obtain ⟨hi, rfl⟩ := List.getElem?_eq_some_iff.mp e1
    rw [List.getElem?_map, List.getElem?_range hi] at e2
    have e2 : (if hi : i < xss.length then Classical.choose (h i xss[i] (List.getElem?_eq_getElem hi)) else []) = its := Option.some.inj e2
    rw [dif_pos hi] at e2
    subst e2
    exact Classical.choose_spec (h i xss[i] (List.getElem?_eq_getElem hi))
theorem vals_flat : ∀ {xss : List (List V)} {itss : List (List Value)}, itss.length = xss.length → (∀ (i : Nat) xs its, xss[i]? = some xs → itss[i]? = some its → Vals xs its) → Vals xss.flatten itss.flatten
  | [], [], _, _ => .nil
  | [], _ :: _, e, _ => by cases e
  | _ :: _, [], e, _ => by cases e
  | xs :: xss, its :: itss, e, h => (h 0 xs its rfl rfl).append (vals_flat (Nat.succ.inj e) fun i a b h1 h2 => h (i + 1) a b (by simpa using h1) (by simpa using h2))
theorem cr_sumL (hc : X.calm = true) : CallR X (.builtin "sum") (rSumL X.K) := by
  intro pins s σ H vs us Q I r h
  obtain ⟨a, b, xss, ads, rfl, ha, hb, hlen, hits, hne, hz, q⟩ := h
  cases r with
  | cons r1 r =>
  cases r with
  | cons r2 r =>
  cases r
  cases r1; cases r2
  obtain ⟨iA, rA, lA, zA⟩ := I.list ha
  obtain ⟨iB, rB, lB, zB⟩ := I.list hb
  cases rB
  have eA := vals_refs rA
  subst eA
  obtain ⟨itss, hl2, hp⟩ := pick_lists (P := fun i xs its => ∀ ad, ads[i]? = some ad → PlainL s.heap ad its.toArray) xss fun i xs e => by
    obtain ⟨ad, e2⟩ : ∃ ad, ads[i]? = some ad := ⟨_, List.getElem?_eq_getElem (by have := (List.getElem?_eq_some_iff.mp e).1; omega)⟩
    obtain ⟨its, r, l, _⟩ := I.list (hits i ad xs e2 e)
    exact ⟨its, r, fun ad' e3 => by rw [e2] at e3; cases e3; exact l⟩
  have vf : Vals xss.flatten itss.flatten := vals_flat hl2 fun i xs its e1 e2 => (hp i xs its e1 e2).1
  refine call_function_tree F.kind_sum F.plain_sum F.entry_sum (args_sum2 _ _) ?_
  unfold Builtin.«sum»
  simp only [List.length_cons, List.length_nil]
  rw [if_neg (by decide)]
  refine wpAny_bind (wpAny_of_eq (show Builtin.Builtins.bindParams "sum" ["start"] 0 ⟨[.ref b], []⟩ = pure [some (.ref b)] from rfl) ?_)
  refine wpAny_bind (wpAny_pyIter_list lA.isList ?_)
  refine wpAny_bind (wpAny_pure ?_)
  simp only [List.forIn_cons, List.forIn_nil]
  have kp : ∀ {c o}, s.heap.get? c = some o → (s.heap.push { cls := .type "list_iterator", data := .fields #[.ref a, .int 0 0] }).get? c = some o := fun e => Heap.get?_push_of_some _ e
  obtain ⟨oB, nB, eB, cB, dB, tB⟩ := id lB
  have tyB : ∀ s' : Shared, s'.heap.get? b = some oB → s'.TypeIs (.ref b) "list" := fun s' e => ⟨oB, e, cB⟩
  refine wpAny_bind (wpAny_bind (wpAny_bind (wpAny_isInstance (T := "list") (b := false) (tyB _ (kp eB)) F.sub_list_str ?_)))
  simp only [Bool.false_eq_true, if_false]
  refine wpAny_pure (wpAny_bind (wpAny_bind (wpAny_isInstance (T := "list") (b := false) (tyB _ (kp eB)) F.sub_list_bytes ?_)))
  simp only [Bool.false_eq_true, if_false]
  refine wpAny_pure (wpAny_bind (wpAny_bind (wpAny_isInstance (T := "list") (b := false) (tyB _ (kp eB)) F.sub_list_bytearray ?_)))
  simp only [Bool.false_eq_true, if_false]
  refine wpAny_pure (wpAny_pure ?_)
  refine wpAny_bind (wpAny_newObj_type ?_)
  have sa : a < s.heap.objs.size := lA.lt
  have sb : b < s.heap.objs.size := lB.lt
  have e1 : ∀ o : Obj, (s.heap.push o).objs.size = s.heap.objs.size + 1 := fun o => Heap.size_push _ _
  have kq : ∀ {c o}, s.heap.get? c = some o → ((s.heap.push { cls := .type "list_iterator", data := .fields #[.ref a, .int 0 0] }).push { cls := .type "list", data := .seq #[.ref b] }).get? c = some o := fun e => Heap.get?_push_of_some _ (kp e)
  refine wpAny_pure ⟨plainId_quiet F.plain_sum_loop _, ?_⟩
  refine code_sum_lists (n := ads.length) (I.ok.hd hc) (ax := a) (Nat.ne_of_lt sa) ads itss (by omega) rfl (s.heap.push { cls := .type "list_iterator", data := .fields #[.ref a, .int 0 0] }).objs.size (by rw [e1]; exact Nat.succ_ne_self _) (by rw [e1]; exact Nat.ne_of_gt (Nat.lt_succ_of_lt sa)) s.heap (fun i ad its h1 h2 => ?_)
    ads.length 0 _ b [] 0 _ (by omega) (Nat.zero_le _) ⟨_, Heap.get?_push_of_some _ (Heap.get?_push_size _ rfl), rfl, rfl⟩ (by obtain ⟨o, n, g1, g2, g3, g4⟩ := lA; exact ⟨o, kq g1, g2, n, g4⟩) (fun c o _ _ e => kq e) (Heap.get?_push_size _ rfl) ⟨oB, nB, kq eB, cB, dB, tB⟩ (by rw [e1]; exact Nat.ne_of_lt (Nat.lt_succ_of_lt sb)) (Nat.ne_of_lt sb) ?_ fun h' tk p hk hp2 h3 => ?_
  · obtain ⟨xs, h4⟩ : ∃ xs, xss[i]? = some xs := ⟨_, List.getElem?_eq_getElem (by have := (List.getElem?_eq_some_iff.mp h2).1; omega)⟩
    have l := (hp i xs its h4 h2).2 ad h1
    exact ⟨by rw [e1]; exact Nat.ne_of_lt (Nat.lt_succ_of_lt l.lt), Nat.ne_of_lt l.lt, l⟩
  · rw [List.drop_zero, ← vf.length]
    simpa using hz
  · rcases h3 with ⟨_, h3, _⟩ | ⟨h3, c', h4⟩
    · cases ads with
      | nil => exact absurd rfl hne
      | cons _ _ => simp at h3
    · rw [List.drop_zero] at h4
      have h4 : h'.get? p = some { cls := .type "list", data := .seq itss.flatten.toArray c' } := by simpa using h4
      have hps : s.heap.objs.size ≤ p := by rw [e1] at h3; exact Nat.le_of_lt (Nat.lt_of_succ_lt h3)
      exact ⟨.ref p, _, I.laid (t' := tk) (fun c o e => hk c o (by rw [e1]; exact Nat.ne_of_lt (Nat.lt_succ_of_lt (Heap.lt_size e))) (Nat.ne_of_lt (Heap.lt_size e)) e) hps (show ObjOk X.prog X.w _ h' _ (.lst _) from ⟨hz, itss.flatten, c', vf, h4⟩), rfl, q p (I.hok.fresh hps)⟩
end
end PM


namespace PD
open PySem PySem.Spec L2
open PyProof.Rows hiding St
/-! ### subscripts -/
section
variable {X : Cx} {K : PySem.W.Frag} {mg : Str → Option Value} {μ : Mp} {h : MH} {H : Hp} {n : Nat}
theorem kv_key {d : D} {v : V} {k : Key} (r : Rep K mg μ n H d v) (e : keyOf d = some k) : v = kV k := by
  cases r <;> cases e <;> rfl
theorem RepKV.val {kvs : List (Key × D)} {vs : List (Key × V)} {k : Key} {d : D} (r : RepKV K mg μ n H kvs vs) (e : valD kvs k = some d) : ∃ v, valV vs k = some v ∧ Rep K mg μ n H d v := by
  induction r with
  | nil => cases e
  | @cons p q ps qs hh _ ih =>
    by_cases z : p.1 = k
    · have e : ((p :: ps).find? fun kv => decide (kv.1 = k)).map (·.2) = some d := e
      rw [List.find?_cons_of_pos (by simpa using z)] at e
      cases e
      exact ⟨q.2, valV_pos (hh.1 ▸ z), hh.2⟩
    · have e : ((p :: ps).find? fun kv => decide (kv.1 = k)).map (·.2) = some d := e
      rw [List.find?_cons_of_neg (by simpa using z)] at e
      obtain ⟨v, h1, h2⟩ := ih e
      exact ⟨v, by rw [valV_neg (hh.1 ▸ z)]; exact h1, h2⟩
theorem RepKV.miss {kvs : List (Key × D)} {vs : List (Key × V)} {k : Key} (r : RepKV K mg μ n H kvs vs) (e : valD kvs k = none) : valV vs k = none := by
  induction r with
  | nil => rfl
  | @cons p q ps qs hh _ ih =>
    by_cases z : p.1 = k
    · have e : ((p :: ps).find? fun kv => decide (kv.1 = k)).map (·.2) = none := e
      rw [List.find?_cons_of_pos (by simpa using z)] at e
      cases e
    · have e : ((p :: ps).find? fun kv => decide (kv.1 = k)).map (·.2) = none := e
      rw [List.find?_cons_of_neg (by simpa using z)] at e
      rw [valV_neg (hh.1 ▸ z)]
      exact ih e
theorem RepKV.keys {kvs : List (Key × D)} {vs : List (Key × V)} (r : RepKV K mg μ n H kvs vs) : kvs.map (·.1) = vs.map (·.1) := by
  induction r with
  | nil => rfl
  | cons hh _ ih => rw [List.map_cons, List.map_cons, ih, hh.1]
theorem RepKV.length {kvs : List (Key × D)} {vs : List (Key × V)} (r : RepKV K mg μ n H kvs vs) : kvs.length = vs.length := Paired.length r
theorem RepKV.append {kvs ks : List (Key × D)} {vs us : List (Key × V)} (r : RepKV K mg μ n H kvs vs) (t : RepKV K mg μ n H ks us) : RepKV K mg μ n H (kvs ++ ks) (vs ++ us) := by
  induction r with
  | nil => exact t
  | cons hh _ ih => exact .cons hh ih
theorem RepKV.put {kvs : List (Key × D)} {vs : List (Key × V)} {k : Key} {d : D} {v : V} (r : RepKV K mg μ n H kvs vs) (rd : Rep K mg μ n H d v) : RepKV K mg μ n H (putD kvs k d) (putK vs k v) := by
  have ha : (kvs.any fun kv => decide (kv.1 = k)) = (vs.any fun kv => decide (kv.1 = k)) := by
    have h1 : (kvs.any fun kv => decide (kv.1 = k)) = (kvs.map (·.1)).any fun x => decide (x = k) := by rw [List.any_map]; rfl
    have h2 : (vs.any fun kv => decide (kv.1 = k)) = (vs.map (·.1)).any fun x => decide (x = k) := by rw [List.any_map]; rfl
    rw [h1, h2, r.keys]
  have hm : RepKV K mg μ n H (kvs.map fun kv => if kv.1 = k then (kv.1, d) else kv) (vs.map fun kv => if kv.1 = k then (kv.1, v) else kv) := by
    clear ha
    induction r with
    | nil => exact .nil
    | @cons p q ps qs hh _ ih =>
      rw [List.map_cons, List.map_cons]
      refine .cons ?_ ih
      by_cases z : p.1 = k
      · rw [if_pos z, if_pos (hh.1 ▸ z)]; exact ⟨hh.1, rd⟩
      · rw [if_neg z, if_neg (hh.1 ▸ z)]; exact hh
  unfold putD putK
  rw [← ha]
  by_cases z : (kvs.any fun kv => decide (kv.1 = k)) = true
  · rw [if_pos z, if_pos z]; exact hm
  · rw [if_neg z, if_neg z]; exact r.append (.cons ⟨rfl, rd⟩ .nil)
/-- a dict's place -/
theorem Good.dct (g : Good K mg μ h H) {i : Nat} {kvs : List (Key × D)} (e : h[i]? = some (.dct kvs)) : ∃ vs, H (μ.m i) = some (.dK vs) ∧ RepKV K mg μ h.length H kvs vs := g.objs i _ e
theorem Good.lst (g : Good K mg μ h H) {i : Nat} {xs : List D} (e : h[i]? = some (.lst xs)) : ∃ vs, H (μ.m i) = some (.lst vs) ∧ RepL K mg μ h.length H xs vs := g.objs i _ e

def rIxD (K : PySem.W.Frag) (mg : Str → Option Value) : R2 := fun x y H Q => ∃ μ h dx dy d, Good K mg μ h H ∧ Rep K mg μ h.length H dx x ∧ Rep K mg μ h.length H dy y ∧ index h dx dy = some d ∧ ∀ v, Rep K mg μ h.length H d v → Q v H
theorem ix_D (hu : X.A.units + 1 < cLine) : IxR X (rIxD X.K X.mg) := by
  intro value slice pins s σ H x y v u Q I rx ry hh hs
  obtain ⟨μ, h, dx, dy, d, g, r1, r2, e, q⟩ := hh
  have lst : ∀ {a : Addr} {xs : List D} {vs : List V} {i : Int}, x = .ref a → SqL X.K H a vs → RepL X.K X.mg μ h.length H xs vs → y = .int i → L2.atI xs i = some d → wpAny (model X.prog X.w) X.A (subscriptTail value slice v u) (EP X pins σ Q) X.xe s := by
    intro a xs vs i e1 sq l e2 e3
    obtain ⟨w, e4, r4⟩ := l.atI e3
    exact ix_list value slice pins s σ H x y v u Q I rx ry ⟨a, vs, i, w, e1, e2, sq, e4, q w r4⟩ hs
  cases r1 with
  | tup t l =>
    cases dy <;> try cases e
    cases r2
    obtain ⟨w, e4, r4⟩ := l.atI e
    exact ix_tup value slice pins s σ H _ _ v u Q I rx ry ⟨_, _, _, w, rfl, rfl, t, e4, q w r4⟩ hs
  | lst t l =>
    cases dy <;> try cases e
    cases r2
    exact lst rfl (SqL.of t.1) l rfl e
  | flst t l =>
    cases dy <;> try cases e
    cases r2
    exact lst rfl t.sq l rfl e
  | str z =>
    cases dy <;> try cases e
    cases r2
    rename_i i
    have e : (if z.length ≤ sizeLine then (L2.atI z.cps.toList i).map fun c => D.str ⟨#[c]⟩ else none) = some d := e
    by_cases w : z.length ≤ sizeLine
    · rw [if_pos w] at e
      obtain ⟨c, e1, e2⟩ := Option.map_eq_some_iff.mp e
      subst e2
      exact ix_str value slice pins s σ H _ _ v u Q I rx ry ⟨_, _, c, rfl, rfl, w, e1, q _ (.str _)⟩ hs
    · rw [if_neg w] at e; cases e
  | @ref k hk =>
    cases eo : h[k]? with
    | none => simp only [index, eo] at e; cases e
    | some o =>
      cases o with
      | lst xs =>
        cases dy <;> simp only [index, eo] at e <;> try cases e
        obtain ⟨vs, h1, h2⟩ := g.lst eo
        cases r2
        exact lst rfl (SqL.of h1) h2 rfl e
      | dct kvs =>
        have e : (keyOf dy).bind (valD kvs) = some d := by cases dy <;> simpa only [index, eo] using e
        obtain ⟨key, e1, e2⟩ := Option.bind_eq_some_iff.mp e
        obtain ⟨vs, h1, h2⟩ := g.dct eo
        obtain ⟨w, e3, r3⟩ := h2.val e2
        have gd : DGet H (μ.m k) y (some w) := by
          rw [kv_key r2 e1, ← e3]
          exact DGet.k h1
        cases rx
        exact tail_any (dict_typeIs I gd) PySem.F.slot_dict_getitem.lookup (d_getItem hu I gd ry fun w' s3 I3 rw' => ⟨w, H, I3, rw', q w r3⟩) hs
  | _ => cases dy <;> cases e
/-- o[i] = d -/
def rSetD (K : PySem.W.Frag) (mg : Str → Option Value) : V → V → V → Hp → (Hp → Prop) → Prop := fun x y z H Q => ∃ μ h dx dy dz h', Good K mg μ h H ∧ Rep K mg μ h.length H dx x ∧ Rep K mg μ h.length H dy y ∧ Rep K mg μ h.length H dz z ∧ setop dx dy dz h = some h' ∧
  ∀ H', Step K μ h.length H μ h'.length H' → Good K mg μ h' H' → Q H'
theorem set_D (hu : X.A.units + 1 < cLine) : PSet X (rSetD X.K X.mg) := by
  intro pins s σ H o i v ov iv u Q I ro ri rv hh
  obtain ⟨μ, h, dx, dy, dz, h', g, r1, r2, r3, e, q⟩ := hh
  cases r1 with
  | @ref k hk =>
    cases eo : h[k]? with
    | none => simp only [setop, eo] at e; cases e
    | some ob =>
      cases ob with
      | lst xs =>
        cases dy <;> simp only [setop, eo] at e <;> try cases e
        obtain ⟨j, e1, e2⟩ := Option.map_eq_some_iff.mp e
        subst e2
        cases r2
        rename_i i
        obtain ⟨vs, h1, l⟩ := g.lst eo
        obtain ⟨g', s'⟩ := g.set (x := .lst (xs.set j dz)) (o := .lst (vs.set j v)) hk ⟨_, rfl, l.set r3 j⟩
        exact set_list pins s σ H _ _ v ov iv u Q I ro ri rv ⟨μ.m k, vs, i, j, rfl, rfl, h1, by rw [← l.length]; exact e1, q _ s' g'⟩
      | dct kvs =>
        simp only [setop, eo] at e
        cases ek : keyOf dy with
        | none => rw [ek] at e; cases e
        | some key =>
          rw [ek] at e
          have e : (if kvs.length < sizeLine then some (h.set k (.dct (putD kvs key dz))) else none) = some h' := e
          by_cases w : kvs.length < sizeLine
          · rw [if_pos w] at e
            cases e
            obtain ⟨vs, h1, l⟩ := g.dct eo
            obtain ⟨g', s'⟩ := g.set (x := .dct (putD kvs key dz)) (o := .dK (putK vs key v)) hk ⟨_, rfl, l.put r3⟩
            have gd : DPut H (μ.m k) i v (upd H (μ.m k) (.dK (putK vs key v))) := by
              rw [kv_key r2 ek]
              exact DPut.k h1 (by rw [← l.length]; exact w)
            cases ro
            exact d_setItem hu I gd ri rv fun s4 I4 => ⟨_, I4, q _ s' g'⟩
          · rw [if_neg w] at e; cases e
  | _ => cases e
/-! ### slices -/
theorem cutD_eq {xs : List D} {vs : List V} (lo hi : Option Int) (l : RepL K mg μ n H xs vs) : RepL K mg μ n H (cutD xs lo hi) (cutV vs lo hi) := by
  unfold cutD cutV
  rw [← l.length]
  exact (l.drop _).take _
def rSlD (K : PySem.W.Frag) (mg : Str → Option Value) : V → Option Int → Option Int → Hp → VK → Prop := fun x lo hi H Q => ∃ μ h dx d, Good K mg μ h H ∧ Rep K mg μ h.length H dx x ∧ slice h dx lo hi = some d ∧
  ∀ v H', Step K μ h.length H μ h.length H' → Good K mg μ h H' → Rep K mg μ h.length H' d v → Fresh K mg μ h.length H μ h H' d v → Q v H'
theorem cutD_whole {xs : List D} {lo hi : Option Int} (hw : HT.sIx xs.length 0 lo = 0 ∧ HT.sIx xs.length xs.length hi = xs.length) : cutD xs lo hi = xs := by
  unfold cutD
  rw [hw.1, hw.2]
  simp
theorem sl_D : SlR X (rSlD X.K X.mg) := by
  intro pins s σ H x v vl vu lo hi sl Q I rx hs pl pu hh
  obtain ⟨μ, h, dx, d, g, r, e, q⟩ := hh
  have lst : ∀ {a : Addr} {xs : List D} {vs : List V}, x = .ref a → SqL X.K H a vs → RepL X.K X.mg μ h.length H xs vs → d = .lst (cutD xs lo hi) → ∃ T id, typeLookup (.type T) "__getitem__" = pure (some (.builtin id)) ∧ s.TypeIs v T ∧ wpAny (model X.prog X.w) X.A (getItem v (.ref sl)) (EP X pins σ Q) X.xe s := by
    intro a xs vs e1 sq l e2
    subst e2
    refine sl_list pins s σ H x v vl vu lo hi sl Q I rx hs pl pu ⟨a, vs, e1, sq, fun p hp => ?_⟩
    obtain ⟨h1, h2, h3, h4⟩ := newLst g hp (cutD_eq lo hi l)
    exact q _ _ h1 h2 h3 h4
  cases r with
  | tup t l =>
    cases e
    refine sl_tupA pins s σ H _ v vl vu lo hi sl Q I rx hs pl pu ⟨_, _, rfl, t, fun hw => ?_, fun hw p hp => ?_⟩
    · rw [← l.length] at hw
      rw [cutD_whole hw] at q
      exact q _ H Step.refl g (.tup t l) (notLst (K := X.K) (fr := true) nofun rfl)
    · obtain ⟨h1, h2, h3⟩ := newTup g hp (cutD_eq lo hi l)
      exact q _ _ h1 h2 h3 (notLst (fr := true) nofun rfl)
  | lst t l => cases e; exact lst rfl (SqL.of t.1) l rfl
  | flst t l => cases e; exact lst rfl t.sq l rfl
  | str z =>
    have e : (if z.length ≤ sizeLine then some (D.str (cutS z lo hi)) else none) = some d := e
    by_cases w : z.length ≤ sizeLine
    · rw [if_pos w] at e
      cases e
      exact sl_str pins s σ H _ v vl vu lo hi sl Q I rx hs pl pu ⟨z, rfl, w, q _ H Step.refl g (.str _) (notLst (fr := true) nofun rfl)⟩
    · rw [if_neg w] at e; cases e
  | @ref k hk =>
    cases eo : h[k]? with
    | none => simp only [slice, eo] at e; cases e
    | some o =>
      cases o with
      | lst xs =>
        simp only [slice, eo] at e
        cases e
        obtain ⟨vs, h1, h2⟩ := g.lst eo
        exact lst rfl (SqL.of h1) h2 rfl
      | dct kvs => simp only [slice, eo] at e; cases e
  | _ => cases e
end
/-! ### builtins -/
section
variable {X : Cx} {K : PySem.W.Frag} {mg : Str → Option Value} {μ : Mp} {h : MH} {H : Hp} {n : Nat}
/-- a builtin's call, by values -/
def rB (fr : Bool) (K : PySem.W.Frag) (mg : Str → Option Value) (f : List D → MH → Option D) : List V → Hp → VK → Prop := fun vs H Q => ∃ μ h ds d, Good K mg μ h H ∧ RepL K mg μ h.length H ds vs ∧ f ds h = some d ∧
  ∀ v H', Step K μ h.length H μ h.length H' → Good K mg μ h H' → Rep K mg μ h.length H' d v → (fr = true → Fresh K mg μ h.length H μ h H' d v) → Q v H'
theorem bools_of {ds : List D} {vs : List V} {bs : List Bool} (l : RepL K mg μ n H ds vs) (e : boolsOf ds = some bs) : vs = bs.map V.bl := by
  induction ds generalizing vs bs with
  | nil => cases l; cases e; rfl
  | cons x xs ih =>
    cases l with
    | cons r l =>
      cases x <;> try cases e
      rename_i b
      obtain ⟨cs, e1, e2⟩ := Option.map_eq_some_iff.mp (show (boolsOf xs).map (b :: ·) = some bs from e)
      subst e2
      cases r
      rw [ih l e1]; rfl
theorem ints_of {ds : List D} {vs : List V} {bs : List Int} (l : RepL K mg μ n H ds vs) (e : intsOf ds = some bs) : vs = bs.map V.int := by
  induction ds generalizing vs bs with
  | nil => cases l; cases e; rfl
  | cons x xs ih =>
    cases l with
    | cons r l =>
      cases x <;> try cases e
      rename_i b
      obtain ⟨cs, e1, e2⟩ := Option.map_eq_some_iff.mp (show (intsOf xs).map (b :: ·) = some bs from e)
      subst e2
      cases r
      rw [ih l e1]; rfl
theorem maxL_ok : ∀ {ns : List Int} {m : Int}, maxL ns = some m → m ∈ ns ∧ ∀ y ∈ ns, y ≤ m
  | [], _, e => nomatch e
  | [x], m, e => by cases e; simp
  | x :: y :: r, m, e => by
    obtain ⟨k, e1, e2⟩ := Option.map_eq_some_iff.mp (show (maxL (y :: r)).map (fun m => max x m) = some m from e)
    subst e2
    obtain ⟨h1, h2⟩ := maxL_ok e1
    refine ⟨?_, fun z hz => ?_⟩
    · by_cases w : x ≤ k
      · rw [Int.max_eq_right w]; exact List.mem_cons_of_mem _ h1
      · rw [Int.max_eq_left (by omega)]; exact List.mem_cons_self
    · rcases List.mem_cons.mp hz with rfl | hz
      · omega
      · have := h2 z hz; omega
theorem minL_ok : ∀ {ns : List Int} {m : Int}, minL ns = some m → m ∈ ns ∧ ∀ y ∈ ns, m ≤ y
  | [], _, e => nomatch e
  | [x], m, e => by cases e; simp
  | x :: y :: r, m, e => by
    obtain ⟨k, e1, e2⟩ := Option.map_eq_some_iff.mp (show (minL (y :: r)).map (fun m => min x m) = some m from e)
    subst e2
    obtain ⟨h1, h2⟩ := minL_ok e1
    refine ⟨?_, fun z hz => ?_⟩
    · by_cases w : x ≤ k
      · rw [Int.min_eq_left w]; exact List.mem_cons_self
      · rw [Int.min_eq_right (by omega)]; exact List.mem_cons_of_mem _ h1
    · rcases List.mem_cons.mp hz with rfl | hz
      · omega
      · have := h2 z hz; omega
theorem RepL.one {d : D} {vs : List V} (l : RepL K mg μ n H [d] vs) : ∃ v, vs = [v] ∧ Rep K mg μ n H d v := by
  cases l with | cons r l => cases l; exact ⟨_, rfl, r⟩
theorem RepL.two {d e : D} {vs : List V} (l : RepL K mg μ n H [d, e] vs) : ∃ v w, vs = [v, w] ∧ Rep K mg μ n H d v ∧ Rep K mg μ n H e w := by
  cases l with | cons r l => cases l with | cons r2 l => cases l; exact ⟨_, _, rfl, r, r2⟩
theorem b_all (hc : X.calm = true) : CallR X (.builtin "all") (rB true X.K X.mg (biop .all)) := by
  intro pins s σ H xs us Q I r hh
  obtain ⟨μ, h, ds, d, g, l, e, q⟩ := hh
  match ds, e with
  | [x], e =>
    obtain ⟨bs, e0, e2⟩ := Option.map_eq_some_iff.mp (show ((listy h x).bind boolsOf).map (fun bs => D.bl (bs.all id)) = some d from e)
    subst e2
    obtain ⟨ys, e1, e2⟩ := Option.bind_eq_some_iff.mp e0
    obtain ⟨v, rfl, rv⟩ := l.one
    obtain ⟨a, vs, rfl, hq, l2⟩ := listAt g rv e1
    rw [bools_of l2 e2] at hq
    exact cr_all hc pins s σ H _ us Q I r ⟨a, bs, rfl, hq, q _ H Step.refl g (.bl _) (notLst nofun)⟩
theorem b_any (hc : X.calm = true) : CallR X (.builtin "any") (rB true X.K X.mg (biop .any)) := by
  intro pins s σ H xs us Q I r hh
  obtain ⟨μ, h, ds, d, g, l, e, q⟩ := hh
  match ds, e with
  | [x], e =>
    obtain ⟨bs, e0, e2⟩ := Option.map_eq_some_iff.mp (show ((listy h x).bind boolsOf).map (fun bs => D.bl (bs.any id)) = some d from e)
    subst e2
    obtain ⟨ys, e1, e2⟩ := Option.bind_eq_some_iff.mp e0
    obtain ⟨v, rfl, rv⟩ := l.one
    obtain ⟨a, vs, rfl, hq, l2⟩ := listAt g rv e1
    rw [bools_of l2 e2] at hq
    exact cr_any hc pins s σ H _ us Q I r ⟨a, bs, rfl, hq, q _ H Step.refl g (.bl _) (notLst nofun)⟩
theorem b_sum (hc : X.calm = true) : CallR X (.builtin "sum") (rB true X.K X.mg (biop .sum)) := by
  intro pins s σ H xs us Q I r hh
  obtain ⟨μ, h, ds, d, g, l, e, q⟩ := hh
  match ds, e with
  | [x], e =>
    obtain ⟨bs, e0, e2⟩ := Option.map_eq_some_iff.mp (show ((listy h x).bind intsOf).map (fun bs => D.int bs.sum) = some d from e)
    subst e2
    obtain ⟨ys, e1, e2⟩ := Option.bind_eq_some_iff.mp e0
    obtain ⟨v, rfl, rv⟩ := l.one
    obtain ⟨a, vs, rfl, hq, l2⟩ := listAt g rv e1
    rw [ints_of l2 e2] at hq
    exact cr_sum hc pins s σ H _ us Q I r ⟨a, bs, rfl, hq, q _ H Step.refl g (.int _) (notLst nofun)⟩
theorem lists_of {ds : List D} {vs : List V} {xss : List (List D)} (g : Good K mg μ h H) (l : RepL K mg μ h.length H ds vs) (e : listsOf h ds = some xss) : ∃ (ads : List Addr) (vss : List (List V)), vs = ads.map V.ref ∧ vss.length = ads.length ∧
    (∀ (i : Nat) ad ws, ads[i]? = some ad → vss[i]? = some ws → SqL K H ad ws) ∧ RepL K mg μ h.length H xss.flatten vss.flatten ∧ xss.length = ads.length := by
  induction ds generalizing vs xss with
  | nil => cases l; cases e; exact ⟨[], [], rfl, rfl, fun i ad ws e => by simp at e, .nil, rfl⟩
  | cons x xs ih =>
    cases l with
    | cons r l =>
      have e : (match listy h x, listsOf h xs with | some ys, some yss => some (ys :: yss) | _, _ => none) = some xss := e
      cases e1 : listy h x with
      | none => rw [e1] at e; cases e
      | some ys =>
        cases e2 : listsOf h xs with
        | none => rw [e1, e2] at e; cases e
        | some yss =>
          rw [e1, e2] at e; cases e
          obtain ⟨ads, vss, h1, h2, h3, h4, h5⟩ := ih l e2
          obtain ⟨a, ws, rfl, hq, l2⟩ := listAt g r e1
          refine ⟨a :: ads, ws :: vss, by rw [h1]; rfl, by simp [h2], fun i ad zs q1 q2 => ?_, ?_, by simp [h5]⟩
          · cases i with
            | zero => cases q1; cases q2; exact hq
            | succ i => exact h3 i ad zs (by simpa using q1) (by simpa using q2)
          · rw [List.flatten_cons, List.flatten_cons]
            exact l2.append h4
theorem b_sumL (hc : X.calm = true) : CallR X (.builtin "sum") (rB true X.K X.mg (biop .sumL)) := by
  intro pins s σ H xs us Q I r hh
  obtain ⟨μ, h, ds, d, g, l, e, q⟩ := hh
  match ds, e with
  | [x, .lst []], e =>
    have e : (match (listy h x).bind (listsOf h) with
      | some (ys :: yss) => if (ys :: yss).flatten.length ≤ sizeLine then some (D.lst (ys :: yss).flatten) else none
      | _ => none) = some d := e
    cases e0 : (listy h x).bind (listsOf h) with
    | none => rw [e0] at e; cases e
    | some yss =>
      rw [e0] at e
      cases yss with
      | nil => cases e
      | cons ys yss =>
        have e : (if (ys :: yss).flatten.length ≤ sizeLine then some (D.lst (ys :: yss).flatten) else none) = some d := e
        by_cases z : (ys :: yss).flatten.length ≤ sizeLine
        · rw [if_pos z] at e; cases e
          obtain ⟨zs, e1, e2⟩ := Option.bind_eq_some_iff.mp e0
          obtain ⟨v, w, rfl, rv, rw⟩ := l.two
          obtain ⟨a, vs, rfl, hq, l2⟩ := listAt g rv e1
          obtain ⟨ads, vss, h1, h2, h3, h4, h5⟩ := lists_of g l2 e2
          subst h1
          cases rw with
          | lst zb lb =>
            cases lb
            refine PM.cr_sumL hc pins s σ H _ us Q I r ⟨a, _, vss, ads, rfl, hq, SqL.of zb.1, h2, h3, ?_, by rw [← h4.length]; exact z, fun p hp => ?_⟩
            · intro w; rw [w] at h5; simp at h5
            · obtain ⟨g1, g2, g3, g4⟩ := newLst g hp h4
              exact q _ _ g1 g2 g3 fun _ => g4
        · rw [if_neg z] at e; cases e
  | [], e => simp [biop] at e
  | [_], e => simp [biop] at e
  | _ :: _ :: _ :: _, e => simp [biop] at e
  | [_, .non], e => simp [biop] at e
  | [_, .bl _], e => simp [biop] at e
  | [_, .int _], e => simp [biop] at e
  | [_, .str _], e => simp [biop] at e
  | [_, .tup _], e => simp [biop] at e
  | [_, .lst (_ :: _)], e => simp [biop] at e
  | [_, .flst _], e => simp [biop] at e
  | [_, .ref _], e => simp [biop] at e
  | [_, .fn _], e => simp [biop] at e
theorem b_len : CallR X (.builtin "len") (rB true X.K X.mg (biop .len)) := by
  intro pins s σ H xs us Q I r hh
  obtain ⟨μ, h, ds, d, g, l, e, q⟩ := hh
  match ds, e with
  | [x], e =>
    obtain ⟨v, rfl, rv⟩ := l.one
    have seq : (items h x).map (fun xs => D.int xs.length) = some d → wpAny (model X.prog X.w) X.A (call (.builtin "len") us) (EP X pins σ Q) X.xe s := fun e => by
      obtain ⟨ys, e1, e2⟩ := Option.map_eq_some_iff.mp e
      subst e2
      obtain ⟨a, vs, rfl, hq, l2⟩ := seqAt g rv e1
      exact call_len_seq pins s σ H _ us Q I r ⟨a, vs, rfl, hq, by rw [← l2.length]; exact q _ H Step.refl g (.int _) (notLst nofun)⟩
    cases x with
    | str z =>
      have e : (if z.length ≤ sizeLine then some (D.int z.length) else none) = some d := e
      by_cases w : z.length ≤ sizeLine
      · rw [if_pos w] at e; cases e
        cases rv
        exact call_len_str pins s σ H _ us Q I r ⟨z, rfl, w, q _ H Step.refl g (.int _) (notLst nofun)⟩
      · rw [if_neg w] at e; cases e
    | _ => exact seq e
  | [], e => cases e
  | _ :: _ :: _, e => simp [biop] at e
theorem b_int : CallR X (.type "int") (rB true X.K X.mg (biop .int)) := by
  intro pins s σ H xs us Q I r hh
  obtain ⟨μ, h, ds, d, g, l, e, q⟩ := hh
  match ds, e with
  | [.int i], e =>
    cases e
    obtain ⟨v, rfl, rv⟩ := l.one
    cases rv
    exact call_int1 pins s σ H _ us Q I r (.inl ⟨i, rfl, q _ H Step.refl g (.int _) (notLst nofun)⟩)
  | [.bl i], e =>
    cases e
    obtain ⟨v, rfl, rv⟩ := l.one
    cases rv
    exact call_int1 pins s σ H _ us Q I r (.inr ⟨i, rfl, q _ H Step.refl g (.int _) (notLst nofun)⟩)
theorem b_abs : CallR X (.builtin "abs") (rB true X.K X.mg (biop .abs)) := by
  intro pins s σ H xs us Q I r hh
  obtain ⟨μ, h, ds, d, g, l, e, q⟩ := hh
  match ds, e with
  | [.int i], e =>
    cases e
    obtain ⟨v, rfl, rv⟩ := l.one
    cases rv
    exact call_abs pins s σ H _ us Q I r ⟨i, rfl, q _ H Step.refl g (.int _) (notLst nofun)⟩
theorem b_max (hc : X.calm = true) : CallR X (.builtin "max") (rB true X.K X.mg (biop .max)) := by
  intro pins s σ H xs us Q I r hh
  obtain ⟨μ, h, ds, d, g, l, e, q⟩ := hh
  match ds, e with
  | [.int i, .int j], e =>
    cases e
    obtain ⟨v, w, rfl, rv, rw⟩ := l.two
    cases rv; cases rw
    exact call_max2 hc pins s σ H _ us Q I r ⟨i, j, rfl, q _ H Step.refl g (.int _) (notLst nofun)⟩
  | [x], e =>
    have e : ((listy h x).bind fun xs => (intsOf xs).bind maxL).map D.int = some d := by cases x <;> exact e
    obtain ⟨m, e0, e2⟩ := Option.map_eq_some_iff.mp e
    subst e2
    obtain ⟨ys, e1, e2⟩ := Option.bind_eq_some_iff.mp e0
    obtain ⟨ns, e4, e3⟩ := Option.bind_eq_some_iff.mp e2
    obtain ⟨v, rfl, rv⟩ := l.one
    obtain ⟨a, vs, rfl, hq, l2⟩ := listAt g rv e1
    rw [ints_of l2 e4] at hq
    obtain ⟨h1, h2⟩ := maxL_ok e3
    refine cr_max hc pins s σ H _ us Q I r ⟨a, ns, rfl, hq, List.length_pos_of_mem h1, fun k hk hle => ?_⟩
    have : k = m := by
      have a1 := h2 k hk
      have a2 := hle m h1
      omega
    subst this
    exact q _ H Step.refl g (.int _) (notLst nofun)
theorem b_min (hc : X.calm = true) : CallR X (.builtin "min") (rB true X.K X.mg (biop .min)) := by
  intro pins s σ H xs us Q I r hh
  obtain ⟨μ, h, ds, d, g, l, e, q⟩ := hh
  match ds, e with
  | [.int i, .int j], e =>
    cases e
    obtain ⟨v, w, rfl, rv, rw⟩ := l.two
    cases rv; cases rw
    exact call_min2 hc pins s σ H _ us Q I r ⟨i, j, rfl, q _ H Step.refl g (.int _) (notLst nofun)⟩
  | [x], e =>
    have e : ((listy h x).bind fun xs => (intsOf xs).bind minL).map D.int = some d := by cases x <;> exact e
    obtain ⟨m, e0, e2⟩ := Option.map_eq_some_iff.mp e
    subst e2
    obtain ⟨ys, e1, e2⟩ := Option.bind_eq_some_iff.mp e0
    obtain ⟨ns, e4, e3⟩ := Option.bind_eq_some_iff.mp e2
    obtain ⟨v, rfl, rv⟩ := l.one
    obtain ⟨a, vs, rfl, hq, l2⟩ := listAt g rv e1
    rw [ints_of l2 e4] at hq
    obtain ⟨h1, h2⟩ := minL_ok e3
    refine cr_min hc pins s σ H _ us Q I r ⟨a, ns, rfl, hq, List.length_pos_of_mem h1, fun k hk hle => ?_⟩
    have : k = m := by
      have a1 := h2 k hk
      have a2 := hle m h1
      omega
    subst this
    exact q _ H Step.refl g (.int _) (notLst nofun)
theorem b_tuple : CallR X (.type "tuple") (rB true X.K X.mg (biop .tuple)) := by
  intro pins s σ H xs us Q I r hh
  obtain ⟨μ, h, ds, d, g, l, e, q⟩ := hh
  match ds, e with
  | [x], e =>
    obtain ⟨v, rfl, rv⟩ := l.one
    have fin : (listy h x).map D.tup = some d → wpAny (model X.prog X.w) X.A (call (.type "tuple") us) (EP X pins σ Q) X.xe s := fun e => by
      obtain ⟨ys, e1, e2⟩ := Option.map_eq_some_iff.mp e
      subst e2
      obtain ⟨a, vs, rfl, hq, l2⟩ := listAt g rv e1
      refine call_tuple_of pins s σ H _ us Q I r ⟨a, vs, rfl, .inl ⟨hq, fun p hp => ?_⟩⟩
      obtain ⟨h1, h2, h3⟩ := newTup g hp l2
      exact q _ _ h1 h2 h3 (notLst nofun)
    cases x with
    | tup ys =>
      cases e
      cases rv with
      | tup t l2 => exact call_tuple_of pins s σ H _ us Q I r ⟨_, _, rfl, .inr ⟨t, q _ H Step.refl g (.tup t l2) (notLst nofun)⟩⟩
    | _ => exact fin e
  | [], e => cases e
  | _ :: _ :: _, e => simp [biop] at e
theorem b_list : CallR X (.type "list") (rB true X.K X.mg (biop .list)) := by
  intro pins s σ H xs us Q I r hh
  obtain ⟨μ, h, ds, d, g, l, e, q⟩ := hh
  match ds, e with
  | [x], e =>
    obtain ⟨v, rfl, rv⟩ := l.one
    obtain ⟨ys, e1, e2⟩ := Option.map_eq_some_iff.mp (show (items h x).map D.lst = some d from e)
    subst e2
    obtain ⟨a, vs, rfl, hq, l2⟩ := seqAt g rv e1
    refine call_list_of pins s σ H _ us Q I r ⟨a, vs, rfl, hq, fun p hp => ?_⟩
    obtain ⟨h1, h2, h3, h4⟩ := newLst g hp l2
    exact q _ _ h1 h2 h3 fun _ => h4
theorem b_repr (hgd : X.A.guards = some []) (hu : X.A.units + 66 < cLine) : CallR X (.builtin "repr") (rB true X.K X.mg (biop .repr)) := by
  intro pins s σ H xs us Q I r hh
  obtain ⟨μ, h, ds, d, g, l, e, q⟩ := hh
  match ds, e with
  | [x], e =>
    obtain ⟨v, rfl, rv⟩ := l.one
    have e : (match dat1 h x with
      | some p => if (p.showable && !p.hasDict && decide (p.depth ≤ 64) && decide (p.shown.length + 64 ≤ sizeLine)) = true then some (D.str p.shown) else none
      | none => none) = some d := e
    cases ep : dat1 h x with
    | none => rw [ep] at e; cases e
    | some p =>
      rw [ep] at e
      have e : (if (p.showable && !p.hasDict && decide (p.depth ≤ 64) && decide (p.shown.length + 64 ≤ sizeLine)) = true then some (D.str p.shown) else none) = some d := e
      by_cases w : (p.showable && !p.hasDict && decide (p.depth ≤ 64) && decide (p.shown.length + 64 ≤ sizeLine)) = true
      · rw [if_pos w] at e; cases e
        simp only [Bool.and_eq_true, Bool.not_eq_true', decide_eq_true_eq] at w
        obtain ⟨⟨⟨w1, w2⟩, w3⟩, w4⟩ := w
        obtain ⟨u, rfl, ru⟩ := r.one
        obtain ⟨as, rd⟩ := Dp.reads I p v u (dat1_dp g rv ep) ru
        have fin : ∀ h' u tk, (∀ b o, s.heap.get? b = some o → h'.get? b = some o) → EP X pins σ Q (.str p.shown u) { s with heap := h', toks := tk } := fun h' u tk hk =>
          ⟨.str p.shown, H, I.kept hk, ⟨_, rfl⟩, q _ H Step.refl g (.str _) (notLst nofun)⟩
        have hz : p.shown.length ≤ sizeLine := by omega
        cases rd with
        | none => exact PySem.P.repr_of_none (by simpa only [PyData.shown] using fin s.heap s.toks (s.toks + 1) fun _ _ e => e)
        | bool b => exact PySem.P.repr_of_bool (by simpa only [PyData.shown] using fin s.heap s.toks (s.toks + 1) fun _ _ e => e)
        | int i t => exact PySem.P.repr_of_int (by simpa [PyData.showable] using w1) (by simpa only [PyData.shown] using fin s.heap s.toks (s.toks + 1) fun _ _ e => e)
        | str z t => exact PySem.P.repr_of_str (by simpa only [PyData.shown] using fin s.heap s.toks (s.toks + 1) fun _ _ e => e) (by simpa only [PyData.shown] using hz)
        | list h1 h2 h3 h4 => exact repr_of_reads' (.list h1 h2 h3 h4) w1 (PyData.noDict_hsm w2) hgd (by omega) (fun _ _ e => e) (fun h' u tk hk => fin h' u tk hk) hz
        | tuple h1 h2 h3 h4 => exact repr_of_reads' (.tuple h1 h2 h3 h4) w1 (PyData.noDict_hsm w2) hgd (by omega) (fun _ _ e => e) (fun h' u tk hk => fin h' u tk hk) hz
        | dict => cases w2
      · rw [if_neg w] at e; cases e
/-! ### isinstance -/
def tyName : Ty → String
  | .int => "int"
  | .bool => "bool"
  | .str => "str"
  | .tuple => "tuple"
  | .list => "list"
  | .dict => "dict"
theorem tyX_tup {a : Addr} {vs : List V} (t : SqT K H a vs) : TyX K H (.ref a) (.type "tuple") := by
  rcases t with (t | ⟨o, t⟩) | ⟨o, its, n, t, c, _⟩
  · exact .base (.tup t)
  · exact .fTuple t
  · exact .kTuple t c
theorem tyX_lst {a : Addr} {vs : List V} (t : SqL K H a vs) : TyX K H (.ref a) (.type "list") := by
  rcases t with (t | ⟨o, t⟩) | ⟨o, its, n, t, c, _⟩
  · exact .base (.lst t)
  · exact .base (.frz t)
  · exact .kList t c
theorem isT_ok {d : D} {v : V} {t : Ty} {b : Bool} (r : Rep K mg μ n H d v) (e : isT t d = some b) : ∃ T, TyX K H v (.type T) ∧ PySem.W.kitOne K (.type T) (.type (tyName t)) = some b := by
  cases r with
  | non => cases e; exact ⟨"NoneType", .base .non, kit_ty (by cases t <;> decide +kernel)⟩
  | bl b => cases e; exact ⟨"bool", .base (.bl _), kit_ty (by cases t <;> decide +kernel)⟩
  | int b => cases e; exact ⟨"int", .base (.int _), kit_ty (by cases t <;> decide +kernel)⟩
  | str b => cases e; exact ⟨"str", .base (.str _), kit_ty (by cases t <;> decide +kernel)⟩
  | tup z l => cases e; exact ⟨"tuple", tyX_tup z, kit_ty (by cases t <;> decide +kernel)⟩
  | lst z l => cases e; exact ⟨"list", tyX_lst (SqL.of z.1), kit_ty (by cases t <;> decide +kernel)⟩
  | flst z l => cases e; exact ⟨"list", tyX_lst z.sq, kit_ty (by cases t <;> decide +kernel)⟩
  | _ => cases e
def rIs (t : Ty) (K : PySem.W.Frag) (mg : Str → Option Value) : List V → Hp → VK → Prop := fun vs H Q => ∃ μ h d v b, vs = [v, .ty (tyName t)] ∧ Good K mg μ h H ∧ Rep K mg μ h.length H d v ∧ isT t d = some b ∧ Q (.bl b) H
theorem b_isinst (t : Ty) : CallR X (.builtin "isinstance") (rIs t X.K X.mg) := by
  intro pins s σ H xs us Q I r hh
  obtain ⟨μ, h, d, v, b, rfl, g, rv, e, q⟩ := hh
  obtain ⟨T, h1, h2⟩ := isT_ok rv e
  exact call_isi pins s σ H _ us Q I r ⟨v, _, _, _, b, rfl, .ty _, h1, h2, q⟩
/-! ### list(range(..)) -/
theorem vals_of_get : ∀ {xs : List V} {us : List Value}, xs.length = us.length → (∀ (j : Nat) (x : V) (u : Value), xs[j]? = some x → us[j]? = some u → RelV x u) → Vals xs us
  | [], [], _, _ => .nil
  | [], _ :: _, e, _ => nomatch e
  | _ :: _, [], e, _ => nomatch e
  | x :: xs, u :: us, e, h => .cons (h 0 x u rfl rfl) (vals_of_get (Nat.succ.inj e) fun j y w h1 h2 => h (j + 1) y w (by simpa using h1) (by simpa using h2))
theorem cr_range1 : CallR X (.type "range") (fun vs H Q => ∃ j, vs = [V.int j] ∧ ∀ p, H p = none → Q (.ref p) (upd H p (.rng 0 j))) := by
  intro pins s σ H vs us Q I r h
  obtain ⟨j, rfl, q⟩ := h
  obtain ⟨u1, rfl, ri⟩ := vals1 r
  obtain ⟨t, rfl⟩ := ri
  refine call_range_1 ⟨.ref s.heap.objs.size, upd H s.heap.objs.size (.rng 0 j), I.laid (t' := _) (fun b o e => Heap.get?_push_of_some _ e) (Nat.le_refl _) ?_, rfl, q _ (I.hok.fresh (Nat.le_refl _))⟩
  exact ⟨_, _, _, Heap.get?_push_size _ rfl⟩
theorem irange_rep (a b : Int) : RepL K mg μ n H (irange a b) ((List.range (b - a).toNat).map fun (i : Nat) => V.int (a + i)) := by
  unfold irange
  induction List.range (b - a).toNat with
  | nil => exact .nil
  | cons x xs ih => exact .cons (.int _) ih
theorem call_list_rng (hc : X.calm = true) : CallR X (.type "list") (fun vs H Q => ∃ p i j, vs = [V.ref p] ∧ H p = some (.rng i j) ∧ (-(2 ^ 62) ≤ i ∧ i < 2 ^ 62 ∧ -(2 ^ 62) ≤ j ∧ j < 2 ^ 62 ∧ (j - i).toNat ≤ sizeLine) ∧
    ∀ l, H l = none → Q (.ref l) (upd H l (.lst ((List.range (j - i).toNat).map fun (k : Nat) => V.int (i + k))))) := by
  intro pins s σ H xs us Q I r h
  obtain ⟨p, i, j, rfl, hp, ⟨h1, h2, h3, h4, h5⟩, q⟩ := h
  obtain ⟨u, rfl, rx⟩ := vals1 r
  cases rx
  obtain ⟨t, u, v, hr⟩ := (show ObjOk X.prog X.w H s.heap p (.rng i j) from I.hok p _ hp)
  have hs : sizeLine = 16777216 := sizeLine_eq
  refine call_list_range (n := (j - i).toNat) (I.ok.hd hc) hr (small_one h1 h2 h3 h4) (by rw [rangeSize_one]; split <;> omega) (by omega) fun h' tk acc' c' hk hS' hacc => ?_
  have hv : Vals ((List.range (j - i).toNat).map fun (k : Nat) => V.int (i + k)) acc'.toList := by
    refine vals_of_get (by rw [List.length_map, List.length_range, Array.length_toList, hacc.1]) fun k x u hx hu => ?_
    rw [Array.getElem?_toList] at hu
    obtain ⟨t', rfl⟩ := hacc.2 k u hu
    rw [List.getElem?_map] at hx
    obtain ⟨m, hm, rfl⟩ := Option.map_eq_some_iff.mp hx
    have : m = k := by
      rw [List.getElem?_range (by have := (List.getElem?_eq_some_iff.mp hm).1; simpa using this)] at hm
      exact (Option.some.inj hm).symm
    subst this
    exact ⟨t', by simp⟩
  exact ⟨.ref s.heap.objs.size, _, I.laid (t' := tk) hk (Nat.le_refl _) (show ObjOk X.prog X.w _ h' _ (.lst _) from ⟨by rw [List.length_map, List.length_range]; exact h5, acc'.toList, c', hv, by simpa using hS'⟩), rfl, q _ (I.hok.fresh (Nat.le_refl _))⟩
end
end PD


/-! what a loop goes over -/
namespace PySem
open Sem (wp)
set_option maxHeartbeats 1000000 in
theorem meets_enumerate_newB1 {v : Value} {o : Obj} {H : Heap → Prop} (B : Begins v o H) :
    Meets (Builtin.«enumerate.__new__» ⟨[.type "enumerate", v], []⟩) (fun _ R s => H s.heap ∧
      R (.ok (.ret (.ref (s.heap.push o).objs.size))) { s with heap := (s.heap.push o).push { cls := .type "enumerate", data := .fields #[.none, .bool false, .ref s.heap.objs.size, rawInt 0, .none, .none] } }) :=
  .of_wp fun prog w A R s h => by
    obtain ⟨hp, g, d, tk, os⟩ := s; obtain ⟨h1, h⟩ := h
    have hsub := sub_enumerate
    have q1 : ∀ {A' : Around} {E : Value → Shared → Prop} {Q : Value → Shared → Prop}, Q (.ref hp.objs.size) ⟨hp.push o, g, d, tk, os⟩ → wpAny (model prog w) A' (pyIter v) Q E ⟨hp, g, d, tk, os⟩ :=
      fun q => B.iter prog w _ _ ⟨hp, g, d, tk, os⟩ _ h1 q
    wp_walk using q1
    refine wpAny_stack_any fun st => wpAny_pure ?_
    split
    · rename_i c _ _ _ _ _
      cases (c == Value.type "enumerate")
      · wp_walk using q1
        exact ⟨_, rfl, h⟩
      · wp_walk using q1
        exact ⟨_, rfl, h⟩
    · wp_walk using q1
      exact ⟨_, rfl, h⟩
section
variable {prog : Program} {w : World} {A : Around} {E : Value → Shared → Prop} {s : Shared}
theorem enum_begins1 {v : Value} {o : Obj} {H : Heap → Prop} {Q : Value → Shared → Prop} (B : Begins v o H) (h1 : H s.heap)
    (h : ∀ h', IsEnum h' (s.heap.objs.size + 1) s.heap.objs.size 0 .none → h'.get? s.heap.objs.size = some o → h'.objs.size = s.heap.objs.size + 2 →
      (∀ b o, s.heap.get? b = some o → h'.get? b = some o) → Q (.ref (s.heap.objs.size + 1)) { s with heap := h' }) :
    wpAny (model prog w) A (call (.type "enumerate") [v]) Q E s := by
  refine callType_new F.called_enumerate (by decide) (F.typeCall_enumerate_1 _) (F.newCall_enumerate_1 _) (fun obj => F.args_object_init_2 obj _) F.entry_enumerate_new
    (meets_enumerate_newB1 B) ⟨h1, ?_⟩
  have hz : (s.heap.push o).objs.size = s.heap.objs.size + 1 := Heap.size_push ..
  show _ ∧ _
  rw [hz]
  have he : IsEnum ((s.heap.push o).push { cls := .type "enumerate", data := .fields #[.none, .bool false, .ref s.heap.objs.size, rawInt 0, .none, .none] }) (s.heap.objs.size + 1) s.heap.objs.size 0 .none := by
    have := Heap.get?_push_size (s.heap.push o) (o := { cls := .type "enumerate", data := .fields #[.none, .bool false, .ref s.heap.objs.size, rawInt 0, .none, .none] }) rfl
    rw [hz] at this; exact this
  refine ⟨⟨_, he, rfl⟩, h _ he (Heap.get?_push_of_some _ (Heap.get?_push_size _ B.free)) (by rw [Heap.size_push, hz]) fun b o x => Heap.get?_push_of_some _ (Heap.get?_push_of_some _ x)⟩
end
end PySem
namespace PD
open PySem PySem.Spec L2
open PyProof.Rows hiding St

/-! ### sources -/
inductive Src where
  | lst (a : Addr) (vs : List V) | tup (a : Addr) (vs : List V) | str (x : Str)
def Src.v : Src → V
  | .lst a _ => .ref a
  | .tup a _ => .ref a
  | .str x => .str x
def Src.at_ : Src → Nat → Option V
  | .lst _ vs, i => vs[i]?
  | .tup _ vs, i => vs[i]?
  | .str x, i => x.cps[i]?.map fun c => V.str ⟨#[c]⟩
def Src.n : Src → Nat
  | .lst _ vs => vs.length
  | .tup _ vs => vs.length
  | .str x => x.cps.size
def Src.Ok (K : PySem.W.Frag) (H : Hp) : Src → Prop
  | .lst a vs => SqL K H a vs
  | .tup a vs => SqT K H a vs
  | .str _ => True
/-- its iterator, of the value u -/
def Src.It (u : Value) (h : Heap) (it : Addr) (i : Nat) : Src → Prop
  | .lst a _ => h.IsListIter it a i
  | .tup a _ => h.IsTupleIter it a i
  | .str x => ∃ t, u = .str x t ∧ h.IsStrIter it (strIterType x) x t i
theorem Src.It.there {u : Value} {h : Heap} {it : Addr} {i : Nat} {s : Src} (x : Src.It u h it i s) : ∃ o T, h.get? it = some o ∧ o.cls = .type T ∧ (∃ vs, o.data = .fields vs) ∧ T ≠ "list" ∧ T ≠ "tuple" ∧ T ≠ "enumerate" ∧ T ≠ "zip" := by
  cases s with
  | lst a vs => obtain ⟨o, h1, h2, h3⟩ := x; exact ⟨o, _, h1, h2, ⟨_, h3⟩, by decide, by decide, by decide, by decide⟩
  | tup a vs => obtain ⟨o, h1, h2, h3⟩ := x; exact ⟨o, _, h1, h2, ⟨_, h3⟩, by decide, by decide, by decide, by decide⟩
  | str x =>
    obtain ⟨t, _, o, h1, h2, h3⟩ := x
    refine ⟨o, _, h1, h2, ⟨_, h3⟩, ?_⟩
    unfold strIterType
    split <;> exact ⟨by decide, by decide, by decide, by decide⟩
theorem Src.It.keep {u : Value} {h h' : Heap} {it : Addr} {i : Nat} {s : Src} (x : Src.It u h it i s) (k : ∀ o, h.get? it = some o → h'.get? it = some o) : Src.It u h' it i s := by
  cases s with
  | lst a vs => exact x.at k
  | tup a vs => obtain ⟨o, h1, h2, h3⟩ := x; exact ⟨o, k o h1, h2, h3⟩
  | str y => obtain ⟨t, e, o, h1, h2, h3⟩ := x; exact ⟨t, e, o, k o h1, h2, h3⟩
section
variable {X : Cx} {pins : List (Addr × Obj)} {σ : St} {H : Hp} {s : Shared}
/-- what a source's iterator draws, as things stand -/
structure SrcDraws (prog : Program) (w : World) (A : Around) (S : Src) (u : Value) (h0 : Heap) (it : Addr) (i0 : Nat) (fp : List Addr) (P : Nat → Value → Prop) (St : Nat → Heap → Prop) : Prop where
  dr : Draws prog w A it fp S.n P St
  st : St i0 h0
  it_ : ∀ j h, St j h → S.It u h it j
  val : ∀ j x, P j x → ∃ v, S.at_ j = some v ∧ RelV v x
  mem : it ∈ fp
  fp_ : ∀ b ∈ fp, b = it ∨ ∃ o T, h0.get? b = some o ∧ o.cls = .type T ∧ (T = "list" ∨ T = "tuple")
theorem Src.draws {S : Src} {u : Value} {it : Addr} {i : Nat} (I : Inv X pins σ H s) (hh : X.A.handled = none) (ok : S.Ok X.K H) (ru : RelV S.v u) (x : S.It u s.heap it i) : ∃ fp P St, SrcDraws X.prog X.w X.A.in1 S u s.heap it i fp P St := by
  cases S with
  | lst a vs =>
    obtain ⟨its, rv, p, hz⟩ := I.list ok
    have hne : a ≠ it := by
      rintro rfl
      obtain ⟨o, h1, h2, h3⟩ := x
      obtain ⟨o', n, h1', h2', _, h3'⟩ := p
      rw [h1] at h1'; cases h1'; rw [h3] at h3'; cases h3'
    have e : its.toArray.size = (Src.lst a vs).n := by rw [List.size_toArray, ← rv.length]; rfl
    refine ⟨_, _, _, ⟨e ▸ Draws.list (A := X.A.in1) hh it a hne its.toArray, ⟨x, p.isList⟩, fun j h z => z.1, fun j y z => ?_, by simp, fun b hb => ?_⟩⟩
    · have z : its[j]? = some y := by simpa using z
      obtain ⟨hj, _⟩ := List.getElem?_eq_some_iff.mp z
      have hv : vs[j]? = some (vs[j]'(by rw [rv.length]; exact hj)) := List.getElem?_eq_getElem _
      obtain ⟨u', h1, h2⟩ := rv.get hv
      rw [z] at h1; cases h1
      exact ⟨_, hv, h2⟩
    · rcases List.mem_cons.mp hb with rfl | hb
      · exact .inl rfl
      · have : b = a := by simpa using hb
        subst this
        obtain ⟨o', n, h1', h2', _, h3'⟩ := p
        exact .inr ⟨o', _, h1', h2', .inl rfl⟩
  | tup a vs =>
    obtain ⟨its, rv, p, hz⟩ := I.tuple ok
    have p : s.heap.IsTuple a its.toArray := p
    have hne : a ≠ it := by
      rintro rfl
      obtain ⟨o, h1, h2, h3⟩ := x
      obtain ⟨o', h1', h2', n, h3'⟩ := p
      rw [h1] at h1'; cases h1'; rw [h3] at h3'; cases h3'
    have e : its.toArray.size = (Src.tup a vs).n := by rw [List.size_toArray, ← rv.length]; rfl
    refine ⟨_, _, _, ⟨e ▸ Draws.tuple (A := X.A.in1) hh it a hne its.toArray, ⟨x, p⟩, fun j h z => z.1, fun j y z => ?_, by simp, fun b hb => ?_⟩⟩
    · have z : its[j]? = some y := by simpa using z
      obtain ⟨hj, _⟩ := List.getElem?_eq_some_iff.mp z
      have hv : vs[j]? = some (vs[j]'(by rw [rv.length]; exact hj)) := List.getElem?_eq_getElem _
      obtain ⟨u', h1, h2⟩ := rv.get hv
      rw [z] at h1; cases h1
      exact ⟨_, hv, h2⟩
    · rcases List.mem_cons.mp hb with rfl | hb
      · exact .inl rfl
      · have : b = a := by simpa using hb
        subst this
        obtain ⟨o', h1', h2', n, h3'⟩ := p
        exact .inr ⟨o', _, h1', h2', .inr rfl⟩
  | str y =>
    obtain ⟨t, e, h1⟩ := x
    refine ⟨_, _, _, ⟨Draws.text (A := X.A.in1) hh it y t, h1, fun j h z => ⟨t, e, z⟩, fun j v z => ?_, by simp, fun b hb => .inl (by simpa using hb)⟩⟩
    obtain ⟨c, u', h2, rfl⟩ := z
    exact ⟨.str ⟨#[c]⟩, by show y.cps[j]?.map _ = _; rw [h2]; rfl, ⟨_, rfl⟩⟩
/-- how it begins -/
theorem Src.begins {S : Src} {u : Value} (I : Inv X pins σ H s) (ok : S.Ok X.K H) (ru : RelV S.v u) : ∃ o Hh, Begins u o Hh ∧ Hh s.heap ∧ ∀ (h : Heap) (it : Addr), h.get? it = some o → S.It u h it 0 := by
  cases S with
  | lst a vs =>
    obtain ⟨its, rv, p, hz⟩ := I.list ok
    cases ru
    exact ⟨_, _, begins_list a its.toArray, p.isList, fun h it e => ⟨_, e, rfl, rfl⟩⟩
  | tup a vs =>
    obtain ⟨its, rv, p, hz⟩ := I.tuple ok
    cases ru
    exact ⟨_, _, begins_tuple a its.toArray, p, fun h it e => ⟨_, e, rfl, rfl⟩⟩
  | str y =>
    obtain ⟨t, rfl⟩ := ru
    exact ⟨_, _, begins_text y t, trivial, fun h it e => ⟨t, rfl, _, e, rfl, rfl⟩⟩
end
/-! ### enumerate -/
def ItEn (K : PySem.W.Frag) (S : Src) : It :=
  ⟨fun i H => S.Ok K H ∧ i < S.n, fun i H v H' => ∃ T x, v = .ref T ∧ H T = none ∧ H' = upd H T (.tup [.int (i : Nat), x]) ∧ S.at_ i = some x, fun i H => S.Ok K H ∧ i = S.n⟩
theorem turn_enumS {P : Program} {w : World} {K : PySem.W.Frag} {elts : List Expr} {kk : Nat} {tpos : Pos} {S : Src} {u : Value} (ru : RelV S.v u) (e it : Addr) :
    Turn P w K (.Tuple elts kk tpos) (ItEn K S) [e, it] e (fun i h => (∃ old, IsEnum h e it ((i : Nat) : Int) old) ∧ S.It u h it i) where
  mem := by simp
  obj := fun i h st b hb => by
    obtain ⟨⟨old, he⟩, hi⟩ := st
    have e' : b = e ∨ b = it := by simpa using hb
    rcases e' with z | z
    · rw [z]; exact ⟨_, he, fun v q => nomatch q⟩
    · rw [z]
      obtain ⟨o, T, h1, _, ⟨vs, h2⟩, _⟩ := hi.there
      exact ⟨o, h1, fun v q => by rw [h2] at q; cases q⟩
  keep := fun i h h' st k => let ⟨⟨old, he⟩, hi⟩ := st; ⟨⟨old, k e (by simp) _ he⟩, hi.keep fun o q => k it (by simp) o q⟩
  item := by
    intro X hP hw hK hc i pins s σ H E I hf st hg
    subst hP hw hK
    obtain ⟨⟨old, he⟩, hit⟩ := st
    obtain ⟨ok, hlt⟩ := hg
    obtain ⟨fp, Pp, St, D⟩ := Src.draws I (I.ok.hd hc) ok ru hit
    have hel : e < s.heap.objs.size := Heap.lt_size he
    have hne : e ≠ it := by
      rintro rfl
      obtain ⟨o, T, h1, h2, _, _, _, h3, _⟩ := hit.there
      have he' : s.heap.get? e = some _ := he
      rw [h1] at he'; cases he'
      exact h3 (by cases h2; rfl)
    have hef : e ∉ fp := fun hm => by
      rcases D.fp_ e hm with z | ⟨o, T, h1, h2, h3⟩
      · exact hne z
      · have he' : s.heap.get? e = some _ := he
        rw [h1] at he'; cases he'
        cases h2
        rcases h3 with h3 | h3 <;> exact absurd h3 (by decide)
    have hil : it < s.heap.objs.size := by obtain ⟨o, T, h1, _⟩ := hit.there; exact Heap.lt_size h1
    refine wpAny_pyNext_enum_itemD D.dr he D.st hlt hne hef fun x h' tk px ho st' hT hsz hk => ?_
    obtain ⟨v, hv, rv⟩ := D.val _ _ px
    refine ⟨_, rfl, wpAny_letOwnedTupleGo_enum (s := { s with heap := h', toks := tk + 1 }) ho fun h'' he' sb => ?_⟩
    have hT2 : h''.get? s.heap.objs.size = some { cls := .type "tuple", data := .seq #[.int i tk, x] } := (sb.2 _ (Nat.ne_of_gt hel)).trans hT
    have new : ObjOk X.prog X.w (upd H s.heap.objs.size (.tup [.int (i : Nat), v])) h'' s.heap.objs.size (.tup [.int (i : Nat), v]) :=
      ⟨by show 2 ≤ sizeLine; decide, [.int i tk, x], .cons ⟨_, rfl⟩ (.cons rv .nil), ⟨_, hT2, rfl, _, rfl⟩⟩
    have I1 : Inv X pins σ (upd H s.heap.objs.size (.tup [.int (i : Nat), v])) { s with heap := h'', toks := tk + 1 } :=
      I.turnedNew (ch := [e, it]) (fun b ob hb q => (sb.2 b (fun z => hb (by simp [z]))).trans (hk b ob (fun z => hb (by simp [z])) (fun z => hb (by simp [z])) q)) hf (Nat.le_refl _) new
    refine ⟨.ref s.heap.objs.size, _, I1, rfl, ⟨_, v, rfl, I.hok.fresh (Nat.le_refl _), rfl, hv⟩, ⟨⟨x, ?_⟩, (D.it_ _ _ st').keep fun o q => (sb.2 it (Ne.symm hne)).trans q⟩, fun b hb => ?_⟩
    · have e1 : ((i + 1 : Nat) : Int) = (i : Int) + 1 := by omega
      rw [e1]; exact he'
    · have hb' : b < s.heap.objs.size := by
        have e' : b = e ∨ b = it := by simpa using hb
        rcases e' with z | z
        · rw [z]; exact hel
        · rw [z]; exact hil
      rw [upd_ne (Nat.ne_of_lt hb')]
      exact (hf b hb).1
  done := by
    intro X hP hw hK hc i pins s σ H E I hf st hg
    subst hP hw hK
    obtain ⟨⟨old, he⟩, hit⟩ := st
    obtain ⟨ok, hlt⟩ := hg
    obtain ⟨fp, Pp, St, D⟩ := Src.draws I (I.ok.hd hc) ok ru hit
    obtain ⟨f0, f1, f2, f3, f4, f5⟩ := hf it (by simp)
    exact wpAny_pyNext_enum_endD D.dr he (hlt ▸ D.st) fun h' eb => ⟨rfl, I.turned (t' := s.toks) (fun b o hb q => eb b o hb q) f0 f1 f3 f4 f5⟩
  self := fun A i s Q E st h => let ⟨⟨_, he⟩, _⟩ := st; wpAny_pyIter_enum he h
def iEn (K : PySem.W.Frag) (ta : TA) : TI := fun σ H R => ta σ H fun vs H1 => ∃ S : Src, vs = [S.v] ∧ S.Ok K H1 ∧ R (ItEn K S) H1
theorem pi_enumS {X : Cx} {e : Expr} {ta : TA} {p pos tpos : Pos} {elts : List Expr} {kk : Nat} (hg : Gl X "enumerate") (hm : X.mg "enumerate" = none) (ha : PA X [e] ta) (hs : starEach [e] X.env = [(false, eval e X.env)]) :
    PI X (.Tuple elts kk tpos) (.Call (.Name "enumerate" p) [e] [] pos) (iEn X.K ta) := by
  refine ⟨fun pins s σ H R I h => ?_⟩
  refine Call_ (ld_blt I hg hm boot_enumerate (PyProof.Rows.callWith_type1 (thn (ha.run pos pins s σ H _ I h) fun us s1 ⟨vs, H1, I1, r1, q1⟩ => ?_) hs rfl))
  obtain ⟨S, ex, ok, q⟩ := q1
  subst ex
  obtain ⟨u, rfl, ru⟩ := r1.one
  obtain ⟨o, Hh, B, hb, hit⟩ := Src.begins I1 ok ru
  refine enum_begins1 B hb fun h' he ho hsz hk => wpAny_pyIter_enum he ?_
  have I2 : Inv X pins σ H1 { s1 with heap := h' } := I1.kept (t' := s1.toks) hk
  refine ⟨s1.heap.objs.size + 1, [s1.heap.objs.size + 1, s1.heap.objs.size], _, _, H1, rfl, I2, turn_enumS ru (s1.heap.objs.size + 1) s1.heap.objs.size, ⟨⟨.none, he⟩, hit _ _ ho⟩, fun b hb => ?_, q⟩
  have e' : b = s1.heap.objs.size + 1 ∨ b = s1.heap.objs.size := by simpa using hb
  have hle : s1.heap.objs.size ≤ b := by
    rcases e' with z | z
    · rw [z]; exact Nat.le_add_right _ _
    · rw [z]; exact Nat.le_refl _
  exact I1.fpOk hle (I1.hok.fresh hle)
end PD


namespace PD
open PySem PySem.Spec L2
open PyProof.Rows hiding St
/-! ### zip of two -/
section
variable {X : Cx} {pins : List (Addr × Obj)} {σ : St} {H : Hp} {s : Shared}
theorem base_ne {a b : Addr} {o : Obj} (I : Inv X pins σ H s) (k : X.K.lookup a = some o) (f : FpOk X pins H b) : a ≠ b := by
  rintro rfl
  have e := I.ok.mod.kin a o k
  obtain ⟨_, _, _, f3, _⟩ := f
  rcases f3 with f3 | f3
  · exact I.ok.noex a o e f3
  · exact absurd (Heap.lt_size (I.ok.bs a o e).1) (Nat.not_lt.mpr f3)
theorem sqT_ne {a b : Addr} {vs : List V} (I : Inv X pins σ H s) (k : SqT X.K H a vs) (f : FpOk X pins H b) : a ≠ b := by
  rcases k with (k | ⟨o, k⟩) | ⟨o, its, n, k, _⟩
  · exact ne_of_none k f.1
  · exact ne_of_none k f.1
  · exact base_ne I k f
theorem sqL_ne {a b : Addr} {vs : List V} (I : Inv X pins σ H s) (k : SqL X.K H a vs) (f : FpOk X pins H b) : a ≠ b := by
  rcases k with (k | ⟨o, k⟩) | ⟨o, its, n, k, _⟩
  · exact ne_of_none k f.1
  · exact ne_of_none k f.1
  · exact base_ne I k f
/-- the draws' addresses: the iterator's, the source's -/
theorem Src.draws2 {S : Src} {u : Value} {it : Addr} {i : Nat} (I : Inv X pins σ H s) (hh : X.A.handled = none) (ok : S.Ok X.K H) (ru : RelV S.v u) (x : S.It u s.heap it i) :
    ∃ fp P St, SrcDraws X.prog X.w X.A.in1 S u s.heap it i fp P St ∧ ∀ b, FpOk X pins H b → b ≠ it → b ∉ fp := by
  cases S with
  | lst a vs =>
    obtain ⟨its, rv, p, hz⟩ := I.list ok
    have hne : a ≠ it := by
      rintro rfl
      obtain ⟨o, h1, h2, h3⟩ := x
      obtain ⟨o', n, h1', h2', _, h3'⟩ := p
      rw [h1] at h1'; cases h1'; rw [h3] at h3'; cases h3'
    have e : its.toArray.size = (Src.lst a vs).n := by rw [List.size_toArray, ← rv.length]; rfl
    refine ⟨_, _, _, ⟨e ▸ Draws.list (A := X.A.in1) hh it a hne its.toArray, ⟨x, p.isList⟩, fun j h z => z.1, fun j y z => ?_, by simp, fun b hb => ?_⟩, fun b f hb hm => ?_⟩
    · have z : its[j]? = some y := by simpa using z
      obtain ⟨hj, _⟩ := List.getElem?_eq_some_iff.mp z
      have hv : vs[j]? = some (vs[j]'(by rw [rv.length]; exact hj)) := List.getElem?_eq_getElem _
      obtain ⟨u', h1, h2⟩ := rv.get hv
      rw [z] at h1; cases h1
      exact ⟨_, hv, h2⟩
    · rcases List.mem_cons.mp hb with rfl | hb
      · exact .inl rfl
      · have : b = a := by simpa using hb
        subst this
        obtain ⟨o', n, h1', h2', _, h3'⟩ := p
        exact .inr ⟨o', _, h1', h2', .inl rfl⟩
    · rcases List.mem_cons.mp hm with e | hm
      · exact hb e
      · have : b = a := by simpa using hm
        exact sqL_ne I ok f this.symm
  | tup a vs =>
    obtain ⟨its, rv, p, hz⟩ := I.tuple ok
    have p : s.heap.IsTuple a its.toArray := p
    have hne : a ≠ it := by
      rintro rfl
      obtain ⟨o, h1, h2, h3⟩ := x
      obtain ⟨o', h1', h2', n, h3'⟩ := p
      rw [h1] at h1'; cases h1'; rw [h3] at h3'; cases h3'
    have e : its.toArray.size = (Src.tup a vs).n := by rw [List.size_toArray, ← rv.length]; rfl
    refine ⟨_, _, _, ⟨e ▸ Draws.tuple (A := X.A.in1) hh it a hne its.toArray, ⟨x, p⟩, fun j h z => z.1, fun j y z => ?_, by simp, fun b hb => ?_⟩, fun b f hb hm => ?_⟩
    · have z : its[j]? = some y := by simpa using z
      obtain ⟨hj, _⟩ := List.getElem?_eq_some_iff.mp z
      have hv : vs[j]? = some (vs[j]'(by rw [rv.length]; exact hj)) := List.getElem?_eq_getElem _
      obtain ⟨u', h1, h2⟩ := rv.get hv
      rw [z] at h1; cases h1
      exact ⟨_, hv, h2⟩
    · rcases List.mem_cons.mp hb with rfl | hb
      · exact .inl rfl
      · have : b = a := by simpa using hb
        subst this
        obtain ⟨o', h1', h2', n, h3'⟩ := p
        exact .inr ⟨o', _, h1', h2', .inr rfl⟩
    · rcases List.mem_cons.mp hm with e | hm
      · exact hb e
      · have : b = a := by simpa using hm
        exact sqT_ne I ok f this.symm
  | str y =>
    obtain ⟨t, e, h1⟩ := x
    refine ⟨_, _, _, ⟨Draws.text (A := X.A.in1) hh it y t, h1, fun j h z => ⟨t, e, z⟩, fun j v z => ?_, by simp, fun b hb => .inl (by simpa using hb)⟩, fun b f hb hm => hb (by simpa using hm)⟩
    obtain ⟨c, u', h2, rfl⟩ := z
    exact ⟨.str ⟨#[c]⟩, by show y.cps[j]?.map _ = _; rw [h2]; rfl, ⟨_, rfl⟩⟩
end
def ItZp (K : PySem.W.Frag) (S1 S2 : Src) : It :=
  ⟨fun i H => S1.Ok K H ∧ S2.Ok K H ∧ i < S1.n ∧ i < S2.n, fun i H v H' => ∃ T x y, v = .ref T ∧ H T = none ∧ H' = upd H T (.tup [x, y]) ∧ S1.at_ i = some x ∧ S2.at_ i = some y,
    fun i H => S1.Ok K H ∧ S2.Ok K H ∧ i ≤ S1.n ∧ i ≤ S2.n ∧ (i = S1.n ∨ i = S2.n)⟩
/-- five addresses that stand apart -/
structure Five (z TI TO i1 i2 : Addr) : Prop where
  TIz : TI ≠ z
  TOz : TO ≠ z
  TITO : TI ≠ TO
  TIi1 : TI ≠ i1
  TIi2 : TI ≠ i2
  zi1 : z ≠ i1
  zi2 : z ≠ i2
  TOi1 : TO ≠ i1
  TOi2 : TO ≠ i2
  i12 : i1 ≠ i2
theorem turn_zipS {P : Program} {w : World} {K : PySem.W.Frag} {elts : List Expr} {kk : Nat} {tpos : Pos} {S1 S2 : Src} {u1 u2 : Value} (r1 : RelV S1.v u1) (r2 : RelV S2.v u2) {z TI TO i1 i2 : Addr} (D : Five z TI TO i1 i2) :
    Turn P w K (.Tuple elts kk tpos) (ItZp K S1 S2) [z, TI, TO, i1, i2] z (fun i h => IsZip h z TI TO .none ∧ IsTupOf2 h TI (.ref i1) (.ref i2) ∧ (∃ x y, IsTupOf2 h TO x y) ∧ S1.It u1 h i1 i ∧ S2.It u2 h i2 i) where
  mem := by simp
  obj := fun i h st c hc => by
    obtain ⟨hz, hTI, ⟨x, y, hTO⟩, h1, h2⟩ := st
    have e' : c = z ∨ c = TI ∨ c = TO ∨ c = i1 ∨ c = i2 := by simpa using hc
    rcases e' with q | q | q | q | q
    · rw [q]; exact ⟨_, hz, fun v q => nomatch q⟩
    · rw [q]; exact ⟨_, hTI, fun v q => nomatch q⟩
    · rw [q]; exact ⟨_, hTO, fun v q => nomatch q⟩
    · rw [q]; obtain ⟨o, T, e1, _, ⟨vs, d1⟩, _⟩ := h1.there; exact ⟨o, e1, fun v q => by rw [d1] at q; cases q⟩
    · rw [q]; obtain ⟨o, T, e1, _, ⟨vs, d1⟩, _⟩ := h2.there; exact ⟨o, e1, fun v q => by rw [d1] at q; cases q⟩
  keep := fun i h h' st k => by
    obtain ⟨hz, hTI, ⟨x, y, hTO⟩, h1, h2⟩ := st
    exact ⟨k z (by simp) _ hz, k TI (by simp) _ hTI, ⟨x, y, k TO (by simp) _ hTO⟩, h1.keep fun o q => k i1 (by simp) o q, h2.keep fun o q => k i2 (by simp) o q⟩
  item := by
    intro X hP hw hK hc i pins s σ H E I hf st hg
    subst hP hw hK
    obtain ⟨hz, hTI, ⟨x0, y0, hTO⟩, h1, h2⟩ := st
    obtain ⟨ok1, ok2, l1, l2⟩ := hg
    obtain ⟨fp1, P1, St1, D1, n1⟩ := Src.draws2 I (I.ok.hd hc) ok1 r1 h1
    obtain ⟨fp2, P2, St2, D2, n2⟩ := Src.draws2 I (I.ok.hd hc) ok2 r2 h2
    have sep : PySem.ZipSep2 z TI TO i1 i2 fp1 fp2 := ⟨D.TIz, D.TOz, D.TITO, D.TIi1, D1.mem, n1 _ (hf z (by simp)) D.zi1, n1 _ (hf TO (by simp)) D.TOi1, D.TIi2, D2.mem, n2 _ (hf z (by simp)) D.zi2, n2 _ (hf TO (by simp)) D.TOi2,
      n2 _ (hf i1 (by simp)) D.i12, n1 _ (hf i2 (by simp)) (Ne.symm D.i12)⟩
    have hzl : z < s.heap.objs.size := Heap.lt_size hz
    refine PySem.wpAny_pyNext_zipD2_item sep D1.dr D2.dr hz hTI hTO D1.st D2.st l1 l2 fun x1 x2 h' tk p1 p2 z' TO' s1' s2' hT hsz hk => ?_
    obtain ⟨v1, hv1, rv1⟩ := D1.val _ _ p1
    obtain ⟨v2, hv2, rv2⟩ := D2.val _ _ p2
    refine ⟨_, rfl, wpAny_letOwnedTupleGo_zip (s := { s with heap := h', toks := tk }) z' fun h'' z'' sb => ?_⟩
    have hT2 : h''.get? s.heap.objs.size = some { cls := .type "tuple", data := .seq #[x1, x2] } := (sb.2 _ (Nat.ne_of_gt hzl)).trans hT
    have new : ObjOk X.prog X.w (upd H s.heap.objs.size (.tup [v1, v2])) h'' s.heap.objs.size (.tup [v1, v2]) :=
      ⟨by show 2 ≤ sizeLine; decide, [x1, x2], .cons rv1 (.cons rv2 .nil), ⟨_, hT2, rfl, _, rfl⟩⟩
    have I1 : Inv X pins σ (upd H s.heap.objs.size (.tup [v1, v2])) { s with heap := h'', toks := tk } :=
      I.turnedNew (t' := tk) (ch := [z, TI, TO, i1, i2]) (fun c o hb q => (sb.2 c (fun q' => hb (by simp [q']))).trans (hk c o (fun q' => hb (by simp [q'])) (fun q' => hb (by simp [q'])) (fun q' => hb (by simp [q'])) (fun q' => hb (by simp [q'])) q)) hf (Nat.le_refl _) new
    refine ⟨.ref s.heap.objs.size, _, I1, rfl, ⟨_, v1, v2, rfl, I.hok.fresh (Nat.le_refl _), rfl, hv1, hv2⟩, ⟨z'', ?_, ⟨x1, x2, ?_⟩, ?_, ?_⟩, fun c hcm => ?_⟩
    · exact (sb.2 _ D.TIz).trans (hk _ _ D.TIz D.TITO D.TIi1 D.TIi2 hTI)
    · exact (sb.2 _ D.TOz).trans TO'
    · exact (D1.it_ _ _ s1').keep fun o q => (sb.2 _ (Ne.symm D.zi1)).trans q
    · exact (D2.it_ _ _ s2').keep fun o q => (sb.2 _ (Ne.symm D.zi2)).trans q
    · have hlt : c < s.heap.objs.size := by
        have e' : c = z ∨ c = TI ∨ c = TO ∨ c = i1 ∨ c = i2 := by simpa using hcm
        rcases e' with q | q | q | q | q
        · rw [q]; exact hzl
        · rw [q]; exact Heap.lt_size hTI
        · rw [q]; exact Heap.lt_size hTO
        · rw [q]; obtain ⟨_, _, e1, _⟩ := h1.there; exact Heap.lt_size e1
        · rw [q]; obtain ⟨_, _, e2, _⟩ := h2.there; exact Heap.lt_size e2
      rw [upd_ne (Nat.ne_of_lt hlt)]
      exact (hf c hcm).1
  done := by
    intro X hP hw hK hc i pins s σ H E I hf st hg
    subst hP hw hK
    obtain ⟨hz, hTI, ⟨x0, y0, hTO⟩, h1, h2⟩ := st
    obtain ⟨ok1, ok2, l1, l2, hend⟩ := hg
    obtain ⟨fp1, P1, St1, D1, n1⟩ := Src.draws2 I (I.ok.hd hc) ok1 r1 h1
    obtain ⟨fp2, P2, St2, D2, n2⟩ := Src.draws2 I (I.ok.hd hc) ok2 r2 h2
    have sep : PySem.ZipSep2 z TI TO i1 i2 fp1 fp2 := ⟨D.TIz, D.TOz, D.TITO, D.TIi1, D1.mem, n1 _ (hf z (by simp)) D.zi1, n1 _ (hf TO (by simp)) D.TOi1, D.TIi2, D2.mem, n2 _ (hf z (by simp)) D.zi2, n2 _ (hf TO (by simp)) D.TOi2,
      n2 _ (hf i1 (by simp)) D.i12, n1 _ (hf i2 (by simp)) (Ne.symm D.i12)⟩
    exact PySem.wpAny_pyNext_zipD2_end sep D1.dr D2.dr hz hTI hTO D1.st D2.st l1 l2 hend fun h' tk hk => ⟨rfl, I.turnedL (t' := tk) (ch := [z, TI, TO, i1, i2]) (fun c o hb q =>
      hk c o (fun q' => hb (by simp [q'])) (fun q' => hb (by simp [q'])) (fun q' => hb (by simp [q'])) (fun q' => hb (by simp [q'])) q) hf⟩
  self := fun A i s Q E st h => wpAny_pyIter_zip st.1 h
def iZp (K : PySem.W.Frag) (ta : TA) : TI := fun σ H R => ta σ H fun vs H1 => ∃ S1 S2 : Src, vs = [S1.v, S2.v] ∧ S1.Ok K H1 ∧ S2.Ok K H1 ∧ R (ItZp K S1 S2) H1
theorem pi_zipS {X : Cx} {e e2 : Expr} {ta : TA} {p pos tpos : Pos} {elts : List Expr} {kk : Nat} (hg : Gl X "zip") (hm : X.mg "zip" = none) (ha : PA X [e, e2] ta) (hs : starEach [e, e2] X.env = (false, eval e X.env) :: starEach [e2] X.env) (hs2 : starEach [e2] X.env = [(false, eval e2 X.env)]) :
    PI X (.Tuple elts kk tpos) (.Call (.Name "zip" p) [e, e2] [] pos) (iZp X.K ta) := by
  refine ⟨fun pins s σ H R I h => ?_⟩
  refine Call_ (ld_blt I hg hm boot_zip (PyProof.Rows.callWith_type1 (thn (ha.run pos pins s σ H _ I h) fun us s1 ⟨vs, H1, I1, r1, q1⟩ => ?_) hs (by rw [hs2]; rfl)))
  obtain ⟨S1, S2, ex, ok1, ok2, q⟩ := q1
  subst ex
  obtain ⟨u, u2, rfl, ru, ru2⟩ := r1.two
  obtain ⟨o1, Hh1, B1, hb1, hit1⟩ := Src.begins I1 ok1 ru
  obtain ⟨o2, Hh2, B2, hb2, hit2⟩ := Src.begins I1 ok2 ru2
  refine PySem.zip_begins2 B1 B2 hb1 hb2 fun h' hz hTI hTO h1 h2 hsz hk => wpAny_pyIter_zip hz ?_
  have I2 : Inv X pins σ H1 { s1 with heap := h' } := I1.kept (t' := s1.toks) hk
  refine ⟨s1.heap.objs.size + 4, [s1.heap.objs.size + 4, s1.heap.objs.size + 2, s1.heap.objs.size + 3, s1.heap.objs.size, s1.heap.objs.size + 1], _, _, H1, rfl, I2,
    turn_zipS ru ru2 ⟨?_, ?_, ?_, ?_, ?_, ?_, ?_, ?_, ?_, ?_⟩, ⟨hz, hTI, ⟨_, _, hTO⟩, hit1 _ _ h1, hit2 _ _ h2⟩, fun b hb => ?_, q⟩
  any_goals (intro z; have z : (_ : Nat) = _ := z; omega)
  have hle : s1.heap.objs.size ≤ b := by
    have e' : b = s1.heap.objs.size + 4 ∨ b = s1.heap.objs.size + 2 ∨ b = s1.heap.objs.size + 3 ∨ b = s1.heap.objs.size ∨ b = s1.heap.objs.size + 1 := by simpa using hb
    rcases e' with z | z | z | z | z
    · rw [z]; exact Nat.le_add_right _ _
    · rw [z]; exact Nat.le_add_right _ _
    · rw [z]; exact Nat.le_add_right _ _
    · rw [z]; exact Nat.le_refl _
    · rw [z]; exact Nat.le_add_right _ _
  exact I1.fpOk hle (I1.hok.fresh hle)
end PD


namespace PD
open PySem PySem.Spec L2
open PyProof.Rows hiding St
/-! ### iterables -/
section
variable {K : PySem.W.Frag} {mg : Str → Option Value} {μ : Mp} {h : MH} {H : Hp} {n : Nat}
/-- a value that stands still, as a source -/
structure SrcRep (K : PySem.W.Frag) (mg : Str → Option Value) (μ : Mp) (n : Nat) (H : Hp) (S : Src) (xs : List D) : Prop where
  ok : ∀ μ2 n2 H2, Step0 K μ n H μ2 n2 H2 → S.Ok K H2
  n_ : S.n = xs.length
  at_ : ∀ μ2 n2 H2, Step0 K μ n H μ2 n2 H2 → ∀ i x, S.at_ i = some x → ∃ d, xs[i]? = some d ∧ Rep K mg μ2 n2 H2 d x
theorem src_of {d : D} {v : V} {xs : List D} (r : Rep K mg μ n H d v) (e : still d = some xs) : ∃ S : Src, v = S.v ∧ SrcRep K mg μ n H S xs := by
  cases r with
  | tup t l =>
    cases e
    exact ⟨.tup _ _, rfl, fun _ _ _ s => s.tup _ _ t, l.length.symm, fun _ _ _ s i x hx => let ⟨d, h1, h2⟩ := l.get' hx; ⟨d, h1, h2.step0 s⟩⟩
  | lst t l =>
    cases e
    exact ⟨.lst _ _, rfl, fun _ _ _ s => SqL.of (s.frz _ _ t).1, l.length.symm, fun _ _ _ s i x hx => let ⟨d, h1, h2⟩ := l.get' hx; ⟨d, h1, h2.step0 s⟩⟩
  | flst t l =>
    cases e
    exact ⟨.lst _ _, rfl, fun _ _ _ s => (s.sqf _ _ t).sq, l.length.symm, fun _ _ _ s i x hx => let ⟨d, h1, h2⟩ := l.get' hx; ⟨d, h1, h2.step0 s⟩⟩
  | str z =>
    cases e
    refine ⟨.str z, rfl, fun _ _ _ _ => trivial, by simp [Src.n, signs], fun _ _ _ _ i x hx => ?_⟩
    have hx : z.cps[i]?.map (fun c => V.str ⟨#[c]⟩) = some x := hx
    obtain ⟨c, h1, rfl⟩ := Option.map_eq_some_iff.mp hx
    exact ⟨.str ⟨#[c]⟩, by rw [signs, List.getElem?_map, Array.getElem?_toList, h1]; rfl, .str _⟩
  | _ => cases e
/-- a loop's iterator yields what is said -/
structure ItOk (K : PySem.W.Frag) (mg : Str → Option Value) (J : L2.It) (μ : Mp) (n : Nat) (H : Hp) (xs : List D) : Prop where
  go : ∀ i μ2 n2 H2, Step0 K μ n H μ2 n2 H2 → i < xs.length → J.go i H2
  yld : ∀ i μ2 h2 H2 x H3, Step0 K μ n H μ2 h2.length H2 → Good K mg μ2 h2 H2 → i < xs.length → J.yld i H2 x H3 →
    ∃ d, xs[i]? = some d ∧ Step K μ2 h2.length H2 μ2 h2.length H3 ∧ Good K mg μ2 h2 H3 ∧ Rep K mg μ2 h2.length H3 d x
  stop : ∀ i μ2 n2 H2, Step0 K μ n H μ2 n2 H2 → i = xs.length → J.stop i H2
def iD (K : PySem.W.Frag) (mg : Str → Option Value) (f : Env → M (List D)) : TI := fun σ H R => ∃ μ ρ h xs h', Good K mg μ h H ∧ Sl K mg μ h.length H σ ρ ∧ f ρ h = some (xs, h') ∧
  ∀ μ' J H', Step K μ h.length H μ' h'.length H' → Good K mg μ' h' H' → ItOk K mg J μ' h'.length H' xs → R J H'
theorem piImp {X : Cx} {tg e : Expr} {t t' : TI} (h : PI X tg e t) (i : ∀ σ H R, t' σ H R → t σ H R) : PI X tg e t' := ⟨fun pins s σ H R I q => h.run pins s σ H R I (i σ H R q)⟩
/-- the iterator of a source itself -/
def ItS (K : PySem.W.Frag) : Src → L2.It
  | .lst a _ => Itl K a
  | .tup a _ => Itt K a
  | .str x => Its x
def iSrc (K : PySem.W.Frag) (te : TE) : TI := fun σ H R => te σ H fun x H1 => ∃ S : Src, x = S.v ∧ S.Ok K H1 ∧ R (ItS K S) H1
theorem pi_src {X : Cx} {tg e : Expr} {te : TE} (he : PE X e te) : PI X tg e (iSrc X.K te) := by
  refine ⟨fun pins s σ H R I h => ?_⟩
  refine thn (he.run pins s σ H _ I h) fun v s1 ⟨x, H1, I1, r1, q1⟩ => ?_
  obtain ⟨S, e, ok, q⟩ := q1
  subst e
  cases S with
  | lst a vs =>
    cases r1
    obtain ⟨its, rv, p, hz⟩ := I1.list ok
    refine wpAny_pyIter_list p.isList ?_
    refine ⟨s1.heap.objs.size, [s1.heap.objs.size], _, _, H1, rfl, I1.kept (t' := s1.toks) fun b o e => Heap.get?_push_of_some _ e, turn_list a _, ⟨_, Heap.get?_push_size _ rfl, rfl, rfl⟩, fun b hb => ?_, q⟩
    have e : b = s1.heap.objs.size := by simpa using hb
    subst e
    exact I1.fpOk (Nat.le_refl _) (I1.hok.fresh (Nat.le_refl _))
  | tup a vs =>
    cases r1
    obtain ⟨its, rv, p, hz⟩ := I1.tuple ok
    refine wpAny_pyIter_tuple (show s1.heap.IsTuple a its.toArray from p) ?_
    refine ⟨s1.heap.objs.size, [s1.heap.objs.size], _, _, H1, rfl, I1.kept (t' := s1.toks) fun b o e => Heap.get?_push_of_some _ e, turn_tuple a _, ⟨_, Heap.get?_push_size _ rfl, rfl, rfl⟩, fun b hb => ?_, q⟩
    have e : b = s1.heap.objs.size := by simpa using hb
    subst e
    exact I1.fpOk (Nat.le_refl _) (I1.hok.fresh (Nat.le_refl _))
  | str y =>
    obtain ⟨t, rfl⟩ := r1
    refine wpAny_pyIter_strU ?_
    refine ⟨s1.heap.objs.size, [s1.heap.objs.size], _, _, H1, rfl, I1.kept (t' := s1.toks) fun b o e => Heap.get?_push_of_some _ e,
      turn_str s1.heap.objs.size y t (strIterType y) (by unfold strIterType; split <;> simp), ⟨_, Heap.get?_push_size _ rfl, rfl, rfl⟩, fun b hb => ?_, q⟩
    have e : b = s1.heap.objs.size := by simpa using hb
    subst e
    exact I1.fpOk (Nat.le_refl _) (I1.hok.fresh (Nat.le_refl _))
variable {S S1 S2 : Src} {xs ys : List D}
theorem itok_src (r : SrcRep K mg μ n H S xs) : ItOk K mg (ItS K S) μ n H xs := by
  have at' : ∀ {μ2 : Mp} {h2 : MH} {H2 : Hp} {i : Nat} {x : V}, Step0 K μ n H μ2 h2.length H2 → Good K mg μ2 h2 H2 → S.at_ i = some x → ∃ d, xs[i]? = some d ∧ Step K μ2 h2.length H2 μ2 h2.length H2 ∧ Good K mg μ2 h2 H2 ∧ Rep K mg μ2 h2.length H2 d x := fun s g hx =>
    let ⟨d, h1, h2⟩ := r.at_ _ _ _ s _ _ hx; ⟨d, h1, Step.refl, g, h2⟩
  have hn := r.n_
  cases S with
  | lst a vs =>
    have hn : vs.length = xs.length := hn
    refine ⟨fun i μ2 n2 H2 s hi => ⟨vs, vs[i]'(by omega), r.ok _ _ _ s, List.getElem?_eq_getElem _⟩, fun i μ2 h2 H2 x H3 s g hi hy => ?_, fun i μ2 n2 H2 s hi => ⟨vs, r.ok _ _ _ s, by omega⟩⟩
    obtain ⟨rfl, q⟩ := hy
    exact at' s g (q vs (r.ok _ _ _ s))
  | tup a vs =>
    have hn : vs.length = xs.length := hn
    refine ⟨fun i μ2 n2 H2 s hi => ⟨vs, vs[i]'(by omega), r.ok _ _ _ s, List.getElem?_eq_getElem _⟩, fun i μ2 h2 H2 x H3 s g hi hy => ?_, fun i μ2 n2 H2 s hi => ⟨vs, r.ok _ _ _ s, by omega⟩⟩
    obtain ⟨rfl, q⟩ := hy
    exact at' s g (q vs (r.ok _ _ _ s))
  | str y =>
    have hn : y.cps.size = xs.length := hn
    refine ⟨fun i μ2 n2 H2 s hi => by show i < y.cps.size; omega, fun i μ2 h2 H2 x H3 s g hi hy => ?_, fun i μ2 n2 H2 s hi => by show y.cps.size ≤ i; omega⟩
    obtain ⟨rfl, c, hc, rfl⟩ := hy
    exact at' s g (by show y.cps[i]?.map _ = _; rw [hc]; rfl)
theorem enumL_length : ∀ (k : Nat) (xs : List D), (enumL k xs).length = xs.length
  | _, [] => rfl
  | k, x :: xs => congrArg Nat.succ (enumL_length (k + 1) xs)
theorem enumL_get : ∀ (k : Nat) (xs : List D) (i : Nat), (enumL k xs)[i]? = xs[i]?.map fun x => .tup [.int ((k + i : Nat) : Int), x]
  | _, [], _ => by simp [enumL]
  | k, x :: xs, 0 => rfl
  | k, x :: xs, i + 1 => by
    show (enumL (k + 1) xs)[i]? = xs[i]?.map _
    rw [enumL_get (k + 1) xs i]
    have : k + 1 + i = k + (i + 1) := by omega
    rw [this]
theorem itok_enum (r : SrcRep K mg μ n H S xs) : ItOk K mg (ItEn K S) μ n H (enumL 0 xs) := by
  have hn := r.n_
  refine ⟨fun i μ2 n2 H2 s hi => ⟨r.ok _ _ _ s, by rw [enumL_length] at hi; omega⟩, fun i μ2 h2 H2 x H3 s g hi hy => ?_, fun i μ2 n2 H2 s hi => ⟨r.ok _ _ _ s, by rw [enumL_length] at hi; omega⟩⟩
  obtain ⟨T, y, rfl, hT, rfl, hx⟩ := hy
  obtain ⟨d, h1, h2'⟩ := r.at_ _ _ _ s _ _ hx
  obtain ⟨s1, s2, s3⟩ := newTup (xs := [.int (i : Nat), d]) (vs := [.int (i : Nat), y]) g hT (.cons (.int _) (.cons h2' .nil))
  exact ⟨_, by rw [enumL_get, h1]; simp, s1, s2, s3⟩
theorem zipL_get : ∀ (xs ys : List D) (i : Nat) (x y : D), xs[i]? = some x → ys[i]? = some y → (zipL xs ys)[i]? = some (.tup [x, y])
  | [], _, _, _, _, h, _ => by simp at h
  | _ :: _, [], _, _, _, _, h => by simp at h
  | a :: xs, b :: ys, 0, x, y, h1, h2 => by simp at h1 h2; subst h1 h2; rfl
  | a :: xs, b :: ys, i + 1, x, y, h1, h2 => zipL_get xs ys i x y (by simpa using h1) (by simpa using h2)
theorem zipL_length : ∀ (xs ys : List D), (zipL xs ys).length = min xs.length ys.length
  | [], ys => by simp [zipL]
  | _ :: _, [] => by simp [zipL]
  | a :: xs, b :: ys => by
    have := zipL_length xs ys
    simp only [zipL, List.length_cons, this]
    omega
theorem itok_zip (r : SrcRep K mg μ n H S1 xs) (r2 : SrcRep K mg μ n H S2 ys) : ItOk K mg (ItZp K S1 S2) μ n H (zipL xs ys) := by
  have hn := r.n_
  have hn2 := r2.n_
  have hl := zipL_length xs ys
  refine ⟨fun i μ2 n2 H2 s hi => ⟨r.ok _ _ _ s, r2.ok _ _ _ s, by omega, by omega⟩, fun i μ2 h2 H2 x H3 s g hi hy => ?_, fun i μ2 n2 H2 s hi => ⟨r.ok _ _ _ s, r2.ok _ _ _ s, by omega, by omega, by omega⟩⟩
  obtain ⟨T, a, b, rfl, hT, rfl, hx, hx2⟩ := hy
  obtain ⟨d, h1, h2'⟩ := r.at_ _ _ _ s _ _ hx
  obtain ⟨e, h3, h4⟩ := r2.at_ _ _ _ s _ _ hx2
  obtain ⟨s1, s2, s3⟩ := newTup (xs := [d, e]) (vs := [a, b]) g hT (.cons h2' (.cons h4 .nil))
  exact ⟨_, zipL_get _ _ _ _ _ h1 h3, s1, s2, s3⟩
theorem irange_get (a b : Int) (i : Nat) (hi : i < (b - a).toNat) : (irange a b)[i]? = some (.int (a + i)) := by
  unfold irange
  rw [List.getElem?_map, List.getElem?_range hi]
  rfl
theorem irange_length (a b : Int) : (irange a b).length = (b - a).toNat := by unfold irange; simp
theorem itok_range (a b : Int) : ItOk K mg (Itr a (b - a).toNat) μ n H (irange a b) := by
  have hl := irange_length a b
  refine ⟨fun i μ2 n2 H2 s hi => by show i < (b - a).toNat; omega, fun i μ2 h2 H2 x H3 s g hi hy => ?_, fun i μ2 n2 H2 s hi => by show (b - a).toNat ≤ i; omega⟩
  obtain ⟨rfl, rfl⟩ := hy
  exact ⟨_, irange_get a b i (by omega), Step.refl, g, .int _⟩
end
/-! ### PI for each iterable -/
section
variable {X : Cx} {tg e e2 : Expr} {fa fb : Bool} {f g : Env → M D} {p pos : Pos}
theorem pi_seqD (he : PE X e (tD fa X.K X.mg f)) : PI X tg e (iD X.K X.mg fun ρ => .bind (f ρ) fun x => .of (still x)) := by
  refine piImp (pi_src he) fun σ H R h => ?_
  obtain ⟨μ, ρ, h, xs, h', gd, sl, e, q⟩ := h
  obtain ⟨x, h1, e1, e2⟩ := M.bind_eq e
  obtain ⟨e3, e4⟩ := M.of_eq e2
  cases e4
  refine ⟨μ, ρ, h, x, h', gd, sl, e1, fun μ1 v1 H1 s1 g1 r1 _ => ?_⟩
  obtain ⟨S, hv, hS⟩ := src_of r1 e3
  exact ⟨S, hv, hS.ok _ _ _ Step.refl.toStep0, q μ1 _ H1 s1 g1 (itok_src hS)⟩
theorem notStar_cons {e : Expr} (hns : (match e with | .Starred _ _ => false | _ => true) = true) (es : List Expr) (env : PySem.Env) : starEach (e :: es) env = (false, eval e env) :: starEach es env := by
  cases e <;> first | rfl | cases hns
/-- an argument's reading, alone -/
theorem pa_one (hns : (match e with | .Starred _ _ => false | _ => true) = true) (he : PE X e (tD fa X.K X.mg f)) : PA X [e] (tCons (tD fa X.K X.mg f) tNil) := pa_cons he pa_nil (notStar_cons hns _ _)
theorem pi_range1D (hns : (match e with | .Starred _ _ => false | _ => true) = true) (hg : Gl X "range") (hm : X.mg "range" = none) (he : PE X e (tD fa X.K X.mg f)) : PI X tg (.Call (.Name "range" p) [e] [] pos) (iD X.K X.mg fun ρ => .bind (f ρ) fun x => match x with
    | .int j => if -(2 ^ 62) ≤ j ∧ j < 2 ^ 62 then .ret (irange 0 j) else .fail
    | _ => .fail) := by
  refine piImp (pi_range1 hg hm (pa_one hns he) (notStar_cons hns _ _)) fun σ H R h => ?_
  obtain ⟨μ, ρ, h, xs, h', gd, sl, e, q⟩ := h
  obtain ⟨x, h1, e1, e2⟩ := M.bind_eq e
  cases x with
  | int j =>
    have e2 : (if -(2 ^ 62) ≤ j ∧ j < 2 ^ 62 then M.ret (irange 0 j) else M.fail) h1 = some (xs, h') := e2
    by_cases z : -(2 ^ 62) ≤ j ∧ j < 2 ^ 62
    · rw [if_pos z] at e2
      cases e2
      refine ⟨μ, ρ, h, _, h', gd, sl, e1, fun μ1 v1 H1 s1 g1 r1 _ => ?_⟩
      cases r1
      have := itok_range (K := X.K) (mg := X.mg) (μ := μ1) (n := h'.length) (H := H1) 0 j
      rw [Int.sub_zero] at this
      exact ⟨j, rfl, z.1, z.2, q μ1 _ H1 s1 g1 this⟩
    · rw [if_neg z] at e2; cases e2
  | _ => cases e2
theorem pi_range2D (hns : (match e with | .Starred _ _ => false | _ => true) = true) (hns2 : (match e2 with | .Starred _ _ => false | _ => true) = true) (hg : Gl X "range") (hm : X.mg "range" = none) (he : PE X e (tD fa X.K X.mg f)) (he2 : PE X e2 (tD fb X.K X.mg g)) :
    PI X tg (.Call (.Name "range" p) [e, e2] [] pos) (iD X.K X.mg fun ρ => .bind (f ρ) fun x => .bind (g ρ) fun y => match x, y with
    | .int i, .int j => if -(2 ^ 62) ≤ i ∧ i < 2 ^ 62 ∧ -(2 ^ 62) ≤ j ∧ j < 2 ^ 62 then .ret (irange i j) else .fail
    | _, _ => .fail) := by
  refine piImp (pi_range2 hg hm (pa_cons he (pa_one hns2 he2) (notStar_cons hns _ _)) (by rw [notStar_cons hns, notStar_cons hns2]; rfl) (notStar_cons hns2 _ _)) fun σ H R h => ?_
  obtain ⟨μ, ρ, h, xs, h', gd, sl, e, q⟩ := h
  obtain ⟨x, h1, e1, e2⟩ := M.bind_eq e
  obtain ⟨y, h2, e3, e4⟩ := M.bind_eq e2
  cases x <;> cases y <;> try cases e4
  rename_i i j
  have e4 : (if -(2 ^ 62) ≤ i ∧ i < 2 ^ 62 ∧ -(2 ^ 62) ≤ j ∧ j < 2 ^ 62 then M.ret (irange i j) else M.fail) h2 = some (xs, h') := e4
  by_cases z : -(2 ^ 62) ≤ i ∧ i < 2 ^ 62 ∧ -(2 ^ 62) ≤ j ∧ j < 2 ^ 62
  · rw [if_pos z] at e4
    cases e4
    refine ⟨μ, ρ, h, _, h1, gd, sl, e1, fun μ1 v1 H1 s1 g1 r1 _ => ?_⟩
    refine ⟨μ1, ρ, h1, _, h', g1, sl.step s1, e3, fun μ2 v2 H2 s2 g2 r2 _ => ?_⟩
    cases r1; cases r2
    exact ⟨i, j, rfl, z, q μ2 _ H2 (s1.trans s2) g2 (itok_range i j)⟩
  · rw [if_neg z] at e4; cases e4
theorem pi_enumD {elts : List Expr} {kk : Nat} {tpos : Pos} (hns : (match e with | .Starred _ _ => false | _ => true) = true) (hg : Gl X "enumerate") (hm : X.mg "enumerate" = none) (he : PE X e (tD fa X.K X.mg f)) :
    PI X (.Tuple elts kk tpos) (.Call (.Name "enumerate" p) [e] [] pos) (iD X.K X.mg fun ρ => .bind (f ρ) fun x => .bind (.of (still x)) fun xs => .ret (enumL 0 xs)) := by
  refine piImp (pi_enumS hg hm (pa_one hns he) (notStar_cons hns _ _)) fun σ H R h => ?_
  obtain ⟨μ, ρ, h, xs, h', gd, sl, e, q⟩ := h
  obtain ⟨x, h1, e1, e2⟩ := M.bind_eq e
  obtain ⟨ys, h2, e3, e4⟩ := M.bind_eq e2
  obtain ⟨e3', e5⟩ := M.of_eq e3
  cases e5; cases e4
  refine ⟨μ, ρ, h, x, _, gd, sl, e1, fun μ1 v1 H1 s1 g1 r1 _ => ?_⟩
  obtain ⟨S, hv, hS⟩ := src_of r1 e3'
  exact ⟨S, by rw [hv], hS.ok _ _ _ Step.refl.toStep0, q μ1 _ H1 s1 g1 (itok_enum hS)⟩
theorem pi_zipD {elts : List Expr} {kk : Nat} {tpos : Pos} (hns : (match e with | .Starred _ _ => false | _ => true) = true) (hns2 : (match e2 with | .Starred _ _ => false | _ => true) = true) (hg : Gl X "zip") (hm : X.mg "zip" = none) (he : PE X e (tD fa X.K X.mg f)) (he2 : PE X e2 (tD fb X.K X.mg g)) :
    PI X (.Tuple elts kk tpos) (.Call (.Name "zip" p) [e, e2] [] pos) (iD X.K X.mg fun ρ => .bind (f ρ) fun x => .bind (g ρ) fun y => .bind (.of (still x)) fun xs => .bind (.of (still y)) fun ys => .ret (zipL xs ys)) := by
  refine piImp (pi_zipS hg hm (pa_cons he (pa_one hns2 he2) (notStar_cons hns _ _)) (notStar_cons hns _ _) (notStar_cons hns2 _ _)) fun σ H R h => ?_
  obtain ⟨μ, ρ, h, zs, h', gd, sl, e, q⟩ := h
  obtain ⟨x, h1, e1, e2⟩ := M.bind_eq e
  obtain ⟨y, h2, e3, e4⟩ := M.bind_eq e2
  obtain ⟨xs, h3, e5, e6⟩ := M.bind_eq e4
  obtain ⟨ys, h4, e7, e8⟩ := M.bind_eq e6
  obtain ⟨e5', e9⟩ := M.of_eq e5
  obtain ⟨e7', e10⟩ := M.of_eq e7
  cases e8; cases e10; cases e9
  refine ⟨μ, ρ, h, x, _, gd, sl, e1, fun μ1 v1 H1 s1 g1 r1 _ => ?_⟩
  refine ⟨μ1, ρ, _, y, _, g1, sl.step s1, e3, fun μ2 v2 H2 s2 g2 r2 _ => ?_⟩
  obtain ⟨S, hv, hS⟩ := src_of (r1.step s2) e5'
  obtain ⟨S2, hv2, hS2⟩ := src_of r2 e7'
  exact ⟨S, S2, by rw [hv, hv2], hS.ok _ _ _ Step.refl.toStep0, hS2.ok _ _ _ Step.refl.toStep0, q μ2 _ H2 (s1.trans s2) g2 (itok_zip hS hS2)⟩
end
end PD


namespace PD
open PySem PySem.Spec L2
open PyProof.Rows hiding St
/-! ### arguments, displays -/
def noStar : Expr → Bool
  | .Starred _ _ => false
  | _ => true
theorem noStar_cons {e : Expr} (h : noStar e = true) (es : List Expr) (env : PySem.Env) : starEach (e :: es) env = (false, eval e env) :: starEach es env := by
  cases e <;> first | rfl | cases h
theorem noStar_eq {e : Expr} (h : noStar e = true) : (match e with | .Starred _ _ => false | _ => true) = true := by cases e <;> first | rfl | cases h
theorem noStars {env : PySem.Env} {pos : Pos} : ∀ {es : List Expr}, es.all noStar = true → (backTo pos (starEach es env)).any (·.1) = false
  | [], _ => rfl
  | e :: es, h => by
    rw [List.all_cons, Bool.and_eq_true] at h
    rw [noStar_cons h.1]
    show (false || (backTo pos (starEach es env)).any (·.1)) = false
    rw [noStars h.2]; rfl
section
variable {X : Cx} {e : Expr} {es : List Expr} {fa : Bool} {f : Env → M D} {g : Env → M (List D)} {p pos : Pos}
theorem pa_nilD : PA X [] (tL X.K X.mg fun _ => .ret []) := paImp pa_nil fun σ H Q h => by
  obtain ⟨μ, ρ, h, ds, h', gd, sl, e, q⟩ := h
  cases e
  exact q μ _ H Step.refl gd .nil
theorem pa_consD (hns : noStar e = true) (he : PE X e (tD fa X.K X.mg f)) (hr : PA X es (tL X.K X.mg g)) : PA X (e :: es) (tL X.K X.mg fun ρ => .bind (f ρ) fun x => .bind (g ρ) fun ys => .ret (x :: ys)) := by
  refine paImp (pa_cons he hr (noStar_cons hns _ _)) fun σ H Q h => ?_
  obtain ⟨μ, ρ, h, ds, h', gd, sl, e, q⟩ := h
  obtain ⟨x, h1, e1, e2⟩ := M.bind_eq e
  obtain ⟨ys, h2, e3, e4⟩ := M.bind_eq e2
  cases e4
  refine ⟨μ, ρ, h, x, h1, gd, sl, e1, fun μ1 v1 H1 s1 g1 r1 _ => ?_⟩
  exact ⟨μ1, ρ, h1, ys, h', g1, sl.step s1, e3, fun μ2 vs H2 s2 g2 r2 => q μ2 _ H2 (s1.trans s2) g2 (.cons (r1.step s2) r2)⟩
theorem pa_starD (he : PE X e (tD fa X.K X.mg f)) (hr : PA X es (tL X.K X.mg g)) : PA X (.Starred e p :: es) (tL X.K X.mg fun ρ => .bind (f ρ) fun x => .bind (.look fun h => items h x) fun xs => .bind (g ρ) fun ys => .ret (xs ++ ys)) := by
  refine ⟨fun pos pins s σ H Q I h => ?_⟩
  obtain ⟨μ, ρ, h, ds, h', gd, sl, e, q⟩ := h
  obtain ⟨x, h1, e1, e2⟩ := M.bind_eq e
  obtain ⟨xs, h2, e3, e4⟩ := M.bind_eq e2
  obtain ⟨e3', e5⟩ := M.look_eq e3
  obtain ⟨ys, h3, e6, e7⟩ := M.bind_eq e4
  cases e7; cases e5
  refine PySem.W.items_star (thn (he.run pins s σ H _ I ⟨μ, ρ, h, x, _, gd, sl, e1, fun μ1 v1 H1 s1 g1 r1 _ => (⟨μ1, s1, g1, r1⟩ : ∃ μ1, Step X.K μ h.length H μ1 h2.length H1 ∧ Good X.K X.mg μ1 h2 H1 ∧ Rep X.K X.mg μ1 h2.length H1 x v1)⟩) fun u s1 ⟨v, H1, I1, ru, μ1, st1, g1, r1⟩ => ?_) rfl
  obtain ⟨a, vs, rfl, hq, l1⟩ := seqAt g1 r1 e3'
  cases ru
  refine StX.star_any I1 hq.symm fun us s2 I2 rv => ?_
  refine thn (hr.run pos pins s2 σ H1 _ I2 ⟨μ1, ρ, h2, ys, h', g1, sl.step st1, e6, fun μ2 ws H2 s2 g2 r2 => (q μ2 (vs ++ ws) H2 (st1.trans s2) g2 ((l1.step s2).append r2) : Q (vs ++ ws) H2)⟩) fun ws s3 ⟨ws', H3, I3, r3, q3⟩ => ?_
  exact ⟨vs ++ ws', H3, I3, rv.append r3, q3⟩
theorem pe_tupD {x1} (h : PA X es (tL X.K X.mg g)) : PE X (.Tuple es x1 pos) (tD false X.K X.mg fun ρ => .bind (g ρ) fun xs => if xs.length ≤ sizeLine then .ret (.tup xs) else .fail) := by
  refine peImp (pe_tup h) fun σ H Q h => ?_
  obtain ⟨μ, ρ, h, d, h', gd, sl, e, q⟩ := h
  obtain ⟨xs, h1, e1, e2⟩ := M.bind_eq e
  by_cases z : xs.length ≤ sizeLine
  · rw [if_pos z] at e2
    cases e2
    refine ⟨μ, ρ, h, xs, h', gd, sl, e1, fun μ1 vs H1 s1 g1 r1 => ⟨by rw [← r1.length]; exact z, fun p hp => ?_⟩⟩
    obtain ⟨a1, a2, a3⟩ := newTup g1 hp r1
    exact q μ1 _ _ (s1.trans a1) a2 a3 nofun
  · rw [if_neg z] at e2; cases e2
theorem pe_dspD (h : PA X es (tL X.K X.mg g)) : PE X (.List es pos) (tD true X.K X.mg fun ρ => .bind (g ρ) fun xs => if xs.length ≤ sizeLine then .ret (.lst xs) else .fail) := by
  refine peImp (pe_lst h) fun σ H Q h => ?_
  obtain ⟨μ, ρ, h, d, h', gd, sl, e, q⟩ := h
  obtain ⟨xs, h1, e1, e2⟩ := M.bind_eq e
  by_cases z : xs.length ≤ sizeLine
  · rw [if_pos z] at e2
    cases e2
    refine ⟨μ, ρ, h, xs, h', gd, sl, e1, fun μ1 vs H1 s1 g1 r1 => ⟨by rw [← r1.length]; exact z, fun p hp => ?_⟩⟩
    obtain ⟨a1, a2, a3, a4⟩ := newLst g1 hp r1
    exact q μ1 _ _ (s1.trans a1) a2 a3 fun _ => a4.back s1
  · rw [if_neg z] at e2; cases e2
/-- a fresh list, as a changeable thing -/
theorem pe_mutD (he : PE X e (tD true X.K X.mg f)) : PE X e (tD false X.K X.mg fun ρ => .bind (f ρ) fun x => match x with
    | .lst xs => fun h => some (.ref h.length, h ++ [.lst xs])
    | _ => .fail) := by
  refine peImp he fun σ H Q h => ?_
  obtain ⟨μ, ρ, h, d, h', gd, sl, e, q⟩ := h
  obtain ⟨x, h1, e1, e2⟩ := M.bind_eq e
  cases x with
  | lst xs =>
    have e2 : some (D.ref h1.length, h1 ++ [MO.lst xs]) = some (d, h') := e2
    cases e2
    refine ⟨μ, ρ, h, _, h1, gd, sl, e1, fun μ1 v1 H1 s1 g1 r1 fr => ?_⟩
    obtain ⟨H0, p, vs, rfl, hp, rfl, st, g0, l⟩ := fr rfl xs rfl
    have a1 := g0.push (x := .lst xs) (o := .lst vs) hp nofun ⟨vs, rfl, l⟩
    have a2 : Step X.K μ1 h1.length H0 (μ1.push h1.length p) (h1.length + 1) (upd H0 p (.lst vs)) := Step.push hp nofun
    have hl : (h1 ++ [MO.lst xs]).length = h1.length + 1 := by simp
    have a3 : Rep X.K X.mg (μ1.push h1.length p) (h1 ++ [MO.lst xs]).length (upd H0 p (.lst vs)) (.ref h1.length) (.ref p) := by
      have e : (μ1.push h1.length p).m h1.length = p := if_pos rfl
      have r : Rep X.K X.mg (μ1.push h1.length p) (h1 ++ [MO.lst xs]).length (upd H0 p (.lst vs)) (.ref h1.length) (.ref ((μ1.push h1.length p).m h1.length)) := .ref (by rw [hl]; exact Nat.lt_succ_self _)
      rw [e] at r
      exact r
    exact q _ _ _ (by rw [hl]; exact st.trans a2) a1 a3 nofun
  | _ => cases e2
theorem pe_dctD : PE X (.Dict [] [] pos) (tD false X.K X.mg fun _ => fun h => some (.ref h.length, h ++ [.dct []])) := by
  refine peImp pe_dnewK fun σ H Q h => ?_
  obtain ⟨μ, ρ, h, d, h', gd, sl, e, q⟩ := h
  cases e
  intro p hp
  have a1 := gd.push (x := .dct []) (o := .dK []) hp nofun ⟨[], rfl, .nil⟩
  have a2 : Step X.K μ h.length H (μ.push h.length p) (h.length + 1) (upd H p (.dK [])) := Step.push hp nofun
  have hl : (h ++ [MO.dct []]).length = h.length + 1 := by simp
  have a3 : Rep X.K X.mg (μ.push h.length p) (h ++ [MO.dct []]).length (upd H p (.dK [])) (.ref h.length) (.ref p) := by
    have e : (μ.push h.length p).m h.length = p := if_pos rfl
    have r : Rep X.K X.mg (μ.push h.length p) (h ++ [MO.dct []]).length (upd H p (.dK [])) (.ref h.length) (.ref ((μ.push h.length p).m h.length)) := .ref (by rw [hl]; exact Nat.lt_succ_self _)
    rw [e] at r
    exact r
  exact q _ _ _ (by rw [hl]; exact a2) a1 a3 nofun
end
/-! ### simple expressions -/
section
variable {X : Cx} {a b c : Expr} {fr fa fb fc : Bool} {f g k : Env → M D} {p pos : Pos}
theorem pe_cstD {e : Expr} {v : V} {d : D} (h : PE X e (tC v)) (hr : ∀ μ n H, Rep X.K X.mg μ n H d v) : PE X e (tD false X.K X.mg fun _ => .ret d) := peImp h fun σ H Q h => by
  obtain ⟨μ, ρ, h, d', h', gd, sl, e, q⟩ := h
  cases e
  exact q μ v H Step.refl gd (hr _ _ _) nofun
theorem pe_varD {i : Nat} {e : Expr} (h : PE X e (tVar i)) : PE X e (tD false X.K X.mg fun ρ => match ρ[i]? with | some (some d) => .ret d | _ => .fail) := peImp h fun σ H Q h => by
  obtain ⟨μ, ρ, h, d', h', gd, sl, e, q⟩ := h
  have e : (match ρ[i]? with | some (some d) => M.ret d | _ => M.fail) h = some (d', h') := e
  cases z : ρ[i]? with
  | none => rw [z] at e; cases e
  | some o =>
    cases o with
    | none => rw [z] at e; cases e
    | some d =>
      rw [z] at e
      cases e
      obtain ⟨v, h1, h2⟩ := sl.at_ i d' z
      exact ⟨v, h1, q μ v H Step.refl gd h2 nofun⟩
theorem pe_negD (ha : PE X a (tD fa X.K X.mg f)) : PE X (.UnaryOp .USub a pos) (tD false X.K X.mg fun ρ => .bind (f ρ) fun x => match x with
    | .int i => .ret (.int (-i))
    | _ => .fail) := by
  refine peImp (pe_un un_neg ha) fun σ H Q h => ?_
  obtain ⟨μ, ρ, h, d, h', gd, sl, e, q⟩ := h
  obtain ⟨x, h1, e1, e2⟩ := M.bind_eq e
  cases x <;> cases e2
  refine ⟨μ, ρ, h, _, h', gd, sl, e1, fun μ1 v1 H1 s1 g1 r1 _ => ?_⟩
  cases r1
  exact ⟨_, rfl, q μ1 _ H1 s1 g1 (.int _) nofun⟩
theorem pe_notD (ha : PE X a (tD fa X.K X.mg f)) : PE X (.UnaryOp .Not a pos) (tD false X.K X.mg fun ρ => .bind (f ρ) fun x => .bind (.look fun h => truth h x) fun b => .ret (.bl !b)) := by
  refine peImp (pe_notT ha) fun σ H Q h => ?_
  obtain ⟨μ, ρ, h, d, h', gd, sl, e, q⟩ := h
  obtain ⟨x, h1, e1, e2⟩ := M.bind_eq e
  obtain ⟨t, h2, e3, e4⟩ := M.bind_eq e2
  obtain ⟨e3', e5⟩ := M.look_eq e3
  cases e4; cases e5
  refine ⟨μ, ρ, h, _, _, gd, sl, e1, fun μ1 v1 H1 s1 g1 r1 _ => ?_⟩
  exact ⟨t, tru_rep g1 r1 e3', q μ1 _ H1 s1 g1 (.bl _) nofun⟩
theorem pe_cmpD {o : COp} (hu : X.A.units + 65 < cLine) (hm : behindInMarks (copOf o) b = false) (ha : PE X a (tD fa X.K X.mg f)) (hb : PE X b (tD fb X.K X.mg g)) :
    PE X (.Compare a [copOf o] [b] pos) (tD false X.K X.mg fun ρ => .bind (f ρ) fun x => .bind (g ρ) fun y => .bind (.look (cmpop o x y)) fun r => .ret (.bl r)) := by
  refine peImp (pe_cmpR (cop_D hu o) ha hb hm) fun σ H Q h => ?_
  obtain ⟨μ, ρ, h, d, h', gd, sl, e, q⟩ := h
  obtain ⟨x, h1, e1, e2⟩ := M.bind_eq e
  obtain ⟨y, h2, e3, e4⟩ := M.bind_eq e2
  obtain ⟨r, h3, e5, e6⟩ := M.bind_eq e4
  obtain ⟨e5', e7⟩ := M.look_eq e5
  cases e6; cases e7
  refine ⟨μ, ρ, h, x, h1, gd, sl, e1, fun μ1 v1 H1 s1 g1 r1 _ => ?_⟩
  refine ⟨μ1, ρ, h1, y, _, g1, sl.step s1, e3, fun μ2 v2 H2 s2 g2 r2 _ => ?_⟩
  exact ⟨μ2, _, x, y, r, g2, r1.step s2, r2, e5', q μ2 _ H2 (s1.trans s2) g2 (.bl _) nofun⟩
theorem pt_cmpD {o : COp} (hu : X.A.units + 65 < cLine) (hm : behindInMarks (copOf o) b = false) (ha : PE X a (tD fa X.K X.mg f)) (hb : PE X b (tD fb X.K X.mg g)) :
    PT X (.Compare a [copOf o] [b] pos) (tT X.K X.mg fun ρ => .bind (.bind (f ρ) fun x => .bind (g ρ) fun y => .bind (.look (cmpop o x y)) fun r => .ret (.bl r)) fun x => .look fun h => truth h x) := by
  refine ptImp (pt_cmpR (cop_D hu o) ha hb hm) fun σ H Q h => ?_
  obtain ⟨μ, ρ, h, bb, h', gd, sl, e, q⟩ := h
  obtain ⟨z, h0, e0, ez⟩ := M.bind_eq e
  obtain ⟨x, h1, e1, e2⟩ := M.bind_eq e0
  obtain ⟨y, h2, e3, e4⟩ := M.bind_eq e2
  obtain ⟨r, h3, e5, e6⟩ := M.bind_eq e4
  obtain ⟨e5', e7⟩ := M.look_eq e5
  cases e6; cases e7; cases ez
  refine ⟨μ, ρ, h, x, h1, gd, sl, e1, fun μ1 v1 H1 s1 g1 r1 _ => ?_⟩
  refine ⟨μ1, ρ, h1, y, _, g1, sl.step s1, e3, fun μ2 v2 H2 s2 g2 r2 _ => ?_⟩
  exact ⟨μ2, _, x, y, _, g2, r1.step s2, r2, e5', _, rfl, q μ2 H2 (s1.trans s2) g2⟩
theorem chain_r {o o' : COp} {σ : St} {H : Hp} {Q : VK} (h : tD false X.K X.mg (fun ρ => .bind (f ρ) fun x => .bind (g ρ) fun y => .bind (.look (cmpop o x y)) fun r =>
      if r = true then .bind (k ρ) fun z => .bind (.look (cmpop o' y z)) fun r => .ret (.bl r) else .ret (.bl false)) σ H Q) : tChain (rC2 X.K X.mg (cmpop o)) (rC2 X.K X.mg (cmpop o')) (tD fa X.K X.mg f) (tD fb X.K X.mg g) (tD fc X.K X.mg k) σ H Q := by
  obtain ⟨μ, ρ, h, d, h', gd, sl, e, q⟩ := h
  obtain ⟨x, h1, e1, e2⟩ := M.bind_eq e
  obtain ⟨y, h2, e3, e4⟩ := M.bind_eq e2
  obtain ⟨r, h3, e5, e6⟩ := M.bind_eq e4
  obtain ⟨e5', e7⟩ := M.look_eq e5
  refine ⟨μ, ρ, h, x, h1, gd, sl, e1, fun μ1 v1 H1 s1 g1 r1 _ => ?_⟩
  refine ⟨μ1, ρ, h1, y, h2, g1, sl.step s1, e3, fun μ2 v2 H2 s2 g2 r2 _ => ?_⟩
  cases e7
  refine ⟨μ2, _, x, y, r, g2, r1.step s2, r2, e5', r, rfl, ?_⟩
  by_cases hr : r = true
  · rw [if_pos hr] at e6 ⊢
    obtain ⟨z, h4, e8, e9⟩ := M.bind_eq e6
    obtain ⟨r', h5, e10, e11⟩ := M.bind_eq e9
    obtain ⟨e10', e12⟩ := M.look_eq e10
    cases e11; cases e12
    refine ⟨μ2, ρ, _, z, _, g2, (sl.step s1).step s2, e8, fun μ3 v3 H3 s3 g3 r3 _ => ?_⟩
    exact ⟨μ3, _, y, z, r', g3, r2.step s3, r3, e10', q μ3 _ H3 ((s1.trans s2).trans s3) g3 (.bl _) nofun⟩
  · rw [if_neg hr] at e6 ⊢
    cases e6
    exact q μ2 _ H2 (s1.trans s2) g2 (.bl _) nofun
end
end PD


namespace PD
open PySem PySem.Spec L2
open PyProof.Rows hiding St
section
variable {X : Cx} {a b c : Expr} {fr fa fb fc : Bool} {f g k : Env → M D} {p pos : Pos}
/-! ### and, or, if, tests -/
theorem pe_wk {e : Expr} (h : PE X e (tD true X.K X.mg f)) : PE X e (tD fr X.K X.mg f) := peImp h fun σ H Q h => by
  obtain ⟨μ, ρ, h, d, h', gd, sl, e, q⟩ := h
  exact ⟨μ, ρ, h, d, h', gd, sl, e, fun μ' v H' s g r fr => q μ' v H' s g r fun _ => fr rfl⟩
theorem pe_wk0 {e : Expr} (h : PE X e (tD fr X.K X.mg f)) : PE X e (tD false X.K X.mg f) := peImp h fun σ H Q h => by
  obtain ⟨μ, ρ, h, d, h', gd, sl, e, q⟩ := h
  exact ⟨μ, ρ, h, d, h', gd, sl, e, fun μ' v H' s g r _ => q μ' v H' s g r nofun⟩
theorem pe_andD {rest : List Expr} (ha : PE X a (tD fa X.K X.mg f)) (hb : PE X (.BoolOp .And (b :: rest) pos) (tD fb X.K X.mg g)) :
    PE X (.BoolOp .And (a :: b :: rest) pos) (tD false X.K X.mg fun ρ => .bind (f ρ) fun x => .bind (.look fun h => truth h x) fun t => if t = true then g ρ else .ret x) := by
  refine peImp (pe_andT ha hb) fun σ H Q h => ?_
  obtain ⟨μ, ρ, h, d, h', gd, sl, e, q⟩ := h
  obtain ⟨x, h1, e1, e2⟩ := M.bind_eq e
  obtain ⟨t, h2, e3, e4⟩ := M.bind_eq e2
  obtain ⟨e3', e5⟩ := M.look_eq e3
  cases e5
  refine ⟨μ, ρ, h, x, _, gd, sl, e1, fun μ1 v1 H1 s1 g1 r1 _ => ⟨t, tru_rep g1 r1 e3', ?_⟩⟩
  by_cases z : t = true
  · rw [if_pos z] at e4 ⊢
    exact ⟨μ1, ρ, _, d, h', g1, sl.step s1, e4, fun μ2 v2 H2 s2 g2 r2 _ => q μ2 v2 H2 (s1.trans s2) g2 r2 nofun⟩
  · rw [if_neg z] at e4 ⊢
    cases e4
    exact q μ1 v1 H1 s1 g1 r1 nofun
theorem pe_orD {rest : List Expr} (ha : PE X a (tD fa X.K X.mg f)) (hb : PE X (.BoolOp .Or (b :: rest) pos) (tD fb X.K X.mg g)) :
    PE X (.BoolOp .Or (a :: b :: rest) pos) (tD false X.K X.mg fun ρ => .bind (f ρ) fun x => .bind (.look fun h => truth h x) fun t => if t = true then .ret x else g ρ) := by
  refine peImp (pe_orT ha hb) fun σ H Q h => ?_
  obtain ⟨μ, ρ, h, d, h', gd, sl, e, q⟩ := h
  obtain ⟨x, h1, e1, e2⟩ := M.bind_eq e
  obtain ⟨t, h2, e3, e4⟩ := M.bind_eq e2
  obtain ⟨e3', e5⟩ := M.look_eq e3
  cases e5
  refine ⟨μ, ρ, h, x, _, gd, sl, e1, fun μ1 v1 H1 s1 g1 r1 _ => ⟨t, tru_rep g1 r1 e3', ?_⟩⟩
  by_cases z : t = true
  · rw [if_pos z] at e4 ⊢
    cases e4
    exact q μ1 v1 H1 s1 g1 r1 nofun
  · rw [if_neg z] at e4 ⊢
    exact ⟨μ1, ρ, _, d, h', g1, sl.step s1, e4, fun μ2 v2 H2 s2 g2 r2 _ => q μ2 v2 H2 (s1.trans s2) g2 r2 nofun⟩
abbrev tst (f : Env → M D) : Env → M Bool := fun ρ => .bind (f ρ) fun x => .look fun h => truth h x
theorem pt_plainD (ha : PE X a (tD fa X.K X.mg f)) (he : ∀ whole, isTrue a X.env whole = (do let v ← whole; standAt a.pos; holding [v] (truthy v))) : PT X a (tT X.K X.mg (tst f)) := by
  refine ptImp (pt_truth ha he) fun σ H Q h => ?_
  obtain ⟨μ, ρ, h, b, h', gd, sl, e, q⟩ := h
  obtain ⟨x, h1, e1, e2⟩ := M.bind_eq e
  obtain ⟨e3, e4⟩ := M.look_eq e2
  cases e4
  exact ⟨μ, ρ, h, x, _, gd, sl, e1, fun μ1 v1 H1 s1 g1 r1 _ => ⟨b, tru_rep g1 r1 e3, q μ1 H1 s1 g1⟩⟩
theorem pt_notD (ha : PT X a (tT X.K X.mg (tst f))) : PT X (.UnaryOp .Not a pos) (tT X.K X.mg (tst fun ρ => .bind (f ρ) fun x => .bind (.look fun h => truth h x) fun b => .ret (.bl !b))) := by
  refine ptImp (pt_not ha) fun σ H Q h => ?_
  obtain ⟨μ, ρ, h, b, h', gd, sl, e, q⟩ := h
  obtain ⟨y, h0, e0, ey⟩ := M.bind_eq e
  obtain ⟨x, h1, e1, e2⟩ := M.bind_eq e0
  obtain ⟨t, h2, e3, e4⟩ := M.bind_eq e2
  obtain ⟨e3', e5⟩ := M.look_eq e3
  cases e4; cases e5
  obtain ⟨e6, e7⟩ := M.look_eq ey
  cases e7
  have e6 : some (!t) = some b := e6
  cases e6
  exact ⟨μ, ρ, h, t, _, gd, sl, by show M.bind (f ρ) _ h = _; unfold M.bind; rw [e1]; exact e3, fun μ1 H1 s1 g1 => q μ1 H1 s1 g1⟩
theorem bind_run {α β : Type} {x : M α} {f : α → M β} {h h1 : MH} {a : α} {r : β × MH} (e1 : x h = some (a, h1)) (e2 : f a h1 = some r) : M.bind x f h = some r := by
  unfold M.bind
  rw [e1]
  exact e2
theorem look_run {α : Type} {f : MH → Option α} {h : MH} {a : α} (e : f h = some a) : M.look f h = some (a, h) := by
  unfold M.look
  rw [e]
theorem pw_andD {rest : List Expr} (ha : PT X a (tT X.K X.mg (tst f))) (hb : PW X (.BoolOp .And (b :: rest) pos) (tT X.K X.mg (tst g))) :
    PW X (.BoolOp .And (a :: b :: rest) pos) (tT X.K X.mg (tst fun ρ => .bind (f ρ) fun x => .bind (.look fun h => truth h x) fun t => if t = true then g ρ else .ret x)) := by
  refine ⟨fun wh pins s σ H Q I h => (pw_and ha hb).run wh pins s σ H Q I ?_⟩
  obtain ⟨μ, ρ, h, b, h', gd, sl, e, q⟩ := h
  obtain ⟨y, h0, e0, ey⟩ := M.bind_eq e
  obtain ⟨x, h1, e1, e2⟩ := M.bind_eq e0
  obtain ⟨t, h2, e3, e4⟩ := M.bind_eq e2
  refine ⟨μ, ρ, h, t, h2, gd, sl, bind_run e1 e3, fun μ1 H1 s1 g1 => ?_⟩
  by_cases z : t = true
  · rw [if_pos z] at e4 ⊢
    exact ⟨μ1, ρ, h2, b, h', g1, sl.step s1, bind_run e4 ey, fun μ2 H2 s2 g2 => q μ2 H2 (s1.trans s2) g2⟩
  · rw [if_neg z] at e4 ⊢
    cases e4
    obtain ⟨e3', e5⟩ := M.look_eq e3
    obtain ⟨e6, e7⟩ := M.look_eq ey
    have e3' : truth h1 y = some t := e3'
    have e5 : h0 = h1 := e5
    subst e5
    have e6 : truth h0 y = some b := e6
    have e7 : h' = h0 := e7
    subst e7
    rw [e3'] at e6
    cases e6
    rw [Bool.not_eq_true] at z
    subst z
    exact q μ1 H1 s1 g1
theorem pw_orD {rest : List Expr} (ha : PT X a (tT X.K X.mg (tst f))) (hb : PW X (.BoolOp .Or (b :: rest) pos) (tT X.K X.mg (tst g))) :
    PW X (.BoolOp .Or (a :: b :: rest) pos) (tT X.K X.mg (tst fun ρ => .bind (f ρ) fun x => .bind (.look fun h => truth h x) fun t => if t = true then .ret x else g ρ)) := by
  refine ⟨fun wh pins s σ H Q I h => (pw_or ha hb).run wh pins s σ H Q I ?_⟩
  obtain ⟨μ, ρ, h, b, h', gd, sl, e, q⟩ := h
  obtain ⟨y, h0, e0, ey⟩ := M.bind_eq e
  obtain ⟨x, h1, e1, e2⟩ := M.bind_eq e0
  obtain ⟨t, h2, e3, e4⟩ := M.bind_eq e2
  refine ⟨μ, ρ, h, t, h2, gd, sl, bind_run e1 e3, fun μ1 H1 s1 g1 => ?_⟩
  by_cases z : t = true
  · rw [if_pos z] at e4 ⊢
    cases e4
    obtain ⟨e3', e5⟩ := M.look_eq e3
    obtain ⟨e6, e7⟩ := M.look_eq ey
    have e3' : truth h1 y = some t := e3'
    have e5 : h0 = h1 := e5
    subst e5
    have e6 : truth h0 y = some b := e6
    have e7 : h' = h0 := e7
    subst e7
    rw [e3'] at e6
    cases e6
    subst z
    exact q μ1 H1 s1 g1
  · rw [if_neg z] at e4 ⊢
    exact ⟨μ1, ρ, h2, b, h', g1, sl.step s1, bind_run e4 ey, fun μ2 H2 s2 g2 => q μ2 H2 (s1.trans s2) g2⟩
theorem pe_ifeD (ht : PT X a (tT X.K X.mg (tst f))) (hb : PE X b (tD fb X.K X.mg g)) (hc : PE X c (tD fc X.K X.mg k)) :
    PE X (.IfExp a b c pos) (tD false X.K X.mg fun ρ => .bind (f ρ) fun x => .bind (.look fun h => truth h x) fun r => if r = true then g ρ else k ρ) := by
  refine peImp (pe_ifExp ht hb hc) fun σ H Q h => ?_
  obtain ⟨μ, ρ, h, d, h', gd, sl, e, q⟩ := h
  obtain ⟨x, h1, e1, e2⟩ := M.bind_eq e
  obtain ⟨t, h2, e3, e4⟩ := M.bind_eq e2
  refine ⟨μ, ρ, h, t, h2, gd, sl, bind_run e1 e3, fun μ1 H1 s1 g1 => ?_⟩
  by_cases z : t = true
  · rw [if_pos z] at e4 ⊢
    exact ⟨μ1, ρ, h2, d, h', g1, sl.step s1, e4, fun μ2 v2 H2 s2 g2 r2 _ => q μ2 v2 H2 (s1.trans s2) g2 r2 nofun⟩
  · rw [if_neg z] at e4 ⊢
    exact ⟨μ1, ρ, h2, d, h', g1, sl.step s1, e4, fun μ2 v2 H2 s2 g2 r2 _ => q μ2 v2 H2 (s1.trans s2) g2 r2 nofun⟩
theorem pt_chainD {o o' : COp} (hu : X.A.units + 65 < cLine) (hm : lastMarks [copOf o, copOf o'] [b, c] = false) (ha : PE X a (tD fa X.K X.mg f)) (hb : PE X b (tD fb X.K X.mg g)) (hc : PE X c (tD fc X.K X.mg k)) :
    PT X (.Compare a [copOf o, copOf o'] [b, c] pos) (tT X.K X.mg (tst fun ρ => .bind (f ρ) fun x => .bind (g ρ) fun y => .bind (.look (cmpop o x y)) fun r =>
      if r = true then .bind (k ρ) fun z => .bind (.look (cmpop o' y z)) fun r => .ret (.bl r) else .ret (.bl false))) := by
  refine ptImp (pt_chain (cop_D hu o) (cop_D hu o') ha hb hc hm) fun σ H Q h => ?_
  refine chain_r ?_
  obtain ⟨μ, ρ, h, bb, h', gd, sl, e, q⟩ := h
  obtain ⟨z, h0, e0, ez⟩ := M.bind_eq e
  refine ⟨μ, ρ, h, z, h0, gd, sl, e0, fun μ1 v1 H1 s1 g1 r1 _ => ?_⟩
  obtain ⟨e3, e4⟩ := M.look_eq ez
  cases e4
  have : ∃ r, z = .bl r := by
    obtain ⟨x, h1, e1, e2⟩ := M.bind_eq e0
    obtain ⟨y, h2, e3, e4⟩ := M.bind_eq e2
    obtain ⟨r, h3, e5, e6⟩ := M.bind_eq e4
    by_cases w : r = true
    · rw [if_pos w] at e6
      obtain ⟨y', h2', e3', e4'⟩ := M.bind_eq e6
      obtain ⟨r', h3', e5', e6'⟩ := M.bind_eq e4'
      cases e6'
      exact ⟨_, rfl⟩
    · rw [if_neg w] at e6
      cases e6
      exact ⟨_, rfl⟩
  obtain ⟨r, rfl⟩ := this
  cases e3
  cases r1
  exact ⟨_, rfl, q μ1 H1 s1 g1⟩
theorem pe_chainD {o o' : COp} (hu : X.A.units + 65 < cLine) (hm : lastMarks [copOf o, copOf o'] [b, c] = false) (ha : PE X a (tD fa X.K X.mg f)) (hb : PE X b (tD fb X.K X.mg g)) (hc : PE X c (tD fc X.K X.mg k)) :
    PE X (.Compare a [copOf o, copOf o'] [b, c] pos) (tD false X.K X.mg fun ρ => .bind (f ρ) fun x => .bind (g ρ) fun y => .bind (.look (cmpop o x y)) fun r =>
      if r = true then .bind (k ρ) fun z => .bind (.look (cmpop o' y z)) fun r => .ret (.bl r) else .ret (.bl false)) :=
  peImp (pe_chain (cop_D hu o) (cop_D hu o') ha hb hc hm) fun σ H Q h => chain_r h
/-! ### subscripts -/
def noSlice : Expr → Bool
  | .Slice _ _ _ _ => false
  | _ => true
theorem noSlice_ix {i : Expr} (h : noSlice i = true) : PlainIx i := by
  intro o x
  cases i <;> first | rfl | cases h
theorem pe_ixD (hu : X.A.units + 1 < cLine) (hs : noSlice b = true) (ha : PE X a (tD fa X.K X.mg f)) (hb : PE X b (tD fb X.K X.mg g)) :
    PE X (.Subscript a b pos) (tD false X.K X.mg fun ρ => .bind (f ρ) fun x => .bind (g ρ) fun y => .look fun h => index h x y) := by
  refine peImp (pe_ix (ix_D hu) ha hb (noSlice_ix hs)) fun σ H Q h => ?_
  obtain ⟨μ, ρ, h, d, h', gd, sl, e, q⟩ := h
  obtain ⟨x, h1, e1, e2⟩ := M.bind_eq e
  obtain ⟨y, h2, e3, e4⟩ := M.bind_eq e2
  obtain ⟨e4', e5⟩ := M.look_eq e4
  cases e5
  refine ⟨μ, ρ, h, x, h1, gd, sl, e1, fun μ1 v1 H1 s1 g1 r1 _ => ?_⟩
  refine ⟨μ1, ρ, h1, y, _, g1, sl.step s1, e3, fun μ2 v2 H2 s2 g2 r2 _ => ?_⟩
  exact ⟨μ2, _, x, y, d, g2, r1.step s2, r2, e4', fun v r => q μ2 v H2 (s1.trans s2) g2 r nofun⟩
/-- a table of the module -/
theorem ix_kd {d : Addr} {es : Array DictEntry} {n : Nat} (D : KDict X.K X.w d es n) : IxR X (fun x y H Q => ∃ (z : Str) (u0 : Value) (v0 : V), x = .ref d ∧ y = .str z ∧ PySem.W.nsIn X.K d z = some (some u0) ∧ RelV v0 u0 ∧ Q v0 H) := by
  intro value slice pins s σ H x y v u Q I rx ry hh hs
  have hx : x = .ref d := by obtain ⟨z, u0, v0, e, _⟩ := hh; exact e
  subst hx
  cases rx
  exact tail_any (kd_type D I) PySem.F.slot_dict_getitem.lookup (op_item_kd D pins s σ H (.ref d) y _ u Q I rfl ry hh) hs
theorem pe_gixD {d : Addr} {es : Array DictEntry} {n : Nat} {x : Str} {tab : List (Str × D)} (D : KDict X.K X.w d es n) (hg : Gl X x) (hm : X.mg x = some (.ref d)) (hd : (x == ("__debug__" : Str)) = false)
    (ht : ∀ q ∈ tab, ∃ u v, PySem.W.nsIn X.K d q.1 = some (some u) ∧ RelV v u ∧ ∀ μ n H, Rep X.K X.mg μ n H q.2 v) (hs : noSlice b = true) (hb : PE X b (tD fb X.K X.mg g)) :
    PE X (.Subscript (.Name x p) b pos) (tD false X.K X.mg fun ρ => .bind (g ρ) fun y => .of (gixD tab y)) := by
  refine peImp (pe_ix (ix_kd D) (pe_glob (v := .ref d) hg hm rfl hd) hb (noSlice_ix hs)) fun σ H Q h => ?_
  obtain ⟨μ, ρ, h, d', h', gd, sl, e, q⟩ := h
  obtain ⟨y, h1, e1, e2⟩ := M.bind_eq e
  obtain ⟨e3, e4⟩ := M.of_eq e2
  cases e4
  refine (show tD fb X.K X.mg g σ H _ from ⟨μ, ρ, h, y, _, gd, sl, e1, fun μ1 v1 H1 s1 g1 r1 _ => ?_⟩)
  obtain ⟨z, rfl⟩ : ∃ z, y = .str z := by cases y <;> first | exact ⟨_, rfl⟩ | cases e3
  cases r1
  obtain ⟨q', e5, e6⟩ := Option.map_eq_some_iff.mp (show (tab.find? fun p => decide (p.1 = z)).map (·.2) = some d' from e3)
  have hq := List.mem_of_find?_eq_some e5
  have hz : q'.1 = z := by simpa using List.find?_some e5
  obtain ⟨u, v, a1, a2, a3⟩ := ht q' hq
  rw [e6] at a3
  exact ⟨z, u, v, rfl, rfl, by rw [← hz]; exact a1, a2, q μ1 v H1 s1 g1 (a3 _ _ _) nofun⟩
/-- a slice's part -/
structure POD (X : Cx) (e : Option Expr) (f : Env → M (Option Int)) : Prop where
  po : PO X e fun σ H Q => ∃ μ ρ h o h', Good X.K X.mg μ h H ∧ Sl X.K X.mg μ h.length H σ ρ ∧ f ρ h = some (o, h') ∧ ∀ μ' H', Step X.K μ h.length H μ' h'.length H' → Good X.K X.mg μ' h' H' → Q o H'
theorem poImp {e : Option Expr} {t t' : TO} (h : PO X e t) (i : ∀ σ H Q, t' σ H Q → t σ H Q) : PO X e t' := ⟨fun pins s σ H Q I q => h.run pins s σ H Q I (i σ H Q q)⟩
theorem po_noneD : POD X none fun _ => .ret none := ⟨poImp po_none fun σ H Q h => by
  obtain ⟨μ, ρ, h, o, h', gd, sl, e, q⟩ := h
  cases e
  exact q μ H Step.refl gd⟩
theorem po_someD (ha : PE X a (tD fa X.K X.mg f)) : POD X (some a) fun ρ => .bind (f ρ) fun x => match x with
    | .int i => .ret (some i)
    | _ => .fail := ⟨poImp (po_some ha) fun σ H Q h => by
  obtain ⟨μ, ρ, h, o, h', gd, sl, e, q⟩ := h
  obtain ⟨x, h1, e1, e2⟩ := M.bind_eq e
  cases x <;> cases e2
  refine ⟨μ, ρ, h, _, h', gd, sl, e1, fun μ1 v1 H1 s1 g1 r1 _ => ?_⟩
  cases r1
  exact ⟨_, rfl, q μ1 H1 s1 g1⟩⟩
theorem pe_slD {lo hi : Option Expr} {l u : Env → M (Option Int)} {p2 : Pos} (ha : PE X a (tD fa X.K X.mg f)) (hl : POD X lo l) (hh : POD X hi u) :
    PE X (.Subscript a (.Slice lo hi none p2) pos) (tD true X.K X.mg fun ρ => .bind (f ρ) fun x => .bind (l ρ) fun l => .bind (u ρ) fun u => .look fun h => slice h x l u) := by
  refine peImp (pe_slice sl_D ha hl.po hh.po) fun σ H Q h => ?_
  obtain ⟨μ, ρ, h, d, h', gd, sl, e, q⟩ := h
  obtain ⟨x, h1, e1, e2⟩ := M.bind_eq e
  obtain ⟨y, h2, e3, e4⟩ := M.bind_eq e2
  obtain ⟨z, h3, e5, e6⟩ := M.bind_eq e4
  obtain ⟨e6', e7⟩ := M.look_eq e6
  cases e7
  refine ⟨μ, ρ, h, x, h1, gd, sl, e1, fun μ1 v1 H1 s1 g1 r1 _ => ?_⟩
  refine ⟨μ1, ρ, h1, y, h2, g1, sl.step s1, e3, fun μ2 H2 s2 g2 => ?_⟩
  refine ⟨μ2, ρ, h2, z, _, g2, (sl.step s1).step s2, e5, fun μ3 H3 s3 g3 => ?_⟩
  exact ⟨μ3, _, x, d, g3, (r1.step s2).step s3, e6', fun v H4 s4 g4 r4 f4 => q μ3 v H4 (((s1.trans s2).trans s3).trans s4) g4 r4 fun _ => f4.back ((s1.trans s2).trans s3)⟩
end
end PD


namespace PD
open PySem PySem.Spec L2
open PyProof.Rows hiding St
/-! ### calls of builtins -/
section
variable {X : Cx} {e : Expr} {es : List Expr} {fa : Bool} {f : Env → M D} {g : Env → M (List D)} {p pos : Pos} {x : Str} {id T : String}
theorem pe_biD {F : List D → MH → Option D} (hc : CallR X (.builtin id) (rB true X.K X.mg F)) (hg : Gl X x) (hm : X.mg x = none) (hv : bootBuiltins x = some (.builtin id)) (hn : x ≠ "__name__") (hdb : (x == ("__debug__" : Str)) = false)
    (hns : (e :: es).all noStar = true) (ha : PA X (e :: es) (tL X.K X.mg g)) : PE X (.Call (.Name x p) (e :: es) [] pos) (tD true X.K X.mg fun ρ => .bind (g ρ) fun xs => .look (F xs)) := by
  rw [List.all_cons, Bool.and_eq_true] at hns
  refine peImp (pe_callB hc hg hm hv ha hn hdb (noStar_cons hns.1 _ _) (noStars hns.2)) fun σ H Q h => ?_
  obtain ⟨μ, ρ, h, d, h', gd, sl, e, q⟩ := h
  obtain ⟨xs, h1, e1, e2⟩ := M.bind_eq e
  obtain ⟨e3, e4⟩ := M.look_eq e2
  cases e4
  refine ⟨μ, ρ, h, xs, _, gd, sl, e1, fun μ1 vs H1 s1 g1 r1 => ?_⟩
  exact ⟨μ1, _, xs, d, g1, r1, e3, fun v H2 s2 g2 r2 f2 => q μ1 v H2 (s1.trans s2) g2 r2 fun w => (f2 w).back s1⟩
theorem pe_tyD {F : List D → MH → Option D} (hc : CallR X (.type T) (rB true X.K X.mg F)) (hg : Gl X x) (hm : X.mg x = none) (hv : bootBuiltins x = some (.type T)) (hn : x ≠ "__name__") (hdb : (x == ("__debug__" : Str)) = false)
    (hns : (e :: es).all noStar = true) (ha : PA X (e :: es) (tL X.K X.mg g)) : PE X (.Call (.Name x p) (e :: es) [] pos) (tD true X.K X.mg fun ρ => .bind (g ρ) fun xs => .look (F xs)) := by
  rw [List.all_cons, Bool.and_eq_true] at hns
  refine peImp (pe_callTy hc hg hm hv ha hn hdb (noStar_cons hns.1 _ _) (noStars hns.2)) fun σ H Q h => ?_
  obtain ⟨μ, ρ, h, d, h', gd, sl, e, q⟩ := h
  obtain ⟨xs, h1, e1, e2⟩ := M.bind_eq e
  obtain ⟨e3, e4⟩ := M.look_eq e2
  cases e4
  refine ⟨μ, ρ, h, xs, _, gd, sl, e1, fun μ1 vs H1 s1 g1 r1 => ?_⟩
  exact ⟨μ1, _, xs, d, g1, r1, e3, fun v H2 s2 g2 r2 f2 => q μ1 v H2 (s1.trans s2) g2 r2 fun w => (f2 w).back s1⟩
theorem pe_isinstD {t : Ty} {y : Str} {p2 : Pos} (hg : Gl X "isinstance") (hm : X.mg "isinstance" = none) (hg2 : Gl X y) (hm2 : X.mg y = none) (hv2 : bootBuiltins y = some (.type (tyName t))) (hn2 : y ≠ "__name__") (hdb2 : (y == ("__debug__" : Str)) = false)
    (hns : noStar e = true) (ha : PE X e (tD fa X.K X.mg f)) : PE X (.Call (.Name "isinstance" p) [e, .Name y p2] [] pos) (tD true X.K X.mg fun ρ => .bind (.bind (f ρ) fun x => .bind (.ret []) fun ys => .ret (x :: ys)) fun xs => .look (biop (.isinst t) xs)) := by
  refine peImp (pe_callB (b_isinst t) hg hm (by decide +kernel) (pa_cons ha (pa_cons (pe_bltn hg2 hm2 hv2 (v := .ty (tyName t)) rfl hn2 hdb2) pa_nil (by rfl)) (noStar_cons hns _ _)) (by decide) (by decide) (noStar_cons hns _ _) (by rfl)) fun σ H Q h => ?_
  obtain ⟨μ, ρ, h, d, h', gd, sl, e, q⟩ := h
  obtain ⟨xs, h1, e1, e2⟩ := M.bind_eq e
  obtain ⟨x, h2, e3, e4⟩ := M.bind_eq e1
  cases e4
  obtain ⟨e5, e6⟩ := M.look_eq e2
  cases e6
  obtain ⟨b, e7, e8⟩ := Option.map_eq_some_iff.mp (show (isT t x).map D.bl = some d from e5)
  subst e8
  refine ⟨μ, ρ, h, x, _, gd, sl, e3, fun μ1 v H1 s1 g1 r1 _ => ?_⟩
  exact ⟨μ1, _, x, v, b, rfl, g1, r1, e7, q μ1 _ H1 s1 g1 (.bl _) (notLst nofun)⟩
theorem pe_lrangeD {p2 pos2 : Pos} (hc : X.calm = true) (hg : Gl X "list") (hm : X.mg "list" = none) (hg2 : Gl X "range") (hm2 : X.mg "range" = none) (hns : (e :: es).all noStar = true) (ha : PA X (e :: es) (tL X.K X.mg g)) :
    PE X (.Call (.Name "list" p) [.Call (.Name "range" p2) (e :: es) [] pos2] [] pos) (tD true X.K X.mg fun ρ => .bind (g ρ) fun xs => .look (biop .lrange xs)) := by
  rw [List.all_cons, Bool.and_eq_true] at hns
  have hr : CallR X (.type "range") (fun vs H Q => (∃ i j, vs = [V.int i, V.int j] ∧ ∀ p, H p = none → Q (.ref p) (upd H p (.rng i j))) ∨ (∃ j, vs = [V.int j] ∧ ∀ p, H p = none → Q (.ref p) (upd H p (.rng 0 j)))) := CallR.or cr_range2 cr_range1
  refine peImp (pe_callTy (call_list_rng hc) hg hm (by decide +kernel) (pa_cons (pe_callTy hr hg2 hm2 boot_range ha (by decide) (by decide) (noStar_cons hns.1 _ _) (noStars hns.2)) pa_nil (by rfl)) (by decide) (by decide) (by rfl) (by rfl)) fun σ H Q h => ?_
  obtain ⟨μ, ρ, h, d, h', gd, sl, e, q⟩ := h
  obtain ⟨xs, h1, e1, e2⟩ := M.bind_eq e
  obtain ⟨e3, e4⟩ := M.look_eq e2
  cases e4
  refine ⟨μ, ρ, h, xs, _, gd, sl, e1, fun μ1 vs H1 s1 g1 r1 => ?_⟩
  have fin : ∀ {i j : Int} {p : Addr} {o : HO}, H1 p = none → d = .lst (irange i j) → ∀ l, upd H1 p o l = none → Q (.ref l) (upd (upd H1 p o) l (.lst ((List.range (j - i).toNat).map fun (k : Nat) => V.int (i + k)))) := by
    intro i j p o hp hd l hl
    subst hd
    have st : Step X.K μ1 h'.length H1 μ1 h'.length (upd H1 p o) := Step.new hp
    obtain ⟨a1, a2, a3, a4⟩ := newLst (g1.new hp) hl (irange_rep (K := X.K) (mg := X.mg) (μ := μ1) (n := h'.length) (H := upd H1 p o) i j)
    exact q μ1 _ _ ((s1.trans st).trans a1) a2 a3 fun _ => a4.back (s1.trans st)
  match xs, e3 with
  | [.int j], e3 =>
    obtain ⟨v, rfl, rv⟩ := r1.one
    cases rv
    have e3 : (if -(2 ^ 62) ≤ j ∧ j < 2 ^ 62 ∧ j.toNat ≤ sizeLine then some (D.lst (irange 0 j)) else none) = some d := e3
    by_cases z : -(2 ^ 62) ≤ j ∧ j < 2 ^ 62 ∧ j.toNat ≤ sizeLine
    · rw [if_pos z] at e3; cases e3
      exact .inr ⟨j, rfl, fun p hp => ⟨p, 0, j, rfl, upd_same, ⟨by omega, by omega, z.1, z.2.1, by rw [Int.sub_zero]; exact z.2.2⟩, fin hp rfl⟩⟩
    · rw [if_neg z] at e3; cases e3
  | [.int i, .int j], e3 =>
    obtain ⟨v, w, rfl, rv, rw⟩ := r1.two
    cases rv; cases rw
    have e3 : (if -(2 ^ 62) ≤ i ∧ i < 2 ^ 62 ∧ -(2 ^ 62) ≤ j ∧ j < 2 ^ 62 ∧ (j - i).toNat ≤ sizeLine then some (D.lst (irange i j)) else none) = some d := e3
    by_cases z : -(2 ^ 62) ≤ i ∧ i < 2 ^ 62 ∧ -(2 ^ 62) ≤ j ∧ j < 2 ^ 62 ∧ (j - i).toNat ≤ sizeLine
    · rw [if_pos z] at e3; cases e3
      exact .inl ⟨i, j, rfl, fun p hp => ⟨p, i, j, rfl, upd_same, z, fin hp rfl⟩⟩
    · rw [if_neg z] at e3; cases e3
end
/-! ### methods -/
def baseOk : Expr → Bool
  | .Call _ _ _ _ => false
  | _ => true
theorem base_ok {o : Expr} (h : baseOk o = true) (m : Str) (env : PySem.Env) (w : Sem Value) : attributeBase o m env w = w := by
  cases o <;> first | rfl | cases h
def meName : Me → Str
  | .append => "append"
  | .pop => "pop"
  | .setdefault => "setdefault"
  | .join => "join"
theorem RepKV.snds {K : PySem.W.Frag} {mg : Str → Option Value} {μ : Mp} {n : Nat} {H : Hp} : ∀ {kvs : List (Key × D)} {vs : List (Key × V)}, RepKV K mg μ n H kvs vs → RepL K mg μ n H (kvs.map (·.2)) (vs.map (·.2))
  | _, _, .nil => .nil
  | _, _, .cons hh l => .cons hh.2 (RepKV.snds l)
theorem pe_tvalsD {o : Expr} {p pos apos mpos : Pos} {fa : Bool} {f : Env → M D} {X : Cx} (hc : X.calm = true) (hg : Gl X "tuple") (hm : X.mg "tuple" = none) (hb : baseOk o = true) (hline : (apos.endLine == mpos.line) = true) (hd : PE X o (tD fa X.K X.mg f)) :
    PE X (.Call (.Name "tuple" p) [.Call (.Attribute o "values" apos) [] [] mpos] [] pos) (tD true X.K X.mg fun ρ => .bind (f ρ) fun x => .look (biop .tvals [x])) := by
  refine peImp (PM.pe_tupVals hc hg hm hd (base_ok hb _ _ _) hline) fun σ H Q h => ?_
  obtain ⟨μ, ρ, h, d, h', gd, sl, e, q⟩ := h
  obtain ⟨x, h1, e1, e2⟩ := M.bind_eq e
  obtain ⟨e3, e4⟩ := M.look_eq e2
  cases e4
  refine ⟨μ, ρ, h, x, _, gd, sl, e1, fun μ1 v1 H1 s1 g1 r1 _ => ?_⟩
  obtain ⟨k, rfl⟩ : ∃ k, x = .ref k := by cases x <;> first | exact ⟨_, rfl⟩ | cases e3
  have e3 : (match h'[k]? with
    | some (.dct kvs) => if kvs.length ≤ sizeLine then some (D.tup (kvs.map (·.2))) else none
    | _ => none) = some d := e3
  cases eo : h'[k]? with
  | none => rw [eo] at e3; cases e3
  | some ob =>
    rw [eo] at e3
    cases ob with
    | lst _ => cases e3
    | dct kvs =>
      have e3 : (if kvs.length ≤ sizeLine then some (D.tup (kvs.map (·.2))) else none) = some d := e3
      by_cases hz : kvs.length ≤ sizeLine
      · rw [if_pos hz] at e3; cases e3
        obtain ⟨vs, h2, l2⟩ := g1.dct eo
        cases r1 with
        | ref hk =>
          refine ⟨_, vs, rfl, h2, by rw [← l2.length]; exact hz, fun p hp => ?_⟩
          obtain ⟨a1, a2, a3⟩ := newTup g1 hp l2.snds
          exact q μ1 _ _ (s1.trans a1) a2 a3 (notLst nofun)
      · rw [if_neg hz] at e3; cases e3
/-- a method of a builtin type, by values -/
def rM (K : PySem.W.Frag) (mg : Str → Option Value) (t : Ty) (m : Me) : V → List V → Hp → VK → Prop := fun v vs H Q => ∃ μ h x xs d h', Good K mg μ h H ∧ Rep K mg μ h.length H x v ∧ RepL K mg μ h.length H xs vs ∧ meop t m x xs h = some (d, h') ∧
  ∀ w H', Step K μ h.length H μ h'.length H' → Good K mg μ h' H' → Rep K mg μ h'.length H' d w → Q w H'
theorem kind_ty {K : PySem.W.Frag} {mg : Str → Option Value} {μ : Mp} {h : MH} {H : Hp} {x : D} {v : V} {t : Ty} (g : Good K mg μ h H) (r : Rep K mg μ h.length H x v) (e : kindOf h x = some t) (ht : t ≠ .tuple) : tyV K (tyName t) v H := by
  cases r with
  | str z => cases e; rfl
  | tup z l => cases e; exact absurd rfl ht
  | lst z l => cases e; exact .inl ⟨rfl, _, SqL.of z.1⟩
  | flst z l => cases e; exact .inl ⟨rfl, _, z.sq⟩
  | @ref k hk =>
    have e : (match h[k]? with | some (.lst _) => some Ty.list | some (.dct _) => some Ty.dict | none => none) = some t := e
    cases q : h[k]? with
    | none => rw [q] at e; cases e
    | some o =>
      rw [q] at e
      cases o with
      | lst xs =>
        cases e
        obtain ⟨vs, h1, h2⟩ := g.lst q
        exact .inl ⟨rfl, _, SqL.of h1⟩
      | dct xs =>
        cases e
        obtain ⟨vs, h1, h2⟩ := g.dct q
        exact .inr (.inr (.inl ⟨rfl, .inl ⟨_, h1⟩⟩))
  | _ => cases e
section
variable {X : Cx}
/-- the facts of a method by type and name -/
structure MFacts (X : Cx) (t : Ty) (m : Me) : Prop where
  ex : ∃ id : String, PlainAttrs (tyName t) ∧ Slot (tyName t) (meName m) id ∧ typeOf (.builtin id) = pure (.type "method_descriptor") ∧ MtR X id (rM X.K X.mg t m)
theorem mt_appendD : MtR X "list.append" (rM X.K X.mg .list .append) := by
  intro pins s σ H x xs v us Q I rx rv hh
  obtain ⟨μ, h, dx, ds, d, h', g, r, l, e, q⟩ := hh
  obtain ⟨k, rfl⟩ : ∃ k, dx = .ref k := by cases dx <;> first | exact ⟨_, rfl⟩ | cases e
  match ds, e with
  | [y], e =>
    have e : (match h[k]? with
    | some (.lst ys) => if ys.length < sizeLine then some (D.non, h.set k (.lst (ys ++ [y]))) else none
    | _ => none) = some (d, h') := e
    cases eo : h[k]? with
    | none => rw [eo] at e; cases e
    | some o =>
      rw [eo] at e
      cases o with
      | dct _ => cases e
      | lst ys =>
        have e : (if ys.length < sizeLine then some (D.non, h.set k (.lst (ys ++ [y]))) else none) = some (d, h') := e
        by_cases z : ys.length < sizeLine
        · rw [if_pos z] at e; cases e
          obtain ⟨w, rfl, rw⟩ := l.one
          obtain ⟨vs, h1, l2⟩ := g.lst eo
          cases r with
          | ref hk =>
            obtain ⟨g', s'⟩ := g.set (x := .lst (ys ++ [y])) (o := .lst (vs ++ [w])) hk ⟨_, rfl, l2.append (.cons rw .nil)⟩
            exact mt_append pins s σ H _ _ v us Q I rx rv ⟨μ.m k, vs, w, rfl, rfl, h1, by rw [← l2.length]; exact z, q _ _ s' g' .non⟩
        · rw [if_neg z] at e; cases e
theorem repL_dropLast {K : PySem.W.Frag} {mg : Str → Option Value} {μ : Mp} {n : Nat} {H : Hp} {xs : List D} {vs : List V} (l : RepL K mg μ n H xs vs) : RepL K mg μ n H xs.dropLast vs.dropLast := by
  rw [List.dropLast_eq_take, List.dropLast_eq_take, ← l.length]
  exact l.take _
theorem mt_popD : MtR X "list.pop" (rM X.K X.mg .list .pop) := by
  intro pins s σ H x xs v us Q I rx rv hh
  obtain ⟨μ, h, dx, ds, d, h', g, r, l, e, q⟩ := hh
  obtain ⟨k, rfl⟩ : ∃ k, dx = .ref k := by cases dx <;> first | exact ⟨_, rfl⟩ | cases e
  match ds, e with
  | [], e =>
    have e : (match h[k]? with
    | some (.lst ys) => (ys[ys.length - 1]?).map fun y => (y, h.set k (.lst ys.dropLast))
    | _ => none) = some (d, h') := e
    cases eo : h[k]? with
    | none => rw [eo] at e; cases e
    | some o =>
      rw [eo] at e
      cases o with
      | dct _ => cases e
      | lst ys =>
        obtain ⟨y, e1, e2⟩ := Option.map_eq_some_iff.mp e
        cases e2
        cases l
        obtain ⟨vs, h1, l2⟩ := g.lst eo
        obtain ⟨w, e3, rw⟩ := l2.get e1
        cases r with
        | ref hk =>
          obtain ⟨g', s'⟩ := g.set (x := .lst ys.dropLast) (o := .lst vs.dropLast) hk ⟨_, rfl, repL_dropLast l2⟩
          exact mt_pop pins s σ H _ _ v us Q I rx rv ⟨μ.m k, vs, w, rfl, rfl, h1, by rw [← l2.length]; exact e3, q _ _ s' g' (rw.step s')⟩
theorem mt_setdD : MtR X "dict.setdefault" (rM X.K X.mg .dict .setdefault) := by
  intro pins s σ H x xs v us Q I rx rv hh
  obtain ⟨μ, h, dx, ds, d, h', g, r, l, e, q⟩ := hh
  obtain ⟨k, rfl⟩ : ∃ k, dx = .ref k := by cases dx <;> first | exact ⟨_, rfl⟩ | cases e
  match ds, e with
  | [y, z], e =>
    have e : (match h[k]?, keyOf y with
    | some (.dct kvs), some key => if kvs.length < sizeLine then (match valD kvs key with
      | some d => some (d, h)
      | none => some (z, h.set k (.dct (putD kvs key z)))) else none
    | _, _ => none) = some (d, h') := e
    cases eo : h[k]? with
    | none => rw [eo] at e; cases e
    | some o =>
      cases o with
      | lst _ => rw [eo] at e; cases e
      | dct kvs =>
        cases ek : keyOf y with
        | none => rw [eo, ek] at e; cases e
        | some key =>
          rw [eo, ek] at e
          have e : (if kvs.length < sizeLine then (match valD kvs key with
            | some d => some (d, h)
            | none => some (z, h.set k (.dct (putD kvs key z)))) else none) = some (d, h') := e
          by_cases hz : kvs.length < sizeLine
          · rw [if_pos hz] at e
            obtain ⟨v1, w1, rfl, ry, rz⟩ := l.two
            obtain ⟨vs, h1, l2⟩ := g.dct eo
            cases rv with
            | cons q1 rv =>
            cases rv with
            | cons q2 rv =>
            cases rv
            cases r with
            | ref hk =>
              cases rx
              rw [kv_key ry ek] at q1
              refine d_setd I h1 q1 q2 (by rw [← l2.length]; exact hz) (fun w hw w' s' I' rw' => ?_) (fun hn w' s' I' rw' => ?_)
              · cases ev : valD kvs key with
                | none => rw [l2.miss ev] at hw; cases hw
                | some d0 =>
                  rw [ev] at e; cases e
                  obtain ⟨w0, e0, r0⟩ := l2.val ev
                  rw [e0] at hw; cases hw
                  exact ⟨w, H, I', rw', q _ _ Step.refl g r0⟩
              · cases ev : valD kvs key with
                | some d0 =>
                  obtain ⟨w0, e0, r0⟩ := l2.val ev
                  rw [e0] at hn; cases hn
                | none =>
                  rw [ev] at e; cases e
                  obtain ⟨g', s''⟩ := g.set (x := .dct (putD kvs key d)) (o := .dK (putK vs key w1)) hk ⟨_, rfl, l2.put rz⟩
                  exact ⟨w1, _, I', rw', q _ _ s'' g' (rz.step s'')⟩
          · rw [if_neg hz] at e; cases e
theorem strs_of {K : PySem.W.Frag} {mg : Str → Option Value} {μ : Mp} {n : Nat} {H : Hp} {ds : List D} {vs : List V} {ys : List Str} (l : RepL K mg μ n H ds vs) (e : strsOf ds = some ys) : vs = ys.map V.str := by
  induction ds generalizing vs ys with
  | nil => cases l; cases e; rfl
  | cons x xs ih =>
    cases l with
    | cons r l =>
      cases x <;> try cases e
      rename_i b
      obtain ⟨cs, e1, e2⟩ := Option.map_eq_some_iff.mp (show (strsOf xs).map (b :: ·) = some ys from e)
      subst e2
      cases r
      rw [ih l e1]; rfl
theorem mt_joinD : MtR X "str.join" (rM X.K X.mg .str .join) := by
  intro pins s σ H x xs v us Q I rx rv hh
  obtain ⟨μ, h, dx, ds, d, h', g, r, l, e, q⟩ := hh
  obtain ⟨a, rfl⟩ : ∃ k, dx = .str k := by cases dx <;> first | exact ⟨_, rfl⟩ | cases e
  match ds, e with
  | [y], e =>
    have e : (match (items h y).bind strsOf with
    | some ys => if (ys.map (·.length)).sum + ys.length * a.length ≤ 16777216 then some (D.str (Txt.join a ys), h) else none
    | none => none) = some (d, h') := e
    cases e0 : (items h y).bind strsOf with
    | none => rw [e0] at e; cases e
    | some ys =>
      rw [e0] at e
      have e : (if (ys.map (·.length)).sum + ys.length * a.length ≤ 16777216 then some (D.str (Txt.join a ys), h) else none) = some (d, h') := e
      by_cases z : (ys.map (·.length)).sum + ys.length * a.length ≤ 16777216
      · rw [if_pos z] at e; cases e
        obtain ⟨zs, e1, e2⟩ := Option.bind_eq_some_iff.mp e0
        obtain ⟨w, rfl, rw⟩ := l.one
        obtain ⟨p, vs, rfl, hq, l2⟩ := seqAt g rw e1
        rw [strs_of l2 e2] at hq
        cases r
        exact mt_join pins s σ H _ _ v us Q I rx rv ⟨a, p, ys, rfl, rfl, hq, z, q _ H Step.refl g (.str _)⟩
      · rw [if_neg z] at e; cases e
  | [], e => cases e
  | _ :: _ :: _, e => cases e
theorem meop_ty {t : Ty} {m : Me} {x : D} {xs : List D} {h : MH} {r : D × MH} (e : meop t m x xs h = some r) : (t = .list ∧ m = .append) ∨ (t = .list ∧ m = .pop ∧ xs = []) ∨ (t = .dict ∧ m = .setdefault) ∨ (t = .str ∧ m = .join) := by
  cases t <;> cases m <;> cases x <;> cases xs <;> first | exact .inl ⟨rfl, rfl⟩ | exact .inr (.inl ⟨rfl, rfl, rfl⟩) | exact .inr (.inr (.inl ⟨rfl, rfl⟩)) | exact .inr (.inr (.inr ⟨rfl, rfl⟩)) | cases e
theorem m_setd : MFacts X .dict .setdefault := ⟨"dict.setdefault", PySem.F.plainAttrs_dict, PySem.F.slot_dict_setdefault, PySem.F.type_dict_setdefault, mt_setdD⟩
theorem m_join : MFacts X .str .join := ⟨"str.join", PySem.F.plainAttrs_str, PySem.F.slot_str_join, PySem.F.type_str_join, mt_joinD⟩
theorem m_append : MFacts X .list .append := ⟨"list.append", PySem.F.plainAttrs_list, PySem.F.slot_list_append, PySem.F.type_list_append, mt_appendD⟩
theorem m_pop : MFacts X .list .pop := ⟨"list.pop", PySem.F.plainAttrs_list, PySem.F.slot_list_pop, PySem.F.type_list_pop, mt_popD⟩
theorem m_facts {t : Ty} {m : Me} {x : D} {xs : List D} {h : MH} {r : D × MH} (e : meop t m x xs h = some r) : MFacts X t m ∧ t ≠ .tuple := by
  rcases meop_ty e with ⟨rfl, rfl⟩ | ⟨rfl, rfl, _⟩ | ⟨rfl, rfl⟩ | ⟨rfl, rfl⟩
  · exact ⟨m_append, nofun⟩
  · exact ⟨m_pop, nofun⟩
  · exact ⟨m_setd, nofun⟩
  · exact ⟨m_join, nofun⟩
variable {o e : Expr} {es : List Expr} {fa : Bool} {f : Env → M D} {g : Env → M (List D)} {apos cpos : Pos} {m : Me}
theorem pe_me0D (hb : baseOk o = true) (hline : (apos.endLine == cpos.line) = true) (ho : PE X o (tD fa X.K X.mg f)) :
    PE X (.Call (.Attribute o (meName m) apos) [] [] cpos) (tD false X.K X.mg fun ρ => .bind (f ρ) fun x => .bind (.look fun h => kindOf h x) fun t => .bind (.ret []) fun xs => meop t m x xs) := by
  refine ⟨fun pins s σ H Q I h => ?_⟩
  obtain ⟨μ, ρ, h, d, h', gd, sl, e, q⟩ := h
  obtain ⟨x, h1, e1, e2⟩ := M.bind_eq e
  obtain ⟨t, h2, e3, e4⟩ := M.bind_eq e2
  obtain ⟨e3', e5⟩ := M.look_eq e3
  cases e5
  have e4 : meop t m x [] h2 = some (d, h') := e4
  obtain ⟨⟨id, pa, slot, hty, hm⟩, hnt⟩ := m_facts (X := X) e4
  refine wpAny_Call_method0_late (base_ok hb _ _ _) hline (thn (ho.run pins s σ H _ I ⟨μ, ρ, h, x, h2, gd, sl, e1, fun μ1 v1 H1 s1 g1 r1 _ => (⟨μ1, s1, g1, r1⟩ : ∃ μ1, Step X.K μ h.length H μ1 h2.length H1 ∧ Good X.K X.mg μ1 h2 H1 ∧ Rep X.K X.mg μ1 h2.length H1 x v1)⟩) fun u s1 ⟨v, H1, I1, ru, μ1, st1, g1, r1⟩ => ?_)
  obtain ⟨h1, h2⟩ := tyV_is I1 ru (kind_ty g1 r1 e3' hnt)
  exact ⟨_, id, pa, slot, hty, h1, h2, Calls.callWith_builtin rfl (PySem.evalArgs_none (hm pins s1 σ H1 v [] u [] Q I1 ru .nil ⟨μ1, _, x, [], d, h', g1, r1, .nil, e4, fun w H2 s2 g2 r2 => q μ1 w H2 (st1.trans s2) g2 r2 nofun⟩))⟩
theorem few_ok {cpos : Pos} {env : PySem.Env} : ∀ {es : List Expr}, es.all noStar = true → (backTo cpos (starEach es env)).all (fun x => !x.1) = true
  | [], _ => rfl
  | e :: es, h => by
    rw [List.all_cons, Bool.and_eq_true] at h
    rw [noStar_cons h.1]
    show (true && (backTo cpos (starEach es env)).all (fun x => !x.1)) = true
    rw [few_ok h.2]; rfl
theorem pe_meD (hb : baseOk o = true) (hline : (apos.endLine == cpos.line) = true) (hns : (e :: es).all noStar = true) (hlen : (e :: es).length < 30) (ho : PE X o (tD fa X.K X.mg f)) (ha : PA X (e :: es) (tL X.K X.mg g)) :
    PE X (.Call (.Attribute o (meName m) apos) (e :: es) [] cpos) (tD false X.K X.mg fun ρ => .bind (f ρ) fun x => .bind (.look fun h => kindOf h x) fun t => .bind (g ρ) fun xs => meop t m x xs) := by
  refine ⟨fun pins s σ H Q I h => ?_⟩
  obtain ⟨μ, ρ, h, d, h', gd, sl, ee, q⟩ := h
  obtain ⟨x, h1, e1, e2⟩ := M.bind_eq ee
  obtain ⟨t, h2, e3, e4⟩ := M.bind_eq e2
  obtain ⟨e3', e5⟩ := M.look_eq e3
  cases e5
  obtain ⟨xs, h3, e6, e7⟩ := M.bind_eq e4
  obtain ⟨⟨id, pa, slot, hty, hm⟩, hnt⟩ := m_facts (X := X) e7
  have hns' := hns
  rw [List.all_cons, Bool.and_eq_true] at hns'
  have hs : starEach (e :: es) X.env = (false, eval e X.env) :: starEach es X.env := noStar_cons hns'.1 _ _
  have hplain : (backTo cpos (starEach es X.env)).any (·.1) = false := noStars hns'.2
  have hfew : ((backTo cpos (starEach (e :: es) X.env)).all (fun x => !x.1) && (backToKw cpos (keywordEach [] X.env)).all (fun x => x.1.isSome)
      && decide ((e :: es).length + ([] : List Keyword).length + (if ([] : List Keyword).isEmpty then 0 else 1) < 30)) = true := by
    rw [few_ok hns, decide_eq_true (show (e :: es).length + ([] : List Keyword).length + (if ([] : List Keyword).isEmpty then 0 else 1) < 30 by simpa using hlen)]
    rfl
  refine wpAny_Call_method_late (base_ok hb _ _ _) hfew hline rfl (thn (ho.run pins s σ H _ I ⟨μ, ρ, h, x, h2, gd, sl, e1, fun μ1 v1 H1 s1 g1 r1 _ => (⟨μ1, s1, g1, r1⟩ : ∃ μ1, Step X.K μ h.length H μ1 h2.length H1 ∧ Good X.K X.mg μ1 h2 H1 ∧ Rep X.K X.mg μ1 h2.length H1 x v1)⟩) fun u s1 ⟨v, H1, I1, ru, μ1, st1, g1, r1⟩ => ?_)
  obtain ⟨h1, h2'⟩ := tyV_is I1 ru (kind_ty g1 r1 e3' hnt)
  refine ⟨_, id, pa, slot, hty, h1, h2', ?_⟩
  have hA := ha.run cpos pins s1 σ H1 (fun vs H2 => ∃ μ2, Step X.K μ1 h2.length H1 μ2 h3.length H2 ∧ Good X.K X.mg μ2 h3 H2 ∧ RepL X.K X.mg μ2 h3.length H2 xs vs) I1 ⟨μ1, ρ, h2, xs, h3, g1, sl.step st1, e6, fun μ2 vs H2 s2 g2 r2 => ⟨μ2, s2, g2, r2⟩⟩
  rw [hs] at hA ⊢
  refine Calls.callWith_builtin (by show (false || (backTo cpos (starEach es X.env)).any (·.1)) = false; rw [hplain] <;> rfl) (Calls.evalArgs_plain ?_)
  exact thn hA fun us s2 ⟨vs, H2, I2, r2, μ2, st2, g2, l2⟩ => hm pins s2 σ H2 v vs u us Q I2 ru r2 ⟨μ2, h3, x, xs, d, h', g2, r1.step st2, l2, e7, fun w H3 s3 g3 r3 => q μ2 w H3 ((st1.trans st2).trans s3) g3 r3 nofun⟩
end
end PD


namespace PD
open PySem PySem.Spec L2
open PyProof.Rows hiding St
section
variable {K : PySem.W.Frag} {mg : Str → Option Value} {μ μ' μ'' : Mp} {n n' n'' : Nat} {H H' H'' : Hp} {σ σ' : St} {ρ : Env}
theorem Step0.trans (a : Step0 K μ n H μ' n' H') (b : Step0 K μ' n' H' μ'' n'' H'') : Step0 K μ n H μ'' n'' H'' :=
  ⟨Nat.le_trans a.len b.len, fun i hi => (b.m i (Nat.lt_of_lt_of_le hi a.len)).trans (a.m i hi), fun c xs h => b.tup c xs (a.tup c xs h), fun c xs h => b.frz c xs (a.frz c xs h), fun c xs h => b.sqf c xs (a.sqf c xs h)⟩
theorem Sl.step0 (s : Step0 K μ n H μ' n' H') (l : Sl K mg μ n H σ ρ) : Sl K mg μ' n' H' σ ρ :=
  ⟨l.len, fun i d e => let ⟨v, h1, h2⟩ := l.at_ i d e; ⟨v, h1, h2.step0 s⟩⟩
/-- slots outside of tv stay -/
def Out (tv : List Nat) (σ σ' : St) : Prop := σ'.length = σ.length ∧ ∀ j, j ∉ tv → σ'[j]? = σ[j]?
theorem Out.refl {tv : List Nat} : Out tv σ σ := ⟨rfl, fun _ _ => rfl⟩
theorem Out.trans {tv tw : List Nat} {σ'' : St} (a : Out tv σ σ') (b : Out tw σ' σ'') : Out (tv ++ tw) σ σ'' := ⟨b.1.trans a.1, fun j hj => by
  simp only [List.mem_append, not_or] at hj
  exact (b.2 j hj.2).trans (a.2 j hj.1)⟩
theorem wipe_get (σ : St) : ∀ (vs : List Nat) (j : Nat), (L2.wipe σ vs)[j]? = if j ∈ vs ∧ j < σ.length then some none else σ[j]?
  | [], j => by simp [L2.wipe]
  | v :: vs, j => by
    show ((L2.wipe σ vs).set v none)[j]? = _
    rw [List.getElem?_set, wipe_length, wipe_get σ vs j]
    by_cases hv : v = j
    · subst hv
      by_cases hl : v < σ.length
      · simp [hl]
      · simp [hl]
    · simp [hv, Ne.symm hv]
theorem wipe_out {tv vs : List Nat} (o : Out tv (L2.wipe σ vs) σ') (hv : ∀ j ∈ tv, j ∈ vs) : L2.wipe σ' vs = L2.wipe σ vs := by
  apply List.ext_getElem?
  intro j
  have hl : σ'.length = σ.length := by rw [o.1, wipe_length]
  rw [wipe_get, wipe_get, hl]
  by_cases hj : j ∈ vs ∧ j < σ.length
  · rw [if_pos hj, if_pos hj]
  · rw [if_neg hj, if_neg hj]
    by_cases h1 : j ∈ vs
    · have h2 : ¬ j < σ.length := fun z => hj ⟨h1, z⟩
      rw [List.getElem?_eq_none (by omega), List.getElem?_eq_none (by omega)]
    · rw [o.2 j fun z => h1 (hv j z), wipe_get, if_neg hj]
end
/-! ### targets -/
def gD (K : PySem.W.Frag) (mg : Str → Option Value) (tv : List Nat) (f : D → Env → M Env) : TG := fun v σ H Q => ∃ μ ρ h d ρ' h', Good K mg μ h H ∧ Sl K mg μ h.length H σ ρ ∧ Rep K mg μ h.length H d v ∧ f d ρ h = some (ρ', h') ∧
  ∀ μ' σ' H', Step K μ h.length H μ' h'.length H' → Good K mg μ' h' H' → Sl K mg μ' h'.length H' σ' ρ' → Out tv σ σ' → Q σ' H'
def gDs (K : PySem.W.Frag) (mg : Str → Option Value) (tv : List Nat) (f : List D → Env → M Env) : TGs := fun vs σ H Q => ∃ μ ρ h ds ρ' h', Good K mg μ h H ∧ Sl K mg μ h.length H σ ρ ∧ RepL K mg μ h.length H ds vs ∧ f ds ρ h = some (ρ', h') ∧
  ∀ μ' σ' H', Step K μ h.length H μ' h'.length H' → Good K mg μ' h' H' → Sl K mg μ' h'.length H' σ' ρ' → Out tv σ σ' → Q σ' H'
section
variable {X : Cx} {pos : Pos} {e : Expr} {es : List Expr} {tv tw : List Nat} {f : D → Env → M Env} {fs : List D → Env → M Env} {fa fb fe : Bool} {a b : Env → M D}
theorem pgImp {t t' : TG} (h : PG X e t) (i : ∀ v σ H Q, t' v σ H Q → t v σ H Q) : PG X e t' := ⟨fun pins s σ H v u Q I r q => h.run pins s σ H v u Q I r (i v σ H Q q)⟩
theorem pgsImp {t t' : TGs} (h : PGs X es t) (i : ∀ v σ H Q, t' v σ H Q → t v σ H Q) : PGs X es t' := ⟨fun pins s σ H v u Q I r q => h.run pins s σ H v u Q I r (i v σ H Q q)⟩
theorem pg_nameD {i : Nat} {x : Str} (h : PG X (.Name x pos) (gName i)) : PG X (.Name x pos) (gD X.K X.mg [i] fun d ρ => .ret (ρ.set i (some d))) := pgImp h fun v σ H Q h => by
  obtain ⟨μ, ρ, h, d, ρ', h', gd, sl, r, e, q⟩ := h
  cases e
  refine q μ _ H Step.refl gd (sl.set r i) ⟨by simp, fun j hj => ?_⟩
  have : i ≠ j := fun z => hj (by simp [z])
  rw [List.getElem?_set_ne this]
theorem pgs_nilD : PGs X [] (gDs X.K X.mg [] fun ds ρ => match ds with | [] => .ret ρ | _ => .fail) := pgsImp pgs_nil fun v σ H Q h => by
  obtain ⟨μ, ρ, h, ds, ρ', h', gd, sl, r, e, q⟩ := h
  cases ds with
  | nil =>
    cases e
    cases r
    exact ⟨rfl, q μ σ H Step.refl gd sl Out.refl⟩
  | cons _ _ => cases e
theorem assignEach_consS (hns : noStar e = true) (es : List Expr) (env : PySem.Env) : assignEach (e :: es) env = (false, assign e env) :: assignEach es env := by
  cases e <;> first | rfl | cases hns
theorem pgs_consD (hns : noStar e = true) (h1 : PG X e (gD X.K X.mg tv f)) (h2 : PGs X es (gDs X.K X.mg tw fs)) : PGs X (e :: es) (gDs X.K X.mg (tv ++ tw) fun ds ρ => match ds with | d :: ds => .bind (f d ρ) fun ρ1 => fs ds ρ1 | _ => .fail) := by
  refine pgsImp (pgs_cons h1 h2 (by rw [assignEach_consS hns]; rfl)) fun v σ H Q h => ?_
  obtain ⟨μ, ρ, h, ds, ρ', h', gd, sl, r, e, q⟩ := h
  cases ds with
  | nil => cases e
  | cons d ds =>
    obtain ⟨ρ1, h1, e1, e2⟩ := M.bind_eq e
    cases r with
    | cons r rr =>
      refine ⟨_, _, rfl, μ, ρ, h, d, ρ1, h1, gd, sl, r, e1, fun μ1 σ1 H1 s1 g1 l1 o1 => ?_⟩
      exact ⟨μ1, ρ1, h1, ds, ρ', h', g1, l1, rr.step s1, e2, fun μ2 σ2 H2 s2 g2 l2 o2 => q μ2 σ2 H2 (s1.trans s2) g2 l2 (o1.trans o2)⟩
theorem assignEach_len : ∀ {es : List Expr} {env : PySem.Env}, es.all noStar = true → (assignEach es env).length = es.length ∧ (assignEach es env).findIdx? (·.1) = none
  | [], _, _ => ⟨rfl, rfl⟩
  | e :: es, env, h => by
    rw [List.all_cons, Bool.and_eq_true] at h
    obtain ⟨h1, h2⟩ := assignEach_len (env := env) h.2
    rw [assignEach_consS h.1]
    refine ⟨by simp [h1], ?_⟩
    rw [List.findIdx?_cons]
    simp [h2]
theorem pg_tupD {k : Nat} (hc : X.calm = true) (hns : es.all noStar = true) (h : PGs X es (gDs X.K X.mg tv fs)) : PG X (.Tuple es k pos) (gD X.K X.mg tv fun d ρ => match d with
    | .tup xs => if xs.length = es.length then fs xs ρ else .fail
    | _ => .fail) := by
  refine pgImp (pg_tup (n := es.length) hc h (assignEach_len hns).1 (assignEach_len hns).2) fun v σ H Q h => ?_
  obtain ⟨μ, ρ, h, d, ρ', h', gd, sl, r, e, q⟩ := h
  cases r with
  | tup ht l =>
    rename_i a xs vs
    have e : (if xs.length = es.length then fs xs ρ else M.fail) h = some (ρ', h') := e
    by_cases z : xs.length = es.length
    · rw [if_pos z] at e
      exact ⟨_, _, rfl, ht, by rw [← l.length]; exact z, μ, ρ, h, xs, ρ', h', gd, sl, l, e, q⟩
    · rw [if_neg z] at e; cases e
  | _ => cases e
theorem pg_subD {o i : Expr} (hu : X.A.units + 1 < cLine) (ha : PE X o (tD fa X.K X.mg a)) (hb : PE X i (tD fb X.K X.mg b))
    (hh : ∀ v, assign (.Subscript o i pos) X.env v = (do
      let ov ← holding [v] (eval o X.env)
      let iv ← holding [v, ov] (eval i X.env)
      standAt pos
      holding [v, ov, iv] (setItem ov iv v)
      release [v, ov, iv] [])) : PG X (.Subscript o i pos) (gD X.K X.mg [] fun d ρ => .bind (a ρ) fun x => .bind (b ρ) fun y => fun h => (setop x y d h).map fun h' => (ρ, h')) := by
  refine pgImp (pg_sub ha hb (set_D hu) hh) fun v σ H Q h => ?_
  obtain ⟨μ, ρ, h, d, ρ', h', gd, sl, r, e, q⟩ := h
  obtain ⟨x, h1, e1, e2⟩ := M.bind_eq e
  obtain ⟨y, h2, e3, e4⟩ := M.bind_eq e2
  obtain ⟨h3, e5, e6⟩ := Option.map_eq_some_iff.mp e4
  cases e6
  refine ⟨μ, ρ, h, x, h1, gd, sl, e1, fun μ1 v1 H1 s1 g1 r1 _ => ?_⟩
  refine ⟨μ1, ρ, h1, y, h2, g1, sl.step s1, e3, fun μ2 v2 H2 s2 g2 r2 _ => ?_⟩
  exact ⟨μ2, h2, x, y, d, _, g2, r1.step s2, r2, (r.step s1).step s2, e5, fun H3 s3 g3 => q μ2 σ H3 ((s1.trans s2).trans s3) g3 (((sl.step s1).step s2).step s3) Out.refl⟩
end
/-! ### comprehensions -/
def Mp.hide (μ : Mp) (p : Addr) : Mp := ⟨μ.m, p :: μ.hid⟩
def hole (H : Hp) (p : Addr) : Hp := fun a => if a = p then none else H a
theorem hole_ne {H : Hp} {p a : Addr} (h : a ≠ p) : hole H p a = H a := if_neg h
theorem upd_hole {H : Hp} {p : Addr} {o : HO} (h : H p = some o) : upd (hole H p) p o = H := by
  funext a
  by_cases e : a = p
  · subst e; rw [upd_same, h]
  · rw [upd_ne e, hole_ne e]
section
variable {K : PySem.W.Frag} {mg : Str → Option Value} {μ μ' : Mp} {h h' : MH} {H H' : Hp} {p : Addr}
theorem Step0.hide {n : Nat} {vs : List V} (hp : H p = none) : Step0 K μ n H (μ.hide p) n (upd H p (.lst vs)) := by
  have st : Step K μ n H μ n (upd H p (.lst vs)) := Step.new hp
  refine ⟨Nat.le_refl _, fun _ _ => rfl, st.tup, fun a xs q => ?_, st.sqf⟩
  have e := (st.frz a xs q).1
  refine ⟨e, fun w => ?_⟩
  rcases w with w | ⟨i, hi, w⟩
  · rcases List.mem_cons.mp w with w | w
    · subst w
      rw [q.1] at hp; cases hp
    · exact q.2 (.inl w)
  · exact q.2 (.inr ⟨i, hi, w⟩)
theorem Good.hide (g : Good K mg μ h H) (hp : H p = none) {vs : List V} : Good K mg (μ.hide p) h (upd H p (.lst vs)) := by
  refine ⟨g.inj, fun i hi w => ?_, fun a ha => ?_, fun i o e => ?_⟩
  · rcases List.mem_cons.mp w with w | w
    · obtain ⟨q, eq⟩ := (g.objs i _ (List.getElem?_eq_getElem hi)).there
      have w : μ.m i = p := w
      rw [w, hp] at eq; cases eq
    · exact g.hidm i hi w
  · rcases List.mem_cons.mp ha with w | w
    · subst w; exact ⟨_, upd_same⟩
    · obtain ⟨o, eq⟩ := g.hid a w
      exact ⟨o, by rw [upd_ne (ne_of_none eq hp)]; exact eq⟩
  · have r := g.objs i o e
    obtain ⟨q, eq⟩ := r.there
    show RepO K mg (μ.hide p) h.length _ o (upd H p (.lst vs) (μ.m i))
    rw [upd_ne (ne_of_none eq hp)]
    rw [eq] at r ⊢
    exact r.step0 (Step0.hide hp)
/-- the hidden list is seen again -/
theorem Step0.unhide {n : Nat} {vs : List V} {hid : List Addr} (e : μ.hid = p :: hid) (hp : H p = some (.lst vs)) : Step0 K μ n H ⟨μ.m, hid⟩ n (hole H p) := by
  refine ⟨Nat.le_refl _, fun _ _ => rfl, fun a xs q => ?_, fun a xs q => ?_, fun a xs q => ?_⟩
  · rcases q with (q | ⟨u, q⟩) | q
    · refine .inl (.inl ?_)
      rw [hole_ne]; exact q
      rintro rfl; rw [hp] at q; cases q
    · refine .inl (.inr ⟨u, ?_⟩)
      rw [hole_ne]; exact q
      rintro rfl; rw [hp] at q; cases q
    · exact .inr q
  · refine ⟨?_, fun w => q.2 ?_⟩
    · rw [hole_ne]; exact q.1
      rintro rfl
      exact q.2 (.inl (by rw [e]; exact List.mem_cons_self))
    · rcases w with w | ⟨i, hi, w⟩
      · exact .inl (by rw [e]; exact List.mem_cons_of_mem _ w)
      · exact .inr ⟨i, hi, w⟩
  · rcases q with ⟨u, q⟩ | q
    · refine .inl ⟨u, ?_⟩
      rw [hole_ne]; exact q
      rintro rfl; rw [hp] at q; cases q
    · exact .inr q
theorem Good.unhide (g : Good K mg μ h H) {vs : List V} {hid : List Addr} (e : μ.hid = p :: hid) (hp : H p = some (.lst vs)) (hn : p ∉ hid) : Good K mg ⟨μ.m, hid⟩ h (hole H p) := by
  have np : ∀ i, i < h.length → μ.m i ≠ p := fun i hi w => g.hidm i hi (by rw [e, w]; exact List.mem_cons_self)
  refine ⟨g.inj, fun i hi w => g.hidm i hi (by rw [e]; exact List.mem_cons_of_mem _ w), fun a ha => ?_, fun i o eo => ?_⟩
  · obtain ⟨o, eq⟩ := g.hid a (by rw [e]; exact List.mem_cons_of_mem _ ha)
    exact ⟨o, by rw [hole_ne (by rintro rfl; exact hn ha)]; exact eq⟩
  · have r := g.objs i o eo
    obtain ⟨q, eq⟩ := r.there
    show RepO K mg ⟨μ.m, hid⟩ h.length _ o (hole H p (μ.m i))
    rw [hole_ne (np i (List.getElem?_eq_some_iff.mp eo).1)]
    rw [eq] at r ⊢
    exact r.step0 (Step0.unhide e hp)
/-- the hidden list grows -/
theorem Step0.grow {n : Nat} {vs ws : List V} (hm : p ∈ μ.hid) (hp : H p = some (.lst vs)) : Step0 K μ n H μ n (upd H p (.lst ws)) := by
  refine ⟨Nat.le_refl _, fun _ _ => rfl, fun a xs q => ?_, fun a xs q => ?_, fun a xs q => ?_⟩
  · rcases q with (q | ⟨u, q⟩) | q
    · refine .inl (.inl ?_)
      rw [upd_ne]; exact q
      rintro rfl; rw [hp] at q; cases q
    · refine .inl (.inr ⟨u, ?_⟩)
      rw [upd_ne]; exact q
      rintro rfl; rw [hp] at q; cases q
    · exact .inr q
  · refine ⟨?_, q.2⟩
    rw [upd_ne]; exact q.1
    rintro rfl
    exact q.2 (.inl hm)
  · rcases q with ⟨u, q⟩ | q
    · refine .inl ⟨u, ?_⟩
      rw [upd_ne]; exact q
      rintro rfl; rw [hp] at q; cases q
    · exact .inr q
theorem Good.grow (g : Good K mg μ h H) {vs ws : List V} (hm : p ∈ μ.hid) (hp : H p = some (.lst vs)) : Good K mg μ h (upd H p (.lst ws)) := by
  refine ⟨g.inj, g.hidm, fun a ha => ?_, fun i o eo => ?_⟩
  · by_cases z : a = p
    · subst z; exact ⟨_, upd_same⟩
    · rw [upd_ne z]; exact g.hid a ha
  · have r := g.objs i o eo
    obtain ⟨q, eq⟩ := r.there
    rw [upd_ne (fun w => g.hidm i (List.getElem?_eq_some_iff.mp eo).1 (by rw [w]; exact hm))]
    rw [eq] at r ⊢
    exact r.step0 (Step0.grow hm hp)
end
section
variable {X : Cx} {tg iter elt : Expr} {ifs : List Expr} {scope : Scope} {own : List (Str × Nat)} {pos : Pos} {tv : List Nat} {it : Env → M (List D)} {asg : D → Env → M Env} {tt : Env → M Bool} {fe : Bool} {f : Env → M D}
theorem lc_D {K : PySem.W.Frag} {mg : Str → Option Value} {vs : List Nat} {σ : St} {H : Hp} {Q : VK} (hv : ∀ j ∈ tv, j ∈ vs) (hq : tD true K mg (fun ρ => .bind (it ρ) fun xs => if xs.length ≤ sizeLine then .bind (compL asg tt f (wipeD ρ vs) xs) fun ys => .ret (.lst ys) else .fail) σ H Q) :
    tLc (iD K mg it) (gD K mg tv asg) (tT K mg tt) (tD fe K mg f) vs σ H Q := by
  obtain ⟨μ, ρ, h, d, h', gd, sl, e, q⟩ := hq
  obtain ⟨xs, h1, e1, e2⟩ := M.bind_eq e
  by_cases hz : ¬ xs.length ≤ sizeLine
  · rw [if_neg hz] at e2; cases e2
  have hz := Decidable.not_not.mp hz
  rw [if_pos hz] at e2
  obtain ⟨ys, h2, e3, e4⟩ := M.bind_eq e2
  cases e4
  refine ⟨μ, ρ, h, xs, h1, gd, sl, e1, fun μ1 J H1 s1 g1 itk Da hD => ?_⟩
  have slw := (sl.step s1).wipe vs
  refine ⟨fun i m H' => m = xs.length - i ∧ i ≤ xs.length ∧ ∃ μ' h2 acc ws zs, Step0 K (μ1.hide Da) h1.length (upd H1 Da (.lst [])) μ' h2.length H' ∧ μ'.hid = Da :: μ1.hid ∧ (∀ a o, a ∈ μ1.hid → H1 a = some o → H' a = some o) ∧ Good K mg μ' h2 H' ∧ H' Da = some (.lst ws) ∧
    RepL K mg μ' h2.length H' acc ws ∧ acc.length + (xs.length - i) ≤ sizeLine ∧ compL asg tt f (wipeD ρ vs) (xs.drop i) h2 = some (zs, h') ∧ acc ++ zs = ys, ⟨xs.length, by simp, Nat.zero_le _, μ1.hide Da, h1, [], [], ys, ⟨Nat.le_refl _, fun _ _ => rfl, fun _ _ q => q, fun _ _ q => q, fun _ _ q => q⟩, rfl, fun a o ha eo => ?_, g1.hide hD, upd_same, .nil, by simpa using hz, by simpa using e3, rfl⟩, ?_⟩
  · rw [upd_ne (ne_of_none eo hD)]; exact eo
  have sh : Step0 K μ1 h1.length H1 (μ1.hide Da) h1.length (upd H1 Da (.lst [])) := Step0.hide hD
  rintro i m H' ⟨rfl, hi, μ', h2, acc, ws, zs, st, hh, hk, g', hDa, ra, hn, ec, ea⟩
  have s01 : Step0 K μ1 h1.length H1 μ' h2.length H' := sh.trans st
  by_cases hlt : i < xs.length
  · refine .inr ⟨itk.go i μ' _ H' s01 hlt, _, fun H'' p' => ⟨xs.length - (i + 1), by omega, p'⟩, fun x H2 y => ?_⟩
    obtain ⟨d, ed, st2, g2, rd⟩ := itk.yld i μ' h2 H' x H2 s01 g' hlt y
    have ex : xs.drop i = d :: xs.drop (i + 1) := by
      rw [List.drop_eq_getElem_cons hlt]
      have : xs[i] = d := by rw [List.getElem?_eq_getElem hlt] at ed; exact Option.some.inj ed
      rw [this]
    rw [ex] at ec
    have ec : M.bind (asg d (wipeD ρ vs)) (fun ρ1 => .bind (tt ρ1) fun b => if b = true then .bind (f ρ1) fun y => .bind (compL asg tt f (wipeD ρ vs) (xs.drop (i + 1))) fun ys => .ret (y :: ys) else compL asg tt f (wipeD ρ vs) (xs.drop (i + 1))) h2 = some (zs, h') := ec
    obtain ⟨ρ1, h3, e5, e6⟩ := M.bind_eq ec
    obtain ⟨b, h4, e7, e8⟩ := M.bind_eq e6
    have s02 : Step0 K μ1 h1.length H1 μ' h2.length H2 := s01.trans st2.toStep0
    refine ⟨μ', wipeD ρ vs, h2, d, ρ1, h3, g2, slw.step0 s02, rd, e5, fun μ3 σ3 H3 st3 g3 l3 o3 => ⟨wipe_out o3 hv, ?_⟩⟩
    refine ⟨μ3, ρ1, h3, b, h4, g3, l3, e7, fun μ4 H4 st4 g4 => ?_⟩
    have s24 : Step K μ' h2.length H' μ4 h4.length H4 := (st2.trans st3).trans st4
    show ite (b = true) _ _
    by_cases hb : b = true
    · rw [if_pos hb] at e8 ⊢
      obtain ⟨y', h5, e9, e10⟩ := M.bind_eq e8
      obtain ⟨zs', h6, e11, e12⟩ := M.bind_eq e10
      cases e12
      refine ⟨μ4, ρ1, h4, y', h5, g4, l3.step st4, e9, fun μ5 v5 H5 st5 g5 r5 _ => ?_⟩
      have s25 := s24.trans st5
      have hD5 : H5 Da = some (.lst ws) := s25.hids Da _ (by rw [hh]; exact List.mem_cons_self) hDa
      have hh5 : μ5.hid = Da :: μ1.hid := s25.hid.trans hh
      have hm5 : Da ∈ μ5.hid := by rw [hh5]; exact List.mem_cons_self
      have gw : Step0 K μ5 h5.length H5 μ5 h5.length (upd H5 Da (.lst (ws ++ [v5]))) := Step0.grow hm5 hD5
      refine ⟨ws, hD5, by rw [← ra.length]; omega, rfl, by omega, μ5, h5, acc ++ [y'], ws ++ [v5], zs', (st.trans s25.toStep0).trans gw, hh5, fun a o ha eo => ?_, g5.grow hm5 hD5, upd_same, ((ra.step0 s25.toStep0).append (.cons r5 .nil)).step0 gw, by simp; omega, e11, by rw [← ea]; simp⟩
      have z : a ≠ Da := ne_of_none eo hD
      rw [upd_ne z]
      exact s25.hids a o (by rw [hh]; exact List.mem_cons_of_mem _ ha) (hk a o ha eo)
    · rw [if_neg hb] at e8 ⊢
      have hm : Da ∈ μ'.hid := by rw [hh]; exact List.mem_cons_self
      exact ⟨rfl, by omega, μ4, h4, acc, ws, zs, st.trans s24.toStep0, s24.hid.trans hh, fun a o ha eo => s24.hids a o (by rw [hh]; exact List.mem_cons_of_mem _ ha) (hk a o ha eo), g4, s24.hids Da _ hm hDa, ra.step0 s24.toStep0, by omega, e8, ea⟩
  · have ei : i = xs.length := by omega
    subst ei
    refine .inl ⟨itk.stop _ μ' _ H' s01 rfl, ?_⟩
    rw [List.drop_length] at ec
    cases ec
    rw [List.append_nil] at ea
    subst ea
    have hnD : Da ∉ μ1.hid := fun w => by
      obtain ⟨o, eo⟩ := g1.hid Da w
      rw [hD] at eo; cases eo
    have g0 : Good K mg ⟨μ'.m, μ1.hid⟩ h' (hole H' Da) := g'.unhide hh hDa hnD
    have su : Step0 K μ' h'.length H' ⟨μ'.m, μ1.hid⟩ h'.length (hole H' Da) := Step0.unhide hh hDa
    have hp : hole H' Da Da = none := if_pos rfl
    obtain ⟨a1, a2, a3, a4⟩ := newLst g0 hp (ra.step0 su)
    rw [upd_hole hDa] at a1 a2 a3 a4
    have sb : Step K μ1 h1.length H1 ⟨μ'.m, μ1.hid⟩ h'.length (hole H' Da) := ⟨s01.trans su, rfl, fun a o ha eo => by
      rw [hole_ne (ne_of_none eo hD)]
      exact hk a o ha eo⟩
    exact q _ _ _ ((s1.trans sb).trans a1) a2 a3 fun _ => a4.back (s1.trans sb)
theorem pe_compD (hc : X.calm = true) (hN : X.N.Nodup) (hi : PI X tg iter (iD X.K X.mg it)) (ok : BlkOk X.N X.env.scope scope own) (hv : ∀ j ∈ tv, j ∈ own.map (·.2))
    (hg : ∀ (s : Shared) (H : Hp) (C : Addr) (cl : List (Str × Addr)) (fp : List Addr), PG (X.blk s H scope (compEnvC scope cl C X.env) fp) tg (gD X.K X.mg tv asg)) (ht : ∀ (s : Shared) (H : Hp) (C : Addr) (cl : List (Str × Addr)) (fp : List Addr), PTs (X.blk s H scope (compEnvC scope cl C X.env) fp) ifs (tT X.K X.mg tt))
    (he : ∀ (s : Shared) (H : Hp) (C : Addr) (cl : List (Str × Addr)) (fp : List Addr), PE (X.blk s H scope (compEnvC scope cl C X.env) fp) elt (tD fe X.K X.mg f)) (hs : ∀ x, foldedSetIterable iter X.env x = pure x) :
    PE X (.ListComp elt [⟨tg, iter, ifs, 0⟩] scope pos) (tD true X.K X.mg fun ρ => .bind (it ρ) fun xs => if xs.length ≤ sizeLine then .bind (compL asg tt f (wipeD ρ (own.map (·.2))) xs) fun ys => .ret (.lst ys) else .fail) :=
  peImp (pe_lc hc hN hi ok hg ht he hs) fun _ _ _ h => lc_D hv h
end
/-! ### .. of two clauses -/
/-- the list under way -/
structure AccS (K : PySem.W.Frag) (mg : Str → Option Value) (μ1 : Mp) (n1 : Nat) (H1 : Hp) (p : Addr) (μ : Mp) (h : MH) (H : Hp) (acc : List D) (ws : List V) : Prop where
  st : Step0 K (μ1.hide p) n1 (upd H1 p (.lst [])) μ h.length H
  hid : μ.hid = p :: μ1.hid
  keep : ∀ a o, a ∈ μ1.hid → H1 a = some o → H a = some o
  good : Good K mg μ h H
  at_ : H p = some (.lst ws)
  rep : RepL K mg μ h.length H acc ws
section
variable {K : PySem.W.Frag} {mg : Str → Option Value} {μ1 μ μ' : Mp} {h1 h h' : MH} {H1 H H' : Hp} {p : Addr} {acc : List D} {ws : List V}
theorem AccS.step (a : AccS K mg μ1 h1.length H1 p μ h H acc ws) (s : Step K μ h.length H μ' h'.length H') (g : Good K mg μ' h' H') : AccS K mg μ1 h1.length H1 p μ' h' H' acc ws :=
  ⟨a.st.trans s.toStep0, s.hid.trans a.hid, fun b o hb e => s.hids b o (by rw [a.hid]; exact List.mem_cons_of_mem _ hb) (a.keep b o hb e), g, s.hids p _ (by rw [a.hid]; exact List.mem_cons_self) a.at_, a.rep.step0 s.toStep0⟩
theorem AccS.app (a : AccS K mg μ1 h1.length H1 p μ h H acc ws) (hp : H1 p = none) {d : D} {v : V} (r : Rep K mg μ h.length H d v) :
    AccS K mg μ1 h1.length H1 p μ h (upd H p (.lst (ws ++ [v]))) (acc ++ [d]) (ws ++ [v]) ∧ Step0 K μ h.length H μ h.length (upd H p (.lst (ws ++ [v]))) := by
  have hm : p ∈ μ.hid := by rw [a.hid]; exact List.mem_cons_self
  have gw : Step0 K μ h.length H μ h.length (upd H p (.lst (ws ++ [v]))) := Step0.grow hm a.at_
  refine ⟨⟨a.st.trans gw, a.hid, fun b o hb e => ?_, a.good.grow hm a.at_, upd_same, (a.rep.append (.cons r .nil)).step0 gw⟩, gw⟩
  rw [upd_ne (ne_of_none e hp)]
  exact a.keep b o hb e
theorem AccS.start (g : Good K mg μ1 h1 H1) (hp : H1 p = none) : AccS K mg μ1 h1.length H1 p (μ1.hide p) h1 (upd H1 p (.lst [])) [] [] :=
  ⟨⟨Nat.le_refl _, fun _ _ => rfl, fun _ _ q => q, fun _ _ q => q, fun _ _ q => q⟩, rfl, fun a o ha eo => by rw [upd_ne (ne_of_none eo hp)]; exact eo, g.hide hp, upd_same, .nil⟩
theorem AccS.fin (a : AccS K mg μ1 h1.length H1 p μ h H acc ws) (g1 : Good K mg μ1 h1 H1) (hp : H1 p = none) :
    Step K μ1 h1.length H1 ⟨μ.m, μ1.hid⟩ h.length H ∧ Good K mg ⟨μ.m, μ1.hid⟩ h H ∧ Rep K mg ⟨μ.m, μ1.hid⟩ h.length H (.lst acc) (.ref p) ∧ Fresh K mg μ1 h1.length H1 ⟨μ.m, μ1.hid⟩ h H (.lst acc) (.ref p) := by
  have sh : Step0 K μ1 h1.length H1 (μ1.hide p) h1.length (upd H1 p (.lst [])) := Step0.hide hp
  have s01 := sh.trans a.st
  have hnD : p ∉ μ1.hid := fun w => by
    obtain ⟨o, eo⟩ := g1.hid p w
    rw [hp] at eo; cases eo
  have g0 : Good K mg ⟨μ.m, μ1.hid⟩ h (hole H p) := a.good.unhide a.hid a.at_ hnD
  have su : Step0 K μ h.length H ⟨μ.m, μ1.hid⟩ h.length (hole H p) := Step0.unhide a.hid a.at_
  have hp' : hole H p p = none := if_pos rfl
  obtain ⟨a1, a2, a3, a4⟩ := newLst g0 hp' (a.rep.step0 su)
  rw [upd_hole a.at_] at a1 a2 a3 a4
  have sb : Step K μ1 h1.length H1 ⟨μ.m, μ1.hid⟩ h.length (hole H p) := ⟨s01.trans su, rfl, fun b o hb eo => by
    rw [hole_ne (ne_of_none eo hp)]
    exact a.keep b o hb eo⟩
  exact ⟨sb.trans a1, a2, a3, a4.back sb⟩
end
section
variable {X : Cx} {tg iter elt tg1 iter1 : Expr} {ifs ifs1 : List Expr} {scope : Scope} {own : List (Str × Nat)} {pos : Pos} {tv tv1 : List Nat} {it it1 : Env → M (List D)} {asg asg1 : D → Env → M Env} {tt tt1 : Env → M Bool} {fe : Bool} {f : Env → M D}
theorem lc2_D {K : PySem.W.Frag} {mg : Str → Option Value} {vs vs1 : List Nat} {σ : St} {H : Hp} {Q : VK} (hv : ∀ j ∈ tv, j ∈ vs) (hv1 : ∀ j ∈ tv1, j ∈ vs1)
    (hq : tD true K mg (fun ρ => .bind (it ρ) fun xs => .bind (compL2 asg tt it1 asg1 tt1 f vs1 (wipeD ρ vs) xs) fun ys => if ys.length ≤ sizeLine then .ret (.lst ys) else .fail) σ H Q) :
    tLc2 (iD K mg it) (gD K mg tv asg) (tT K mg tt) (iD K mg it1) (gD K mg tv1 asg1) (tT K mg tt1) (tD fe K mg f) vs vs1 σ H Q := by
  obtain ⟨μ, ρ, h, d, h', gd, sl, e, q⟩ := hq
  obtain ⟨xs, h1, e1, e2⟩ := M.bind_eq e
  obtain ⟨ys, h2, e3, e4⟩ := M.bind_eq e2
  by_cases hz : ¬ ys.length ≤ sizeLine
  · rw [if_neg hz] at e4; cases e4
  have hz := Decidable.not_not.mp hz
  rw [if_pos hz] at e4
  cases e4
  refine ⟨μ, ρ, h, xs, h1, gd, sl, e1, fun μ1 J H1 s1 g1 itk Da hD => ?_⟩
  have slw := (sl.step s1).wipe vs
  refine ⟨fun i m H' => m = xs.length - i ∧ i ≤ xs.length ∧ ∃ μ' h2 acc ws zs, AccS K mg μ1 h1.length H1 Da μ' h2 H' acc ws ∧ compL2 asg tt it1 asg1 tt1 f vs1 (wipeD ρ vs) (xs.drop i) h2 = some (zs, h') ∧ acc ++ zs = ys, ⟨xs.length, by simp, Nat.zero_le _, μ1.hide Da, h1, [], [], ys, .start g1 hD, by simpa using e3, rfl⟩, ?_⟩
  have sh : Step0 K μ1 h1.length H1 (μ1.hide Da) h1.length (upd H1 Da (.lst [])) := Step0.hide hD
  rintro i m H' ⟨rfl, hi, μ', h2, acc, ws, zs, A, ec, ea⟩
  have s01 : Step0 K μ1 h1.length H1 μ' h2.length H' := sh.trans A.st
  by_cases hlt : i < xs.length
  · refine .inr ⟨itk.go i μ' _ H' s01 hlt, _, fun H'' p' => ⟨xs.length - (i + 1), by omega, p'⟩, fun x H2 y => ?_⟩
    obtain ⟨d, ed, st2, g2, rd⟩ := itk.yld i μ' h2 H' x H2 s01 A.good hlt y
    have ex : xs.drop i = d :: xs.drop (i + 1) := by
      rw [List.drop_eq_getElem_cons hlt]
      have : xs[i] = d := by rw [List.getElem?_eq_getElem hlt] at ed; exact Option.some.inj ed
      rw [this]
    rw [ex] at ec
    have ec : M.bind (asg d (wipeD ρ vs)) (fun ρ1 => .bind (tt ρ1) fun b =>
      if b = true then .bind (it1 ρ1) fun ys => .bind (compL asg1 tt1 f (wipeD ρ1 vs1) ys) fun as => .bind (compL2 asg tt it1 asg1 tt1 f vs1 (wipeD ρ vs) (xs.drop (i + 1))) fun bs => .ret (as ++ bs) else compL2 asg tt it1 asg1 tt1 f vs1 (wipeD ρ vs) (xs.drop (i + 1))) h2 = some (zs, h') := ec
    obtain ⟨ρ1, h3, e5, e6⟩ := M.bind_eq ec
    obtain ⟨b, h4, e7, e8⟩ := M.bind_eq e6
    have s02 : Step0 K μ1 h1.length H1 μ' h2.length H2 := s01.trans st2.toStep0
    refine ⟨μ', wipeD ρ vs, h2, d, ρ1, h3, g2, slw.step0 s02, rd, e5, fun μ3 σ3 H3 st3 g3 l3 o3 => ⟨wipe_out o3 hv, ?_⟩⟩
    refine ⟨μ3, ρ1, h3, b, h4, g3, l3, e7, fun μ4 H4 st4 g4 => ?_⟩
    have A4 := ((A.step st2 g2).step st3 g3).step st4 g4
    show ite (b = true) _ _
    by_cases hb : b = true
    · rw [if_pos hb] at e8 ⊢
      obtain ⟨ys1, h5, e9, e10⟩ := M.bind_eq e8
      obtain ⟨as, h6, e11, e12⟩ := M.bind_eq e10
      obtain ⟨bs, h7, e13, e14⟩ := M.bind_eq e12
      cases e14
      refine ⟨μ4, ρ1, h4, ys1, h5, g4, l3.step st4, e9, fun μ5 J1 H5 st5 g5 itk1 => ?_⟩
      have A5 := A4.step st5 g5
      have l5 := (((l3.step st4).step st5).wipe vs1)
      refine ⟨fun j k H' => k = ys1.length - j ∧ j ≤ ys1.length ∧ ∃ μ' h2 acc ws zs, AccS K mg μ1 h1.length H1 Da μ' h2 H' acc ws ∧ Step0 K μ5 h5.length H5 μ' h2.length H' ∧
        M.bind (compL asg1 tt1 f (wipeD ρ1 vs1) (ys1.drop j)) (fun as => .bind (compL2 asg tt it1 asg1 tt1 f vs1 (wipeD ρ vs) (xs.drop (i + 1))) fun bs => .ret (as ++ bs)) h2 = some (zs, h') ∧ acc ++ zs = ys,
        ⟨ys1.length, by simp, Nat.zero_le _, μ5, h5, acc, ws, as ++ bs, A5, ⟨Nat.le_refl _, fun _ _ => rfl, fun _ _ q => q, fun _ _ q => q, fun _ _ q => q⟩, bind_run (by simpa using e11) (bind_run e13 rfl), ea⟩, ?_⟩
      rintro j k H' ⟨rfl, hj, μ6, h8, acc6, ws6, zs6, A6, s56, ec6, ea6⟩
      obtain ⟨as6, h9, f1, f2⟩ := M.bind_eq ec6
      by_cases hlt1 : j < ys1.length
      · refine .inr ⟨itk1.go j μ6 _ H' s56 hlt1, _, fun H'' p' => ⟨ys1.length - (j + 1), by omega, p'⟩, fun x1 H8 y1 => ?_⟩
        obtain ⟨d1, ed1, st8, g8, rd1⟩ := itk1.yld j μ6 h8 H' x1 H8 s56 A6.good hlt1 y1
        have ex1 : ys1.drop j = d1 :: ys1.drop (j + 1) := by
          rw [List.drop_eq_getElem_cons hlt1]
          have : ys1[j] = d1 := by rw [List.getElem?_eq_getElem hlt1] at ed1; exact Option.some.inj ed1
          rw [this]
        rw [ex1] at f1
        have f1 : M.bind (asg1 d1 (wipeD ρ1 vs1)) (fun ρ1' => .bind (tt1 ρ1') fun b => if b = true then .bind (f ρ1') fun y => .bind (compL asg1 tt1 f (wipeD ρ1 vs1) (ys1.drop (j + 1))) fun ys => .ret (y :: ys) else compL asg1 tt1 f (wipeD ρ1 vs1) (ys1.drop (j + 1))) h8 = some (as6, h9) := f1
        obtain ⟨ρ2, h10, f3, f4⟩ := M.bind_eq f1
        obtain ⟨b1, h11, f5, f6⟩ := M.bind_eq f4
        have s58 : Step0 K μ5 h5.length H5 μ6 h8.length H8 := s56.trans st8.toStep0
        have A8 := A6.step st8 g8
        refine ⟨μ6, wipeD ρ1 vs1, h8, d1, ρ2, h10, g8, l5.step0 s58, rd1, f3, fun μ7 σ7 H7 st7 g7 l7 o7 => ⟨wipe_out o7 hv1, ?_⟩⟩
        refine ⟨μ7, ρ2, h10, b1, h11, g7, l7, f5, fun μ9 H9 st9 g9 => ?_⟩
        have A9 := (A8.step st7 g7).step st9 g9
        have s59 := (s58.trans st7.toStep0).trans st9.toStep0
        show ite (b1 = true) _ _
        by_cases hb1 : b1 = true
        · rw [if_pos hb1] at f6 ⊢
          obtain ⟨y', h12, f7, f8⟩ := M.bind_eq f6
          obtain ⟨zs', h13, f9, f10⟩ := M.bind_eq f8
          cases f10
          refine ⟨μ9, ρ2, h11, y', h12, g9, l7.step st9, f7, fun μa va Ha sta ga ra _ => ?_⟩
          have Aa := A9.step sta ga
          obtain ⟨Ab, sab⟩ := Aa.app hD ra
          obtain ⟨bs', h14, f11, f12⟩ := M.bind_eq f2
          cases f12
          refine ⟨ws6, Aa.at_, ?_, rfl, by omega, μa, h12, acc6 ++ [y'], ws6 ++ [va], zs' ++ bs', Ab, (s59.trans sta.toStep0).trans sab, bind_run f9 (bind_run f11 rfl), by rw [← ea6]; simp⟩
          have hl := A6.rep.length
          have : acc6.length + 1 ≤ ys.length := by rw [← ea6]; simp
          omega
        · rw [if_neg hb1] at f6 ⊢
          exact ⟨rfl, by omega, μ9, h11, acc6, ws6, zs6, A9, s59, bind_run f6 f2, ea6⟩
      · have ej : j = ys1.length := by omega
        subst ej
        refine .inl ⟨itk1.stop _ μ6 _ H' s56 rfl, ?_⟩
        rw [List.drop_length] at f1
        cases f1
        obtain ⟨bs', h14, f11, f12⟩ := M.bind_eq f2
        cases f12
        exact ⟨rfl, by omega, μ6, h8, acc6, ws6, bs', A6, f11, by rw [← ea6]; simp⟩
    · rw [if_neg hb] at e8 ⊢
      exact ⟨rfl, by omega, μ4, h4, acc, ws, zs, A4, e8, ea⟩
  · have ei : i = xs.length := by omega
    subst ei
    refine .inl ⟨itk.stop _ μ' _ H' s01 rfl, ?_⟩
    rw [List.drop_length] at ec
    cases ec
    rw [List.append_nil] at ea
    subst ea
    obtain ⟨a1, a2, a3, a4⟩ := A.fin g1 hD
    exact q _ _ _ (s1.trans a1) a2 a3 fun _ => a4.back s1
theorem pe_comp2D {vs1 : List Nat} (hc : X.calm = true) (hN : X.N.Nodup) (hi : PI X tg iter (iD X.K X.mg it)) (ok : BlkOk X.N X.env.scope scope own) (hv : ∀ j ∈ tv, j ∈ own.map (·.2)) (hv1 : ∀ j ∈ tv1, j ∈ vs1) (hw : ∀ j ∈ vs1, j ∈ own.map (·.2))
    (hg : ∀ (s : Shared) (H : Hp) (C : Addr) (cl : List (Str × Addr)) (fp : List Addr), PG (X.blk s H scope (compEnvC scope cl C X.env) fp) tg (gD X.K X.mg tv asg)) (ht : ∀ (s : Shared) (H : Hp) (C : Addr) (cl : List (Str × Addr)) (fp : List Addr), PTs (X.blk s H scope (compEnvC scope cl C X.env) fp) ifs (tT X.K X.mg tt))
    (hi1 : ∀ (s : Shared) (H : Hp) (C : Addr) (cl : List (Str × Addr)) (fp : List Addr), PI (X.blk s H scope (compEnvC scope cl C X.env) fp) tg1 iter1 (iD X.K X.mg it1))
    (hg1 : ∀ (s : Shared) (H : Hp) (C : Addr) (cl : List (Str × Addr)) (fp : List Addr), PG (X.blk s H scope (compEnvC scope cl C X.env) fp) tg1 (gD X.K X.mg tv1 asg1)) (ht1 : ∀ (s : Shared) (H : Hp) (C : Addr) (cl : List (Str × Addr)) (fp : List Addr), PTs (X.blk s H scope (compEnvC scope cl C X.env) fp) ifs1 (tT X.K X.mg tt1))
    (he : ∀ (s : Shared) (H : Hp) (C : Addr) (cl : List (Str × Addr)) (fp : List Addr), PE (X.blk s H scope (compEnvC scope cl C X.env) fp) elt (tD fe X.K X.mg f)) (hs : ∀ x, foldedSetIterable iter X.env x = pure x) (hs1 : ∀ env x, foldedSetIterable iter1 env x = pure x) :
    PE X (.ListComp elt [⟨tg, iter, ifs, 0⟩, ⟨tg1, iter1, ifs1, 0⟩] scope pos) (tD true X.K X.mg fun ρ => .bind (it ρ) fun xs => .bind (compL2 asg tt it1 asg1 tt1 f vs1 (wipeD ρ (own.map (·.2))) xs) fun ys => if ys.length ≤ sizeLine then .ret (.lst ys) else .fail) :=
  peImp (pe_lc2 hc hN hi ok hw hg ht hi1 hg1 ht1 he hs hs1) fun _ _ _ h => lc2_D hv hv1 h
end
end PD


namespace PD
open PySem PySem.Spec L2
open PyProof.Rows hiding St
open PyProof HT
/-! ### t[::-1] -/
section
variable {prog : Program} {w : World} {A : Around} {E : Value → Shared → Prop} {s : Shared}
theorem rev_applied {sl : Addr} {vs : Value} {n : Nat} {Q : Int × Int × Nat → Shared → Prop} (hs : s.heap.IsSliceOf sl .none .none vs) (ps : IsPart vs (some (-1)))
    (h : Q ((n : Int) - 1, -1, n) s) : wpAny (model prog w) A (Builtin.Slice.sliceApplied (.ref sl) (pure (n : Int))) Q E s := by
  obtain ⟨os, hos, hcs, hds⟩ := id hs
  unfold Builtin.Slice.sliceApplied Builtin.Slice.sliceFields
  refine wpAny_bind (wpAny_bind (wpAny_field hos hds (x := .none) rfl (wpAny_bind (wpAny_field hos hds (x := .none) rfl (wpAny_bind (wpAny_field hos hds (x := vs) rfl (wpAny_pure ?_)))))))
  refine wpAny_bind (slicePart_ ps ?_)
  show wpAny _ _ (if ((-1 : Int) == 0) = true then _ else _) _ _ s
  rw [if_neg (by decide)]
  refine wpAny_bind (slicePart_none (wpAny_bind (slicePart_none (wpAny_bind (wpAny_pure ?_)))))
  have e1 : Builtin.Slice.sliceAdjust none none (-1) (n : Int) = ((n : Int) - 1, -1) := by
    unfold Builtin.Slice.sliceAdjust
    rfl
  have e2 : Builtin.Slice.slicePlaces ((n : Int) - 1) (-1) (-1) = n := by
    unfold Builtin.Slice.slicePlaces
    have h1 : ¬ ((-1 : Int) > 0) := by omega
    simp only [h1, if_false]
    first
      | omega
      | (split <;> omega)
      | (simp; omega)
      | (split <;> simp <;> omega)
  show wpAny _ _ (match Builtin.Slice.sliceAdjust none none (-1) (n : Int) with | (lo, hi) => pure (lo, (-1 : Int), Builtin.Slice.slicePlaces lo hi (-1))) _ _ s
  rw [e1]
  show wpAny _ _ (pure ((n : Int) - 1, (-1 : Int), Builtin.Slice.slicePlaces ((n : Int) - 1) (-1) (-1))) _ _ s
  rw [e2]
  exact wpAny_pure h
theorem fm_map {α β : Type} {f : α → Option β} {g : α → β} : ∀ {l : List α}, (∀ x ∈ l, f x = some (g x)) → l.filterMap f = l.map g
  | [], _ => rfl
  | x :: l, h => by
    rw [List.filterMap_cons, h x List.mem_cons_self, List.map_cons, fm_map fun y hy => h y (List.mem_cons_of_mem _ hy)]
theorem pick_rev (xs : Array Value) : ((List.range xs.size).filterMap fun (m : Nat) => xs[(((xs.size : Int) - 1) + (m : Int) * (-1)).toNat]?).toArray = xs.toList.reverse.toArray := by
  have e : (List.range xs.size).filterMap (fun (m : Nat) => xs[(((xs.size : Int) - 1) + (m : Int) * (-1)).toNat]?) = (List.range xs.size).map fun m => xs.toList.reverse.getD m .none := by
    refine fm_map fun m hm => ?_
    have hm := List.mem_range.mp hm
    have e2 : (((xs.size : Int) - 1) + (m : Int) * (-1)).toNat = xs.size - 1 - m := by omega
    rw [e2, ← Array.getElem?_toList]
    have hl : m < xs.toList.reverse.length := by simp; omega
    simp [List.getElem?_eq_getElem hl, List.getElem_reverse, hm]
  rw [e]
  congr 1
  apply List.ext_getElem?
  intro m
  by_cases h : m < xs.size
  · have hl : m < xs.toList.reverse.length := by simp; omega
    rw [List.getElem?_map, List.getElem?_range h]
    simp only [Option.map_some]
    rw [List.getElem?_eq_getElem hl, List.getD_eq_getElem?_getD, List.getElem?_eq_getElem hl]
    rfl
  · rw [List.getElem?_eq_none (by simp; omega), List.getElem?_eq_none (by simp; omega)]
theorem getItem_tuple_rev {t sl : Addr} {items : Array Value} {vs : Value} {Q : Value → Shared → Prop} (ht : IsTup s.heap t items) (hs : s.heap.IsSliceOf sl .none .none vs) (ps : IsPart vs (some (-1)))
    (h : Q (.ref s.heap.objs.size) { s with heap := s.heap.push { cls := .type "tuple", data := .seq items.toList.reverse.toArray } })
    (hsz : items.size ≤ sizeLine) : wpAny (model prog w) A (getItem (.ref t) (.ref sl)) Q E s := by
  have htake : sizeOk (.seq items.toList.reverse.toArray) := by
    show items.toList.reverse.toArray.size ≤ sizeLine
    rw [List.size_toArray, List.length_reverse, Array.length_toList]
    exact hsz
  obtain ⟨os, hos, hcs, hds⟩ := id hs
  have hTs : s.TypeIs (.ref sl) "slice" := ⟨os, hos, hcs⟩
  unfold getItem
  try with_reducible refine wpAny_holding ?_
  first | refine wpAny_bind (wpAny_pure ?_) | skip
  refine wpAny_bind (wpAny_sequenceKey ht.typeIs (by decide) ?_)
  refine wpAny_bind (wpAny_callSpecial?_slot (name := Str.ofString "__getitem__") ht.typeIs PyProof.Rows.slot_tuple_getitem
    (wpAny_call_entry PyProof.Rows.slot_tuple_getitem ht.typeIs entry_tuple_getitem ?_ (args_tuple_getitem _ _)))
  show wpAny _ _ (Builtin.Tuple.tupleItemsOf (.ref t) >>= _) _ _ s
  refine wpAny_bind (tupleItemsOf_ ht ?_)
  refine wpAny_bind (wpAny_typeOf hTs ?_)
  rw [if_pos (by decide)]
  refine wpAny_bind (rev_applied hs ps ?_)
  have hno : ¬ ((((items.size : Int) - 1) == 0 && (-1 : Int) == 1 && items.size == items.size) = true) := by
    intro q
    rw [Bool.and_eq_true, Bool.and_eq_true] at q
    exact absurd q.1.2 (by decide)
  show wpAny _ _ (if (((items.size : Int) - 1) == 0 && (-1 : Int) == 1 && items.size == items.size) = true then _ else _) _ _ s
  rw [if_neg hno, pick_rev]
  first
    | exact wpAny_bind (m := Builtin.Tuple.tupleExact _) (wpAny_newObj_type (wpAny_pure ⟨_, rfl, wpAny_pure h⟩) htake)
    | exact wpAny_bind (m := Builtin.Tuple.tupleExact _) (wpAny_newObj_type (wpAny_bind (wpAny_pure (wpAny_pure ⟨_, rfl, wpAny_pure h⟩))) htake)
    | exact wpAny_bind (wpAny_bind (m := Builtin.Tuple.tupleExact _) (wpAny_newObj_type (wpAny_pure (wpAny_pure ⟨_, rfl, wpAny_pure h⟩)) htake))
    | exact wpAny_bind (wpAny_bind (m := Builtin.Tuple.tupleExact _) (wpAny_newObj_type (wpAny_pure ⟨_, rfl, wpAny_pure h⟩) htake))
end
section
variable {X : Cx} {e : Expr} {fa : Bool} {f : Env → M D} {k : Nat} {p1 p2 p3 pos : Pos}
theorem rev_look {h : MH} {x d : D} (e : revop h x = some d) : (∃ xs, x = .tup xs ∧ d = .tup xs.reverse) ∨ ∃ xs, listy h x = some xs ∧ d = .lst xs.reverse := by
  cases x with
  | tup xs => cases e; exact .inl ⟨_, rfl, rfl⟩
  | lst xs => cases e; exact .inr ⟨_, rfl, rfl⟩
  | flst xs => cases e; exact .inr ⟨_, rfl, rfl⟩
  | ref k =>
    have e : (match h[k]? with | some (.lst xs) => some (D.lst xs.reverse) | _ => none) = some d := e
    cases q : h[k]? with
    | none => rw [q] at e; cases e
    | some o =>
      rw [q] at e
      cases o with
      | lst xs =>
        cases e
        exact .inr ⟨xs, by show (match h[k]? with | some (.lst xs) => some xs | _ => none) = _; rw [q], rfl⟩
      | dct _ => cases e
  | _ => cases e
theorem pe_revD (he : PE X e (tD fa X.K X.mg f)) : PE X (.Subscript e (.Slice none none (some (.UnaryOp .USub (.Constant (.int 1) k p1) p2)) p3) pos) (tD true X.K X.mg fun ρ => .bind (f ρ) fun x => .look fun h => revop h x) := by
  refine ⟨fun pins s σ H Q I h => ?_⟩
  obtain ⟨μ, ρ, h, d, h', gd, sl, ee, q⟩ := h
  obtain ⟨x, h1, e1, e2⟩ := M.bind_eq ee
  obtain ⟨e3, e4⟩ := M.look_eq e2
  cases e4
  refine Subscript_ (thn (he.run pins s σ H _ I ⟨μ, ρ, h, x, _, gd, sl, e1, fun μ1 v1 H1 s1 g1 r1 _ => (⟨μ1, s1, g1, r1⟩ : ∃ μ1, Step X.K μ h.length H μ1 h'.length H1 ∧ Good X.K X.mg μ1 h' H1 ∧ Rep X.K X.mg μ1 h'.length H1 x v1)⟩) fun v s1 ⟨xv, H1, I1, r1, μ1, st1, g1, rx⟩ => ?_)
  have hst : PO X (some (.UnaryOp .USub (.Constant (.int 1) k p1) p2)) (tPart (tUn (rU fun i => .int (-i)) (tC (.int 1)))) := po_some (pe_un un_neg pe_int)
  refine wpAny_Slice (thn (po_none.run pins s1 σ H1 (fun o H2 => o = none ∧ H2 = H1) I1 ⟨rfl, rfl⟩) fun vl s2 ⟨l, H2, I2, pl, el, e2⟩ => ?_)
  subst el e2
  refine thn (po_none.run pins s2 σ H2 (fun o H3 => o = none ∧ H3 = H2) I2 ⟨rfl, rfl⟩) fun vu s3 ⟨u, H3, I3, pu, eu, e3⟩ => ?_
  subst eu e3
  refine thn (hst.run pins s3 σ H3 (fun o H4 => o = some (-1) ∧ H4 = H3) I3 ⟨1, rfl, -1, rfl, rfl, rfl⟩) fun vs s4 ⟨o, H4, I4, ps, eo, e4⟩ => ?_
  subst eo e4
  have I5 : Inv X pins σ H4 { s4 with heap := s4.heap.push { cls := .type "slice", data := .fields #[vl, vu, vs] } } := I4.kept (t' := s4.toks) fun b ob q => Heap.get?_push_of_some _ q
  show wpAny (model X.prog X.w) X.A (subscriptTail e (.Slice none none (some (.UnaryOp .USub (.Constant (.int 1) k p1) p2)) p3) v (.ref s4.heap.objs.size)) (EP X pins σ Q) X.xe { s4 with heap := s4.heap.push { cls := .type "slice", data := .fields #[vl, vu, vs] } }
  cases pl
  cases pu
  rcases rev_look (by assumption : revop h' x = some d) with ⟨xs, rfl, rfl⟩ | ⟨xs, hx, rfl⟩
  · cases rx with
    | tup ht l =>
      rename_i a ws
      cases r1
      obtain ⟨its, r, ht2, hz⟩ := I5.tuple ht
      have hlen := r.length
      refine tail_any (ops := [.ref a, .ref s4.heap.objs.size]) ht2.typeIs PyProof.Rows.slot_tuple_getitem.lookup ?_ (by with_unfolding_all rfl)
      refine getItem_tuple_rev ht2 (Heap.IsSliceOf.new _ .none .none vs) ps ?_ (by rw [List.size_toArray]; omega)
      have hp := I5.hok.fresh (Nat.le_refl _)
      obtain ⟨a1, a2, a3⟩ := newTup g1 hp l.reverse
      refine ⟨.ref _, _, I5.laid (t' := s4.toks) (o := .tup ws.reverse) (fun b ob q => Heap.get?_push_of_some _ q) (Nat.le_refl _) ?_, rfl, q μ1 _ _ (st1.trans a1) a2 a3 (notLst nofun)⟩
      exact ⟨by rw [List.length_reverse]; exact hz, _, r.reverse, by exact IsTup.new _ _⟩
  · obtain ⟨a, ws, rfl, hq, l⟩ := listAt g1 rx hx
    cases r1
    obtain ⟨its, r, ht, hz⟩ := I5.list hq
    have hlen := r.length
    refine tail_any (ops := [.ref a, .ref s4.heap.objs.size]) ht.isList.typeIs (PySem.slot_list_getitem.lookup) ?_ (by with_unfolding_all rfl)
    refine wpAny_getItem_list_slice ht.isList (Heap.IsSliceOf.new _ .none .none vs) .none .none ps (by decide) ?_ (by rw [List.size_toArray]; omega)
    rw [PySem.W.krv_pick]
    have hp := I5.hok.fresh (Nat.le_refl _)
    obtain ⟨a1, a2, a3, a4⟩ := newLst g1 hp l.reverse
    refine ⟨.ref _, _, I5.laid (t' := s4.toks) (o := .lst ws.reverse) (fun b ob q => Heap.get?_push_of_some _ q) (Nat.le_refl _) ?_, rfl, q μ1 _ _ (st1.trans a1) a2 a3 fun _ => a4.back st1⟩
    exact ⟨by rw [List.length_reverse]; exact hz, _, 0, r.reverse, Heap.get?_push_size _ rfl⟩
end
end PD


namespace PD
open PySem PySem.Spec L2
open PyProof.Rows hiding St
/-! ### calls of defs -/
def CX0 : CXT := fun _ _ _ _ _ _ => False
def XK0 : XK := fun _ _ _ => False
/-- a def's promise: it does what g says, where nothing is being shown -/
structure Fn (P : Program) (w : World) (K : PySem.W.Frag) (mg : Str → Option Value) (base : Heap) (k : Nat) (f : Addr) (fd : FuncData) (ps : List Str) (g : List D → M D) : Prop where
  run : ∀ (A : Around) (outer : List PySem.Env) (s : Shared) (H : Hp) (args : Args) (us : List Value) (vs : List V) (Q : VK) (μ : Mp) (h : MH) (ds : List D) (d : D) (h' : MH), Room k A → A.guards = some [] → Env0 P w K mg base A outer s H → BindsTo s fd args (ps.zip us) → Vals vs us →
    Good K mg μ h H → RepL K mg μ h.length H ds vs → ds.length = ps.length → g ds h = some (d, h') → (∀ μ' v H', Step K μ h.length H μ' h'.length H' → Good K mg μ' h' H' → Rep K mg μ' h'.length H' d v → Q v H') →
    codeAny (model P w) A (.call (.ref f) args) (CR CX0 outer P w H s Q XK0) s
structure KB (K : PySem.W.Frag) (fd : FuncData) (ps : List Str) (n : Nat) (ks : List Str) (pm : List Nat) : Prop where
  to : ∀ (s : Shared) (us ws : List Value), K.In s.heap → us.length = n → ws.length = ks.length → BindsTo s fd ⟨us, ks.zip ws⟩ (ps.zip (pick pm (us ++ ws)))
  len : ∀ {α : Type} (us ws : List α), us.length = n → ws.length = ks.length → (pick pm (us ++ ws)).length = ps.length
section
variable {K : PySem.W.Frag} {mg : Str → Option Value} {μ : Mp} {n : Nat} {H : Hp}
theorem RepL.fm {xs : List D} {vs : List V} (l : RepL K mg μ n H xs vs) : ∀ pm : List Nat, RepL K mg μ n H (pm.filterMap fun i => xs[i]?) (pm.filterMap fun i => vs[i]?)
  | [] => .nil
  | i :: pm => by
    rw [List.filterMap_cons, List.filterMap_cons]
    have ih := RepL.fm l pm
    cases e : xs[i]? with
    | none =>
      have : vs[i]? = none := by
        rw [List.getElem?_eq_none_iff] at e ⊢
        rw [← l.length]; exact e
      rw [this]
      exact ih
    | some x =>
      obtain ⟨v, h1, h2⟩ := l.get e
      rw [h1]
      exact .cons h2 ih
theorem RepL.pick {xs : List D} {vs : List V} (l : RepL K mg μ n H xs vs) (pm : List Nat) : RepL K mg μ n H (pick pm xs) (PD.pick pm vs) := by
  unfold PD.pick
  by_cases h : pm.isEmpty = true
  · rw [if_pos h, if_pos h]; exact l
  · rw [if_neg h, if_neg h]; exact l.fm pm
theorem vals_fm {xs : List V} {vs : List Value} (l : Vals xs vs) : ∀ pm : List Nat, Vals (pm.filterMap fun i => xs[i]?) (pm.filterMap fun i => vs[i]?)
  | [] => .nil
  | i :: pm => by
    rw [List.filterMap_cons, List.filterMap_cons]
    have ih := vals_fm l pm
    cases e : xs[i]? with
    | none =>
      have : vs[i]? = none := by
        rw [List.getElem?_eq_none_iff] at e ⊢
        rw [← l.length]; exact e
      rw [this]
      exact ih
    | some x =>
      obtain ⟨v, h1, h2⟩ := l.get e
      rw [h1]
      exact .cons h2 ih
theorem vals_pick {xs : List V} {vs : List Value} (l : Vals xs vs) (pm : List Nat) : Vals (pick pm xs) (pick pm vs) := by
  unfold PD.pick
  by_cases h : pm.isEmpty = true
  · rw [if_pos h, if_pos h]; exact l
  · rw [if_neg h, if_neg h]; exact vals_fm l pm
end
theorem kw_names {env : PySem.Env} {pos : Pos} : ∀ {kws : List Keyword} {ks : List Str}, kws.map (·.arg) = ks.map some →
    (backToKw pos (keywordEach kws env)).all (·.1.isSome) = true ∧ (backToKw pos (keywordEach kws env)).any (·.1.isNone) = false ∧ (backToKw pos (keywordEach kws env)).filterMap (·.1) = ks
  | [], ks, h => by
    cases ks with
    | nil => exact ⟨rfl, rfl, rfl⟩
    | cons _ _ => cases h
  | ⟨nm, e, p⟩ :: kws, ks, h => by
    cases ks with
    | nil => cases h
    | cons k ks =>
      rw [List.map_cons, List.map_cons] at h
      injection h with h1 h2
      obtain ⟨a, b, c⟩ := kw_names (env := env) (pos := pos) h2
      have h1 : nm = some k := h1
      subst h1
      refine ⟨?_, ?_, ?_⟩
      · show (true && _) = true
        rw [Bool.true_and]; exact a
      · show (false || _) = false
        rw [Bool.false_or]; exact b
      · show k :: _ = k :: _
        exact congrArg _ c
section
variable {X : Cx} {k n : Nat} {f : Addr} {fd : FuncData} {ps ks : List Str} {pm : List Nat} {g : List D → M D} {ga gk : Env → M (List D)} {x : Str} {p pos kpos : Pos} {e : Expr} {es : List Expr} {kws : List Keyword} {nm : Option Str} {fa : Bool} {fe : Env → M D}
theorem pkImp {t t' : TA} (h : PK X kws t) (i : ∀ σ H Q, t' σ H Q → t σ H Q) : PK X kws t' := ⟨fun pos pins s σ H Q I q => h.run pos pins s σ H Q I (i σ H Q q)⟩
theorem pk_nilD : PK X [] (tL X.K X.mg fun _ => .ret []) := pkImp pk_nil fun σ H Q h => by
  obtain ⟨μ, ρ, h, ds, h', gd, sl, e, q⟩ := h
  cases e
  exact q μ _ H Step.refl gd .nil
theorem pk_consD (he : PE X e (tD fa X.K X.mg fe)) (hr : PK X kws (tL X.K X.mg gk)) : PK X (⟨nm, e, kpos⟩ :: kws) (tL X.K X.mg fun ρ => .bind (fe ρ) fun x => .bind (gk ρ) fun ys => .ret (x :: ys)) := by
  refine pkImp (pk_cons he hr) fun σ H Q h => ?_
  obtain ⟨μ, ρ, h, ds, h', gd, sl, e, q⟩ := h
  obtain ⟨x, h1, e1, e2⟩ := M.bind_eq e
  obtain ⟨ys, h2, e3, e4⟩ := M.bind_eq e2
  cases e4
  refine ⟨μ, ρ, h, x, h1, gd, sl, e1, fun μ1 v1 H1 s1 g1 r1 _ => ?_⟩
  exact ⟨μ1, ρ, h1, ys, h', g1, sl.step s1, e3, fun μ2 vs H2 s2 g2 r2 => q μ2 _ H2 (s1.trans s2) g2 (.cons (r1.step s2) r2)⟩
theorem run_callD {pins : List (Addr × Obj)} {σ : St} {H : Hp} {s : Shared} {Q : VK} {us ws : List Value} {vs zs : List V} {μ : Mp} {h h' : MH} {xs ys : List D} {d : D} (F : Fn X.prog X.w X.K X.mg X.base k f fd ps g) (hr : Room k X.A) (hgd : X.A.guards = some []) (hb : KB X.K fd ps n ks pm)
    (I : Inv X pins σ H s) (r : Vals vs us) (rz : Vals zs ws) (gd : Good X.K X.mg μ h H) (l : RepL X.K X.mg μ h.length H xs vs) (lz : RepL X.K X.mg μ h.length H ys zs) (hx : xs.length = n) (hy : ys.length = ks.length) (e : g (pick pm (xs ++ ys)) h = some (d, h'))
    (q : ∀ μ' v H', Step X.K μ h.length H μ' h'.length H' → Good X.K X.mg μ' h' H' → Rep X.K X.mg μ' h'.length H' d v → Q v H') : wpAny (model X.prog X.w) X.A (call (.ref f) us (ks.zip ws)) (EP X pins σ Q) X.xe s := by
  have hu : us.length = n := by rw [← r.length, ← l.length]; exact hx
  have hw : ws.length = ks.length := by rw [← rz.length, ← lz.length]; exact hy
  refine wpAny_call (codeAny_mono (F.run X.A X.stack s H ⟨us, ks.zip ws⟩ (pick pm (us ++ ws)) (pick pm (vs ++ zs)) Q μ h _ d h' hr hgd I.env0 (hb.to s us ws I.kIn hu hw) (vals_pick (r.append rz) pm) gd ((l.append lz).pick pm) (hb.len xs ys hx hy) e q) fun r s' hq => ?_)
  cases r with
  | error e => exact False.elim hq
  | ok fl =>
    cases fl with
    | ret u => exact I.after hq
    | next => exact False.elim hq
    | brk => exact False.elim hq
    | cont => exact False.elim hq
theorem pe_callD (F : Fn X.prog X.w X.K X.mg X.base k f fd ps g) (hr : Room k X.A) (hgd : X.A.guards = some []) (hg : Gl X x) (hm : X.mg x = some (.ref f)) (hk : PySem.W.keepIn X.K (.ref f) = true) (hb : KB X.K fd ps n ks pm)
    (ha : PA X es (tL X.K X.mg ga)) (hkw : PK X kws (tL X.K X.mg gk)) (hns : es.all noStar = true) (hks : kws.map (·.arg) = ks.map some) (hla : ∀ ρ h xs h', ga ρ h = some (xs, h') → xs.length = n) (hlk : ∀ ρ h xs h', gk ρ h = some (xs, h') → xs.length = ks.length)
    (hz : es = [] → ∀ ρ, ga ρ = .ret []) (hdb : (x == ("__debug__" : Str)) = false) : PE X (.Call (.Name x p) es kws pos) (tD false X.K X.mg fun ρ => .bind (ga ρ) fun xs => .bind (gk ρ) fun ys => g (pick pm (xs ++ ys))) := by
  refine ⟨fun pins s σ H Q I h => ?_⟩
  obtain ⟨μ, ρ, h, d, h', gd, sl, ee, q⟩ := h
  obtain ⟨xs, h1, e1, e2⟩ := M.bind_eq ee
  obtain ⟨ys, h2, e3, e4⟩ := M.bind_eq e2
  obtain ⟨k1, k2, k3⟩ := kw_names (env := X.env) (pos := pos) hks
  refine wpAny_Call_Name_kw (ld_glob I hg hm ?_ hdb)
  have hA := ha.run pos pins s σ H (fun vs H1 => ∃ μ1, Step X.K μ h.length H μ1 h1.length H1 ∧ Good X.K X.mg μ1 h1 H1 ∧ RepL X.K X.mg μ1 h1.length H1 xs vs) I ⟨μ, ρ, h, xs, h1, gd, sl, e1, fun μ1 vs H1 s1 g1 r1 => ⟨μ1, s1, g1, r1⟩⟩
  have fin : ∀ (us : List Value) (s1 : Shared), AP X pins σ (fun vs H1 => ∃ μ1, Step X.K μ h.length H μ1 h1.length H1 ∧ Good X.K X.mg μ1 h1 H1 ∧ RepL X.K X.mg μ1 h1.length H1 xs vs) us s1 →
      wpAny (model X.prog X.w) X.A (evalAll ((backToKw pos (keywordEach kws X.env)).map (·.2))) (fun ws s2 => X.K.In s2.heap ∧ wpAny (model X.prog X.w) X.A (call (.ref f) ([] ++ us) (((backToKw pos (keywordEach kws X.env)).filterMap (·.1)).zip ws)) (EP X pins σ Q) X.xe s2) X.xe s1 := by
    rintro us s1 ⟨vs, H1, I1, rv, μ1, st1, g1, l1⟩
    refine thn (hkw.run pos pins s1 σ H1 (fun zs H2 => ∃ μ2, Step X.K μ1 h1.length H1 μ2 h2.length H2 ∧ Good X.K X.mg μ2 h2 H2 ∧ RepL X.K X.mg μ2 h2.length H2 ys zs) I1 ⟨μ1, ρ, h1, ys, h2, g1, sl.step st1, e3, fun μ2 zs H2 s2 g2 r2 => ⟨μ2, s2, g2, r2⟩⟩) fun ws s2 ⟨zs, H2, I2, rz, μ2, st2, g2, l2⟩ => ⟨I2.kIn, ?_⟩
    rw [k3]
    exact run_callD F hr hgd hb I2 rv rz g2 (l1.step st2) l2 (hla _ _ _ _ e1) (hlk _ _ _ _ e3) e4 fun μ' v H' s' g' r' => q μ' v H' ((st1.trans st2).trans s') g' r' nofun
  cases es with
  | nil =>
    refine PySem.W.callWith_KW0 (first := []) (h₀ := X.base) I.ok.mod.kin hk k1 ?_ (by show (false || _) = false; rw [Bool.false_or]; exact k2)
    rw [hz rfl ρ] at e1
    cases e1
    exact fin [] s ⟨[], H, I, .nil, μ, Step.refl, gd, .nil⟩
  | cons e es =>
    have hns' := hns
    rw [List.all_cons, Bool.and_eq_true] at hns'
    refine PySem.W.callWith_KW (first := []) (h₀ := X.base) I.ok.mod.kin hk k1 (thn hA fin) (by rw [noStars hns]; exact k2) (noStar_cons hns'.1 _ _)
end
end PD


namespace PD
open PySem PySem.Spec L2
open PyProof.Rows hiding St
/-! ### functions: what a call gives -/
mutual
/-- new changeable lists as values -/
def fzD (g : Nat → Option D) : D → Option D
  | .ref i => g i
  | .tup xs => (fzL g xs).map .tup
  | .lst xs => (fzL g xs).map .lst
  | .flst xs => (fzL g xs).map .flst
  | .non => some .non
  | .bl b => some (.bl b)
  | .int i => some (.int i)
  | .str s => some (.str s)
  | .fn x => some (.fn x)
def fzL (g : Nat → Option D) : List D → Option (List D)
  | [] => some []
  | x :: xs => match fzD g x, fzL g xs with
    | some y, some ys => some (y :: ys)
    | _, _ => none
end
def fz : Nat → Nat → MH → Nat → Option D
  | 0, _, _, _ => none
  | k + 1, n, h, i => if i < n then some (.ref i) else match h[i]? with
    | some (.lst xs) => (fzL (fz k n h) xs).map .lst
    | _ => none
def fin (keep : Bool) (n : Nat) (d : D) (h : MH) : Option (D × MH) := if keep = true then some (d, h) else (fzD (fz 8 n h) d).map fun d' => (d', h.take n)
structure FD where
  np : Nat
  nn : Nat
  keep : Bool
  body : List S
def run (P : Str → Option FD) (G : Str → Option D) (W : Nat) : Nat → Str → List D → M D
  | 0, _, _ => fun _ => none
  | k + 1, x, ds => fun h => match P x with
    | none => none
    | some F => if ds.length = F.np then match exL (run P G W k) G h.length W F.body (ds.map some ++ List.replicate (F.nn - F.np) none) h with
        | some ((.rt d, _), h') => fin F.keep h.length d h'
        | some ((.nx, _), h') => fin F.keep h.length .non h'
        | _ => none
      else none

/-! ### older things name only older things -/
def belowO (b : Nat) : MO → Bool
  | .lst xs => belowL b xs
  | .dct kvs => belowL b (kvs.map (·.2))
def Cl (b : Nat) (h : MH) : Prop := ∀ i o, i < b → h[i]? = some o → belowO b o = true
theorem belowL_iff {b : Nat} : ∀ {xs : List D}, belowL b xs = true ↔ ∀ x ∈ xs, below b x = true
  | [] => by simp [belowL]
  | x :: xs => by simp [belowL, belowL_iff (xs := xs)]
mutual
theorem below_mono {a b : Nat} (h : a ≤ b) : ∀ d : D, below a d = true → below b d = true
  | .ref i, e => by
    have e : decide (i < a) = true := e
    show decide (i < b) = true
    simp at e ⊢; omega
  | .tup xs, e => belowL_mono h xs e
  | .lst xs, e => belowL_mono h xs e
  | .flst xs, e => belowL_mono h xs e
  | .non, _ => rfl
  | .bl _, _ => rfl
  | .int _, _ => rfl
  | .str _, _ => rfl
  | .fn _, _ => rfl
theorem belowL_mono {a b : Nat} (h : a ≤ b) : ∀ xs : List D, belowL a xs = true → belowL b xs = true
  | [], _ => rfl
  | x :: xs, e => by
    have e : (below a x && belowL a xs) = true := e
    rw [Bool.and_eq_true] at e
    show (below b x && belowL b xs) = true
    rw [below_mono h x e.1, belowL_mono h xs e.2]; rfl
end
theorem Cl.push {b : Nat} {h : MH} {o : MO} (c : Cl b h) (hb : b ≤ h.length) : Cl b (h ++ [o]) := fun i p hi e => by
  rw [List.getElem?_append_left (by omega)] at e
  exact c i p hi e
theorem Cl.set {b : Nat} {h : MH} {k : Nat} {o : MO} (c : Cl b h) (ho : k < b → belowO b o = true) : Cl b (h.set k o) := fun i p hi e => by
  by_cases z : k = i
  · subst z
    by_cases hk : k < h.length
    · rw [List.getElem?_set_self hk] at e
      cases e
      exact ho hi
    · rw [List.getElem?_eq_none (by simpa using hk)] at e; cases e
  · rw [List.getElem?_set_ne z] at e
    exact c i p hi e
theorem Cl.take {b n : Nat} {h : MH} (c : Cl b h) (hb : b ≤ n) : Cl b (h.take n) := fun i p hi e => by
  rw [List.getElem?_take_of_lt (by omega)] at e
  exact c i p hi e
def Pres {α : Type} (B : Nat) (f : M α) : Prop := ∀ h r h', f h = some (r, h') → B ≤ h.length → h.length ≤ h'.length ∧ ∀ b, b ≤ B → Cl b h → Cl b h'
section
variable {α β : Type} {B : Nat}
theorem Pres.ret {a : α} : Pres B (M.ret a) := fun h r h' e _ => by cases e; exact ⟨Nat.le_refl _, fun _ _ c => c⟩
theorem Pres.fail : Pres B (M.fail : M α) := fun h r h' e _ => by cases e
theorem Pres.look {f : MH → Option α} : Pres B (M.look f) := fun h r h' e _ => by
  unfold M.look at e
  cases q : f h with
  | none => rw [q] at e; cases e
  | some p => rw [q] at e; cases e; exact ⟨Nat.le_refl _, fun _ _ c => c⟩
theorem Pres.of {o : Option α} : Pres B (M.of o) := fun h r h' e _ => by
  unfold M.of at e
  cases o with
  | none => cases e
  | some p => cases e; exact ⟨Nat.le_refl _, fun _ _ c => c⟩
theorem Pres.bind {x : M α} {f : α → M β} (hx : Pres B x) (hf : ∀ a, Pres B (f a)) : Pres B (M.bind x f) := fun h r h' e hb => by
  unfold M.bind at e
  cases q : x h with
  | none => rw [q] at e; cases e
  | some p =>
    rw [q] at e
    obtain ⟨l1, c1⟩ := hx h p.1 p.2 q hb
    obtain ⟨l2, c2⟩ := hf p.1 p.2 r h' e (Nat.le_trans hb l1)
    exact ⟨Nat.le_trans l1 l2, fun b z c => c2 b z (c1 b z c)⟩
theorem Pres.push {a : MH → α} {o : MO} : Pres B (fun h => some (a h, h ++ [o])) := fun h r h' e hb => by
  cases e
  exact ⟨by simp, fun b z c => c.push (Nat.le_trans z hb)⟩
theorem put_below {k b : Nat} {xs ys : List D} (hy : belowL k ys = true) (hk : k < b) (hx : belowL b xs = true) : ∀ zs : List D, (∀ z ∈ zs, z ∈ xs ∨ z ∈ ys) → belowL b zs = true := fun zs h => by
  rw [belowL_iff] at *
  intro z hz
  rcases h z hz with w | w
  · exact hx z w
  · exact below_mono (Nat.le_of_lt hk) z (hy z w)
theorem okput_lt {k : Nat} {xs : List D} {b : Nat} (h : okput B (.ref k) xs = true) (hb : b ≤ B) (hk : k < b) : belowL k xs = true := by
  have h : (decide (B ≤ k) || belowL k xs) = true := h
  rw [decide_eq_false (by omega), Bool.false_or] at h
  exact h
theorem Pres.setop {x i d : D} {a : α} : Pres B (fun h => if okput B x [d] = true then (setop x i d h).map fun h' => (a, h') else none) := fun h r h' e hb => by
  dsimp only at e
  by_cases ok : okput B x [d] = true
  · rw [if_pos ok] at e
    obtain ⟨h2, e1, e2⟩ := Option.map_eq_some_iff.mp e
    cases e2
    cases x with
    | ref k =>
      have e1 : (match h[k]? with
        | some (.lst xs) => match (generalizing := false) i with
          | .int i => (ixN xs.length i).map fun j => h.set k (.lst (xs.set j d))
          | _ => none
        | some (.dct kvs) => match keyOf i with
          | some key => if kvs.length < sizeLine then some (h.set k (.dct (putD kvs key d))) else none
          | none => none
        | none => none) = some h' := e1
      cases q : h[k]? with
      | none => rw [q] at e1; cases e1
      | some o =>
        rw [q] at e1
        cases o with
        | lst xs =>
          cases i with
          | int i =>
            obtain ⟨j, _, rfl⟩ := Option.map_eq_some_iff.mp (show (ixN xs.length i).map (fun j => h.set k (.lst (xs.set j d))) = some h' from e1)
            refine ⟨by simp, fun b z c => c.set fun hk => ?_⟩
            refine put_below (okput_lt ok z hk) hk (c k _ hk q) _ fun w hw => ?_
            rcases List.mem_or_eq_of_mem_set hw with w | w
            · exact .inl w
            · exact .inr (by simp [w])
          | _ => cases e1
        | dct kvs =>
          cases qk : keyOf i with
          | none =>
            have e1 : (match keyOf i with | some key => if kvs.length < sizeLine then some (h.set k (.dct (putD kvs key d))) else none | none => none) = some h' := e1
            rw [qk] at e1; cases e1
          | some key =>
            have e1 : (match keyOf i with | some key => if kvs.length < sizeLine then some (h.set k (.dct (putD kvs key d))) else none | none => none) = some h' := e1
            rw [qk] at e1
            have e1 : (if kvs.length < sizeLine then some (h.set k (.dct (putD kvs key d))) else none) = some h' := e1
            by_cases hz : kvs.length < sizeLine
            · rw [if_pos hz] at e1; cases e1
              refine ⟨by simp, fun b z c => c.set fun hk => ?_⟩
              refine put_below (okput_lt ok z hk) hk (c k _ hk q) _ fun w hw => ?_
              obtain ⟨p, hp, rfl⟩ := List.mem_map.mp hw
              unfold putD at hp
              split at hp
              · obtain ⟨p', hp', rfl⟩ := List.mem_map.mp hp
                by_cases w : p'.1 = key
                · rw [if_pos w]; exact .inr (by simp)
                · rw [if_neg w]; exact .inl (List.mem_map.mpr ⟨p', hp', rfl⟩)
              · rcases List.mem_append.mp hp with hp | hp
                · exact .inl (List.mem_map.mpr ⟨p, hp, rfl⟩)
                · simp at hp; subst hp; exact .inr (by simp)
            · rw [if_neg hz] at e1; cases e1
    | _ => cases e1
  · rw [if_neg ok] at e; cases e
theorem Pres.meop {t : Ty} {m : Me} {x : D} {xs : List D} : Pres B (fun h => if okput B x xs = true then meop t m x xs h else none) := fun h r h' e hb => by
  dsimp only at e
  by_cases ok : okput B x xs = true
  · rw [if_pos ok] at e
    cases t <;> cases m <;> cases x <;> try cases e
    · rename_i s
      match xs, e with
      | [y], e =>
        have e : (match (items h y).bind strsOf with
          | some ys => if (ys.map (·.length)).sum + ys.length * s.length ≤ 16777216 then some (D.str (Txt.join s ys), h) else none
          | none => none) = some (r, h') := e
        split at e
        · split at e
          · cases e; exact ⟨Nat.le_refl _, fun _ _ c => c⟩
          · cases e
        · cases e
      | [], e => cases e
      | _ :: _ :: _, e => cases e
    · rename_i k
      match xs, e, ok with
      | [y], e, ok =>
        have e : (match h[k]? with
          | some (.lst ys) => if ys.length < sizeLine then some (D.non, h.set k (.lst (ys ++ [y]))) else none
          | _ => none) = some (r, h') := e
        cases q : h[k]? with
        | none => rw [q] at e; cases e
        | some o =>
          rw [q] at e
          cases o with
          | dct _ => cases e
          | lst ys =>
            have e : (if ys.length < sizeLine then some (D.non, h.set k (.lst (ys ++ [y]))) else none) = some (r, h') := e
            by_cases hz : ys.length < sizeLine
            · rw [if_pos hz] at e; cases e
              refine ⟨by simp, fun b z c => c.set fun hk => ?_⟩
              exact put_below (okput_lt ok z hk) hk (c k _ hk q) _ fun w hw => by simpa using hw
            · rw [if_neg hz] at e; cases e
    · rename_i k
      match xs, e, ok with
      | [], e, ok =>
        have e : (match h[k]? with
          | some (.lst ys) => (ys[ys.length - 1]?).map fun y => (y, h.set k (.lst ys.dropLast))
          | _ => none) = some (r, h') := e
        cases q : h[k]? with
        | none => rw [q] at e; cases e
        | some o =>
          rw [q] at e
          cases o with
          | dct _ => cases e
          | lst ys =>
            obtain ⟨y, e1, e2⟩ := Option.map_eq_some_iff.mp e
            cases e2
            refine ⟨by simp, fun b z c => c.set fun hk => ?_⟩
            exact put_below (okput_lt ok z hk) hk (c k _ hk q) _ fun w hw => .inl (List.dropLast_subset _ hw)
    · rename_i k
      match xs, e, ok with
      | [y, d], e, ok =>
        have e : (match h[k]?, keyOf y with
          | some (.dct kvs), some key => if kvs.length < sizeLine then (match valD kvs key with
            | some d => some (d, h)
            | none => some (d, h.set k (.dct (putD kvs key d)))) else none
          | _, _ => none) = some (r, h') := e
        cases q : h[k]? with
        | none => rw [q] at e; cases e
        | some o =>
          cases o with
          | lst _ => rw [q] at e; cases e
          | dct kvs =>
            cases qk : keyOf y with
            | none => rw [q, qk] at e; cases e
            | some key =>
              rw [q, qk] at e
              have e : (if kvs.length < sizeLine then (match valD kvs key with
                | some d => some (d, h)
                | none => some (d, h.set k (.dct (putD kvs key d)))) else none) = some (r, h') := e
              by_cases hz : kvs.length < sizeLine
              · rw [if_pos hz] at e
                cases ev : valD kvs key with
                | some d0 => rw [ev] at e; cases e; exact ⟨Nat.le_refl _, fun _ _ c => c⟩
                | none =>
                  rw [ev] at e; cases e
                  refine ⟨by simp, fun b z c => c.set fun hk => ?_⟩
                  refine put_below (okput_lt ok z hk) hk (c k _ hk q) _ fun w hw => ?_
                  obtain ⟨p, hp, rfl⟩ := List.mem_map.mp hw
                  unfold putD at hp
                  split at hp
                  · obtain ⟨p', hp', rfl⟩ := List.mem_map.mp hp
                    by_cases w : p'.1 = key
                    · rw [if_pos w]; exact .inr (by simp)
                    · rw [if_neg w]; exact .inl (List.mem_map.mpr ⟨p', hp', rfl⟩)
                  · rcases List.mem_append.mp hp with hp | hp
                    · exact .inl (List.mem_map.mpr ⟨p, hp, rfl⟩)
                    · simp at hp; subst hp; exact .inr (by simp)
              · rw [if_neg hz] at e; cases e
  · rw [if_neg ok] at e; cases e
theorem Pres.spread {st : Option Bool} {x : D} : Pres B (spread st x) := by
  unfold PD.spread
  split
  · exact .look
  · exact .ret
theorem Pres.comp {asg : D → Env → M Env} {ifs : Env → M Bool} {elt : Env → M D} (h1 : ∀ d ρ, Pres B (asg d ρ)) (h2 : ∀ ρ, Pres B (ifs ρ)) (h3 : ∀ ρ, Pres B (elt ρ)) (ρ : Env) : ∀ xs, Pres B (compL asg ifs elt ρ xs)
  | [] => .ret
  | x :: xs => (h1 x ρ).bind fun ρ1 => (h2 ρ1).bind fun b => by
    split
    · exact (h3 ρ1).bind fun y => (Pres.comp h1 h2 h3 ρ xs).bind fun ys => .ret
    · exact Pres.comp h1 h2 h3 ρ xs
theorem Pres.comp2 {asg asg1 : D → Env → M Env} {ifs ifs1 : Env → M Bool} {it1 : Env → M (List D)} {elt : Env → M D} {vs1 : List Nat} (h1 : ∀ d ρ, Pres B (asg d ρ)) (h2 : ∀ ρ, Pres B (ifs ρ)) (h4 : ∀ ρ, Pres B (it1 ρ)) (h5 : ∀ d ρ, Pres B (asg1 d ρ)) (h6 : ∀ ρ, Pres B (ifs1 ρ)) (h3 : ∀ ρ, Pres B (elt ρ)) (ρ : Env) : ∀ xs, Pres B (compL2 asg ifs it1 asg1 ifs1 elt vs1 ρ xs)
  | [] => .ret
  | x :: xs => (h1 x ρ).bind fun ρ1 => (h2 ρ1).bind fun b => by
    split
    · exact (h4 ρ1).bind fun ys => (Pres.comp h5 h6 h3 _ ys).bind fun as => (Pres.comp2 h1 h2 h4 h5 h6 h3 ρ xs).bind fun bs => .ret
    · exact Pres.comp2 h1 h2 h4 h5 h6 h3 ρ xs
theorem Pres.forL {asg : D → Env → M Env} {body : Env → M (Ctl × Env)} (h1 : ∀ d ρ, Pres B (asg d ρ)) (h2 : ∀ ρ, Pres B (body ρ)) : ∀ xs ρ, Pres B (forL asg body xs ρ)
  | [], ρ => .ret
  | x :: xs, ρ => (h1 x ρ).bind fun ρ1 => (h2 ρ1).bind fun r => by
    split
    · exact Pres.forL h1 h2 xs _
    · exact Pres.forL h1 h2 xs _
    · exact .ret
    · exact .ret
theorem Pres.whileL {test : Env → M Bool} {body : Env → M (Ctl × Env)} (h1 : ∀ ρ, Pres B (test ρ)) (h2 : ∀ ρ, Pres B (body ρ)) : ∀ k ρ, Pres B (whileL test body k ρ)
  | 0, ρ => .fail
  | k + 1, ρ => (h1 ρ).bind fun b => by
    split
    · exact (h2 ρ).bind fun r => by
        split
        · exact Pres.whileL h1 h2 k _
        · exact Pres.whileL h1 h2 k _
        · exact .ret
        · exact .ret
    · exact .ret
end
section
variable {C : Str → List D → M D} {G : Str → Option D} {B : Nat} (hC : ∀ f ds, Pres B (C f ds))
include hC
mutual
theorem ev_pres : ∀ (e : E) (ρ : Env), Pres B (ev C G B e ρ)
  | .non, _ => .ret
  | .bl _, _ => .ret
  | .int _, _ => .ret
  | .str _, _ => .ret
  | .var i, ρ => by
    show Pres B (match ρ[i]? with | some (some d) => M.ret d | _ => M.fail)
    split
    · exact .ret
    · exact .fail
  | .glob _, _ => .of
  | .bin o a b, ρ => (ev_pres a ρ).bind fun x => (ev_pres b ρ).bind fun y => .look
  | .neg a, ρ => (ev_pres a ρ).bind fun x => by
    split
    · exact .ret
    · exact .fail
  | .not a, ρ => (ev_pres a ρ).bind fun x => Pres.look.bind fun b => .ret
  | .cmp o a b, ρ => (ev_pres a ρ).bind fun x => (ev_pres b ρ).bind fun y => Pres.look.bind fun r => .ret
  | .chain o p a b c, ρ => (ev_pres a ρ).bind fun x => (ev_pres b ρ).bind fun y => Pres.look.bind fun r => by
    split
    · exact (ev_pres c ρ).bind fun z => Pres.look.bind fun r => .ret
    · exact .ret
  | .and a b, ρ => (ev_pres a ρ).bind fun x => Pres.look.bind fun t => by
    split
    · exact ev_pres b ρ
    · exact .ret
  | .or a b, ρ => (ev_pres a ρ).bind fun x => Pres.look.bind fun t => by
    split
    · exact .ret
    · exact ev_pres b ρ
  | .ife t a b, ρ => (ev_pres t ρ).bind fun x => Pres.look.bind fun t => by
    split
    · exact ev_pres a ρ
    · exact ev_pres b ρ
  | .tup st es, ρ => (evL_pres es st ρ).bind fun xs => by
    split
    · exact .ret
    · exact .fail
  | .dsp st es, ρ => (evL_pres es st ρ).bind fun xs => by
    split
    · exact .ret
    · exact .fail
  | .mut e, ρ => (ev_pres e ρ).bind fun x => by
    split
    · exact .push
    · exact .fail
  | .dct, _ => .push
  | .ix a i, ρ => (ev_pres a ρ).bind fun x => (ev_pres i ρ).bind fun y => .look
  | .sl a lo hi, ρ => (ev_pres a ρ).bind fun x => (evO_pres lo ρ).bind fun l => (evO_pres hi ρ).bind fun u => .look
  | .rev a, ρ => (ev_pres a ρ).bind fun x => .look
  | .call f args ks kws pm, ρ => (evL_pres args [] ρ).bind fun xs => (evL_pres kws [] ρ).bind fun ys => hC f _
  | .bi b args, ρ => (evL_pres args [] ρ).bind fun xs => .look
  | .me m o args, ρ => (ev_pres o ρ).bind fun x => Pres.look.bind fun t => (evL_pres args [] ρ).bind fun xs => .meop
  | .comp own elt tg it ifs, ρ => (evI_pres it ρ).bind fun xs => by
    split
    · exact (Pres.comp (fun d ρ => evA_pres tg d ρ) (fun ρ => evIfs_pres ifs ρ) (fun ρ => ev_pres elt ρ) _ xs).bind fun ys => .ret
    · exact .fail
  | .comp2 own elt tg it ifs tg1 it1 ifs1, ρ => (evI_pres it ρ).bind fun xs => (Pres.comp2 (fun d ρ => evA_pres tg d ρ) (fun ρ => evIfs_pres ifs ρ) (fun ρ => evI_pres it1 ρ) (fun d ρ => evA_pres tg1 d ρ) (fun ρ => evIfs_pres ifs1 ρ) (fun ρ => ev_pres elt ρ) _ xs).bind fun ys => by
    split
    · exact .ret
    · exact .fail
  | .gix _ _ i, ρ => (ev_pres i ρ).bind fun y => .of
theorem evO_pres : ∀ (e : Option E) (ρ : Env), Pres B (evO C G B e ρ)
  | none, _ => .ret
  | some e, ρ => (ev_pres e ρ).bind fun x => by
    split
    · exact .ret
    · exact .fail
theorem evL_pres : ∀ (es : List E) (st : List Bool) (ρ : Env), Pres B (evL C G B es st ρ)
  | [], _, _ => .ret
  | e :: es, st, ρ => (ev_pres e ρ).bind fun x => Pres.spread.bind fun xs => (evL_pres es st.tail ρ).bind fun ys => .ret
theorem evIfs_pres : ∀ (es : List E) (ρ : Env), Pres B (evIfs C G B es ρ)
  | [], _ => .ret
  | e :: es, ρ => (ev_pres e ρ).bind fun x => Pres.look.bind fun b => by
    split
    · exact evIfs_pres es ρ
    · exact .ret
theorem evI_pres : ∀ (it : I) (ρ : Env), Pres B (evI C G B it ρ)
  | .seq e, ρ => (ev_pres e ρ).bind fun x => .of
  | .range1 a, ρ => (ev_pres a ρ).bind fun x => by
    split
    · split
      · exact .ret
      · exact .fail
    · exact .fail
  | .range2 a b, ρ => (ev_pres a ρ).bind fun x => (ev_pres b ρ).bind fun y => by
    split
    · split
      · exact .ret
      · exact .fail
    · exact .fail
  | .range3 _ _ _, _ => .fail
  | .enum a, ρ => (ev_pres a ρ).bind fun x => Pres.of.bind fun xs => .ret
  | .zip a b, ρ => (ev_pres a ρ).bind fun x => (ev_pres b ρ).bind fun y => Pres.of.bind fun xs => Pres.of.bind fun ys => .ret
theorem evA_pres : ∀ (t : T) (d : D) (ρ : Env), Pres B (evA C G B t d ρ)
  | .var i, d, ρ => .ret
  | .tup ts, d, ρ => by
    show Pres B (match d with | .tup xs => if xs.length = ts.length then evAs C G B ts xs ρ else .fail | _ => .fail)
    split
    · split
      · exact evAs_pres ts _ ρ
      · exact .fail
    · exact .fail
  | .sub o i, d, ρ => (ev_pres o ρ).bind fun x => (ev_pres i ρ).bind fun y => .setop
theorem evAs_pres : ∀ (ts : List T) (ds : List D) (ρ : Env), Pres B (evAs C G B ts ds ρ)
  | [], [], ρ => .ret
  | t :: ts, d :: ds, ρ => (evA_pres t d ρ).bind fun ρ1 => evAs_pres ts ds ρ1
  | [], _ :: _, _ => .fail
  | _ :: _, [], _ => .fail
end
theorem evT_pres (e : E) (ρ : Env) : Pres B (evT C G B e ρ) := (ev_pres hC e ρ).bind fun x => .look
variable {W : Nat}
mutual
theorem ex_pres : ∀ (s : S) (ρ : Env), Pres B (ex C G B W s ρ)
  | .expr e, ρ => (ev_pres hC e ρ).bind fun _ => .ret
  | .asg t e, ρ => (ev_pres hC e ρ).bind fun d => (evA_pres hC t d ρ).bind fun ρ1 => .ret
  | .par i j a b, ρ => (ev_pres hC a ρ).bind fun x => (ev_pres hC b ρ).bind fun y => .ret
  | .ite t a b, ρ => (evT_pres hC t ρ).bind fun r => by
    split
    · exact exL_pres a ρ
    · exact exL_pres b ρ
  | .whl t b, ρ => Pres.whileL (fun ρ => evT_pres hC t ρ) (fun ρ => exL_pres b ρ) W ρ
  | .for_ t it b, ρ => (evI_pres hC it ρ).bind fun xs => Pres.forL (fun d ρ => evA_pres hC t d ρ) (fun ρ => exL_pres b ρ) xs ρ
  | .ret e, ρ => (ev_pres hC e ρ).bind fun d => .ret
  | .retn, ρ => .ret
  | .brk, ρ => .ret
  | .cnt, ρ => .ret
  | .pass, ρ => .ret
  | .stuck, _ => .fail
theorem exL_pres : ∀ (ss : List S) (ρ : Env), Pres B (exL C G B W ss ρ)
  | [], ρ => .ret
  | s :: r, ρ => (ex_pres s ρ).bind fun q => by
    split
    · exact exL_pres r _
    · exact .ret
end
end
theorem fin_pres {keep : Bool} {n : Nat} {d r : D} {h h' : MH} (e : fin keep n d h = some (r, h')) (hn : n ≤ h.length) : n ≤ h'.length ∧ ∀ b, b ≤ n → Cl b h → Cl b h' := by
  unfold fin at e
  by_cases k : keep = true
  · rw [if_pos k] at e; cases e
    exact ⟨hn, fun _ _ c => c⟩
  · rw [if_neg k] at e
    obtain ⟨d', _, e2⟩ := Option.map_eq_some_iff.mp e
    cases e2
    exact ⟨by rw [List.length_take]; omega, fun b z c => c.take z⟩
theorem run_pres0 (P : Str → Option FD) (G : Str → Option D) (W : Nat) : ∀ (k : Nat) (f : Str) (ds : List D) (h : MH) (r : D) (h' : MH), run P G W k f ds h = some (r, h') → h.length ≤ h'.length ∧ ∀ b, b ≤ h.length → Cl b h → Cl b h'
  | 0, _, _, _, _, _, e => by cases e
  | k + 1, f, ds, h, r, h', e => by
    have e : (match P f with
      | none => none
      | some F => if ds.length = F.np then match exL (run P G W k) G h.length W F.body (ds.map some ++ List.replicate (F.nn - F.np) none) h with
          | some ((.rt d, _), h') => fin F.keep h.length d h'
          | some ((.nx, _), h') => fin F.keep h.length .non h'
          | _ => none
        else none) = some (r, h') := e
    cases q : P f with
    | none => rw [q] at e; cases e
    | some F =>
      rw [q] at e
      by_cases z : ds.length = F.np
      · have e : (if ds.length = F.np then match exL (run P G W k) G h.length W F.body (ds.map some ++ List.replicate (F.nn - F.np) none) h with
          | some ((.rt d, _), h') => fin F.keep h.length d h'
          | some ((.nx, _), h') => fin F.keep h.length .non h'
          | _ => none
        else none) = some (r, h') := e
        rw [if_pos z] at e
        cases q2 : exL (run P G W k) G h.length W F.body (ds.map some ++ List.replicate (F.nn - F.np) none) h with
        | none => rw [q2] at e; cases e
        | some p =>
          obtain ⟨⟨c, ρ'⟩, h2⟩ := p
          rw [q2] at e
          have pr := exL_pres (W := W) (C := run P G W k) (G := G) (B := h.length) (fun f ds h0 r0 h0' e0 hb => by
            obtain ⟨a, b⟩ := run_pres0 P G W k f ds h0 r0 h0' e0
            exact ⟨a, fun c z => b c (Nat.le_trans z hb)⟩) F.body _ h _ _ q2 (Nat.le_refl _)
          cases c with
          | rt d =>
            obtain ⟨a1, a2⟩ := fin_pres e pr.1
            exact ⟨a1, fun b z c => a2 b z (pr.2 b z c)⟩
          | nx =>
            obtain ⟨a1, a2⟩ := fin_pres e pr.1
            exact ⟨a1, fun b z c => a2 b z (pr.2 b z c)⟩
          | bk => cases e
          | ct => cases e
      · have e : (if ds.length = F.np then match exL (run P G W k) G h.length W F.body (ds.map some ++ List.replicate (F.nn - F.np) none) h with
          | some ((.rt d, _), h') => fin F.keep h.length d h'
          | some ((.nx, _), h') => fin F.keep h.length .non h'
          | _ => none
        else none) = some (r, h') := e
        rw [if_neg z] at e; cases e
end PD


namespace PD
open PySem PySem.Spec L2
open PyProof.Rows hiding St
/-! ### statements -/
def endsD (K : PySem.W.Frag) (mg : Str → Option Value) (D : Ends) (c : Ctl) (ρ' : Env) (μ' : Mp) (n : Nat) (H' : Hp) : Prop := match c with
  | .nx => ∀ σ', Sl K mg μ' n H' σ' ρ' → D.nx σ' H'
  | .bk => ∀ σ', Sl K mg μ' n H' σ' ρ' → D.bk σ' H'
  | .ct => ∀ σ', Sl K mg μ' n H' σ' ρ' → D.ct σ' H'
  | .rt d => ∀ v, Rep K mg μ' n H' d v → D.rt v H'
def sD (K : PySem.W.Frag) (mg : Str → Option Value) (f : Env → M (Ctl × Env)) : TS := fun D σ H => ∃ μ ρ h c ρ' h', Good K mg μ h H ∧ Sl K mg μ h.length H σ ρ ∧ f ρ h = some ((c, ρ'), h') ∧
  ∀ μ' H', Step K μ h.length H μ' h'.length H' → Good K mg μ' h' H' → endsD K mg D c ρ' μ' h'.length H'
section
variable {X : Cx} {st : Stmt} {sts rest : List Stmt} {e c tg iter : Expr} {pos : Pos} {fa : Bool} {f : Env → M D} {t : Env → M Bool} {g k : Env → M (Ctl × Env)} {tv : List Nat} {a : D → Env → M Env} {it : Env → M (List D)}
theorem psImp {t t' : TS} (h : PS X st t) (i : ∀ D σ H, t' D σ H → t D σ H) : PS X st t' := ⟨fun pins s σ H D I q => h.run pins s σ H D I (i D σ H q)⟩
theorem pssImp {t t' : TS} (h : PSs X sts t) (i : ∀ D σ H, t' D σ H → t D σ H) : PSs X sts t' := ⟨fun pins s σ H D I q => h.run pins s σ H D I (i D σ H q)⟩
theorem pss_nilD : PSs X [] (sD X.K X.mg fun ρ => .ret (.nx, ρ)) := pssImp pss_nil fun D σ H h => by
  obtain ⟨μ, ρ, h, c, ρ', h', gd, sl, e, q⟩ := h
  cases e
  exact q μ H Step.refl gd σ sl
theorem pss_consD (h1 : PS X st (sD X.K X.mg g)) (h2 : PSs X rest (sD X.K X.mg k)) : PSs X (st :: rest) (sD X.K X.mg fun ρ => .bind (g ρ) fun q => match q.1 with
    | .nx => k q.2
    | c => .ret (c, q.2)) := by
  refine pssImp (pss_cons h1 h2) fun D σ H h => ?_
  obtain ⟨μ, ρ, h, c, ρ', h', gd, sl, e, q⟩ := h
  obtain ⟨⟨c1, ρ1⟩, h1, e1, e2⟩ := M.bind_eq e
  cases c1 with
  | nx => exact ⟨μ, ρ, h, .nx, ρ1, h1, gd, sl, e1, fun μ1 H1 s1 g1 σ1 l1 => ⟨μ1, ρ1, h1, c, ρ', h', g1, l1, e2, fun μ2 H2 s2 g2 => q μ2 H2 (s1.trans s2) g2⟩⟩
  | bk => cases e2; exact ⟨μ, ρ, h, .bk, _, h', gd, sl, e1, fun μ1 H1 s1 g1 => q μ1 H1 s1 g1⟩
  | ct => cases e2; exact ⟨μ, ρ, h, .ct, _, h', gd, sl, e1, fun μ1 H1 s1 g1 => q μ1 H1 s1 g1⟩
  | rt d => cases e2; exact ⟨μ, ρ, h, .rt d, _, h', gd, sl, e1, fun μ1 H1 s1 g1 => q μ1 H1 s1 g1⟩
theorem ps_stuckD : PS X st (sD X.K X.mg fun _ => .fail) := psImp ps_never fun D σ H h => by
  obtain ⟨μ, ρ, h, c, ρ', h', gd, sl, e, q⟩ := h
  cases e
theorem ps_passD : PS X (.Pass pos) (sD X.K X.mg fun ρ => .ret (.nx, ρ)) := psImp ps_pass fun D σ H h => by
  obtain ⟨μ, ρ, h, c, ρ', h', gd, sl, e, q⟩ := h
  cases e
  exact q μ H Step.refl gd σ sl
theorem ps_brkD : PS X (.Break pos) (sD X.K X.mg fun ρ => .ret (.bk, ρ)) := psImp ps_break fun D σ H h => by
  obtain ⟨μ, ρ, h, c, ρ', h', gd, sl, e, q⟩ := h
  cases e
  exact q μ H Step.refl gd σ sl
theorem ps_cntD : PS X (.Continue pos) (sD X.K X.mg fun ρ => .ret (.ct, ρ)) := psImp ps_continue fun D σ H h => by
  obtain ⟨μ, ρ, h, c, ρ', h', gd, sl, e, q⟩ := h
  cases e
  exact q μ H Step.refl gd σ sl
theorem ps_docD {x : Str} {j : Nat} {pos' : Pos} : PS X (.Expr (.Constant (.str x) j pos) pos') (sD X.K X.mg fun ρ => .ret (.nx, ρ)) := psImp ps_doc fun D σ H h => by
  obtain ⟨μ, ρ, h, c, ρ', h', gd, sl, e, q⟩ := h
  cases e
  exact q μ H Step.refl gd σ sl
theorem ps_exprD (he : PE X e (tD fa X.K X.mg f)) (hs : swapsWith e none pos.line X.env = pure false) : PS X (.Expr e pos) (sD X.K X.mg fun ρ => .bind (f ρ) fun _ => .ret (.nx, ρ)) := psImp (ps_expr he hs) fun D σ H h => by
  obtain ⟨μ, ρ, h, c, ρ', h', gd, sl, e, q⟩ := h
  obtain ⟨d, h1, e1, e2⟩ := M.bind_eq e
  cases e2
  exact ⟨μ, ρ, h, d, h', gd, sl, e1, fun μ1 v1 H1 s1 g1 r1 _ => q μ1 H1 s1 g1 σ (sl.step s1)⟩
theorem ps_retD (he : PE X e (tD fa X.K X.mg f)) : PS X (.Return (some e) pos) (sD X.K X.mg fun ρ => .bind (f ρ) fun d => .ret (.rt d, ρ)) := psImp (ps_ret he) fun D σ H h => by
  obtain ⟨μ, ρ, h, c, ρ', h', gd, sl, e, q⟩ := h
  obtain ⟨d, h1, e1, e2⟩ := M.bind_eq e
  cases e2
  exact ⟨μ, ρ, h, d, h', gd, sl, e1, fun μ1 v1 H1 s1 g1 r1 _ => q μ1 H1 s1 g1 v1 r1⟩
theorem ps_retND : PS X (.Return none pos) (sD X.K X.mg fun ρ => .ret (.rt .non, ρ)) := psImp ps_retN fun D σ H h => by
  obtain ⟨μ, ρ, h, c, ρ', h', gd, sl, e, q⟩ := h
  cases e
  exact q μ H Step.refl gd .non .non
theorem ps_ifD {sa sb : List Stmt} (hc : PT X c (tT X.K X.mg t)) (ha : PSs X sa (sD X.K X.mg g)) (hb : PSs X sb (sD X.K X.mg k)) : PS X (.If c sa sb pos) (sD X.K X.mg fun ρ => .bind (t ρ) fun r => if r = true then g ρ else k ρ) := psImp (ps_if hc ha hb) fun D σ H h => by
  obtain ⟨μ, ρ, h, c, ρ', h', gd, sl, e, q⟩ := h
  obtain ⟨r, h1, e1, e2⟩ := M.bind_eq e
  refine ⟨μ, ρ, h, r, h1, gd, sl, e1, fun μ1 H1 s1 g1 => ?_⟩
  show ite (r = true) _ _
  by_cases z : r = true
  · rw [if_pos z] at e2 ⊢
    exact ⟨μ1, ρ, h1, c, ρ', h', g1, sl.step s1, e2, fun μ2 H2 s2 g2 => q μ2 H2 (s1.trans s2) g2⟩
  · rw [if_neg z] at e2 ⊢
    exact ⟨μ1, ρ, h1, c, ρ', h', g1, sl.step s1, e2, fun μ2 H2 s2 g2 => q μ2 H2 (s1.trans s2) g2⟩
theorem asg_r {te : Bool} {D : Ends} {σ : St} {H : Hp} (h : sD X.K X.mg (fun ρ => .bind (f ρ) fun d => .bind (a d ρ) fun ρ1 => .ret (.nx, ρ1)) D σ H) : tAsg (tD te X.K X.mg f) (gD X.K X.mg tv a) D σ H := by
  obtain ⟨μ, ρ, h, c, ρ', h', gd, sl, e, q⟩ := h
  obtain ⟨d, h1, e1, e2⟩ := M.bind_eq e
  obtain ⟨ρ1, h2, e3, e4⟩ := M.bind_eq e2
  cases e4
  refine ⟨μ, ρ, h, d, h1, gd, sl, e1, fun μ1 v1 H1 s1 g1 r1 _ => ?_⟩
  exact ⟨μ1, ρ, h1, d, ρ', h', g1, sl.step s1, r1, e3, fun μ2 σ2 H2 s2 g2 l2 _ => q μ2 H2 (s1.trans s2) g2 σ2 l2⟩
theorem ps_asgD (he : PE X e (tD fa X.K X.mg f)) (hg : PG X tg (gD X.K X.mg tv a)) (hs : swapsWithSole [tg] e pos.line X.env = pure false) (hw : swappedStores [tg] e X.env = pure none) (h1 : noStar tg = true) :
    PS X (.Assign [tg] e pos) (sD X.K X.mg fun ρ => .bind (f ρ) fun d => .bind (a d ρ) fun ρ1 => .ret (.nx, ρ1)) :=
  psImp (ps_asg he hg hs hw (by rw [assignEach_consS h1]; rfl)) fun D σ H h => asg_r h
theorem name_r {te : Bool} {i : Nat} {D : Ends} {σ : St} {H : Hp} (h : sD X.K X.mg (fun ρ => .bind (f ρ) fun d => .ret (.nx, ρ.set i (some d))) D σ H) : tAsg (tD te X.K X.mg f) (gName i) D σ H := by
  obtain ⟨μ, ρ, h, c, ρ', h', gd, sl, e, q⟩ := h
  obtain ⟨d, h1, e1, e2⟩ := M.bind_eq e
  cases e2
  exact ⟨μ, ρ, h, d, h', gd, sl, e1, fun μ1 v1 H1 s1 g1 r1 _ => q μ1 H1 s1 g1 _ ((sl.step s1).set r1 i)⟩
theorem ps_setD {i : Nat} {x : Str} {pos' : Pos} (h : PS X (.Assign [.Name x pos'] e pos) (tAsg (tD fa X.K X.mg f) (gName i))) : PS X (.Assign [.Name x pos'] e pos) (sD X.K X.mg fun ρ => .bind (f ρ) fun d => .ret (.nx, ρ.set i (some d))) := psImp h fun D σ H h => name_r h
theorem ps_setLcD {i : Nat} {y : Str} {py : Pos} {elt : Expr} {ifs : List Expr} {scope : Scope} {own : List (Str × Nat)} {spos : Pos} {asg : D → Env → M Env} {tt : Env → M Bool} {fe : Bool} {f : Env → M D} (hc : X.calm = true) (hN : X.N.Nodup) (hy : X.N[i]? = some y) (hyl : X.env.scope.names.lookup y = some .local)
    (hsw : swapsWith (.ListComp elt [⟨tg, iter, ifs, 0⟩] scope pos) (some (.Name y py)) spos.line X.env = pure true) (hi : PI X tg iter (iD X.K X.mg it)) (ok : BlkOk X.N X.env.scope scope own) (hv : ∀ j ∈ tv, j ∈ own.map (·.2))
    (hg : ∀ (s : Shared) (H : Hp) (C : Addr) (cl : List (Str × Addr)) (fp : List Addr), PG (X.blk s H scope (compEnvC scope cl C X.env) fp) tg (gD X.K X.mg tv asg)) (ht : ∀ (s : Shared) (H : Hp) (C : Addr) (cl : List (Str × Addr)) (fp : List Addr), PTs (X.blk s H scope (compEnvC scope cl C X.env) fp) ifs (tT X.K X.mg tt))
    (he : ∀ (s : Shared) (H : Hp) (C : Addr) (cl : List (Str × Addr)) (fp : List Addr), PE (X.blk s H scope (compEnvC scope cl C X.env) fp) elt (tD fe X.K X.mg f)) (hs : ∀ x, foldedSetIterable iter X.env x = pure x) :
    PS X (.Assign [.Name y py] (.ListComp elt [⟨tg, iter, ifs, 0⟩] scope pos) spos) (sD X.K X.mg fun ρ => .bind (.bind (it ρ) fun xs => if xs.length ≤ sizeLine then .bind (compL asg tt f (wipeD ρ (own.map (·.2))) xs) fun ys => .ret (.lst ys) else .fail) fun d => .ret (.nx, ρ.set i (some d))) := by
  refine psImp (ps_setLc hc hN hy hyl hsw hi ok hg ht he hs) fun D σ H h => ?_
  have h := name_r (te := true) h
  exact lc_D hv h
def par3 (i j l : Nat) (ds : List D) (ρ : Env) : M (Ctl × Env) := match ds with
  | [x, y, z] => .ret (.nx, ((ρ.set i (some x)).set j (some y)).set l (some z))
  | _ => .fail
def par2 (i j : Nat) (ds : List D) (ρ : Env) : M (Ctl × Env) := match ds with
  | [x, y] => .ret (.nx, (ρ.set i (some x)).set j (some y))
  | _ => .fail
theorem ps_parD {i j : Nat} (h : PS X st (tPar i j (tL X.K X.mg it))) : PS X st (sD X.K X.mg fun ρ => .bind (it ρ) fun xs => par2 i j xs ρ) := psImp h fun D σ H h => by
  obtain ⟨μ, ρ, h, c, ρ', h', gd, sl, e, q⟩ := h
  obtain ⟨ds, h1, e1, e2⟩ := M.bind_eq e
  match ds, e2 with
  | [x, y], e2 =>
    cases e2
    refine ⟨μ, ρ, h, _, h', gd, sl, e1, fun μ1 vs H1 s1 g1 r1 => ?_⟩
    obtain ⟨v, w, rfl, rv, rw⟩ := r1.two
    exact ⟨v, w, rfl, q μ1 H1 s1 g1 _ (((sl.step s1).set rv i).set rw j)⟩
theorem RepL.three {K : PySem.W.Frag} {mg : Str → Option Value} {μ : Mp} {n : Nat} {H : Hp} {d e k : D} {vs : List V} (l : RepL K mg μ n H [d, e, k] vs) : ∃ v w u, vs = [v, w, u] ∧ Rep K mg μ n H d v ∧ Rep K mg μ n H e w ∧ Rep K mg μ n H k u := by
  cases l with
  | cons a b =>
    obtain ⟨w, u, rfl, h1, h2⟩ := b.two
    exact ⟨_, w, u, rfl, a, h1, h2⟩
theorem ps_par3D {i j l : Nat} (h : PS X st (tPar3 i j l (tL X.K X.mg it))) : PS X st (sD X.K X.mg fun ρ => .bind (it ρ) fun xs => par3 i j l xs ρ) := psImp h fun D σ H h => by
  obtain ⟨μ, ρ, h, c, ρ', h', gd, sl, e, q⟩ := h
  obtain ⟨ds, h1, e1, e2⟩ := M.bind_eq e
  match ds, e2 with
  | [x, y, z], e2 =>
    cases e2
    refine ⟨μ, ρ, h, _, h', gd, sl, e1, fun μ1 vs H1 s1 g1 r1 => ?_⟩
    obtain ⟨v, w, u, rfl, rv, rw, ru⟩ := r1.three
    exact ⟨v, w, u, rfl, q μ1 H1 s1 g1 _ ((((sl.step s1).set rv i).set rw j).set ru l)⟩
theorem ps_whileD {W : Nat} {body : List Stmt} (hp : PassesOwn (model X.prog X.w) X.A X.env X.xe) (hc : PT X c (tT X.K X.mg t)) (hb : PSs X body (sD X.K X.mg g)) : PS X (.While c body [] pos) (sD X.K X.mg fun ρ => whileL t g W ρ) := by
  refine psImp (ps_while hp hc hb) fun D σ H h => ?_
  obtain ⟨μ, ρ, h, c, ρ', h', gd, sl, e, q⟩ := h
  refine ⟨fun m σ1 H1 => ∃ μ1 ρ1 h1, Step X.K μ h.length H μ1 h1.length H1 ∧ Good X.K X.mg μ1 h1 H1 ∧ Sl X.K X.mg μ1 h1.length H1 σ1 ρ1 ∧ whileL t g m ρ1 h1 = some ((c, ρ'), h'), ⟨W, μ, ρ, h, Step.refl, gd, sl, e⟩, ?_⟩
  rintro m σ1 H1 ⟨μ1, ρ1, h1, s1, g1, l1, e1⟩
  cases m with
  | zero => cases e1
  | succ m =>
    obtain ⟨b, h2, e2, e3⟩ := M.bind_eq e1
    refine ⟨μ1, ρ1, h1, b, h2, g1, l1, e2, fun μ2 H2 s2 g2 => ?_⟩
    show ite (b = true) _ _
    by_cases z : b = true
    · rw [if_pos z] at e3 ⊢
      obtain ⟨⟨c1, ρ2⟩, h3, e4, e5⟩ := M.bind_eq e3
      refine ⟨_, fun σ' H' p => ⟨m, Nat.lt_succ_self _, p⟩, μ2, ρ1, h2, c1, ρ2, h3, g2, l1.step s2, e4, fun μ3 H3 s3 g3 => ?_⟩
      cases c1 with
      | nx => exact fun σ3 l3 => ⟨μ3, ρ2, h3, (s1.trans s2).trans s3, g3, l3, e5⟩
      | ct => exact fun σ3 l3 => ⟨μ3, ρ2, h3, (s1.trans s2).trans s3, g3, l3, e5⟩
      | bk => cases e5; exact fun σ3 l3 => q μ3 H3 ((s1.trans s2).trans s3) g3 σ3 l3
      | rt d => cases e5; exact fun v r => q μ3 H3 ((s1.trans s2).trans s3) g3 v r
    · rw [if_neg z] at e3 ⊢
      cases e3
      exact q μ2 H2 (s1.trans s2) g2 σ1 (l1.step s2)
theorem ps_forD {body : List Stmt} (hp : PassesOwn (model X.prog X.w) X.A X.env X.xe) (hc : X.calm = true) (hi : PI X tg iter (iD X.K X.mg it)) (hg : PG X tg (gD X.K X.mg tv a)) (hb : PSs X body (sD X.K X.mg g)) (hs : ∀ x, foldedSetIterable iter X.env x = pure x) :
    PS X (.For tg iter body [] pos) (sD X.K X.mg fun ρ => .bind (it ρ) fun xs => forL a g xs ρ) := by
  refine psImp (ps_for hp hc hi hg hb hs) fun D σ H h => ?_
  obtain ⟨μ, ρ, h, c, ρ', h', gd, sl, e, q⟩ := h
  obtain ⟨xs, h0, e0, ez⟩ := M.bind_eq e
  refine ⟨μ, ρ, h, xs, h0, gd, sl, e0, fun μ0 J H0 s0 g0 itk => ?_⟩
  refine ⟨fun i m σ1 H1 => m = xs.length - i ∧ i ≤ xs.length ∧ ∃ μ1 ρ1 h1, Step X.K μ0 h0.length H0 μ1 h1.length H1 ∧ Good X.K X.mg μ1 h1 H1 ∧ Sl X.K X.mg μ1 h1.length H1 σ1 ρ1 ∧ forL a g (xs.drop i) ρ1 h1 = some ((c, ρ'), h'), ⟨xs.length, by simp, Nat.zero_le _, μ0, ρ, h0, Step.refl, g0, sl.step s0, ez⟩, ?_⟩
  rintro i m σ1 H1 ⟨rfl, hi, μ1, ρ1, h1, s1, g1, l1, e1⟩
  by_cases hlt : i < xs.length
  · refine .inr ⟨itk.go i μ1 _ H1 s1.toStep0 hlt, _, fun σ' H' p => ⟨xs.length - (i + 1), by omega, p⟩, fun x H2 y => ?_⟩
    obtain ⟨d, ed, s2, g2, rd⟩ := itk.yld i μ1 h1 H1 x H2 s1.toStep0 g1 hlt y
    have ex : xs.drop i = d :: xs.drop (i + 1) := by
      rw [List.drop_eq_getElem_cons hlt]
      have : xs[i] = d := by rw [List.getElem?_eq_getElem hlt] at ed; exact Option.some.inj ed
      rw [this]
    rw [ex] at e1
    obtain ⟨ρ2, h2, e2, e3⟩ := M.bind_eq e1
    obtain ⟨⟨c1, ρ3⟩, h3, e4, e5⟩ := M.bind_eq e3
    refine ⟨μ1, ρ1, h1, d, ρ2, h2, g2, l1.step s2, rd, e2, fun μ3 σ3 H3 s3 g3 l3 _ => ?_⟩
    have s13 := (s1.trans s2).trans s3
    refine ⟨μ3, ρ2, h2, c1, ρ3, h3, g3, l3, e4, fun μ4 H4 s4 g4 => ?_⟩
    cases c1 with
    | nx => exact fun σ4 l4 => ⟨rfl, by omega, μ4, ρ3, h3, s13.trans s4, g4, l4, e5⟩
    | ct => exact fun σ4 l4 => ⟨rfl, by omega, μ4, ρ3, h3, s13.trans s4, g4, l4, e5⟩
    | bk => cases e5; exact fun σ4 l4 => q μ4 H4 (s0.trans (s13.trans s4)) g4 σ4 l4
    | rt d => cases e5; exact fun v r => q μ4 H4 (s0.trans (s13.trans s4)) g4 v r
  · have ei : i = xs.length := by omega
    subst ei
    rw [List.drop_length] at e1
    cases e1
    exact .inl ⟨itk.stop _ μ1 _ H1 s1.toStep0 rfl, q μ1 H1 (s0.trans s1) g1 σ1 l1⟩
end
/-! ### a def's end -/
section
variable {K : PySem.W.Frag} {mg : Str → Option Value} {μ : Mp} {n n' : Nat} {H : Hp} {h : MH}
theorem own_mono {a : Addr} (hn : n ≤ n') (o : own μ n a) : own μ n' a := o.elim .inl fun ⟨i, hi, e⟩ => .inr ⟨i, by omega, e⟩
mutual
/-- fewer changeable things -/
theorem Rep.less (hn : n ≤ n') : ∀ {d : D} {v : V}, Rep K mg μ n' H d v → below n d = true → Rep K mg μ n H d v
  | .non, _, .non, _ => .non
  | .bl _, _, .bl b, _ => .bl b
  | .int _, _, .int b, _ => .int b
  | .str _, _, .str b, _ => .str b
  | .tup _, _, .tup q l, e => .tup q (RepL.less hn l e)
  | .lst _, _, .lst q l, e => .lst ⟨q.1, fun w => q.2 (own_mono hn w)⟩ (RepL.less hn l e)
  | .flst _, _, .flst q l, e => .flst q (RepL.less hn l e)
  | .ref _, _, .ref q, e => .ref (of_decide_eq_true e)
  | .fn _, _, .fn q, _ => .fn q
theorem RepL.less (hn : n ≤ n') : ∀ {ds : List D} {vs : List V}, RepL K mg μ n' H ds vs → belowL n ds = true → RepL K mg μ n H ds vs
  | [], _, .nil, _ => .nil
  | d :: ds, _, .cons r l, e => by
    have e : (below n d && belowL n ds) = true := e
    rw [Bool.and_eq_true] at e
    exact .cons (Rep.less hn r e.1) (RepL.less hn l e.2)
end
mutual
theorem fzD_ok {g : Nat → Option D} (hn : n ≤ n') (hg : ∀ i d, g i = some d → i < n' → Rep K mg μ n H d (.ref (μ.m i))) : ∀ {d d' : D} {v : V}, Rep K mg μ n' H d v → fzD g d = some d' → Rep K mg μ n H d' v
  | .non, _, _, .non, e => by cases e; exact .non
  | .bl _, _, _, .bl b, e => by cases e; exact .bl b
  | .int _, _, _, .int b, e => by cases e; exact .int b
  | .str _, _, _, .str b, e => by cases e; exact .str b
  | .tup xs, _, _, .tup q l, e => by
    obtain ⟨ys, e1, e2⟩ := Option.map_eq_some_iff.mp (show (fzL g xs).map D.tup = some _ from e)
    subst e2
    exact .tup q (fzL_ok hn hg l e1)
  | .lst xs, _, _, .lst q l, e => by
    obtain ⟨ys, e1, e2⟩ := Option.map_eq_some_iff.mp (show (fzL g xs).map D.lst = some _ from e)
    subst e2
    exact .lst ⟨q.1, fun w => q.2 (own_mono hn w)⟩ (fzL_ok hn hg l e1)
  | .flst xs, _, _, .flst q l, e => by
    obtain ⟨ys, e1, e2⟩ := Option.map_eq_some_iff.mp (show (fzL g xs).map D.flst = some _ from e)
    subst e2
    exact .flst q (fzL_ok hn hg l e1)
  | .ref i, _, _, .ref q, e => hg i _ e q
  | .fn _, _, _, .fn q, e => by cases e; exact .fn q
theorem fzL_ok {g : Nat → Option D} (hn : n ≤ n') (hg : ∀ i d, g i = some d → i < n' → Rep K mg μ n H d (.ref (μ.m i))) : ∀ {ds ds' : List D} {vs : List V}, RepL K mg μ n' H ds vs → fzL g ds = some ds' → RepL K mg μ n H ds' vs
  | [], _, _, .nil, e => by cases e; exact .nil
  | d :: ds, _, _, .cons r l, e => by
    have e : (match fzD g d, fzL g ds with | some y, some ys => some (y :: ys) | _, _ => none) = some _ := e
    cases e1 : fzD g d with
    | none => rw [e1] at e; cases e
    | some y =>
      cases e2 : fzL g ds with
      | none => rw [e1, e2] at e; cases e
      | some ys =>
        rw [e1, e2] at e
        cases e
        exact .cons (fzD_ok hn hg r e1) (fzL_ok hn hg l e2)
end
theorem fz_ok (g : Good K mg μ h H) (hn : n ≤ h.length) : ∀ (k i : Nat) (d : D), fz k n h i = some d → i < h.length → Rep K mg μ n H d (.ref (μ.m i))
  | 0, _, _, e, _ => by cases e
  | k + 1, i, d, e, hi => by
    have e : (if i < n then some (D.ref i) else match h[i]? with | some (.lst xs) => (fzL (fz k n h) xs).map .lst | _ => none) = some d := e
    by_cases z : i < n
    · rw [if_pos z] at e; cases e
      exact .ref z
    · rw [if_neg z] at e
      cases q : h[i]? with
      | none => rw [q] at e; cases e
      | some o =>
        rw [q] at e
        cases o with
        | dct _ => cases e
        | lst xs =>
          obtain ⟨ys, e1, e2⟩ := Option.map_eq_some_iff.mp (show (fzL (fz k n h) xs).map D.lst = some d from e)
          subst e2
          obtain ⟨vs, h1, l⟩ := g.lst q
          refine .lst ⟨h1, fun w => ?_⟩ (fzL_ok hn (fun i d => fz_ok g hn k i d) l e1)
          rcases w with w | ⟨j, hj, w⟩
          · exact g.hidm i hi w
          · have := g.inj j i (by omega) hi w
            omega
theorem Good.less (g : Good K mg μ h H) (hn : n ≤ h.length) (c : Cl n h) : Good K mg μ (h.take n) H := by
  have hl : (h.take n).length = n := by rw [List.length_take]; omega
  refine ⟨fun i j hi hj => g.inj i j (by omega) (by omega), fun i hi => g.hidm i (by omega), g.hid, fun i o e => ?_⟩
  have hi : i < n := by
    have := (List.getElem?_eq_some_iff.mp e).1
    omega
  rw [List.getElem?_take_of_lt hi] at e
  rw [hl]
  have r := g.objs i o e
  have b := c i o hi e
  cases o with
  | lst xs =>
    obtain ⟨vs, h1, l⟩ := r
    exact ⟨vs, h1, l.less hn b⟩
  | dct kvs =>
    obtain ⟨vs, h1, l⟩ := r
    refine ⟨vs, h1, ?_⟩
    have b : belowL n (kvs.map (·.2)) = true := b
    clear h1 e
    induction l with
    | nil => exact .nil
    | cons p q ih =>
      rename_i u w us ws b0
      have b : (below n u.2 && belowL n (us.map (·.2))) = true := b
      rw [Bool.and_eq_true] at b
      exact .cons ⟨p.1, p.2.less hn b.1⟩ (ih b.2 b.2)
theorem Step.less {H' : Hp} {μ' : Mp} {m : Nat} (s : Step K μ n H μ' m H') : Step K μ n H μ' n H' :=
  ⟨⟨Nat.le_refl _, s.m, s.tup, fun a xs q => ⟨(s.frz a xs q).1, fun w => (s.frz a xs q).2 (own_mono s.len w)⟩, s.sqf⟩, s.hid, s.hids⟩
mutual
theorem Rep.blw : ∀ {d : D} {v : V}, Rep K mg μ n H d v → PD.below n d = true
  | .non, _, .non => rfl
  | .bl _, _, .bl b => rfl
  | .int _, _, .int b => rfl
  | .str _, _, .str b => rfl
  | .tup _, _, .tup q l => RepL.blw l
  | .lst _, _, .lst q l => RepL.blw l
  | .flst _, _, .flst q l => RepL.blw l
  | .ref _, _, .ref q => decide_eq_true q
  | .fn _, _, .fn q => rfl
theorem RepL.blw : ∀ {ds : List D} {vs : List V}, RepL K mg μ n H ds vs → belowL n ds = true
  | [], _, .nil => rfl
  | d :: ds, _, .cons r l => by
    show (PD.below n d && belowL n ds) = true
    rw [Rep.blw r, RepL.blw l]; rfl
end
theorem Good.cl (g : Good K mg μ h H) : Cl h.length h := fun i o hi e => by
  have r := g.objs i o e
  cases o with
  | lst xs =>
    obtain ⟨vs, h1, l⟩ := r
    exact l.blw
  | dct kvs =>
    obtain ⟨vs, h1, l⟩ := r
    show belowL h.length (kvs.map (·.2)) = true
    clear h1 e
    induction l with
    | nil => rfl
    | cons p q ih =>
      rename_i u w us ws
      show (PD.below h.length u.2 && belowL h.length (us.map (·.2))) = true
      rw [p.2.blw, ih]; rfl
theorem fin_ok {μ0 : Mp} {h0 : MH} {H0 : Hp} {h' h2 : MH} {d r : D} {v : V} {keep : Bool} (s : Step K μ0 h0.length H0 μ h'.length H) (g : Good K mg μ h' H) (rp : Rep K mg μ h'.length H d v) (c : Cl h0.length h') (e : fin keep h0.length d h' = some (r, h2)) :
    Step K μ0 h0.length H0 μ h2.length H ∧ Good K mg μ h2 H ∧ Rep K mg μ h2.length H r v := by
  unfold fin at e
  by_cases k : keep = true
  · rw [if_pos k] at e; cases e
    exact ⟨s, g, rp⟩
  · rw [if_neg k] at e
    obtain ⟨d', e1, e2⟩ := Option.map_eq_some_iff.mp e
    cases e2
    have hl : (h'.take h0.length).length = h0.length := by rw [List.length_take]; have := s.len; omega
    rw [hl]
    exact ⟨s.less, g.less s.len c, fzD_ok s.len (fun i d => fz_ok g s.len 8 i d) rp e1⟩
end
/-! ### THE RULE: a def by its body -/
theorem start_Sl {K : PySem.W.Frag} {mg : Str → Option Value} {μ : Mp} {n : Nat} {H : Hp} {N : List Str} {ds : List D} {vs : List V} {m : Nat} (l : RepL K mg μ n H ds vs) (hm : m = N.length - vs.length) : Sl K mg μ n H (L2.start N vs) (ds.map some ++ List.replicate m none) := by
  subst hm
  unfold L2.start
  refine ⟨by simp [l.length], fun i d e => ?_⟩
  by_cases hi : i < ds.length
  · rw [List.getElem?_append_left (by simpa using hi), List.getElem?_map] at e
    cases q : ds[i]? with
    | none => rw [q] at e; cases e
    | some x =>
      rw [q] at e
      cases e
      obtain ⟨v, h1, h2⟩ := l.get q
      have hv : i < vs.length := by rw [← l.length]; exact hi
      exact ⟨v, by rw [List.getElem?_append_left (by simpa using hv), List.getElem?_map, h1]; rfl, h2⟩
  · rw [List.getElem?_append_right (by simpa using hi), List.getElem?_replicate] at e
    split at e <;> cases e
theorem fnG {P : Program} {w : World} {K : PySem.W.Frag} {mg : Str → Option Value} {base : Heap} {k : Nat} {f : Addr} {name qual : Str} {params : Arguments} {body : List Stmt} {scope : Scope} {dV kV doc pm cdv ct oc : Value} {an od : Option Addr}
    {osl : Array (Option Value)} {N ps : List Str} {Pr : Str → Option FD} {G : Str → Option D} {W : Nat} {x : Str} {F : FD} (lk : K.lookup f = some ⟨oc, od, .func (PySem.W.fnOf name qual params body scope dV kV doc pm an cdv ct), osl⟩) (hcd : PySem.W.codeIn K cdv qual = true) (S : FnScope N ps scope)
    (hF : Pr x = some F) (hnn : N.length = F.nn) (hnp : ps.length = F.np)
    (hbody : ∀ (A : Around) (outer : List PySem.Env) (s : Shared) (H : Hp) (B : Nat), Room k (A.deeper (envOfC qual scope s.heap.objs.size f cdv)) → A.guards = some [] →
      PSs (cxOf CX0 P w K mg base N qual scope f cdv A outer s H XK0).nox body (sD K mg (exL (run Pr G W k) G B W F.body))) :
    Fn P w K mg base (k + 1) f (PySem.W.fnOf name qual params body scope dV kV doc pm an cdv ct) ps (run Pr G W (k + 1) x) := by
  refine ⟨fun A outer s H args us vs Q μ h ds d h' hr hgd e0 hb r gd l hlen hrun hq => ?_⟩
  have hl : vs.length = ps.length := by rw [← l.length]; exact hlen
  have KX : K.In s.heap := e0.mod.kin.keeps fun b o e => (e0.bs b o e).1
  have lim : s.heap.NoLimit := e0.mod.nolimit.keeps fun b o e => (e0.bs b o e).1
  have hkind : ∀ y ∈ ps.zip us, scope.names.lookup y.1 = some .local ∨ (scope.names.lookup y.1 = some .cell ∧ ((cellsFrom (s.heap.objs.size + 1) scope.names []).lookup y.1).isSome = true) := fun ⟨n, v⟩ hy => by
    rcases S.par n (List.of_mem_zip hy).1 with q | q
    · exact .inl q
    · exact .inr ⟨q, PySem.W.cellsFrom_some _ _ _ (.inl q)⟩
  have hrun : (match Pr x with
      | none => none
      | some F => if ds.length = F.np then match exL (run Pr G W k) G h.length W F.body (ds.map some ++ List.replicate (F.nn - F.np) none) h with
          | some ((.rt d, _), h') => fin F.keep h.length d h'
          | some ((.nx, _), h') => fin F.keep h.length .non h'
          | _ => none
        else none) = some (d, h') := hrun
  rw [hF] at hrun
  have hrun : (if ds.length = F.np then match exL (run Pr G W k) G h.length W F.body (ds.map some ++ List.replicate (F.nn - F.np) none) h with
          | some ((.rt d, _), h') => fin F.keep h.length d h'
          | some ((.nx, _), h') => fin F.keep h.length .non h'
          | _ => none
        else none) = some (d, h') := hrun
  rw [if_pos (hlen.trans hnp)] at hrun
  cases q2 : exL (run Pr G W k) G h.length W F.body (ds.map some ++ List.replicate (F.nn - F.np) none) h with
  | none => rw [q2] at hrun; cases hrun
  | some p =>
  obtain ⟨⟨c, ρ'⟩, h2⟩ := p
  rw [q2] at hrun
  have pr := exL_pres (W := W) (C := run Pr G W k) (G := G) (B := h.length) (fun f ds h0 r0 h0' e0 hb => by
    obtain ⟨a, b⟩ := run_pres0 Pr G W k f ds h0 r0 h0' e0
    exact ⟨a, fun c z => b c (Nat.le_trans z hb)⟩) F.body _ h _ _ q2 (Nat.le_refl _)
  have cl : Cl h.length h2 := pr.2 _ (Nat.le_refl _) gd.cl
  refine codeAny_call_function hr.depth (KX _ _ lk) rfl S.co S.gen rfl (PySem.W.codeRec_of KX hcd) (hb _ _ _ _ ?_)
  refine wpAny_newFunctionEnv_cells S.kind hkind fun env he s1 x => ?_
  subst he
  refine ⟨lim.keeps x.toInCall.keep, codeAny_func ?_⟩
  have I : L2.Inv (cxOf CX0 P w K mg base N qual scope f cdv A outer s H XK0) [] (L2.start N vs) H s1 := inv_start S hr.hd e0 hl r x
  have bod := (hbody A outer s H h.length (hr.deeper _) hgd).nox
  have rd : sD K mg (exL (run Pr G W k) G h.length W F.body) { nx := fun _ H' => Q .non H', rt := Q } (L2.start N vs) H := by
    refine ⟨μ, _, h, c, ρ', h2, gd, start_Sl l (by rw [hl, hnn, hnp]), q2, fun μ' H' st' gd' => ?_⟩
    cases c with
    | rt d1 =>
      intro v rv
      obtain ⟨a1, a2, a3⟩ := fin_ok st' gd' rv cl hrun
      exact hq μ' v H' a1 a2 a3
    | nx =>
      intro σ' _
      obtain ⟨a1, a2, a3⟩ := fin_ok st' gd' .non cl hrun
      exact hq μ' .non H' a1 a2 a3
    | bk => cases hrun
    | ct => cases hrun
  refine wpAny_mono (bod.run [] s1 (L2.start N vs) H _ I rd) (fun fl s' hs => ?_) fun e s' hs => hs
  have fin : ∀ {σ' : St} {H' : Hp} {v : V} {u : Value}, L2.Inv (cxOf CX0 P w K mg base N qual scope f cdv A outer s H XK0) [] σ' H' s' → RelV v u → Q v H' → CE outer P w H s Q u s' :=
    fun {σ' H' v u} J rv q => ⟨v, H', J.os, J.bare, J.base, J.hok, rv, q⟩
  cases fl with
  | ret u =>
    obtain ⟨v, σ', H', J, rv, q⟩ := hs
    exact fin J rv q
  | next =>
    obtain ⟨σ', H', J, q⟩ := hs
    exact fin (v := V.non) (u := Value.none) J rfl q
  | brk =>
    obtain ⟨_, _, _, q⟩ := hs
    exact False.elim q
  | cont =>
    obtain ⟨_, _, _, q⟩ := hs
    exact False.elim q
end PD


namespace PD
open PySem PySem.Spec L2
open PyProof.Rows hiding St
/-! ### the checker: an expression of the program is what the plain language says -/
structure CC where
  N : List Str
  sc : Scope
  ct : List (Str × Nat × List Str × List Nat)
  kt : List (Str × List (Str × D))
/-! one and the same -/
mutual
def sameD : D → D → Bool
  | .non, e => match e with | .non => true | _ => false
  | .bl b, e => match e with | .bl c => decide (b = c) | _ => false
  | .int b, e => match e with | .int c => decide (b = c) | _ => false
  | .str b, e => match e with | .str c => decide (b = c) | _ => false
  | .tup b, e => match e with | .tup c => sameL b c | _ => false
  | .lst b, e => match e with | .lst c => sameL b c | _ => false
  | .flst b, e => match e with | .flst c => sameL b c | _ => false
  | .ref b, e => match e with | .ref c => decide (b = c) | _ => false
  | .fn b, e => match e with | .fn c => decide (b = c) | _ => false
def sameL : List D → List D → Bool
  | [], ys => match ys with | [] => true | _ => false
  | x :: xs, ys => match ys with | y :: ys => sameD x y && sameL xs ys | [] => false
end
mutual
theorem sameD_ok : ∀ {x y : D}, sameD x y = true → x = y
  | .non, y, h => by unfold sameD at h; cases y <;> first | rfl | cases h
  | .bl b, y, h => by unfold sameD at h; cases y <;> first | cases h; done | (rw [of_decide_eq_true h])
  | .int b, y, h => by unfold sameD at h; cases y <;> first | cases h; done | (rw [of_decide_eq_true h])
  | .str b, y, h => by unfold sameD at h; cases y <;> first | cases h; done | (rw [of_decide_eq_true h])
  | .tup b, y, h => by unfold sameD at h; cases y <;> first | cases h; done | (rw [sameL_ok h])
  | .lst b, y, h => by unfold sameD at h; cases y <;> first | cases h; done | (rw [sameL_ok h])
  | .flst b, y, h => by unfold sameD at h; cases y <;> first | cases h; done | (rw [sameL_ok h])
  | .ref b, y, h => by unfold sameD at h; cases y <;> first | cases h; done | (rw [of_decide_eq_true h])
  | .fn b, y, h => by unfold sameD at h; cases y <;> first | cases h; done | (rw [of_decide_eq_true h])
theorem sameL_ok : ∀ {xs ys : List D}, sameL xs ys = true → xs = ys
  | [], ys, h => by unfold sameL at h; cases ys <;> first | rfl | cases h
  | x :: xs, ys, h => by
    unfold sameL at h
    cases ys with
    | nil => cases h
    | cons y ys =>
      have h : (sameD x y && sameL xs ys) = true := h
      rw [Bool.and_eq_true] at h
      rw [sameD_ok h.1, sameL_ok h.2]
end
def sameT : List (Str × D) → List (Str × D) → Bool
  | [], ys => match ys with | [] => true | _ => false
  | x :: xs, ys => match ys with | y :: ys => decide (x.1 = y.1) && sameD x.2 y.2 && sameT xs ys | [] => false
theorem sameT_ok : ∀ {xs ys : List (Str × D)}, sameT xs ys = true → xs = ys
  | [], ys, h => by unfold sameT at h; cases ys <;> first | rfl | cases h
  | x :: xs, ys, h => by
    unfold sameT at h
    cases ys with
    | nil => cases h
    | cons y ys =>
      have h : (decide (x.1 = y.1) && sameD x.2 y.2 && sameT xs ys) = true := h
      simp only [Bool.and_eq_true, decide_eq_true_eq] at h
      obtain ⟨⟨h1, h2⟩, h3⟩ := h
      rw [sameT_ok h3, show x = y from Prod.ext h1 (sameD_ok h2)]
def tabIn (kt : List (Str × List (Str × D))) (g : Str) (tab : List (Str × D)) : Bool := kt.any fun p => decide (p.1 = g) && sameT p.2 tab
theorem tabIn_ok {kt : List (Str × List (Str × D))} {g : Str} {tab : List (Str × D)} (h : tabIn kt g tab = true) : (g, tab) ∈ kt := by
  obtain ⟨p, hp, e⟩ := List.any_eq_true.mp h
  simp only [Bool.and_eq_true, decide_eq_true_eq] at e
  have : p = (g, tab) := Prod.ext e.1 (sameT_ok e.2)
  rw [← this]; exact hp
def visB (c : CC) (x : Str) : Bool := match c.sc.names.lookup x with
  | some .local => true
  | some .cell => true
  | some .free => true
  | _ => false
def locB (c : CC) (x : Str) : Bool := match c.sc.names.lookup x with
  | some .local => true
  | some .cell => true
  | _ => false
def glB (c : CC) (x : Str) : Bool := (match c.sc.names.lookup x with
  | some .globalImplicit => true
  | _ => false) && !(x == ("__debug__" : Str))
def frE : E → Bool
  | .dsp _ _ => true
  | .bin _ _ _ => true
  | .sl _ _ _ => true
  | .rev _ => true
  | .bi _ _ => true
  | .comp _ _ _ _ _ => true
  | .comp2 _ _ _ _ _ _ _ _ => true
  | _ => false
def plainT : Expr → Bool
  | .UnaryOp .Not _ _ => false
  | .BoolOp _ _ _ => false
  | .IfExp _ _ _ _ => false
  | .Compare _ _ _ _ => false
  | _ => true
def noSet : Expr → Bool
  | .Set _ _ _ => false
  | _ => true
def isTup : Expr → Bool
  | .Tuple _ _ _ => true
  | _ => false
def pairing : I → Bool
  | .enum _ => true
  | .zip _ _ => true
  | _ => false
def biName : Bi → Str
  | .len => "len"
  | .int => "int"
  | .abs => "abs"
  | .max => "max"
  | .min => "min"
  | .all => "all"
  | .any => "any"
  | .sum => "sum"
  | .tuple => "tuple"
  | .list => "list"
  | .repr => "repr"
  | .isinst _ => "isinstance"
  | .lrange => "list"
  | .tvals => "tuple"
  | .sumL => "sum"
def tyStr : Ty → Str
  | .int => "int"
  | .bool => "bool"
  | .str => "str"
  | .tuple => "tuple"
  | .list => "list"
  | .dict => "dict"
def biNames : List Str := ["len", "int", "abs", "max", "min", "all", "any", "sum", "tuple", "list", "repr", "isinstance", "range", "enumerate", "zip", "bool", "str", "dict"]
def ownPairs (c : CC) (own : List Nat) : List (Str × Nat) := own.filterMap fun i => (c.N[i]?).map fun x => (x, i)
mutual
def chkE : E → CC → Expr → Bool
  | .non, c, x => match x with
    | .Constant .none _ _ => true
    | _ => false
  | .bl b, c, x => match x with
    | .Constant (.bool b') _ _ => decide (b' = b)
    | _ => false
  | .int i, c, x => match x with
    | .Constant (.int j) _ _ => decide (j = i)
    | _ => false
  | .str s, c, x => match x with
    | .Constant (.str t) _ _ => decide (t = s)
    | _ => false
  | .var i, c, x => match x with
    | .Name y _ => decide (c.N[i]? = some y) && visB c y && !(y == ("__debug__" : Str)) && !(y == ("__classdict__" : Str))
    | _ => false
  | .glob g, c, x => match x with
    | .Name y _ => decide (y = g) && glB c y
    | _ => false
  | .bin o a b, c, x => match x with
    | .BinOp l op r _ => decide (op = opOf o) && chkE a c l && chkE b c r
    | _ => false
  | .neg a, c, x => match x with
    | .UnaryOp .USub y _ => chkE a c y
    | _ => false
  | .not a, c, x => match x with
    | .UnaryOp .Not y _ => chkE a c y
    | _ => false
  | .cmp o a b, c, x => match x with
    | .Compare l [op] [r] _ => decide (op = copOf o) && decide (behindInMarks (copOf o) r = false) && chkE a c l && chkE b c r
    | _ => false
  | .chain o p a b d, c, x => match x with
    | .Compare l [op, op2] [m, r] _ => decide (op = copOf o) && decide (op2 = copOf p) && decide (lastMarks [copOf o, copOf p] [m, r] = false) && chkE a c l && chkE b c m && chkE d c r
    | _ => false
  | .and a b, c, x => match x with
    | .BoolOp .And (p :: q :: rest) pos => chkE a c p && (match rest with
      | [] => chkE b c q
      | r :: rs => chkE b c (.BoolOp .And (q :: r :: rs) pos))
    | _ => false
  | .or a b, c, x => match x with
    | .BoolOp .Or (p :: q :: rest) pos => chkE a c p && (match rest with
      | [] => chkE b c q
      | r :: rs => chkE b c (.BoolOp .Or (q :: r :: rs) pos))
    | _ => false
  | .ife t a b, c, x => match x with
    | .IfExp u v w _ => chkE t c u && chkE a c v && chkE b c w
    | _ => false
  | .tup st es, c, x => match x with
    | .Tuple xs _ _ => chkL es st c xs
    | _ => false
  | .dsp st es, c, x => match x with
    | .List xs _ => chkL es st c xs
    | _ => false
  | .mut e, c, x => frE e && plainT x && chkE e c x
  | .dct, c, x => match x with
    | .Dict [] [] _ => true
    | _ => false
  | .ix a i, c, x => match x with
    | .Subscript y z _ => noSlice z && chkE a c y && chkE i c z
    | _ => false
  | .sl a lo hi, c, x => match x with
    | .Subscript y (.Slice l h none _) _ => chkE a c y && chkO lo c l && chkO hi c h
    | _ => false
  | .rev a, c, x => match x with
    | .Subscript y (.Slice none none (some (.UnaryOp .USub (.Constant (.int i) _ _) _)) _) _ => decide (i = 1) && chkE a c y
    | _ => false
  | .call f args ks kws pm, c, x => match x with
    | .Call (.Name y _) xs ws _ => decide (y = f) && glB c y && xs.all noStar && decide (ws.map (·.arg) = ks.map some) && decide ((f, args.length, ks, pm) ∈ c.ct) && decide (kws.length = ks.length) && chkL args [] c xs && chkK kws c ws
    | _ => false
  | .bi b args, c, x => match b with
    | .isinst t => match args, x with
      | [a], .Call (.Name y _) [z, .Name u _] [] _ => decide (y = biName b) && glB c y && decide (u = tyStr t) && glB c u && noStar z && chkE a c z
      | _, _ => false
    | .tvals => match args, x with
      | [a], .Call (.Name y _) [.Call (.Attribute z nm apos) [] [] mpos] [] _ => decide (y = biName b) && glB c y && decide (nm = ("values" : Str)) && baseOk z && (apos.endLine == mpos.line) && chkE a c z
      | _, _ => false
    | .lrange => match x with
      | .Call (.Name y _) [.Call (.Name u _) (z :: zs) [] _] [] _ => decide (y = biName b) && glB c y && decide (u = ("range" : Str)) && glB c u && (z :: zs).all noStar && chkL args [] c (z :: zs)
      | _ => false
    | _ => match x with
      | .Call (.Name y _) (z :: zs) [] _ => decide (y = biName b) && glB c y && (z :: zs).all noStar && chkL args [] c (z :: zs)
      | _ => false
  | .me m o args, c, x => match x with
    | .Call (.Attribute y nm apos) xs [] cpos => decide (nm = meName m) && baseOk y && (apos.endLine == cpos.line) && xs.all noStar && decide (xs.length < 30) && chkE o c y && chkL args [] c xs
    | _ => false
  | .comp own elt tg it ifs, c, x => match x with
    | .ListComp y [⟨t, iter, fs, n⟩] scope _ => decide (n = 0) && blkC c.N c.sc scope (ownPairs c own) && decide ((ownPairs c own).map (·.2) = own) && chkI it c iter && noSet iter && (!pairing it || isTup t) && ((tvs tg).all fun j => decide (j ∈ own)) &&
      chkT tg { c with sc := scope } t && chkIfs ifs { c with sc := scope } fs && chkE elt { c with sc := scope } y
    | _ => false
  | .comp2 own elt tg it ifs tg1 it1 ifs1, c, x => match x with
    | .ListComp y [⟨t, iter, fs, n⟩, ⟨t1, iter1, fs1, n1⟩] scope _ => decide (n = 0) && decide (n1 = 0) && blkC c.N c.sc scope (ownPairs c own) && decide ((ownPairs c own).map (·.2) = own) && chkI it c iter && noSet iter && (!pairing it || isTup t) && ((tvs tg).all fun j => decide (j ∈ own)) &&
      chkT tg { c with sc := scope } t && chkIfs ifs { c with sc := scope } fs && chkI it1 { c with sc := scope } iter1 && noSet iter1 && (!pairing it1 || isTup t1) && ((tvs tg1).all fun j => decide (j ∈ own)) && chkT tg1 { c with sc := scope } t1 && chkIfs ifs1 { c with sc := scope } fs1 && chkE elt { c with sc := scope } y
    | _ => false
  | .gix g tab i, c, x => match x with
    | .Subscript (.Name y _) z _ => decide (y = g) && glB c y && tabIn c.kt g tab && noSlice z && chkE i c z
    | _ => false
def chkO : Option E → CC → Option Expr → Bool
  | none, _, x => match x with
    | none => true
    | _ => false
  | some e, c, x => match x with
    | some y => chkE e c y
    | none => false
def chkL : List E → List Bool → CC → List Expr → Bool
  | [], _, _, xs => match xs with
    | [] => true
    | _ => false
  | e :: es, st, c, xs => match xs with
    | [] => false
    | x :: xs => (if st.head? = some true then (match x with
        | .Starred y _ => chkE e c y
        | _ => false) else noStar x && chkE e c x) && chkL es st.tail c xs
def chkK : List E → CC → List Keyword → Bool
  | [], _, ws => match ws with
    | [] => true
    | _ => false
  | e :: es, c, ws => match ws with
    | ⟨_, x, _⟩ :: ws => chkE e c x && chkK es c ws
    | _ => false
def chkIfs : List E → CC → List Expr → Bool
  | [], _, xs => match xs with
    | [] => true
    | _ => false
  | e :: es, c, xs => match xs with
    | [x] => chkE e c x && chkIfs es c []
    | _ => false
def chkI : I → CC → Expr → Bool
  | .seq e, c, x => chkE e c x
  | .range1 a, c, x => match x with
    | .Call (.Name y _) [z] [] _ => decide (y = ("range" : Str)) && glB c y && noStar z && chkE a c z
    | _ => false
  | .range2 a b, c, x => match x with
    | .Call (.Name y _) [z, w] [] _ => decide (y = ("range" : Str)) && glB c y && noStar z && noStar w && chkE a c z && chkE b c w
    | _ => false
  | .range3 _ _ _, _, _ => false
  | .enum a, c, x => match x with
    | .Call (.Name y _) [z] [] _ => decide (y = ("enumerate" : Str)) && glB c y && noStar z && chkE a c z
    | _ => false
  | .zip a b, c, x => match x with
    | .Call (.Name y _) [z, w] [] _ => decide (y = ("zip" : Str)) && glB c y && noStar z && noStar w && chkE a c z && chkE b c w
    | _ => false
def chkT : T → CC → Expr → Bool
  | .var i, c, x => match x with
    | .Name y _ => decide (c.N[i]? = some y) && locB c y
    | _ => false
  | .tup ts, c, x => match x with
    | .Tuple xs _ _ => decide (xs.length = ts.length) && xs.all noStar && chkTs ts c xs
    | _ => false
  | .sub o i, c, x => match x with
    | .Subscript y z _ => noSlice z && chkE o c y && chkE i c z
    | _ => false
def chkTs : List T → CC → List Expr → Bool
  | [], _, xs => match xs with
    | [] => true
    | _ => false
  | t :: ts, c, xs => match xs with
    | x :: xs => chkT t c x && chkTs ts c xs
    | [] => false
end
end PD


namespace PD
open PySem PySem.Spec L2
open PyProof.Rows hiding St
/-! ### the checker is right -/
/-- a table of the module -/
def TabOk (K : PySem.W.Frag) (mg : Str → Option Value) (w : World) (p : Str × List (Str × D)) : Prop := ∃ a es n, mg p.1 = some (.ref a) ∧ KDict K w a es n ∧ ∀ q ∈ p.2, ∃ u v, PySem.W.nsIn K a q.1 = some (some u) ∧ RelV v u ∧ ∀ μ n H, Rep K mg μ n H q.2 v
structure XOk (X : Cx) (c : CC) (C : Str → List D → M D) (G : Str → Option D) (k : Nat) : Prop where
  calm : X.calm = true
  nd : X.N.Nodup
  nN : X.N = c.N
  kind : X.env.scope.kind = .function
  sc : ∀ x kd, c.sc.names.lookup x = some kd → ∃ kd', X.env.scope.names.lookup x = some kd' ∧ (kd' = kd ∨ (kd = .free ∧ kd' = .cell))
  fnc : ∀ x, c.sc.names.lookup x = some .cell → X.fn x = true
  room : Room k X.A
  gd : X.A.guards = some []
  bn : ∀ x, x ∈ biNames → X.mg x = none
  gl : ∀ x d, G x = some d → ∃ v u, X.mg x = some u ∧ RelV v u ∧ ∀ μ n H, Rep X.K X.mg μ n H d v
  cal : ∀ p, p ∈ c.ct → ∃ fa fd ps, X.mg p.1 = some (.ref fa) ∧ PySem.W.keepIn X.K (.ref fa) = true ∧ Fn X.prog X.w X.K X.mg X.base k fa fd ps (C p.1) ∧ KB X.K fd ps p.2.1 p.2.2.1 p.2.2.2
  kd : ∀ p, p ∈ c.kt → TabOk X.K X.mg X.w p
theorem lookup_relS' {sc : Scope} : ∀ {names : List (Str × NameKind)} {x : Str} {k : NameKind}, names.lookup x = some k →
    ∃ k', (names.map fun (n, k) => if (k == NameKind.free && sc.kind == .function && sc.names.lookup n == some .cell) then (n, NameKind.cell) else (n, k)).lookup x = some k' ∧ (k' = k ∨ (k = .free ∧ k' = .cell))
  | [], _, _, h => by simp at h
  | (n, k₀) :: r, x, k, h => by
    have ih := @lookup_relS' sc r x k
    show ∃ k', List.lookup x ((if (k₀ == NameKind.free && sc.kind == .function && sc.names.lookup n == some .cell) = true then (n, NameKind.cell) else (n, k₀)) :: (r.map _)) = some k' ∧ _
    cases hx : x == n with
    | true =>
      simp only [List.lookup_cons, hx] at h
      cases h
      by_cases hc : (k₀ == NameKind.free && sc.kind == .function && sc.names.lookup n == some .cell) = true
      · rw [if_pos hc]
        simp only [List.lookup_cons, hx]
        simp only [Bool.and_eq_true, beq_iff_eq] at hc
        exact ⟨_, rfl, .inr ⟨hc.1.1, rfl⟩⟩
      · rw [if_neg hc]
        simp only [List.lookup_cons, hx]
        exact ⟨_, rfl, .inl rfl⟩
    | false =>
      simp only [List.lookup_cons, hx] at h
      by_cases hc : (k₀ == NameKind.free && sc.kind == .function && sc.names.lookup n == some .cell) = true
      · rw [if_pos hc]
        simp only [List.lookup_cons, hx]
        exact ih h
      · rw [if_neg hc]
        simp only [List.lookup_cons, hx]
        exact ih h
section
variable {X : Cx} {c : CC} {C : Str → List D → M D} {G : Str → Option D} {k : Nat}
theorem XOk.u65 (o : XOk X c C G k) : X.A.units + 65 < cLine := by have := o.room.un; omega
theorem XOk.u66 (o : XOk X c C G k) : X.A.units + 66 < cLine := by have := o.room.un; omega
theorem XOk.u1 (o : XOk X c C G k) : X.A.units + 1 < cLine := by have := o.room.un; omega
theorem XOk.vis (o : XOk X c C G k) {x : Str} (h : visB c x = true) : Vis X.env.scope x := by
  unfold visB at h
  cases q : c.sc.names.lookup x with
  | none => rw [q] at h; cases h
  | some kd =>
    rw [q] at h
    obtain ⟨kd', h1, h2⟩ := o.sc x kd q
    unfold Vis
    rcases h2 with rfl | ⟨rfl, rfl⟩
    · cases kd' with
      | «local» => exact .inl h1
      | cell => exact .inr (.inl h1)
      | free => exact .inr (.inr h1)
      | _ => cases h
    · exact .inr (.inl h1)
theorem XOk.loc (o : XOk X c C G k) {x : Str} (h : locB c x = true) : Loc X.env.scope x ∧ (X.fn x = true ∨ X.env.scope.names.lookup x = some .local) := by
  unfold locB at h
  cases q : c.sc.names.lookup x with
  | none => rw [q] at h; cases h
  | some kd =>
    rw [q] at h
    obtain ⟨kd', h1, h2⟩ := o.sc x kd q
    unfold L2.Loc
    cases kd with
    | «local» =>
      rcases h2 with rfl | ⟨h2, _⟩
      · exact ⟨.inl h1, .inr h1⟩
      · cases h2
    | cell =>
      rcases h2 with rfl | ⟨h2, _⟩
      · exact ⟨.inr h1, .inl (o.fnc x q)⟩
      · cases h2
    | _ => cases h
theorem XOk.gl' (o : XOk X c C G k) {x : Str} (h : glB c x = true) : Gl X x ∧ (x == ("__debug__" : Str)) = false := by
  unfold glB at h
  rw [Bool.and_eq_true] at h
  obtain ⟨h, h'⟩ := h
  refine ⟨?_, by simpa using h'⟩
  cases q : c.sc.names.lookup x with
  | none => rw [q] at h; cases h
  | some kd =>
    rw [q] at h
    obtain ⟨kd', h1, h2⟩ := o.sc x kd q
    cases kd with
    | globalImplicit =>
      rcases h2 with rfl | ⟨h2, _⟩
      · exact h1
      · cases h2
    | _ => cases h
theorem blkOk (o : XOk X c C G k) {scope : Scope} {own : List (Str × Nat)} (h : blkC c.N c.sc scope own = true) : BlkOk X.N X.env.scope scope own := by
  have b := blkOk_by h
  rw [← o.nN] at b
  refine ⟨b.kind, b.uniq, b.ix, fun y hy e => ?_, b.own⟩
  rcases b.free y hy e with q | q
  · obtain ⟨kd', h1, h2⟩ := o.sc _ _ q
    rcases h2 with rfl | ⟨h2, _⟩
    · exact .inl h1
    · cases h2
  · obtain ⟨kd', h1, h2⟩ := o.sc _ _ q
    rcases h2 with rfl | ⟨_, rfl⟩
    · exact .inr h1
    · exact .inl h1
theorem XOk.blk (o : XOk X c C G k) {scope : Scope} {own : List (Str × Nat)} (h : blkC c.N c.sc scope own = true) (s : Shared) (H : Hp) (Cc : Addr) (cl : List (Str × Addr)) (fp : List Addr) :
    XOk (X.blk s H scope (compEnvC scope cl Cc X.env) fp) { c with sc := scope } C G k := by
  have b := blkOk_by h
  refine ⟨o.calm, o.nd, o.nN, b.kind, fun x kd e => ?_, fun x e => ?_, o.room, o.gd, o.bn, o.gl, o.cal, o.kd⟩
  · exact lookup_relS' e
  · show (scope.names.lookup x == some .cell) = true
    have e : scope.names.lookup x = some .cell := e
    rw [e]; rfl
theorem plainT_ok {e : Expr} (h : plainT e = true) (env : PySem.Env) (whole : Sem Value) : isTrue e env whole = (do let v ← whole; standAt e.pos; holding [v] (truthy v)) := by
  cases e with
  | UnaryOp op y p => cases op <;> first | rfl | cases h
  | _ => first | rfl | cases h
theorem noSet_ok {e : Expr} (h : noSet e = true) (env : PySem.Env) (x : Value) : foldedSetIterable e env x = pure x := by
  cases e <;> first | rfl | cases h
theorem pt_ifeD {a b d : Expr} {f g k : Env → M D} {pos : Pos} (ht : PT X a (tT X.K X.mg (tst f))) (hb : PT X b (tT X.K X.mg (tst g))) (hc : PT X d (tT X.K X.mg (tst k))) :
    PT X (.IfExp a b d pos) (tT X.K X.mg (tst fun ρ => .bind (f ρ) fun x => .bind (.look fun h => truth h x) fun r => if r = true then g ρ else k ρ)) := by
  refine ⟨fun pins s σ H Q I h => ?_⟩
  obtain ⟨μ, ρ, h, bb, h', gd, sl, e, q⟩ := h
  obtain ⟨z, h0, e0, ez⟩ := M.bind_eq e
  obtain ⟨x, h1, e1, e2⟩ := M.bind_eq e0
  obtain ⟨t, h2, e3, e4⟩ := M.bind_eq e2
  show wpAny _ _ (do if ← isTrue a X.env (eval a X.env) then isTrue b X.env (eval b X.env) else isTrue d X.env (eval d X.env)) _ _ s
  refine wpAny_bind (thn (ht.run pins s σ H (fun b H1 => b = t ∧ ∃ μ1, Step X.K μ h.length H μ1 h2.length H1 ∧ Good X.K X.mg μ1 h2 H1) I ⟨μ, ρ, h, t, h2, gd, sl, bind_run e1 e3, fun μ1 H1 s1 g1 => ⟨rfl, μ1, s1, g1⟩⟩) fun r s1 ⟨H1, I1, er, μ1, s1', g1⟩ => ?_)
  subst er
  by_cases w : r = true
  · rw [if_pos w] at e4 ⊢
    exact hb.run pins s1 σ H1 Q I1 ⟨μ1, ρ, h2, bb, h', g1, sl.step s1', bind_run e4 ez, fun μ2 H2 s2 g2 => q μ2 H2 (s1'.trans s2) g2⟩
  · rw [if_neg w] at e4 ⊢
    exact hc.run pins s1 σ H1 Q I1 ⟨μ1, ρ, h2, bb, h', g1, sl.step s1', bind_run e4 ez, fun μ2 H2 s2 g2 => q μ2 H2 (s1'.trans s2) g2⟩
/-- weaker computations -/
theorem pe_mono {e : Expr} {fr : Bool} {f f' : Env → M D} (h : PE X e (tD fr X.K X.mg f)) (i : ∀ ρ h r, f' ρ h = some r → f ρ h = some r) : PE X e (tD fr X.K X.mg f') := peImp h fun σ H Q q => by
  obtain ⟨μ, ρ, h, d, h', gd, sl, e, q⟩ := q
  exact ⟨μ, ρ, h, d, h', gd, sl, i _ _ _ e, q⟩
theorem pg_mono {e : Expr} {tv tw : List Nat} {f f' : D → Env → M Env} (h : PG X e (gD X.K X.mg tv f)) (i : ∀ d ρ h r, f' d ρ h = some r → f d ρ h = some r) (hv : ∀ j ∈ tv, j ∈ tw) : PG X e (gD X.K X.mg tw f') := pgImp h fun v σ H Q q => by
  obtain ⟨μ, ρ, h, d, ρ', h', gd, sl, r, e, q⟩ := q
  exact ⟨μ, ρ, h, d, ρ', h', gd, sl, r, i _ _ _ _ e, fun μ' σ' H' s g l o => q μ' σ' H' s g l ⟨o.1, fun j hj => o.2 j fun w => hj (hv j w)⟩⟩
theorem pt_of {e : Expr} {fr : Bool} {f : Env → M D} (h : PE X e (tD fr X.K X.mg f)) (hp : plainT e = true) : PE X e (tD fr X.K X.mg f) ∧ PT X e (tT X.K X.mg (tst f)) := ⟨h, pt_plainD h fun w => plainT_ok hp _ w⟩
theorem pw_of {op : PySem.BoolOp} {es : List Expr} {p : Pos} {t : TT} (h : PT X (.BoolOp op es p) t) : PW X (.BoolOp op es p) t := ⟨fun w pins s σ H Q I q => h.run pins s σ H Q I q⟩
variable {B : Nat}
theorem evL_len : ∀ (es : List E) (ρ : Env) (h : MH) (xs : List D) (h' : MH), evL C G B es [] ρ h = some (xs, h') → xs.length = es.length
  | [], _, _, _, _, e => by cases e; rfl
  | e :: es, ρ, h, xs, h', q => by
    obtain ⟨x, h1, e1, e2⟩ := M.bind_eq (show M.bind (ev C G B e ρ) (fun x => .bind (spread none x) fun xs => .bind (evL C G B es [] ρ) fun ys => .ret (xs ++ ys)) h = some (xs, h') from q)
    obtain ⟨ys, h2, e3, e4⟩ := M.bind_eq e2
    obtain ⟨zs, h3, e5, e6⟩ := M.bind_eq e4
    have e3 : some ([x], h1) = some (ys, h2) := e3
    cases e3
    cases e6
    have := evL_len es ρ _ _ _ e5
    simp [this]
theorem bi_ok (o : XOk X c C G k) (b : Bi) (hb : ∀ t, b ≠ .isinst t) (hb2 : b ≠ .lrange) (hb3 : b ≠ .tvals) {x : Str} {z : Expr} {zs : List Expr} {p pos : Pos} {g : Env → M (List D)} (hx : x = biName b) (hg : glB c x = true) (hns : (z :: zs).all noStar = true) (ha : PA X (z :: zs) (tL X.K X.mg g)) :
    PE X (.Call (.Name x p) (z :: zs) [] pos) (tD true X.K X.mg fun ρ => .bind (g ρ) fun xs => .look (biop b xs)) := by
  obtain ⟨g1, g2⟩ := o.gl' hg
  subst hx
  cases b with
  | isinst t => exact absurd rfl (hb t)
  | lrange => exact absurd rfl hb2
  | tvals => exact absurd rfl hb3
  | sumL => exact pe_biD (b_sumL o.calm) g1 (o.bn _ (by decide)) (by decide +kernel) (by decide) g2 hns ha
  | len => exact pe_biD b_len g1 (o.bn _ (by decide)) (by decide +kernel) (by decide) g2 hns ha
  | int => exact pe_tyD b_int g1 (o.bn _ (by decide)) (by decide +kernel) (by decide) g2 hns ha
  | abs => exact pe_biD b_abs g1 (o.bn _ (by decide)) (by decide +kernel) (by decide) g2 hns ha
  | max => exact pe_biD (b_max o.calm) g1 (o.bn _ (by decide)) (by decide +kernel) (by decide) g2 hns ha
  | min => exact pe_biD (b_min o.calm) g1 (o.bn _ (by decide)) (by decide +kernel) (by decide) g2 hns ha
  | all => exact pe_biD (b_all o.calm) g1 (o.bn _ (by decide)) (by decide +kernel) (by decide) g2 hns ha
  | any => exact pe_biD (b_any o.calm) g1 (o.bn _ (by decide)) (by decide +kernel) (by decide) g2 hns ha
  | sum => exact pe_biD (b_sum o.calm) g1 (o.bn _ (by decide)) (by decide +kernel) (by decide) g2 hns ha
  | tuple => exact pe_tyD b_tuple g1 (o.bn _ (by decide)) (by decide +kernel) (by decide) g2 hns ha
  | list => exact pe_tyD b_list g1 (o.bn _ (by decide)) (by decide +kernel) (by decide) g2 hns ha
  | repr => exact pe_biD (b_repr o.gd o.u66) g1 (o.bn _ (by decide)) (by decide +kernel) (by decide) g2 hns ha
theorem ty_bn (t : Ty) : tyStr t ∈ biNames := by cases t <;> decide
theorem ty_boot (t : Ty) : bootBuiltins (tyStr t) = some (.type (tyName t)) := by cases t <;> decide +kernel
theorem ty_nn (t : Ty) : tyStr t ≠ "__name__" := by cases t <;> decide
theorem own_map {own : List Nat} (h : (ownPairs c own).map (·.2) = own) : ∀ j, j ∈ own → j ∈ (ownPairs c own).map (·.2) := fun j hj => by rw [h]; exact hj
end
end PD


namespace PD
open PySem PySem.Spec L2
open PyProof.Rows hiding St
theorem nst' : ∀ e : Expr, noStar e = true → (match e with | .Starred _ _ => false | _ => true) = true := fun e h => by cases e <;> first | rfl | cases h
theorem nst {e : Expr} : noStar e = true → (match e with | .Starred _ _ => false | _ => true) = true := nst' e
structure PED (X : Cx) (e : Expr) (fr : Bool) (f : Env → M D) : Prop where
  pe : PE X e (tD fr X.K X.mg f)
  pt : PT X e (tT X.K X.mg (tst f))
section
variable {X : Cx} {e : Expr} {fr fr' : Bool} {f : Env → M D}
theorem PED.of (h : PE X e (tD fr X.K X.mg f)) (hp : plainT e = true) : PED X e fr f := ⟨h, (pt_of h hp).2⟩
end
section
variable {C : Str → List D → M D} {G : Str → Option D} {k B : Nat}
mutual
theorem chkE_ok : ∀ (e : E) (c : CC) (x : Expr) (X : Cx), XOk X c C G k → chkE e c x = true → PED X x (frE e) (ev C G B e)
  | .non, c, x, X, o, h => by
    unfold chkE at h; split at h
    · exact .of (pe_cstD pe_non fun _ _ _ => .non) rfl
    · cases h
  | .bl b, c, x, X, o, h => by
    unfold chkE at h; split at h
    · have := of_decide_eq_true h; subst this
      exact .of (pe_cstD pe_bl fun _ _ _ => .bl _) rfl
    · cases h
  | .int i, c, x, X, o, h => by
    unfold chkE at h; split at h
    · have := of_decide_eq_true h; subst this
      exact .of (pe_cstD pe_int fun _ _ _ => .int _) rfl
    · cases h
  | .str s, c, x, X, o, h => by
    unfold chkE at h; split at h
    · have := of_decide_eq_true h; subst this
      exact .of (pe_cstD pe_str fun _ _ _ => .str _) rfl
    · cases h
  | .var i, c, x, X, o, h => by
    unfold chkE at h; split at h
    · simp only [Bool.and_eq_true, decide_eq_true_eq, Bool.not_eq_true'] at h
      obtain ⟨⟨⟨h1, h2⟩, h3⟩, h4⟩ := h
      exact .of (pe_varD (pe_var (by rw [o.nN]; exact h1) (o.vis h2) h3 h4)) rfl
    · cases h
  | .glob g, c, x, X, o, h => by
    unfold chkE at h; split at h
    · simp only [Bool.and_eq_true, decide_eq_true_eq] at h
      obtain ⟨h1, h2⟩ := h
      subst h1
      obtain ⟨g1, g2⟩ := o.gl' h2
      refine .of ⟨fun pins s σ H Q I hq => ?_⟩ rfl
      obtain ⟨μ, ρ, h, d, h', gd, sl, e, q⟩ := hq
      obtain ⟨e1, e2⟩ := M.of_eq e
      cases e2
      obtain ⟨v, u, m1, rv, rr⟩ := o.gl _ _ e1
      exact (pe_glob (v := v) g1 m1 rv g2).run pins s σ H Q I (q μ v H Step.refl gd (rr _ _ _) nofun)
    · cases h
  | .bin p a b, c, x, X, o, h => by
    unfold chkE at h; split at h
    · simp only [Bool.and_eq_true, decide_eq_true_eq] at h
      obtain ⟨⟨h1, h2⟩, h3⟩ := h
      subst h1
      exact .of (pe_binD (op_D p) (chkE_ok a c _ X o h2).pe (chkE_ok b c _ X o h3).pe) rfl
    · cases h
  | .neg a, c, x, X, o, h => by
    unfold chkE at h; split at h
    · exact .of (pe_negD (chkE_ok a c _ X o h).pe) rfl
    · cases h
  | .not a, c, x, X, o, h => by
    unfold chkE at h; split at h
    · exact ⟨pe_notD (chkE_ok a c _ X o h).pe, pt_notD (chkE_ok a c _ X o h).pt⟩
    · cases h
  | .cmp p a b, c, x, X, o, h => by
    unfold chkE at h; split at h
    · simp only [Bool.and_eq_true, decide_eq_true_eq] at h
      obtain ⟨⟨⟨h1, h0⟩, h2⟩, h3⟩ := h
      subst h1
      exact ⟨pe_cmpD o.u65 h0 (chkE_ok a c _ X o h2).pe (chkE_ok b c _ X o h3).pe, pt_cmpD o.u65 h0 (chkE_ok a c _ X o h2).pe (chkE_ok b c _ X o h3).pe⟩
    · cases h
  | .chain p p2 a b d, c, x, X, o, h => by
    unfold chkE at h; split at h
    · simp only [Bool.and_eq_true, decide_eq_true_eq] at h
      obtain ⟨⟨⟨⟨⟨h1, h0⟩, hm⟩, h2⟩, h3⟩, h4⟩ := h
      subst h1 h0
      exact ⟨pe_chainD o.u65 hm (chkE_ok a c _ X o h2).pe (chkE_ok b c _ X o h3).pe (chkE_ok d c _ X o h4).pe, pt_chainD o.u65 hm (chkE_ok a c _ X o h2).pe (chkE_ok b c _ X o h3).pe (chkE_ok d c _ X o h4).pe⟩
    · cases h
  | .and a b, c, x, X, o, h => by
    unfold chkE at h; split at h
    · simp only [Bool.and_eq_true] at h
      obtain ⟨h1, h2⟩ := h
      have i1 := chkE_ok a c _ X o h1
      split at h2
      · have i2 := chkE_ok b c _ X o h2
        exact ⟨pe_andD i1.pe (pe_one i2.pe), (pw_andD i1.pt (pw_and1 i2.pt)).pt⟩
      · have i2 := chkE_ok b c _ X o h2
        exact ⟨pe_andD i1.pe i2.pe, (pw_andD i1.pt (pw_of i2.pt)).pt⟩
    · cases h
  | .or a b, c, x, X, o, h => by
    unfold chkE at h; split at h
    · simp only [Bool.and_eq_true] at h
      obtain ⟨h1, h2⟩ := h
      have i1 := chkE_ok a c _ X o h1
      split at h2
      · have i2 := chkE_ok b c _ X o h2
        exact ⟨pe_orD i1.pe (pe_one i2.pe), (pw_orD i1.pt (pw_or1 i2.pt)).pt⟩
      · have i2 := chkE_ok b c _ X o h2
        exact ⟨pe_orD i1.pe i2.pe, (pw_orD i1.pt (pw_of i2.pt)).pt⟩
    · cases h
  | .ife t a b, c, x, X, o, h => by
    unfold chkE at h; split at h
    · simp only [Bool.and_eq_true] at h
      obtain ⟨⟨h1, h2⟩, h3⟩ := h
      exact ⟨pe_ifeD (chkE_ok t c _ X o h1).pt (chkE_ok a c _ X o h2).pe (chkE_ok b c _ X o h3).pe, pt_ifeD (chkE_ok t c _ X o h1).pt (chkE_ok a c _ X o h2).pt (chkE_ok b c _ X o h3).pt⟩
    · cases h
  | .tup st es, c, x, X, o, h => by
    unfold chkE at h; split at h
    · exact .of (pe_tupD (chkL_ok es st c _ X o h)) rfl
    · cases h
  | .dsp st es, c, x, X, o, h => by
    unfold chkE at h; split at h
    · exact .of (pe_dspD (chkL_ok es st c _ X o h)) rfl
    · cases h
  | .mut e, c, x, X, o, h => by
    unfold chkE at h
    simp only [Bool.and_eq_true] at h
    obtain ⟨⟨h1, h2⟩, h3⟩ := h
    have i := (chkE_ok e c _ X o h3).pe
    rw [h1] at i
    exact .of (pe_mutD i) h2
  | .dct, c, x, X, o, h => by
    unfold chkE at h; split at h
    · exact .of pe_dctD rfl
    · cases h
  | .ix a i, c, x, X, o, h => by
    unfold chkE at h; split at h
    · simp only [Bool.and_eq_true] at h
      obtain ⟨⟨h1, h2⟩, h3⟩ := h
      exact .of (pe_ixD o.u1 h1 (chkE_ok a c _ X o h2).pe (chkE_ok i c _ X o h3).pe) rfl
    · cases h
  | .sl a lo hi, c, x, X, o, h => by
    unfold chkE at h; split at h
    · simp only [Bool.and_eq_true] at h
      obtain ⟨⟨h1, h2⟩, h3⟩ := h
      exact .of (pe_slD (chkE_ok a c _ X o h1).pe (chkO_ok lo c _ X o h2) (chkO_ok hi c _ X o h3)) rfl
    · cases h
  | .rev a, c, x, X, o, h => by
    unfold chkE at h; split at h
    · simp only [Bool.and_eq_true, decide_eq_true_eq] at h
      obtain ⟨h1, h2⟩ := h
      subst h1
      exact .of (pe_revD (chkE_ok a c _ X o h2).pe) rfl
    · cases h
  | .call f args ks kws pm, c, x, X, o, h => by
    unfold chkE at h; split at h
    · simp only [Bool.and_eq_true, decide_eq_true_eq] at h
      obtain ⟨⟨⟨⟨⟨⟨⟨h1, h2⟩, h3⟩, h4⟩, h5⟩, h6⟩, h7⟩, h8⟩ := h
      subst h1
      obtain ⟨g1, g2⟩ := o.gl' h2
      obtain ⟨fa, fd, ps, m1, kp, F, kb⟩ := o.cal _ h5
      refine .of (pe_callD F o.room o.gd g1 m1 kp kb (chkL_ok args [] c _ X o h7) (chkK_ok kws c _ X o h8) h3 h4 (fun ρ h xs h' e => evL_len _ _ _ _ _ e) (fun ρ h xs h' e => (evL_len _ _ _ _ _ e).trans h6) (fun z ρ => ?_) g2) rfl
      rw [z] at h7
      cases args with
      | nil => rfl
      | cons _ _ => unfold chkL at h7; cases h7
    · cases h
  | .bi b args, c, x, X, o, h => by
    cases b with
    | isinst t =>
      unfold chkE at h
      dsimp only at h
      split at h
      · rename_i a y p z u p2 pos
        simp only [Bool.and_eq_true, decide_eq_true_eq] at h
        obtain ⟨⟨⟨⟨⟨h1, h2⟩, h3⟩, h4⟩, h5⟩, h6⟩ := h
        subst h1 h3
        obtain ⟨g1, g2⟩ := o.gl' h2
        obtain ⟨g3, g4⟩ := o.gl' h4
        exact .of (pe_mono (pe_isinstD (t := t) g1 (o.bn _ (by decide)) g3 (o.bn _ (ty_bn t)) (ty_boot t) (ty_nn t) g4 h5 (chkE_ok a c _ X o h6).pe) fun ρ h r e => e) rfl
      · cases h
    | lrange =>
      unfold chkE at h
      dsimp only at h
      split at h
      · simp only [Bool.and_eq_true, decide_eq_true_eq] at h
        obtain ⟨⟨⟨⟨⟨h1, h2⟩, h3⟩, h4⟩, h5⟩, h6⟩ := h
        subst h1 h3
        obtain ⟨g1, g2⟩ := o.gl' h2
        obtain ⟨g3, g4⟩ := o.gl' h4
        exact .of (pe_lrangeD o.calm g1 (o.bn _ (by decide)) g3 (o.bn _ (by decide)) (by simpa using h5) (chkL_ok args [] c _ X o h6)) rfl
      · cases h
    | tvals =>
      unfold chkE at h
      dsimp only at h
      split at h
      · rename_i a y p z nm apos mpos pos
        simp only [Bool.and_eq_true, decide_eq_true_eq] at h
        obtain ⟨⟨⟨⟨⟨h1, h2⟩, h3⟩, h4⟩, h5⟩, h6⟩ := h
        subst h1 h3
        obtain ⟨g1, g2⟩ := o.gl' h2
        refine .of (pe_mono (pe_tvalsD o.calm g1 (o.bn _ (by decide)) h4 h5 (chkE_ok a c _ X o h6).pe) fun ρ h r e => ?_) rfl
        obtain ⟨xs, h1, e1, e2⟩ := M.bind_eq (show M.bind (evL C G B [a] [] ρ) (fun xs => .look (biop .tvals xs)) h = some r from e)
        obtain ⟨x, h2, e3, e4⟩ := M.bind_eq (show M.bind (ev C G B a ρ) (fun x => .bind (spread none x) fun xs => .bind (evL C G B [] [] ρ) fun ys => .ret (xs ++ ys)) h = some (xs, h1) from e1)
        cases e4
        exact bind_run e3 e2
      · cases h
    | _ =>
      unfold chkE at h
      dsimp only at h
      split at h
      · simp only [Bool.and_eq_true, decide_eq_true_eq] at h
        obtain ⟨⟨⟨h1, h2⟩, h3⟩, h4⟩ := h
        refine .of (bi_ok o _ ?_ ?_ ?_ h1 h2 h3 (chkL_ok args [] c _ X o h4)) rfl
        · exact nofun
        · exact nofun
        · exact nofun
      · cases h
  | .me m ob args, c, x, X, o, h => by
    unfold chkE at h; split at h
    · rename_i y nm apos xs cpos
      simp only [Bool.and_eq_true, decide_eq_true_eq] at h
      obtain ⟨⟨⟨⟨⟨⟨h1, h2⟩, h3⟩, h4⟩, h5⟩, h6⟩, h7⟩ := h
      subst h1
      have i := (chkE_ok ob c _ X o h6).pe
      have ia := chkL_ok args [] c _ X o h7
      have guard : ∀ (t : Ty) (x : D) (xs : List D) (h : MH) (r : D × MH), (if okput B x xs = true then meop t m x xs h else none) = some r → meop t m x xs h = some r := fun t x xs h r e => by
        by_cases z : okput B x xs = true
        · rw [if_pos z] at e; exact e
        · rw [if_neg z] at e; cases e
      cases xs with
      | nil =>
        refine .of (pe_mono (pe_me0D h2 h3 i) fun ρ h r e => ?_) rfl
        have ha : args = [] := by
          cases args with
          | nil => rfl
          | cons _ _ => unfold chkL at h7; cases h7
        subst ha
        obtain ⟨x, h1, e1, e2⟩ := M.bind_eq e
        obtain ⟨t, h2, e3, e4⟩ := M.bind_eq e2
        obtain ⟨ys, h3, e5, e6⟩ := M.bind_eq e4
        exact bind_run e1 (bind_run e3 (bind_run e5 (guard _ _ _ _ _ e6)))
      | cons y ys =>
        refine .of (pe_mono (pe_meD h2 h3 (by simpa using h4) h5 i ia) fun ρ h r e => ?_) rfl
        obtain ⟨x, h1, e1, e2⟩ := M.bind_eq e
        obtain ⟨t, h2, e3, e4⟩ := M.bind_eq e2
        obtain ⟨ys, h3, e5, e6⟩ := M.bind_eq e4
        exact bind_run e1 (bind_run e3 (bind_run e5 (guard _ _ _ _ _ e6)))
    · cases h
  | .comp own elt tg it ifs, c, x, X, o, h => by
    unfold chkE at h; split at h
    · simp only [Bool.and_eq_true, decide_eq_true_eq] at h
      obtain ⟨⟨⟨⟨⟨⟨⟨⟨⟨h0, h1⟩, h2⟩, h3⟩, h4⟩, h5⟩, h6⟩, h7⟩, h8⟩, h9⟩ := h
      subst h0
      have hv : ∀ j ∈ tvs tg, j ∈ (ownPairs c own).map (·.2) := fun j hj => own_map h2 j (of_decide_eq_true (List.all_eq_true.mp h6 j hj))
      have := pe_compD (pos := by assumption) (fe := frE elt) (own := ownPairs c own) o.calm o.nd (chkI_ok it c _ X o h3 _ h5) (blkOk o h1) hv
        (fun s H Cc cl fp => chkT_ok tg _ _ _ (o.blk h1 s H Cc cl fp) h7)
        (fun s H Cc cl fp => chkIfs_ok ifs _ _ _ (o.blk h1 s H Cc cl fp) h8)
        (fun s H Cc cl fp => (chkE_ok elt _ _ _ (o.blk h1 s H Cc cl fp) h9).pe)
        (noSet_ok h4 _)
      rw [h2] at this
      exact .of this rfl
    · cases h
  | .comp2 own elt tg it ifs tg1 it1 ifs1, c, x, X, o, h => by
    unfold chkE at h; split at h
    · simp only [Bool.and_eq_true, decide_eq_true_eq] at h
      obtain ⟨⟨⟨⟨⟨⟨⟨⟨⟨⟨⟨⟨⟨⟨⟨⟨h0, h0'⟩, h1⟩, h2⟩, h3⟩, h4⟩, h5⟩, h6⟩, h7⟩, h8⟩, g3⟩, g4⟩, g5⟩, g6⟩, g7⟩, g8⟩, h9⟩ := h
      subst h0 h0'
      have hv : ∀ j ∈ tvs tg, j ∈ (ownPairs c own).map (·.2) := fun j hj => own_map h2 j (of_decide_eq_true (List.all_eq_true.mp h6 j hj))
      have hv1 : ∀ j ∈ tvs tg1, j ∈ (ownPairs c own).map (·.2) := fun j hj => own_map h2 j (of_decide_eq_true (List.all_eq_true.mp g6 j hj))
      have := pe_comp2D (pos := by assumption) (fe := frE elt) (own := ownPairs c own) (vs1 := tvs tg1) o.calm o.nd (chkI_ok it c _ X o h3 _ h5) (blkOk o h1) hv (fun _ h => h) hv1
        (fun s H Cc cl fp => chkT_ok tg _ _ _ (o.blk h1 s H Cc cl fp) h7)
        (fun s H Cc cl fp => chkIfs_ok ifs _ _ _ (o.blk h1 s H Cc cl fp) h8)
        (fun s H Cc cl fp => chkI_ok it1 _ _ _ (o.blk h1 s H Cc cl fp) g3 _ g5)
        (fun s H Cc cl fp => chkT_ok tg1 _ _ _ (o.blk h1 s H Cc cl fp) g7)
        (fun s H Cc cl fp => chkIfs_ok ifs1 _ _ _ (o.blk h1 s H Cc cl fp) g8)
        (fun s H Cc cl fp => (chkE_ok elt _ _ _ (o.blk h1 s H Cc cl fp) h9).pe)
        (noSet_ok h4 _) (fun env x => noSet_ok g4 env x)
      rw [h2] at this
      exact .of this rfl
    · cases h
  | .gix g tab i, c, x, X, o, h => by
    unfold chkE at h; split at h
    · simp only [Bool.and_eq_true, decide_eq_true_eq] at h
      obtain ⟨⟨⟨⟨h1, h2⟩, h3⟩, h4⟩, h5⟩ := h
      subst h1
      obtain ⟨g1, g2⟩ := o.gl' h2
      obtain ⟨a, es, n, m1, kd, ht⟩ := o.kd _ (tabIn_ok h3)
      exact .of (pe_gixD kd g1 m1 g2 ht h4 (chkE_ok i c _ X o h5).pe) rfl
    · cases h
theorem chkO_ok : ∀ (e : Option E) (c : CC) (x : Option Expr) (X : Cx), XOk X c C G k → chkO e c x = true → POD X x (evO C G B e)
  | none, c, x, X, o, h => by
    unfold chkO at h; split at h
    · exact po_noneD
    · cases h
  | some e, c, x, X, o, h => by
    unfold chkO at h; split at h
    · exact po_someD (chkE_ok e c _ X o h).pe
    · cases h
theorem chkL_ok : ∀ (es : List E) (st : List Bool) (c : CC) (xs : List Expr) (X : Cx), XOk X c C G k → chkL es st c xs = true → PA X xs (tL X.K X.mg (evL C G B es st))
  | [], _, c, xs, X, o, h => by
    unfold chkL at h; split at h
    · exact pa_nilD
    · cases h
  | e :: es, st, c, xs, X, o, h => by
    unfold chkL at h; split at h
    · cases h
    · rw [Bool.and_eq_true] at h
      obtain ⟨h1, h2⟩ := h
      have ir := chkL_ok es st.tail c _ X o h2
      by_cases z : st.head? = some true
      · rw [if_pos z] at h1
        split at h1
        · have := pa_starD (p := by assumption) (chkE_ok e c _ X o h1).pe ir
          have ef : evL C G B (e :: es) st = fun ρ => .bind (ev C G B e ρ) fun x => .bind (.look fun h => items h x) fun xs => .bind (evL C G B es st.tail ρ) fun ys => .ret (xs ++ ys) := by
            funext ρ
            show M.bind (ev C G B e ρ) (fun x => .bind (spread st.head? x) fun xs => .bind (evL C G B es st.tail ρ) fun ys => .ret (xs ++ ys)) = _
            rw [z]
            rfl
          rw [ef]
          exact this
        · cases h1
      · rw [if_neg z, Bool.and_eq_true] at h1
        have := pa_consD h1.1 (chkE_ok e c _ X o h1.2).pe ir
        have ef : evL C G B (e :: es) st = fun ρ => .bind (ev C G B e ρ) fun x => .bind (evL C G B es st.tail ρ) fun ys => .ret (x :: ys) := by
          funext ρ
          show M.bind (ev C G B e ρ) (fun x => .bind (spread st.head? x) fun xs => .bind (evL C G B es st.tail ρ) fun ys => .ret (xs ++ ys)) = _
          unfold spread
          simp only [if_neg z]
          rfl
        rw [ef]
        exact this
theorem chkK_ok : ∀ (es : List E) (c : CC) (ws : List Keyword) (X : Cx), XOk X c C G k → chkK es c ws = true → PK X ws (tL X.K X.mg (evL C G B es []))
  | [], c, ws, X, o, h => by
    unfold chkK at h; split at h
    · exact pk_nilD
    · cases h
  | e :: es, c, ws, X, o, h => by
    unfold chkK at h; split at h
    · rw [Bool.and_eq_true] at h
      have := pk_consD (nm := by assumption) (kpos := by assumption) (chkE_ok e c _ X o h.1).pe (chkK_ok es c _ X o h.2)
      exact this
    · cases h
theorem chkIfs_ok : ∀ (es : List E) (c : CC) (xs : List Expr) (X : Cx), XOk X c C G k → chkIfs es c xs = true → PTs X xs (tT X.K X.mg (evIfs C G B es))
  | [], c, xs, X, o, h => by
    unfold chkIfs at h; split at h
    · refine ⟨fun pins s σ H Q I q => pts_nil.run pins s σ H Q I ?_⟩
      obtain ⟨μ, ρ, h, b, h', gd, sl, e, q⟩ := q
      cases e
      exact q μ H Step.refl gd
    · cases h
  | e :: es, c, xs, X, o, h => by
    unfold chkIfs at h; split at h
    · rw [Bool.and_eq_true] at h
      have hes : es = [] := by
        cases es with
        | nil => rfl
        | cons _ _ => have h2 := h.2; unfold chkIfs at h2; cases h2
      subst hes
      have i := (chkE_ok e c _ X o h.1).pt
      refine pts_one (ptImp i fun σ H Q q => ?_)
      obtain ⟨μ, ρ, h, b, h', gd, sl, e, q⟩ := q
      obtain ⟨x, h1, e1, e2⟩ := M.bind_eq e
      obtain ⟨b1, h2, e3, e4⟩ := M.bind_eq e2
      refine ⟨μ, ρ, h, b, h', gd, sl, bind_run e1 ?_, q⟩
      cases b1 with
      | true => cases e4; exact e3
      | false => cases e4; exact e3
    · cases h
theorem chkI_ok : ∀ (it : I) (c : CC) (x : Expr) (X : Cx), XOk X c C G k → chkI it c x = true → ∀ tg : Expr, (!pairing it || isTup tg) = true → PI X tg x (iD X.K X.mg (evI C G B it))
  | .seq e, c, x, X, o, h, tg, ht => pi_seqD (chkE_ok e c _ X o h).pe
  | .range1 a, c, x, X, o, h, tg, ht => by
    unfold chkI at h; split at h
    · simp only [Bool.and_eq_true, decide_eq_true_eq] at h
      obtain ⟨⟨⟨h1, h2⟩, h3⟩, h4⟩ := h
      subst h1
      exact pi_range1D (nst h3) (o.gl' h2).1 (o.bn _ (by decide)) (chkE_ok a c _ X o h4).pe
    · cases h
  | .range2 a b, c, x, X, o, h, tg, ht => by
    unfold chkI at h; split at h
    · simp only [Bool.and_eq_true, decide_eq_true_eq] at h
      obtain ⟨⟨⟨⟨⟨h1, h2⟩, h3⟩, h4⟩, h5⟩, h6⟩ := h
      subst h1
      exact pi_range2D (nst h3) (nst h4) (o.gl' h2).1 (o.bn _ (by decide)) (chkE_ok a c _ X o h5).pe (chkE_ok b c _ X o h6).pe
    · cases h
  | .range3 _ _ _, c, x, X, o, h, tg, ht => by unfold chkI at h; cases h
  | .enum a, c, x, X, o, h, tg, ht => by
    unfold chkI at h; split at h
    · simp only [Bool.and_eq_true, decide_eq_true_eq] at h
      obtain ⟨⟨⟨h1, h2⟩, h3⟩, h4⟩ := h
      subst h1
      cases tg with
      | Tuple es kk p => exact pi_enumD (nst h3) (o.gl' h2).1 (o.bn _ (by decide)) (chkE_ok a c _ X o h4).pe
      | _ => cases ht
    · cases h
  | .zip a b, c, x, X, o, h, tg, ht => by
    unfold chkI at h; split at h
    · simp only [Bool.and_eq_true, decide_eq_true_eq] at h
      obtain ⟨⟨⟨⟨⟨h1, h2⟩, h3⟩, h4⟩, h5⟩, h6⟩ := h
      subst h1
      cases tg with
      | Tuple es kk p => exact pi_zipD (nst h3) (nst h4) (o.gl' h2).1 (o.bn _ (by decide)) (chkE_ok a c _ X o h5).pe (chkE_ok b c _ X o h6).pe
      | _ => cases ht
    · cases h
theorem chkT_ok : ∀ (t : T) (c : CC) (x : Expr) (X : Cx), XOk X c C G k → chkT t c x = true → PG X x (gD X.K X.mg (tvs t) (evA C G B t))
  | .var i, c, x, X, o, h => by
    unfold chkT at h; split at h
    · simp only [Bool.and_eq_true, decide_eq_true_eq] at h
      obtain ⟨h1, h2⟩ := h
      obtain ⟨l1, l2⟩ := o.loc h2
      exact pg_nameD (pg_name o.nd (by rw [o.nN]; exact h1) l1 l2)
    · cases h
  | .tup ts, c, x, X, o, h => by
    unfold chkT at h; split at h
    · simp only [Bool.and_eq_true, decide_eq_true_eq] at h
      obtain ⟨⟨h1, h2⟩, h3⟩ := h
      have := pg_tupD (pos := by assumption) (k := by assumption) o.calm h2 (chkTs_ok ts c _ X o h3)
      rw [h1] at this
      exact this
    · cases h
  | .sub ob i, c, x, X, o, h => by
    unfold chkT at h; split at h
    · rename_i y z p
      simp only [Bool.and_eq_true] at h
      obtain ⟨⟨h1, h2⟩, h3⟩ := h
      refine pg_mono (pg_subD o.u1 (chkE_ok ob c _ X o h2).pe (chkE_ok i c _ X o h3).pe ?_) (fun d ρ h r e => ?_) nofun
      · intro v
        cases z <;> first | rfl | cases h1
      · obtain ⟨x, h1, e1, e2⟩ := M.bind_eq e
        obtain ⟨y, h2, e3, e4⟩ := M.bind_eq e2
        refine bind_run e1 (bind_run e3 ?_)
        have e4 : (if okput B x [d] = true then (setop x y d h2).map fun h' => (ρ, h') else none) = some r := e4
        by_cases z : okput B x [d] = true
        · rw [if_pos z] at e4; exact e4
        · rw [if_neg z] at e4; cases e4
    · cases h
theorem chkTs_ok : ∀ (ts : List T) (c : CC) (xs : List Expr) (X : Cx), XOk X c C G k → chkTs ts c xs = true → PGs X xs (gDs X.K X.mg (tvsL ts) (evAs C G B ts))
  | [], c, xs, X, o, h => by
    unfold chkTs at h; split at h
    · refine pgsImp pgs_nilD fun v σ H Q q => ?_
      obtain ⟨μ, ρ, h, ds, ρ', h', gd, sl, r, e, q⟩ := q
      refine ⟨μ, ρ, h, ds, ρ', h', gd, sl, r, ?_, q⟩
      cases ds with
      | nil => exact e
      | cons _ _ => cases e
    · cases h
  | t :: ts, c, xs, X, o, h => by
    unfold chkTs at h; split at h
    · rename_i x xs
      rw [Bool.and_eq_true] at h
      have hns : noStar x = true := by
        cases x with
        | Starred _ _ => have h1 := h.1; cases t <;> (unfold chkT at h1; cases h1)
        | _ => rfl
      refine pgsImp (pgs_consD hns (chkT_ok t c _ X o h.1) (chkTs_ok ts c _ X o h.2)) fun v σ H Q q => ?_
      obtain ⟨μ, ρ, h, ds, ρ', h', gd, sl, r, e, q⟩ := q
      refine ⟨μ, ρ, h, ds, ρ', h', gd, sl, r, ?_, q⟩
      cases ds with
      | nil => cases e
      | cons _ _ => exact e
    · cases h
end
end
end PD


namespace PD
open PySem PySem.Spec L2
open PyProof.Rows hiding St
/-! ### the checker for statements -/
def noComp : Expr → Bool
  | .ListComp _ _ _ _ => false
  | .SetComp _ _ _ _ => false
  | .DictComp _ _ _ _ _ => false
  | _ => true
/-- does the store into a plain name go ahead of the comprehension's end -/
def swB (sc : Scope) (y : Str) (py : Pos) (scope : Scope) (p : Pos) : Bool := sc.names.lookup y == some .local && py.line == p.line && !(scope.names.any fun (n, k) => n == y && (k == .local || k == .cell))
/-- the model's swappedStores, by the scope -/
def swQ (sc : Scope) (tg v : Expr) : Option (Option (List Str)) := match tg, v with
  | .Tuple ts _ _, .Tuple vs _ _ =>
    if (!(ts.length == 2 || ts.length == 3) || vs.length != ts.length) = true then some none else
    if (vs.any fun | .Starred .. => true | _ => false) = true then some none else
    let line := (ts.head?.map (·.pos.line)).getD 0
    let names := ts.filterMap fun
      | .Name id pos => if (sc.names.lookup id == some .local && pos.line == line) = true then some id else none
      | _ => none
    if (names.length != ts.length || names.eraseDups.length != names.length) = true then some none else
    if vs.all (foldedForSure 8) = true then some none else
    if vs.all (constantsAlone 8) = true then none else some (some names)
  | .Tuple _ _ _, _ => some none
  | _, _ => none
def compE : E → Bool
  | .comp _ _ _ _ _ => true
  | .mut (.comp _ _ _ _ _) => true
  | _ => false
def setB (c : CC) (y : Str) (py : Pos) (e : E) (v : Expr) : Bool := match v with
  | .ListComp z gs scope p => if swB c.sc y py scope p = true then compE e else true
  | .SetComp _ _ _ _ => false
  | .DictComp _ _ _ _ _ => false
  | _ => true
mutual
def chkS : S → CC → Stmt → Bool
  | .expr e, c, s => match s with
    | .Expr x _ => noComp x && chkE e c x
    | _ => false
  | .pass, c, s => match s with
    | .Pass _ => true
    | .Expr (.Constant (.str _) _ _) _ => true
    | _ => false
  | .asg t e, c, s => match s with
    | .Assign [tg] v pos => (match tg with
      | .Name y py => (match t with
        | .var i => decide (c.N[i]? = some y) && locB c y && chkE e c v && setB c y py e v
        | _ => false)
      | .Tuple ts kt pt => noComp v && (match swQ c.sc tg v with
        | some none => chkT t c tg && chkE e c v
        | some (some [x, y]) => (match t, e, ts, v with
          | .tup [.var i, .var j], .tup st es, [.Name x' _, .Name y' _], .Tuple [p, q] _ _ => decide (x' = x) && decide (y' = y) && decide (c.N[i]? = some x) && decide (c.N[j]? = some y) && decide (i ≠ j) && decide (c.sc.names.lookup x = some .local) && decide (c.sc.names.lookup y = some .local) && chkL es st c [p, q]
          | _, _, _, _ => false)
        | some (some [x, y, z]) => (match t, e, ts, v with
          | .tup [.var i, .var j, .var l], .tup st es, [.Name x' _, .Name y' _, .Name z' _], .Tuple [p, q, r] _ _ => decide (x' = x) && decide (y' = y) && decide (z' = z) && decide (c.N[i]? = some x) && decide (c.N[j]? = some y) && decide (c.N[l]? = some z) && decide (i ≠ j) && decide (i ≠ l) && decide (j ≠ l) && decide (c.sc.names.lookup x = some .local) && decide (c.sc.names.lookup y = some .local) && decide (c.sc.names.lookup z = some .local) && chkL es st c [p, q, r]
          | _, _, _, _ => false)
        | _ => false)
      | .Subscript _ _ _ => noComp v && chkT t c tg && chkE e c v
      | _ => false)
    | _ => false
  | .par _ _ _ _, _, _ => false
  | .ite t a b, c, s => match s with
    | .If x sa sb _ => chkE t c x && chkSs a c sa && chkSs b c sb
    | _ => false
  | .whl t b, c, s => match s with
    | .While x body [] _ => chkE t c x && chkSs b c body
    | _ => false
  | .for_ t it b, c, s => match s with
    | .For tg iter body [] _ => chkT t c tg && chkI it c iter && noSet iter && (!pairing it || isTup tg) && chkSs b c body
    | _ => false
  | .ret e, c, s => match s with
    | .Return (some x) _ => chkE e c x
    | _ => false
  | .retn, c, s => match s with
    | .Return none _ => true
    | _ => false
  | .brk, c, s => match s with
    | .Break _ => true
    | _ => false
  | .cnt, c, s => match s with
    | .Continue _ => true
    | _ => false
  | .stuck, c, s => true
def chkSs : List S → CC → List Stmt → Bool
  | [], _, ss => match ss with
    | [] => true
    | _ => false
  | s :: r, c, ss => match ss with
    | t :: ts => chkS s c t && chkSs r c ts
    | [] => false
end
/-! ### it is right -/
theorem blockFn {env : PySem.Env} (hk : env.scope.kind = .function) : env.blockKind = .function := by
  unfold Env.blockKind; rw [hk]; rfl
theorem noComp_sw {e : Expr} (h : noComp e = true) (t : Option Expr) (l : Nat) (env : PySem.Env) : swapsWith e t l env = pure false := by
  cases e <;> first | rfl | cases h
theorem noComp_sole {e t : Expr} (h : noComp e = true) (l : Nat) (env : PySem.Env) : swapsWithSole [t] e l env = pure false := noComp_sw h (some t) l env
theorem swB_ok {env : PySem.Env} (hk : env.scope.kind = .function) {elt : Expr} {gs : List Comprehension} {scope : Scope} {p py : Pos} {y : Str} {l : Nat} : swapsWith (.ListComp elt gs scope p) (some (.Name y py)) l env = pure (swB env.scope y py scope p) := by
  have hb := blockFn hk
  unfold swapsWith swB
  simp only [hb]
  rfl
theorem swQ_ok {env : PySem.Env} (hk : env.scope.kind = .function) {tg v : Expr} {r : Option (List Str)} (h : swQ env.scope tg v = some r) : swappedStores [tg] v env = pure r := by
  have hb := blockFn hk
  unfold swQ at h
  split at h
  · rename_i ts kt pt vs kv pv
    unfold swappedStores
    by_cases h1 : (!(ts.length == 2 || ts.length == 3) || vs.length != ts.length) = true
    · rw [if_pos h1] at h; cases h
      show (if ((!(ts.length == 2 || ts.length == 3) || vs.length != ts.length || env.blockKind != .function) = true) then _ else _) = _
      rw [h1]; rfl
    rw [if_neg h1] at h
    have h1' : (!(ts.length == 2 || ts.length == 3) || vs.length != ts.length || env.blockKind != .function) = false := by
      rw [Bool.eq_false_iff.mpr h1, hb]; rfl
    show (if ((!(ts.length == 2 || ts.length == 3) || vs.length != ts.length || env.blockKind != .function) = true) then _ else _) = _
    rw [h1', if_neg Bool.false_ne_true]
    by_cases h2 : (vs.any fun | .Starred .. => true | _ => false) = true
    · rw [if_pos h2] at h; cases h
      show (if (vs.any fun | .Starred .. => true | _ => false) = true then _ else _) = _
      rw [if_pos h2]
    rw [if_neg h2] at h
    show (if (vs.any fun | .Starred .. => true | _ => false) = true then _ else _) = _
    rw [if_neg h2]
    dsimp only at h ⊢
    split at h
    · rename_i h3
      cases h
      exact if_pos h3
    rename_i h3
    refine (if_neg h3).trans ?_
    split at h
    · rename_i h4
      cases h
      exact if_pos h4
    rename_i h4
    refine (if_neg h4).trans ?_
    split at h
    · cases h
    rename_i h5
    cases h
    exact if_neg h5
  · rename_i hne
    cases h
    unfold swappedStores
    cases v <;> first | rfl | exact absurd rfl (hne _ _ _)
  · cases h
section
variable {X : Cx} {c : CC} {C : Str → List D → M D} {G : Str → Option D} {k B W : Nat}
theorem ps_mono {st : Stmt} {f f' : Env → M (Ctl × Env)} (h : PS X st (sD X.K X.mg f)) (i : ∀ ρ h r, f' ρ h = some r → f ρ h = some r) : PS X st (sD X.K X.mg f') := psImp h fun D σ H q => by
  obtain ⟨μ, ρ, h, c, ρ', h', gd, sl, e, q⟩ := q
  exact ⟨μ, ρ, h, c, ρ', h', gd, sl, i _ _ _ e, q⟩
structure XSt (X : Cx) (c : CC) (C : Str → List D → M D) (G : Str → Option D) (k : Nat) : Prop extends XOk X c C G k where
  scq : X.env.scope = c.sc
  xe : X.xe = fun _ _ => False
theorem XSt.own (o : XSt X c C G k) : PassesOwn (model X.prog X.w) X.A X.env X.xe := by
  rw [o.xe]; exact PassesOwn.never
theorem mut_r {K : PySem.W.Frag} {mg : Str → Option Value} {f : Env → M D} {σ : St} {H : Hp} {Q : VK} (h : tD false K mg (fun ρ => .bind (f ρ) fun x => match x with
    | .lst xs => fun h => some (.ref h.length, h ++ [.lst xs])
    | _ => .fail) σ H Q) : tD true K mg f σ H Q := by
  obtain ⟨μ, ρ, h, d, h', gd, sl, e, q⟩ := h
  obtain ⟨x, h1, e1, e2⟩ := M.bind_eq e
  cases x with
  | lst xs =>
    have e2 : some (D.ref h1.length, h1 ++ [MO.lst xs]) = some (d, h') := e2
    cases e2
    refine ⟨μ, ρ, h, _, h1, gd, sl, e1, fun μ1 v1 H1 s1 g1 r1 fr => ?_⟩
    obtain ⟨H0, p, vs, rfl, hp, rfl, st, g0, l⟩ := fr rfl xs rfl
    have a1 := g0.push (x := .lst xs) (o := .lst vs) hp nofun ⟨vs, rfl, l⟩
    have a2 : Step K μ1 h1.length H0 (μ1.push h1.length p) (h1.length + 1) (upd H0 p (.lst vs)) := Step.push hp nofun
    have hl : (h1 ++ [MO.lst xs]).length = h1.length + 1 := by simp
    have a3 : Rep K mg (μ1.push h1.length p) (h1 ++ [MO.lst xs]).length (upd H0 p (.lst vs)) (.ref h1.length) (.ref p) := by
      have e : (μ1.push h1.length p).m h1.length = p := if_pos rfl
      have r : Rep K mg (μ1.push h1.length p) (h1 ++ [MO.lst xs]).length (upd H0 p (.lst vs)) (.ref h1.length) (.ref ((μ1.push h1.length p).m h1.length)) := .ref (by rw [hl]; exact Nat.lt_succ_self _)
      rw [e] at r
      exact r
    exact q _ _ _ (by rw [hl]; exact st.trans a2) a1 a3 nofun
  | _ => cases e2
/-- the reading of a store ahead of a comprehension's end, from that of the value -/
theorem ps_setLcE {i : Nat} {y : Str} {py spos : Pos} {x : Expr} {own : List Nat} {elt : E} {tg : T} {it : I} {ifs : List E} (o : XSt X c C G k) (hi : c.N[i]? = some y) (hx : chkE (.comp own elt tg it ifs) c x = true)
    (hs : ∀ z gs scope p, x = .ListComp z gs scope p → swB c.sc y py scope p = true) : PS X (.Assign [.Name y py] x spos) (tAsg (tD true X.K X.mg (ev C G B (.comp own elt tg it ifs))) (gName i)) := by
  have h := hx
  unfold chkE at h; split at h
  · rename_i z t iter fs n scope p
    simp only [Bool.and_eq_true, decide_eq_true_eq] at h
    obtain ⟨⟨⟨⟨⟨⟨⟨⟨⟨h0, h1⟩, h2⟩, h3⟩, h4⟩, h5⟩, h6⟩, h7⟩, h8⟩, h9⟩ := h
    subst h0
    have hv : ∀ j ∈ tvs tg, j ∈ (ownPairs c own).map (·.2) := fun j hj => own_map h2 j (of_decide_eq_true (List.all_eq_true.mp h6 j hj))
    have sw := hs _ _ _ _ rfl
    have hyl : c.sc.names.lookup y = some .local := by
      unfold swB at sw
      simp only [Bool.and_eq_true, beq_iff_eq] at sw
      exact sw.1.1
    have := ps_setLc (te := tD (frE elt) X.K X.mg (ev C G B elt)) (g := gD X.K X.mg (tvs tg) (evA C G B tg)) (tt := tT X.K X.mg (evIfs C G B ifs)) (elt := z) (ifs := fs) (scope := scope) (tg := t) (iter := iter) (i := i) (spos := spos) (py := py) (pos := p) o.calm o.nd (by rw [o.nN]; exact hi) (by rw [o.scq]; exact hyl) (by rw [swB_ok o.kind, o.scq, sw]) (chkI_ok (k := k) (B := B) it c _ X o.toXOk h3 _ h5) (blkOk o.toXOk h1)
        (fun s H Cc cl fp => chkT_ok (k := k) (B := B) tg _ _ _ (o.toXOk.blk h1 s H Cc cl fp) h7)
        (fun s H Cc cl fp => chkIfs_ok (k := k) (B := B) ifs _ _ _ (o.toXOk.blk h1 s H Cc cl fp) h8)
        (fun s H Cc cl fp => (chkE_ok (k := k) (B := B) elt _ _ _ (o.toXOk.blk h1 s H Cc cl fp) h9).pe)
        (noSet_ok h4 _)
    refine psImp this fun D σ H q => ?_
    have q : tD true X.K X.mg (fun ρ => .bind (evI C G B it ρ) fun xs => if xs.length ≤ sizeLine then .bind (compL (evA C G B tg) (evIfs C G B ifs) (ev C G B elt) (wipeD ρ own) xs) fun ys => .ret (.lst ys) else .fail) σ H (fun x H1 => gName i x σ H1 D.nx) := q
    rw [← h2] at q
    exact lc_D hv q
  · cases h
theorem asg_eq {i : Nat} {e : E} : (fun ρ => M.bind (ev C G B e ρ) fun d => .bind (evA C G B (.var i) d ρ) fun ρ1 => M.ret (Ctl.nx, ρ1)) = fun ρ => .bind (ev C G B e ρ) fun d => .ret (.nx, ρ.set i (some d)) := rfl
/-- two, three plain names -/
theorem evA2 {i j : Nat} {xs : List D} {ρ ρ1 : Env} {h h' : MH} (e : evA C G B (.tup [.var i, .var j]) (.tup xs) ρ h = some (ρ1, h')) : par2 i j xs ρ h = some ((.nx, ρ1), h') := by
  match xs, e with
  | [], e => cases e
  | [_], e => cases e
  | [x, y], e => cases e; rfl
  | a1 :: a2 :: a3 :: as, e =>
    have e : (if (a1 :: a2 :: a3 :: as).length = [T.var i, T.var j].length then evAs C G B [.var i, .var j] (a1 :: a2 :: a3 :: as) ρ else .fail) h = some (ρ1, h') := e
    rw [if_neg (by simp)] at e
    cases e
theorem evA3 {i j l : Nat} {xs : List D} {ρ ρ1 : Env} {h h' : MH} (e : evA C G B (.tup [.var i, .var j, .var l]) (.tup xs) ρ h = some (ρ1, h')) : par3 i j l xs ρ h = some ((.nx, ρ1), h') := by
  match xs, e with
  | [], e => cases e
  | [_], e => cases e
  | [_, _], e => cases e
  | [x, y, z], e => cases e; rfl
  | a1 :: a2 :: a3 :: a4 :: as, e =>
    have e : (if (a1 :: a2 :: a3 :: a4 :: as).length = [T.var i, T.var j, T.var l].length then evAs C G B [.var i, .var j, .var l] (a1 :: a2 :: a3 :: a4 :: as) ρ else .fail) h = some (ρ1, h') := e
    rw [if_neg (by simp)] at e
    cases e
/-- a plain name -/
theorem asg_name {i : Nat} {y : Str} {py pos : Pos} {v : Expr} {e : E} (o : XSt X c C G k) (h1 : c.N[i]? = some y) (h2 : locB c y = true) (h3 : chkE e c v = true)
    (h4 : setB c y py e v = true) : PS X (.Assign [.Name y py] v pos) (sD X.K X.mg (ex C G B W (.asg (.var i) e))) := by
  obtain ⟨l1, l2⟩ := o.toXOk.loc h2
  have gen : ∀ hs : swapsWith v (some (.Name y py)) pos.line X.env = pure false, PS X (.Assign [.Name y py] v pos) (sD X.K X.mg (ex C G B W (.asg (.var i) e))) := fun hs =>
    ps_setD (ps_set o.nd (by rw [o.nN]; exact h1) l1 (chkE_ok (k := k) (B := B) e c v X o.toXOk h3).pe hs l2)
  have nc : noComp v = true → PS X (.Assign [.Name y py] v pos) (sD X.K X.mg (ex C G B W (.asg (.var i) e))) := fun hn => gen (noComp_sw hn _ _ _)
  cases v with
  | ListComp z gs scope p =>
    have h4 : (if swB c.sc y py scope p = true then compE e else true) = true := h4
    by_cases sw : swB c.sc y py scope p = true
    · rw [if_pos sw] at h4
      have hs : ∀ z' gs' scope' p', Expr.ListComp z gs scope p = .ListComp z' gs' scope' p' → swB c.sc y py scope' p' = true := fun z' gs' scope' p' q => by cases q; exact sw
      unfold compE at h4
      split at h4
      · exact psImp (ps_setLcE (k := k) (B := B) o h1 h3 hs) fun D σ H q => name_r q
      · have h3' := h3
        unfold chkE at h3'
        simp only [Bool.and_eq_true] at h3'
        refine psImp (ps_setLcE (k := k) (B := B) o h1 h3'.2 hs) fun D σ H q => ?_
        exact mut_r (name_r (te := false) q)
      · cases h4
    · exact gen (by rw [swB_ok o.kind, o.scq, Bool.eq_false_iff.mpr sw])
  | SetComp _ _ _ _ => cases h4
  | DictComp _ _ _ _ _ => cases h4
  | _ => exact nc rfl
theorem tupasg_mono {st : List Bool} {es : List E} {t : T} {p : List D → Env → M (Ctl × Env)} (hp : ∀ xs ρ h ρ1 h', evA C G B t (.tup xs) ρ h = some (ρ1, h') → p xs ρ h = some ((.nx, ρ1), h')) : ∀ ρ h r, ex C G B W (.asg t (.tup st es)) ρ h = some r → (M.bind (evL C G B es st ρ) fun xs => p xs ρ) h = some r := fun ρ h r e => by
  obtain ⟨d, h1, e1, e2⟩ := M.bind_eq e
  obtain ⟨xs, h2, e3, e4⟩ := M.bind_eq e1
  obtain ⟨ρ1, h3, e5, e6⟩ := M.bind_eq e2
  by_cases z : xs.length ≤ sizeLine
  · rw [if_pos z] at e4
    cases e4
    cases e6
    exact bind_run e3 (hp _ _ _ _ _ e5)
  · rw [if_neg z] at e4; cases e4
mutual
theorem chkS_ok : ∀ (s : S) (c : CC) (st : Stmt) (X : Cx), XSt X c C G k → chkS s c st = true → PS X st (sD X.K X.mg (ex C G B W s))
  | .expr e, c, s, X, o, h => by
    unfold chkS at h; split at h
    · rw [Bool.and_eq_true] at h
      exact ps_exprD (chkE_ok (k := k) (B := B) e c _ X o.toXOk h.2).pe (noComp_sw h.1 _ _ _)
    · cases h
  | .pass, c, s, X, o, h => by
    unfold chkS at h; split at h
    · exact ps_passD
    · exact ps_docD
    · cases h
  | .asg t e, c, s, X, o, h => by
    unfold chkS at h; split at h
    · rename_i tg v pos
      split at h
      · split at h
        · simp only [Bool.and_eq_true, decide_eq_true_eq] at h
          obtain ⟨⟨⟨h1, h2⟩, h3⟩, h4⟩ := h
          exact asg_name o h1 h2 h3 h4
        · cases h
      · rename_i ts kt pt
        rw [Bool.and_eq_true] at h
        obtain ⟨hn, h⟩ := h
        split at h
        · rename_i hq
          rw [Bool.and_eq_true] at h
          exact ps_asgD (chkE_ok (k := k) (B := B) e c _ X o.toXOk h.2).pe (chkT_ok (k := k) (B := B) t c _ X o.toXOk h.1) (noComp_sole hn _ _) (swQ_ok o.kind (by rw [o.scq]; exact hq)) rfl
        · rename_i x y hq
          split at h
          · rename_i i j st es x' px y' py p q k2 pt2
            simp only [Bool.and_eq_true, decide_eq_true_eq] at h
            obtain ⟨⟨⟨⟨⟨⟨⟨h1, h2⟩, h3⟩, h4⟩, h5⟩, h6⟩, h7⟩, h8⟩ := h
            subst h1 h2
            exact ps_mono (ps_parD (ps_par o.calm o.nd (by rw [o.nN]; exact h3) (by rw [o.nN]; exact h4) h5 (by rw [o.scq]; exact h6) (by rw [o.scq]; exact h7) (chkL_ok (k := k) (B := B) es st c _ X o.toXOk h8) (swQ_ok o.kind (by rw [o.scq]; exact hq)) (noComp_sole hn _ _))) (tupasg_mono fun xs ρ h ρ1 h' e => evA2 e)
          · cases h
        · rename_i x y z hq
          split at h
          · simp only [Bool.and_eq_true, decide_eq_true_eq] at h
            obtain ⟨⟨⟨⟨⟨⟨⟨⟨⟨⟨⟨⟨h1, h2⟩, h3⟩, h4⟩, h5⟩, h6⟩, h7⟩, h8⟩, h9⟩, h10⟩, h11⟩, h12⟩, h13⟩ := h
            subst h1 h2 h3
            exact ps_mono (ps_par3D (ps_par3 o.calm o.nd (by rw [o.nN]; exact h4) (by rw [o.nN]; exact h5) (by rw [o.nN]; exact h6) h7 h8 h9 (by rw [o.scq]; exact h10) (by rw [o.scq]; exact h11) (by rw [o.scq]; exact h12) (chkL_ok (k := k) (B := B) _ _ c _ X o.toXOk h13) (swQ_ok o.kind (by rw [o.scq]; exact hq)) (noComp_sole hn _ _))) (tupasg_mono fun xs ρ h ρ1 h' e => evA3 e)
          · cases h
        · cases h
      · simp only [Bool.and_eq_true] at h
        obtain ⟨⟨h1, h2⟩, h3⟩ := h
        exact ps_asgD (chkE_ok (k := k) (B := B) e c _ X o.toXOk h3).pe (chkT_ok (k := k) (B := B) t c _ X o.toXOk h2) (noComp_sole h1 _ _) rfl rfl
      · cases h
    · cases h
  | .par _ _ _ _, c, s, X, o, h => by unfold chkS at h; cases h
  | .ite t a b, c, s, X, o, h => by
    unfold chkS at h; split at h
    · simp only [Bool.and_eq_true] at h
      obtain ⟨⟨h1, h2⟩, h3⟩ := h
      exact ps_ifD (chkE_ok (k := k) (B := B) t c _ X o.toXOk h1).pt (chkSs_ok a c _ X o h2) (chkSs_ok b c _ X o h3)
    · cases h
  | .whl t b, c, s, X, o, h => by
    unfold chkS at h; split at h
    · rw [Bool.and_eq_true] at h
      exact ps_whileD o.own (chkE_ok (k := k) (B := B) t c _ X o.toXOk h.1).pt (chkSs_ok b c _ X o h.2)
    · cases h
  | .for_ t it b, c, s, X, o, h => by
    unfold chkS at h; split at h
    · simp only [Bool.and_eq_true] at h
      obtain ⟨⟨⟨⟨h1, h2⟩, h3⟩, h4⟩, h5⟩ := h
      exact ps_forD o.own o.calm (chkI_ok (k := k) (B := B) it c _ X o.toXOk h2 _ h4) (chkT_ok (k := k) (B := B) t c _ X o.toXOk h1) (chkSs_ok b c _ X o h5) (noSet_ok h3 _)
    · cases h
  | .ret e, c, s, X, o, h => by
    unfold chkS at h; split at h
    · exact ps_retD (chkE_ok (k := k) (B := B) e c _ X o.toXOk h).pe
    · cases h
  | .retn, c, s, X, o, h => by
    unfold chkS at h; split at h
    · exact ps_retND
    · cases h
  | .brk, c, s, X, o, h => by
    unfold chkS at h; split at h
    · exact ps_brkD
    · cases h
  | .cnt, c, s, X, o, h => by
    unfold chkS at h; split at h
    · exact ps_cntD
    · cases h
  | .stuck, c, s, X, o, h => ps_stuckD
theorem chkSs_ok : ∀ (ss : List S) (c : CC) (sts : List Stmt) (X : Cx), XSt X c C G k → chkSs ss c sts = true → PSs X sts (sD X.K X.mg (exL C G B W ss))
  | [], c, sts, X, o, h => by
    unfold chkSs at h; split at h
    · exact pss_nilD
    · cases h
  | s :: r, c, sts, X, o, h => by
    unfold chkSs at h; split at h
    · rw [Bool.and_eq_true] at h
      exact pss_consD (chkS_ok s c _ X o h.1) (chkSs_ok r c _ X o h.2)
    · cases h
end
end
end PD


namespace PD
open PySem PySem.Spec L2
open PyProof.Rows hiding St
/-! ### constants of the module -/
mutual
def datB (K : PySem.W.Frag) : D → Value → Bool
  | .non, u => match u with
    | .none => true
    | _ => false
  | .bl b, u => match u with
    | .bool c => decide (c = b)
    | _ => false
  | .int i, u => match u with
    | .int j _ => decide (j = i)
    | _ => false
  | .str s, u => match u with
    | .str t _ => decide (t = s)
    | _ => false
  | .tup xs, u => match u with
    | .ref a => (match K.lookup a with
      | some ⟨.type c, _, .seq its _, _⟩ => decide (c = "tuple") && decide (its.size ≤ sizeLine) && datLB K xs its.toList
      | _ => false)
    | _ => false
  | .flst xs, u => match u with
    | .ref a => (match K.lookup a with
      | some ⟨.type c, none, .seq its _, _⟩ => decide (c = "list") && decide (its.size ≤ sizeLine) && datLB K xs its.toList
      | _ => false)
    | _ => false
  | .fn x, u => match u with
    | .ref f => He.eqO (PySem.W.nsIn K mainGlobals x) (some (some (.ref f)))
    | _ => false
  | .lst _, _ => false
  | .ref _, _ => false
def datLB (K : PySem.W.Frag) : List D → List Value → Bool
  | [], us => match us with
    | [] => true
    | _ => false
  | d :: ds, us => match us with
    | u :: us => datB K d u && datLB K ds us
    | [] => false
end
section
variable {K : PySem.W.Frag} {mg : Str → Option Value} {h : Heap}
mutual
theorem datB_ok (X : K.In h) (Gs : h.Ns mainGlobals mg) : ∀ (d : D) (u : Value), datB K d u = true → ∃ v, RelV v u ∧ ∀ μ n H, Rep K mg μ n H d v
  | .non, u, e => by
    unfold datB at e; split at e
    · exact ⟨.non, rfl, fun _ _ _ => .non⟩
    · cases e
  | .bl b, u, e => by
    unfold datB at e; split at e
    · have := of_decide_eq_true e; subst this
      exact ⟨.bl _, rfl, fun _ _ _ => .bl _⟩
    · cases e
  | .int b, u, e => by
    unfold datB at e; split at e
    · have := of_decide_eq_true e; subst this
      exact ⟨.int _, ⟨_, rfl⟩, fun _ _ _ => .int _⟩
    · cases e
  | .str b, u, e => by
    unfold datB at e; split at e
    · have := of_decide_eq_true e; subst this
      exact ⟨.str _, ⟨_, rfl⟩, fun _ _ _ => .str _⟩
    · cases e
  | .tup xs, u, e => by
    unfold datB at e; split at e
    · split at e
      · rename_i a _ c od its n sl hl
        simp only [Bool.and_eq_true, decide_eq_true_eq] at e
        obtain ⟨⟨e1, e2⟩, e3⟩ := e
        subst e1
        obtain ⟨vs, rv, rr⟩ := datLB_ok X Gs xs _ e3
        exact ⟨.ref a, rfl, fun μ n H => .tup (.inr ⟨_, its, _, hl, rfl, rfl, e2, rv⟩) (rr μ _ H)⟩
      · cases e
    · cases e
  | .flst xs, u, e => by
    unfold datB at e; split at e
    · split at e
      · rename_i a _ c its n sl hl
        simp only [Bool.and_eq_true, decide_eq_true_eq] at e
        obtain ⟨⟨e1, e2⟩, e3⟩ := e
        subst e1
        obtain ⟨vs, rv, rr⟩ := datLB_ok X Gs xs _ e3
        exact ⟨.ref a, rfl, fun μ n H => .flst (.inr ⟨_, its, _, hl, rfl, rfl, rfl, e2, rv⟩) (rr μ _ H)⟩
      · cases e
    · cases e
  | .fn x, u, e => by
    unfold datB at e; split at e
    · exact ⟨.ref _, rfl, fun _ _ _ => .fn (PySem.W.mg_of X Gs (He.eqO_ok e))⟩
    · cases e
  | .lst _, _, e => by unfold datB at e; cases e
  | .ref _, _, e => by unfold datB at e; cases e
theorem datLB_ok (X : K.In h) (Gs : h.Ns mainGlobals mg) : ∀ (ds : List D) (us : List Value), datLB K ds us = true → ∃ vs, Vals vs us ∧ ∀ μ n H, RepL K mg μ n H ds vs
  | [], us, e => by
    unfold datLB at e; split at e
    · exact ⟨[], .nil, fun _ _ _ => .nil⟩
    · cases e
  | d :: ds, us, e => by
    unfold datLB at e; split at e
    · rw [Bool.and_eq_true] at e
      obtain ⟨v, r1, r2⟩ := datB_ok X Gs d _ e.1
      obtain ⟨vs, r3, r4⟩ := datLB_ok X Gs ds _ e.2
      exact ⟨v :: vs, .cons r1 r3, fun μ n H => .cons (r2 μ n H) (r4 μ n H)⟩
    · cases e
end
end
def gsB (K : PySem.W.Frag) (p : Str × D) : Bool := match PySem.W.nsIn K mainGlobals p.1 with
  | some (some u) => datB K p.2 u
  | _ => false
theorem gsB_ok {K : PySem.W.Frag} {mg : Str → Option Value} {h : Heap} (X : K.In h) (Gs : h.Ns mainGlobals mg) {p : Str × D} (e : gsB K p = true) : ∃ v u, mg p.1 = some u ∧ RelV v u ∧ ∀ μ n H, Rep K mg μ n H p.2 v := by
  unfold gsB at e; split at e
  · rename_i u q
    obtain ⟨v, r1, r2⟩ := datB_ok X Gs _ _ e
    exact ⟨v, u, PySem.W.mg_of X Gs q, r1, r2⟩
  · cases e
/-! ### a program: its defs, plain and written -/
structure DR where
  d : He.DefD
  N : List Str
  ps : List Str
  F : FD
abbrev CT := Str × Nat × List Str × List Nat
def scopeB (N ps : List Str) (sc : Scope) : Bool := decide (sc.kind = .function) && !sc.isCoroutine && !sc.isGenerator && decide N.Nodup && decide (N.take ps.length = ps) &&
  (ps.all fun x => decide (sc.names.lookup x = some .local) || decide (sc.names.lookup x = some .cell)) && (sc.names.all fun y => decide (y.2 ≠ .free))
theorem scopeB_ok {N ps : List Str} {sc : Scope} (h : scopeB N ps sc = true) : FnScope N ps sc := by
  unfold scopeB at h
  simp only [Bool.and_eq_true, decide_eq_true_eq, Bool.not_eq_true', List.all_eq_true, Bool.or_eq_true] at h
  obtain ⟨⟨⟨⟨⟨⟨h1, h2⟩, h3⟩, h4⟩, h5⟩, h6⟩, h7⟩ := h
  exact ⟨h1, h2, h3, h4, h5, h6, h7⟩
def chkD (ct : List CT) (kt : List (Str × List (Str × D))) (r : DR) : Bool := scopeB r.N r.ps r.d.scope && decide (r.N.length = r.F.nn) && decide (r.ps.length = r.F.np) && chkSs r.F.body ⟨r.N, r.d.scope, ct, kt⟩ r.d.body
def prF (Pr : List DR) (x : Str) : Option FD := (Pr.find? fun r => decide (r.d.name = x)).map (·.F)
def KBx (r : DR) (p : CT) : Prop := ∀ (kV doc pmv : Value) (an : Option Addr) (cdv ctv : Value) (us ws : List Value), us.length = p.2.1 → ws.length = p.2.2.1.length →
  bindArgs (PySem.W.fnOf r.d.name r.d.qual r.d.params r.d.body r.d.scope .none kV doc pmv an cdv ctv) ⟨us, p.2.2.1.zip ws⟩ = pure (r.ps.zip (pick p.2.2.2 (us ++ ws)))
def pmB (n m k : Nat) (pm : List Nat) : Bool := if pm.isEmpty = true then decide (n + m = k) else decide (pm.length = k) && pm.all fun i => decide (i < n + m)
theorem fm_len {α : Type} {zs : List α} : ∀ pm : List Nat, (∀ i ∈ pm, i < zs.length) → (pm.filterMap fun i => zs[i]?).length = pm.length
  | [], _ => rfl
  | i :: pm, h => by
    rw [List.filterMap_cons, List.getElem?_eq_getElem (h i List.mem_cons_self)]
    simp [fm_len pm fun j hj => h j (List.mem_cons_of_mem _ hj)]
theorem pmB_ok {n m k : Nat} {pm : List Nat} (h : pmB n m k pm = true) {α : Type} (us ws : List α) (h1 : us.length = n) (h2 : ws.length = m) : (pick pm (us ++ ws)).length = k := by
  unfold pmB at h
  unfold pick
  by_cases z : pm.isEmpty = true
  · rw [if_pos z] at h ⊢
    have := of_decide_eq_true h
    rw [List.length_append]; omega
  · rw [if_neg z] at h ⊢
    simp only [Bool.and_eq_true, decide_eq_true_eq, List.all_eq_true] at h
    rw [fm_len pm fun i hi => by rw [List.length_append]; have := h.2 i hi; omega]
    exact h.1
theorem allc {α : Type} {P : α → Prop} {a : α} {l : List α} (h : P a) (t : ∀ x ∈ l, P x) : ∀ x ∈ a :: l, P x := fun x hx => by
  rcases List.mem_cons.mp hx with e | e
  · rw [e]; exact h
  · exact t x e
theorem alln {α : Type} {P : α → Prop} : ∀ x ∈ ([] : List α), P x := fun _ h => nomatch h
structure PrOk (Pr : List DR) (ct : List CT) (kt : List (Str × List (Str × D))) : Prop where
  chk : ∀ r ∈ Pr, chkD ct kt r = true
  look : ∀ r ∈ Pr, prF Pr r.d.name = some r.F
  nod : ∀ r ∈ Pr, r.d.dfl = [] ∧ r.d.kwd = []
  kb : ∀ p ∈ ct, ∃ r ∈ Pr, r.d.name = p.1 ∧ pmB p.2.1 p.2.2.1.length r.ps.length p.2.2.2 = true ∧ KBx r p
section
variable {P : Program} {w : World} {K : PySem.W.Frag} {mg : Str → Option Value} {base : Heap} {Pr : List DR} {ct : List CT} {kt : List (Str × List (Str × D))} {G : Str → Option D} {W : Nat}
theorem prog_ok (ok : PrOk Pr ct kt) (hkt : ∀ p ∈ kt, TabOk K mg w p) (hG : ∀ x d, G x = some d → ∃ v u, mg x = some u ∧ RelV v u ∧ ∀ μ n H, Rep K mg μ n H d v) (hbn : ∀ x, x ∈ biNames → mg x = none)
    (hfn : ∀ r ∈ Pr, mg r.d.name = some (.ref (He.fAd K r.d.at_))) : ∀ (k : Nat) (r : DR), r ∈ Pr → ∀ fd, FunD K r.d.name r.d.qual r.d.params r.d.body r.d.scope [] [] (He.fAd K r.d.at_) fd →
      (∀ r ∈ Pr, ∃ fd, FunD K r.d.name r.d.qual r.d.params r.d.body r.d.scope [] [] (He.fAd K r.d.at_) fd) → Fn P w K mg base k (He.fAd K r.d.at_) fd r.ps (run (prF Pr) G W k r.d.name)
  | 0, r, hr, fd, FF, hd => ⟨fun A outer s H args us vs Q μ h ds d h' _ _ _ _ _ _ _ _ e _ => by cases e⟩
  | k + 1, r, hr, fd, FF, hd => by
    have ch := ok.chk r hr
    unfold chkD at ch
    simp only [Bool.and_eq_true, decide_eq_true_eq] at ch
    obtain ⟨⟨⟨c1, c2⟩, c3⟩, c4⟩ := ch
    have S := scopeB_ok c1
    obtain ⟨oc, od, dV, kV, doc, pm, an, cdv, ctv, osl, rfl, lk, hcd, _, _⟩ := FF.ex
    refine fnG lk hcd S (ok.look r hr) c2 c3 fun A outer s H B hroom hgd => ?_
    have o : XSt (cxOf CX0 P w K mg base r.N r.d.qual r.d.scope (He.fAd K r.d.at_) cdv A outer s H XK0).nox ⟨r.N, r.d.scope, ct, kt⟩ (run (prF Pr) G W k) G k := by
      refine ⟨⟨rfl, S.nd, rfl, S.kind, fun x kd e => ⟨kd, e, .inl rfl⟩, fun _ _ => rfl, hroom, hgd, hbn, hG, fun p hp => ?_, hkt⟩, rfl, rfl⟩
      obtain ⟨r2, hr2, e1, e2, kb⟩ := ok.kb p hp
      obtain ⟨fd2, F2⟩ := hd r2 hr2
      refine ⟨_, fd2, r2.ps, by rw [← e1]; exact hfn r2 hr2, F2.kp, by rw [← e1]; exact prog_ok ok hkt hG hbn hfn k r2 hr2 fd2 F2 hd, fun s us ws X h1 h2 => ?_, fun us ws h1 h2 => pmB_ok e2 us ws h1 h2⟩
      obtain ⟨oc, od, dV, kV, doc, pm, an, cdv, ctv, osl, rfl, lk, hcd, hD, hK⟩ := F2.ex
      rcases hD with ⟨_, rfl⟩ | ⟨e, _⟩
      · exact BindsTo.of_eq (kb kV doc pm an cdv ctv us ws h1 h2)
      · exact absurd rfl e
    exact chkSs_ok (W := W) r.F.body _ _ _ o c4
end
end PD


namespace PD
open PySem PySem.Spec L2
open PyProof.Rows hiding St
/-! ### what the top leaves: defs, constants -/
abbrev Kt : Type := List (Str × List (Str × D))
abbrev AlP : Type := He.AlD × Bool × List (Option (List (Option (Str × Int))))
/-- a table's values -/
def ktB (K : PySem.W.Frag) (t : Str × List (Str × D)) : Bool := He.eqO (PySem.W.nsIn K mainGlobals t.1) (some (some (.ref (He.ga K t.1)))) && t.2.all fun q => match PySem.W.nsIn K (He.ga K t.1) q.1 with
  | some (some u) => datB K q.2 u
  | _ => false
def obsK (fa : List He.Fa) (fn : List He.DefD) (gs : List (Str × D)) (kt : Kt) (a : He.AlD) (K : PySem.W.Frag) : AlP := (a, gs.all (gsB K) && kt.all (ktB K), kt.map fun (t : Str × List (Str × D)) => He.dicW K (He.ga K t.1))
def obsP (n : Nat) (fa : List He.Fa) (fn : List He.DefD) (gs : List (Str × D)) (kt : Kt) (g : Addr → Option Obj) : AlP := obsK fa fn gs kt (He.obsDG n fa fn g) (He.frG g (He.asD g n))
def SaysK (gs : List (Str × D)) (kt : Kt) (w : World) (K : PySem.W.Frag) : Prop := (gs.all (gsB K) && kt.all (ktB K)) = true ∧ (kt.map fun (t : Str × List (Str × D)) => He.dicW K (He.ga K t.1)) = kt.map fun (t : Str × List (Str × D)) => some (He.keysIn w.params (t.2.map fun (q : Str × D) => q.1))
def hookP (n : Nat) (fa : List He.Fa) (fn : List He.DefD) (gs : List (Str × D)) (kt : Kt) : PySem.W.Hook where
  α := AlP
  obs := fun s => obsP n fa fn gs kt s.heap.get?
  val := fun w => (He.valD fn, true, kt.map fun (t : Str × List (Str × D)) => some (He.keysIn w.params (t.2.map fun (q : Str × D) => q.1)))
  says := fun w h => ∃ K : PySem.W.Frag, K.In h ∧ He.SaysD fa fn K ∧ SaysK gs kt w K
  of := fun _ _ e => ⟨_, He.frG_in, congrArg (fun z : AlP => z.1) e, congrArg (fun z : AlP => z.2.1) e, congrArg (fun z : AlP => z.2.2) e⟩
  keeps := fun _ _ _ ⟨K, a, b⟩ k => ⟨K, PySem.W.Frag.In.keeps a k, b⟩
theorem says_tab {gs : List (Str × D)} {kt : Kt} {w : World} {K : PySem.W.Frag} {mg : Str → Option Value} {h : Heap} (X : K.In h) (Gs : h.Ns mainGlobals mg) (c : SaysK gs kt w K) {p : Str × List (Str × D)} (hp : p ∈ kt) : TabOk K mg w p := by
  obtain ⟨c1, c2⟩ := c
  rw [Bool.and_eq_true] at c1
  have b := List.all_eq_true.mp c1.2 p hp
  unfold ktB at b
  rw [Bool.and_eq_true] at b
  have e : He.dicW K (He.ga K p.1) = some (He.keysIn w.params (p.2.map (·.1))) := by
    obtain ⟨i, hi, e⟩ := List.mem_iff_getElem.mp hp
    have e2 := congrArg (fun l : List (Option (List (Option (Str × Int)))) => l[i]?) c2
    simp only [List.getElem?_map, List.getElem?_eq_getElem hi, e] at e2
    exact Option.some.inj e2
  obtain ⟨es, n, kd⟩ := He.dicW_ok e
  refine ⟨_, es, n, PySem.W.mg_of X Gs (He.eqO_ok b.1), kd, fun q hq => ?_⟩
  have b2 := List.all_eq_true.mp b.2 q hq
  split at b2
  · rename_i u eq
    obtain ⟨v, r1, r2⟩ := datB_ok X Gs _ _ b2
    exact ⟨u, v, eq, r1, r2⟩
  · cases b2
theorem obsP_eq {n : Nat} {fa : List He.Fa} {fn : List He.DefD} {gs : List (Str × D)} {kt : Kt} {g : Addr → Option Obj} {s : Shared} (h : ∀ a, g a = s.heap.get? a) : obsP n fa fn gs kt g = (hookP n fa fn gs kt).obs s := by
  have e : g = s.heap.get? := funext h
  rw [e]; rfl
/-! ### the law's own call -/
section
variable {P : Program} {w : World} {K : PySem.W.Frag} {mg mb : Str → Option Value} {k : Nat} {fa a : Addr} {fd : FuncData} {x : Str} {s : Shared} {vs : List Value} {ns : List Int} {g : List D → M D}
theorem ints_rep {μ : Mp} {n : Nat} {H : Hp} : ∀ ns : List Int, RepL K mg μ n H (ns.map D.int) (ns.map V.int)
  | [] => .nil
  | i :: ns => .cons (.int i) (ints_rep ns)
theorem lawG (inK : K.In s.heap) (nsM : s.heap.Ns mainGlobals mg) (nsB : s.heap.Ns builtinsNs mb) (boots : ∀ x : Str, x ≠ "__name__" → mb x = bootBuiltins x) (lim : s.heap.NoLimit) (gens : s.gens = #[])
    (at_ : s.heap.get? a = some { cls := .type "list", data := .seq vs.toArray }) (hints : IntsAre vs ns) (small : ns.length ≤ sizeLine) (room : Room k callerA)
    (F : ∀ base : Heap, K.In base → base.Ns mainGlobals mg → Fn P w K mg base k fa fd [x] g) (bind : ∀ (s : Shared) (u : Value), BindsTo s fd ⟨[u], []⟩ [(x, u)]) (good : ∃ h', g [.flst (ns.map D.int)] [] = some (.bl true, h')) :
    codeAny (model P w) callerA (.call (.ref fa) ⟨[.ref a], []⟩) (fun r s' => r = .ok (.ret (.bool true)) ∧ OldK s.heap s'.heap ∧ s'.os = s.os ∧ AllBare s'.gens) s := by
  obtain ⟨hEnd, good⟩ := good
  have vv := vals_ints hints
  have vlen := hints.length
  -- the script alone is tracked, where it is no object of the module
  let ob : Obj := { cls := .type "list", data := .seq vs.toArray }
  have key : ∃ H : Hp, SqF K H a (ns.map V.int) ∧ ∀ b u, H b = some u → b = a ∧ K.lookup a = none ∧ u = .frz ob (.lst (ns.map V.int)) := by
    cases q : K.lookup a with
    | some o =>
      have e := inK a o q
      rw [at_] at e
      injection e with e
      subst e
      refine ⟨fun _ => none, .inr ⟨_, vs.toArray, _, q, rfl, rfl, rfl, ?_, by simpa using vv⟩, fun b u z => by cases z⟩
      rw [List.size_toArray, vlen]; exact small
    | none =>
      refine ⟨fun b => if b = a then some (.frz ob (.lst (ns.map V.int))) else none, .inl ⟨ob, if_pos rfl⟩, fun b u z => ?_⟩
      by_cases hb : b = a
      · have z := (if_pos hb).symm.trans z
        cases z
        exact ⟨hb, rfl, rfl⟩
      · have z := (if_neg hb).symm.trans z
        cases z
  obtain ⟨H, sq, only⟩ := key
  have ok : HOk P w H s.heap := fun b u z => by
    obtain ⟨e1, e2, e3⟩ := only b u z
    subst e1 e3
    exact ⟨at_, by rw [List.length_map]; exact small, vs, _, vv, at_⟩
  have free : ∀ {b : Addr} {o : Obj} {es : Array DictEntry} {ep : Nat}, s.heap.get? b = some o → o.data = .dict es ep → H b = none := by
    intro b o es ep e d
    cases q : H b with
    | none => rfl
    | some u =>
      obtain ⟨e1, _, _⟩ := only b u q
      rw [e1, at_] at e
      injection e with e
      rw [← e] at d
      cases d
  have look : ∀ {b : Addr} {m : Str → Option Value}, s.heap.Ns b m → (hidT s.heap H).Ns b m := by
    intro b m ⟨o, es, ep, e, d, r⟩
    exact ⟨o, es, ep, hidT_get e (free e d), d, r⟩
  have inB : K.In (hidT s.heap H) := by
    intro b o e
    refine hidT_get (inK b o e) ?_
    cases q : H b with
    | none => rfl
    | some u =>
      obtain ⟨e1, e2, _⟩ := only b u q
      rw [e1, e2] at e
      cases e
  have md : Mod K mg (hidT s.heap H) := ⟨inB, look nsM, ⟨mb, look nsB, boots⟩, lim.elim fun mc z => ⟨mc, look z.1, z.2⟩⟩
  have env : Env0 P w K mg (hidT s.heap H) callerA [] s H := ⟨rfl, md, fun b o => of_hidT, Nat.le_of_eq (hidT_size _ _), trivial, fun b z => (by cases z), ok, .of_eq gens⟩
  let μ : Mp := ⟨fun _ => 0, []⟩
  have gd : Good K mg μ [] H := ⟨fun i j z => (by cases z), fun i z => (by cases z), fun b z => (by cases z), fun i o z => (by cases z)⟩
  have rp : RepL K mg μ ([] : MH).length H [.flst (ns.map D.int)] [.ref a] := .cons (.flst sq (ints_rep ns)) .nil
  refine codeAny_mono ((F _ inB (look nsM)).run callerA [] s H ⟨[.ref a], []⟩ [.ref a] [.ref a] (fun v _ => v = .bl true) μ [] _ _ hEnd room rfl env (bind s (.ref a)) (.cons rfl .nil) gd rp rfl good fun μ' v H' _ _ r => by cases r; rfl) fun r s' h => ?_
  cases r with
  | error e => exact False.elim h
  | ok fl =>
    cases fl with
    | next => exact False.elim h
    | brk => exact False.elim h
    | cont => exact False.elim h
    | ret u =>
      obtain ⟨v, H', os, bare, un, ok', rv, q⟩ := h
      have q : v = .bl true := q
      subst q
      have rv : u = Value.bool true := rv
      subst rv
      refine ⟨rfl, OldK.of_keep fun b o e => ?_, os, bare⟩
      cases q : H b with
      | none => exact un.keep b o e q (fun z => by cases z) (by simp)
      | some u =>
        obtain ⟨e1, e2, e3⟩ := only b u q
        rw [e3] at q
        have z := un.frzs b ob _ q
        have w1 := (ok' b _ z).1
        rw [e1, at_] at e
        injection e with e
        rw [← e]
        exact w1
end
theorem walkG {l : PySem.W.OpenLaw} {n k : Nat} {q : Program} {loose : List Str} {XP : (Str → Option Value) → Heap → Prop} {YP : World → Heap → Prop} {d : DefRec} {x : Str}
    (hn : l.most = some n) (hn2 : n ≤ sizeLine) (hdf : d.params.defaults = []) (hr : Room k callerA)
    (F : ∀ (w : World) (mg : Str → Option Value) (fa : Addr) (h : Heap), YP w h → h.Ns mainGlobals mg → mg d.name = some (.ref fa) →
      ∃ (K : PySem.W.Frag) (fd : FuncData) (g : List D → M D), K.In h ∧ (∀ (s : Shared) (u : Value), BindsTo s fd ⟨[u], []⟩ [(x, u)]) ∧ (∀ ns : List Int, ns.length ≤ n → ∃ h', g [.flst (ns.map D.int)] [] = some (.bl true, h')) ∧
        ∀ base : Heap, K.In base → base.Ns mainGlobals mg → Fn l.prog w K mg base k fa fd [x] g) :
    PySem.W.WalkO q loose XP YP l.row.toRowW d [] (fun f vs => PySem.call f vs) := by
  refine Att.attach_call hn hdf fun w s0 s mg mb fa o pm cd doc a vs ns G Y ho hd hcd hmg hobj hints hlen hg => ?_
  obtain ⟨K, fd, g, inK, bind, good, fn⟩ := F w mg fa _ Y G.T.g hmg
  exact lawG inK G.T.g G.T.b G.T.builtins G.T.nolimit hg hobj hints (Nat.le_trans hlen hn2) hr fn bind (good ns hlen)
end PD


namespace PD
open PySem PySem.Spec L2
open PyProof.Rows hiding St
/-! ### a law by its plain run -/
def faOf (Pr : List DR) : List He.Fa := (Pr.map fun r => He.Fa.glo r.d.name) ++ biNames.map He.Fa.free
def fnOfP (Pr : List DR) : List He.DefD := Pr.map (·.d)
theorem says_fact {fa : List He.Fa} {fn : List He.DefD} {K : PySem.W.Frag} (c : He.SaysD fa fn K) {f : He.Fa} (h : f ∈ fa) : f.ok K = true := by
  obtain ⟨i, hi, e⟩ := List.mem_iff_getElem.mp h
  exact c.fact i (f := f) (by rw [List.getElem?_eq_getElem hi, e])
theorem says_def {fa : List He.Fa} {fn : List He.DefD} {K : PySem.W.Frag} (c : He.SaysD fa fn K) {d : He.DefD} (h : d ∈ fn) : ∃ fd, FunD K d.name d.qual d.params d.body d.scope (d.dvs K) (d.kws K) (He.fAd K d.at_) fd := by
  obtain ⟨i, hi, e⟩ := List.mem_iff_getElem.mp h
  exact c.def_ i (d := d) (by rw [List.getElem?_eq_getElem hi, e])
theorem law_of {l : PySem.W.OpenLaw} {Pr : List DR} {ct : List CT} {kt : Kt} {gs : List (Str × D)} {W n k m : Nat} {q : Program} {loose : List Str} {XP : (Str → Option Value) → Heap → Prop} {dl : DefRec} {rl : DR} {x : Str} (ok : PrOk Pr ct kt) (hat : ∀ r ∈ Pr, r.d.at_ = (r.d.name, none))
    (hn : l.most = some n) (hn2 : n ≤ sizeLine) (hdf : dl.params.defaults = []) (hr : Room k callerA) (hrl : rl ∈ Pr) (hname : dl.name = rl.d.name) (hps : rl.ps = [x]) (hkb : KBx rl (rl.d.name, 1, [], []))
    (good : ∀ ns : List Int, ns.length ≤ n → ∃ h', run (prF Pr) (fun x => gs.lookup x) W k rl.d.name [.flst (ns.map D.int)] [] = some (.bl true, h')) :
    PySem.W.WalkO q loose XP (hookP m (faOf Pr) (fnOfP Pr) gs kt).says l.row.toRowW dl [] (fun f vs => PySem.call f vs) := by
  refine walkG (x := x) hn hn2 hdf hr fun w mg fa h Y Gm hmg => ?_
  obtain ⟨K, inK, c, cg⟩ := Y
  have defs : ∀ r ∈ Pr, ∃ fd, FunD K r.d.name r.d.qual r.d.params r.d.body r.d.scope [] [] (He.fAd K r.d.at_) fd := fun r hr => by
    obtain ⟨fd, F⟩ := says_def c (d := r.d) (List.mem_map.mpr ⟨r, hr, rfl⟩)
    obtain ⟨e1, e2⟩ := ok.nod r hr
    have d1 : r.d.dvs K = [] := by unfold He.DefD.dvs; rw [e1]; rfl
    have d2 : r.d.kws K = [] := by unfold He.DefD.kws; rw [e2]; rfl
    rw [d1, d2] at F
    exact ⟨fd, F⟩
  have names : ∀ r ∈ Pr, mg r.d.name = some (.ref (He.fAd K r.d.at_)) := fun r hr => by
    rw [hat r hr]
    exact He.glo_ok inK Gm (says_fact c (f := .glo r.d.name) (List.mem_append_left _ (List.mem_map.mpr ⟨r, hr, rfl⟩)))
  have bn : ∀ x, x ∈ biNames → mg x = none := fun x hx => He.free_ok inK Gm (says_fact c (f := .free x) (List.mem_append_right _ (List.mem_map.mpr ⟨x, hx, rfl⟩)))
  have cons : ∀ x d, gs.lookup x = some d → ∃ v u, mg x = some u ∧ RelV v u ∧ ∀ μ n H, Rep K mg μ n H d v := fun x d e => gsB_ok inK Gm (p := (x, d)) (List.all_eq_true.mp (Bool.and_eq_true _ _ ▸ cg.1 : _ ∧ _).1 _ (PySem.mem_of_lookup e))
  obtain ⟨fd, F⟩ := defs rl hrl
  have e := names rl hrl
  rw [hname, e] at hmg
  injection hmg with hmg
  injection hmg with hmg
  subst hmg
  refine ⟨K, fd, run (prF Pr) (fun x => gs.lookup x) W k rl.d.name, inK, fun s u => ?_, good, fun base _ _ => ?_⟩
  · obtain ⟨oc, od, dV, kV, doc, pm, an, cdv, ctv, osl, rfl, lk, hcd, hD, hK⟩ := F.ex
    rcases hD with ⟨_, rfl⟩ | ⟨z, _⟩
    · have z := hkb kV doc pm an cdv ctv [u] [] rfl rfl
      rw [hps] at z
      exact BindsTo.of_eq z
    · exact absurd rfl z
  · have z := prog_ok (P := l.prog) (w := w) (base := base) (W := W) (G := fun x => gs.lookup x) ok (fun p hp => says_tab inK Gm cg hp) cons bn names k rl hrl fd F defs
    rw [hps] at z
    exact z
/-- the functions as a table -/
theorem prF_tab {Pr : List DR} {tab : List (Str × FD)} (e : Pr.map (fun r => (r.d.name, r.F)) = tab) : prF Pr = fun x => (tab.find? fun p => decide (p.1 = x)).map (·.2) := by
  subst e
  funext x
  unfold prF
  rw [List.find?_map, Option.map_map]
  rfl
end PD

namespace PD
open PySem PySem.Spec L2
/-! ### the plain language by rewriting -/
section
variable {α β : Type} {a : α} {h h' : MH}
@[simp] theorem M.bind_ap {x : M α} {f : α → M β} : M.bind x f h = match x h with | none => none | some (a, h') => f a h' := rfl
@[simp] theorem M.ret_ap : M.ret a h = some (a, h) := rfl
@[simp] theorem M.fail_ap : (M.fail : M α) h = none := rfl
@[simp] theorem M.look_ap {f : MH → Option α} : M.look f h = match f h with | none => none | some a => some (a, h) := rfl
@[simp] theorem M.of_ap {o : Option α} : M.of o h = match o with | none => none | some a => some (a, h) := rfl
@[simp] theorem M.ite_ap {p : Prop} [Decidable p] {x y : M α} : (if p then x else y) h = if p then x h else y h := by split <;> rfl
end
section
variable {C : Str → List D → M D} {G : Str → Option D} {B W : Nat} {ρ : Env} {h : MH} {a b c t e : E} {es : List E}
@[simp] theorem ev_non : ev C G B .non ρ = .ret .non := rfl
@[simp] theorem ev_bl {x : Bool} : ev C G B (.bl x) ρ = .ret (.bl x) := rfl
@[simp] theorem ev_int {x : Int} : ev C G B (.int x) ρ = .ret (.int x) := rfl
@[simp] theorem ev_str {x : Str} : ev C G B (.str x) ρ = .ret (.str x) := rfl
@[simp] theorem ev_var {i : Nat} : ev C G B (.var i) ρ h = match ρ[i]? with | some (some d) => some (d, h) | _ => none := by
  show (match ρ[i]? with | some (some d) => M.ret d | _ => M.fail) h = _
  cases ρ[i]? with
  | none => rfl
  | some o => cases o <;> rfl
@[simp] theorem ev_glob {x : Str} : ev C G B (.glob x) ρ = .of (G x) := rfl
@[simp] theorem ev_bin {o : BOp} : ev C G B (.bin o a b) ρ = .bind (ev C G B a ρ) fun x => .bind (ev C G B b ρ) fun y => .look (binop o x y) := rfl
@[simp] theorem ev_neg : ev C G B (.neg a) ρ = .bind (ev C G B a ρ) fun x => match x with | .int i => .ret (.int (-i)) | _ => .fail := rfl
@[simp] theorem ev_not : ev C G B (.not a) ρ = .bind (ev C G B a ρ) fun x => .bind (.look fun h => truth h x) fun b => .ret (.bl !b) := rfl
@[simp] theorem ev_cmp {o : COp} : ev C G B (.cmp o a b) ρ = .bind (ev C G B a ρ) fun x => .bind (ev C G B b ρ) fun y => .bind (.look (cmpop o x y)) fun r => .ret (.bl r) := rfl
@[simp] theorem ev_chain {o p : COp} : ev C G B (.chain o p a b c) ρ = .bind (ev C G B a ρ) fun x => .bind (ev C G B b ρ) fun y => .bind (.look (cmpop o x y)) fun r =>
    if r = true then .bind (ev C G B c ρ) fun z => .bind (.look (cmpop p y z)) fun r => .ret (.bl r) else .ret (.bl false) := rfl
@[simp] theorem ev_and : ev C G B (.and a b) ρ = .bind (ev C G B a ρ) fun x => .bind (.look fun h => truth h x) fun t => if t = true then ev C G B b ρ else .ret x := rfl
@[simp] theorem ev_or : ev C G B (.or a b) ρ = .bind (ev C G B a ρ) fun x => .bind (.look fun h => truth h x) fun t => if t = true then .ret x else ev C G B b ρ := rfl
@[simp] theorem ev_ife : ev C G B (.ife t a b) ρ = .bind (ev C G B t ρ) fun x => .bind (.look fun h => truth h x) fun r => if r = true then ev C G B a ρ else ev C G B b ρ := rfl
@[simp] theorem ev_tup {st : List Bool} : ev C G B (.tup st es) ρ = .bind (evL C G B es st ρ) fun xs => if xs.length ≤ sizeLine then .ret (.tup xs) else .fail := rfl
@[simp] theorem ev_dsp {st : List Bool} : ev C G B (.dsp st es) ρ = .bind (evL C G B es st ρ) fun xs => if xs.length ≤ sizeLine then .ret (.lst xs) else .fail := rfl
@[simp] theorem ev_mut : ev C G B (.mut e) ρ = .bind (ev C G B e ρ) fun x => match x with | .lst xs => fun h => some (.ref h.length, h ++ [.lst xs]) | _ => .fail := rfl
@[simp] theorem ev_dct : ev C G B .dct ρ h = some (.ref h.length, h ++ [.dct []]) := rfl
@[simp] theorem ev_ix : ev C G B (.ix a b) ρ = .bind (ev C G B a ρ) fun x => .bind (ev C G B b ρ) fun y => .look fun h => index h x y := rfl
@[simp] theorem ev_sl {lo hi : Option E} : ev C G B (.sl a lo hi) ρ = .bind (ev C G B a ρ) fun x => .bind (evO C G B lo ρ) fun l => .bind (evO C G B hi ρ) fun u => .look fun h => slice h x l u := rfl
@[simp] theorem ev_rev : ev C G B (.rev a) ρ = .bind (ev C G B a ρ) fun x => .look fun h => revop h x := rfl
@[simp] theorem ev_call {f : Str} {ks : List Str} {kws : List E} {pm : List Nat} : ev C G B (.call f es ks kws pm) ρ = .bind (evL C G B es [] ρ) fun xs => .bind (evL C G B kws [] ρ) fun ys => C f (pick pm (xs ++ ys)) := rfl
@[simp] theorem ev_bi {b : Bi} : ev C G B (.bi b es) ρ = .bind (evL C G B es [] ρ) fun xs => .look (biop b xs) := rfl
@[simp] theorem ev_me {m : Me} : ev C G B (.me m a es) ρ = .bind (ev C G B a ρ) fun x => .bind (.look fun h => kindOf h x) fun t => .bind (evL C G B es [] ρ) fun xs => fun h => if okput B x xs = true then meop t m x xs h else none := rfl
@[simp] theorem ev_comp2 {own : List Nat} {tg tg1 : T} {it it1 : I} {es1 : List E} : ev C G B (.comp2 own e tg it es tg1 it1 es1) ρ = .bind (evI C G B it ρ) fun xs => .bind (compL2 (evA C G B tg) (evIfs C G B es) (evI C G B it1) (evA C G B tg1) (evIfs C G B es1) (ev C G B e) (tvs tg1) (wipeD ρ own) xs) fun ys => if ys.length ≤ sizeLine then .ret (.lst ys) else .fail := rfl
@[simp] theorem ev_gix {x : Str} {tab : List (Str × D)} : ev C G B (.gix x tab e) ρ = .bind (ev C G B e ρ) fun y => .of (gixD tab y) := rfl
@[simp] theorem ev_comp {own : List Nat} {tg : T} {it : I} : ev C G B (.comp own e tg it es) ρ = .bind (evI C G B it ρ) fun xs => if xs.length ≤ sizeLine then .bind (compL (evA C G B tg) (evIfs C G B es) (ev C G B e) (wipeD ρ own) xs) fun ys => .ret (.lst ys) else .fail := rfl
@[simp] theorem evO_none : evO C G B none ρ = .ret none := rfl
@[simp] theorem evO_some : evO C G B (some e) ρ = .bind (ev C G B e ρ) fun x => match x with | .int i => .ret (some i) | _ => .fail := rfl
@[simp] theorem evL_nil {st : List Bool} : evL C G B [] st ρ = .ret [] := rfl
@[simp] theorem evL_cons {st : List Bool} : evL C G B (e :: es) st ρ = .bind (ev C G B e ρ) fun x => .bind (spread st.head? x) fun xs => .bind (evL C G B es st.tail ρ) fun ys => .ret (xs ++ ys) := rfl
@[simp] theorem evIfs_nil : evIfs C G B [] ρ = .ret true := rfl
@[simp] theorem evIfs_cons : evIfs C G B (e :: es) ρ = .bind (ev C G B e ρ) fun x => .bind (.look fun h => truth h x) fun b => if b = true then evIfs C G B es ρ else .ret false := rfl
@[simp] theorem evI_seq : evI C G B (.seq e) ρ = .bind (ev C G B e ρ) fun x => .of (still x) := rfl
@[simp] theorem evI_range1 : evI C G B (.range1 a) ρ = .bind (ev C G B a ρ) fun x => match x with
    | .int j => if -(2 ^ 62) ≤ j ∧ j < 2 ^ 62 then .ret (irange 0 j) else .fail
    | _ => .fail := rfl
@[simp] theorem evI_range2 : evI C G B (.range2 a b) ρ = .bind (ev C G B a ρ) fun x => .bind (ev C G B b ρ) fun y => match x, y with
    | .int i, .int j => if -(2 ^ 62) ≤ i ∧ i < 2 ^ 62 ∧ -(2 ^ 62) ≤ j ∧ j < 2 ^ 62 then .ret (irange i j) else .fail
    | _, _ => .fail := rfl
@[simp] theorem evI_enum : evI C G B (.enum a) ρ = .bind (ev C G B a ρ) fun x => .bind (.of (still x)) fun xs => .ret (enumL 0 xs) := rfl
@[simp] theorem evI_zip : evI C G B (.zip a b) ρ = .bind (ev C G B a ρ) fun x => .bind (ev C G B b ρ) fun y => .bind (.of (still x)) fun xs => .bind (.of (still y)) fun ys => .ret (zipL xs ys) := rfl
@[simp] theorem evA_var {i : Nat} {d : D} : evA C G B (.var i) d ρ = .ret (ρ.set i (some d)) := rfl
@[simp] theorem evA_tup {ts : List T} {xs : List D} : evA C G B (.tup ts) (.tup xs) ρ = if xs.length = ts.length then evAs C G B ts xs ρ else .fail := rfl
@[simp] theorem evA_sub {d : D} : evA C G B (.sub a b) d ρ = .bind (ev C G B a ρ) fun x => .bind (ev C G B b ρ) fun y => fun h => if okput B x [d] = true then (setop x y d h).map fun h' => (ρ, h') else none := rfl
@[simp] theorem evAs_nil : evAs C G B [] [] ρ = .ret ρ := rfl
@[simp] theorem evAs_cons {t : T} {ts : List T} {d : D} {ds : List D} : evAs C G B (t :: ts) (d :: ds) ρ = .bind (evA C G B t d ρ) fun ρ1 => evAs C G B ts ds ρ1 := rfl
@[simp] theorem evT_ap : evT C G B e ρ = .bind (ev C G B e ρ) fun x => .look fun h => truth h x := rfl
variable {s : S} {ss : List S} {sa sb : List S}
@[simp] theorem ex_expr : ex C G B W (.expr e) ρ = .bind (ev C G B e ρ) fun _ => .ret (.nx, ρ) := rfl
@[simp] theorem ex_asg {t : T} : ex C G B W (.asg t e) ρ = .bind (ev C G B e ρ) fun d => .bind (evA C G B t d ρ) fun ρ1 => .ret (.nx, ρ1) := rfl
@[simp] theorem ex_ite : ex C G B W (.ite t sa sb) ρ = .bind (evT C G B t ρ) fun r => if r = true then exL C G B W sa ρ else exL C G B W sb ρ := rfl
@[simp] theorem ex_whl : ex C G B W (.whl t sa) ρ = whileL (evT C G B t) (exL C G B W sa) W ρ := rfl
@[simp] theorem ex_for {t : T} {it : I} : ex C G B W (.for_ t it sa) ρ = .bind (evI C G B it ρ) fun xs => forL (evA C G B t) (exL C G B W sa) xs ρ := rfl
@[simp] theorem ex_ret : ex C G B W (.ret e) ρ = .bind (ev C G B e ρ) fun d => .ret (.rt d, ρ) := rfl
@[simp] theorem ex_retn : ex C G B W .retn ρ = .ret (.rt .non, ρ) := rfl
@[simp] theorem ex_brk : ex C G B W .brk ρ = .ret (.bk, ρ) := rfl
@[simp] theorem ex_cnt : ex C G B W .cnt ρ = .ret (.ct, ρ) := rfl
@[simp] theorem ex_pass : ex C G B W .pass ρ = .ret (.nx, ρ) := rfl
@[simp] theorem ex_stuck : ex C G B W .stuck ρ = .fail := rfl
@[simp] theorem exL_nil : exL C G B W [] ρ = .ret (.nx, ρ) := rfl
@[simp] theorem exL_cons : exL C G B W (s :: ss) ρ h = match ex C G B W s ρ h with
    | none => none
    | some ((.nx, ρ'), h') => exL C G B W ss ρ' h'
    | some (q, h') => some (q, h') := by
  show M.bind (ex C G B W s ρ) (fun q => match q.1 with | .nx => exL C G B W ss q.2 | c => .ret (c, q.2)) h = _
  unfold M.bind
  cases ex C G B W s ρ h with
  | none => rfl
  | some p =>
    obtain ⟨⟨c, ρ'⟩, h'⟩ := p
    cases c <;> rfl
end
/-- a call by its body -/
theorem run_of {P : Str → Option FD} {G : Str → Option D} {W k : Nat} {x : Str} {F : FD} {ds : List D} {h : MH} (hP : P x = some F) (hl : ds.length = F.np) :
    run P G W (k + 1) x ds h = match exL (run P G W k) G h.length W F.body (ds.map some ++ List.replicate (F.nn - F.np) none) h with
        | some ((.rt d, _), h') => fin F.keep h.length d h'
        | some ((.nx, _), h') => fin F.keep h.length .non h'
        | _ => none := by
  show (match P x with
    | none => none
    | some F => if ds.length = F.np then match exL (run P G W k) G h.length W F.body (ds.map some ++ List.replicate (F.nn - F.np) none) h with
        | some ((.rt d, _), h') => fin F.keep h.length d h'
        | some ((.nx, _), h') => fin F.keep h.length .non h'
        | _ => none
      else none) = _
  rw [hP]
  show (if ds.length = F.np then _ else none) = _
  rw [if_pos hl]
/-! ### values without places -/
mutual
def flat : D → Bool
  | .ref _ => false
  | .tup xs => flatL xs
  | .lst xs => flatL xs
  | .flst xs => flatL xs
  | _ => true
def flatL : List D → Bool
  | [] => true
  | x :: xs => flat x && flatL xs
end
mutual
theorem fzD_flat {g : Nat → Option D} : ∀ {d : D}, flat d = true → fzD g d = some d
  | .tup xs, e => by show (fzL g xs).map D.tup = _; rw [fzL_flat (xs := xs) e]; rfl
  | .lst xs, e => by show (fzL g xs).map D.lst = _; rw [fzL_flat (xs := xs) e]; rfl
  | .flst xs, e => by show (fzL g xs).map D.flst = _; rw [fzL_flat (xs := xs) e]; rfl
  | .non, _ => rfl
  | .bl _, _ => rfl
  | .int _, _ => rfl
  | .str _, _ => rfl
  | .fn _, _ => rfl
theorem fzL_flat {g : Nat → Option D} : ∀ {xs : List D}, flatL xs = true → fzL g xs = some xs
  | [], _ => rfl
  | x :: xs, e => by
    have e : (flat x && flatL xs) = true := e
    rw [Bool.and_eq_true] at e
    show (match fzD g x, fzL g xs with | some y, some ys => some (y :: ys) | _, _ => none) = _
    rw [fzD_flat e.1, fzL_flat e.2]
end
theorem fin_flat {n : Nat} {d : D} {h l : MH} (hd : flat d = true) (hn : n = h.length) : fin false n d (h ++ l) = some (d, h) := by
  unfold fin
  rw [if_neg Bool.false_ne_true, fzD_flat hd, hn]
  simp
theorem fin_flat0 {d : D} {h : MH} (hd : flat d = true) : fin false h.length d h = some (d, h) := by
  have := fin_flat (n := h.length) (h := h) (l := []) hd rfl
  rw [List.append_nil] at this
  exact this
@[simp] theorem fin_bl {b : Bool} {h : MH} : fin false h.length (.bl b) h = some (.bl b, h) := fin_flat0 rfl
@[simp] theorem fin_int {b : Int} {h : MH} : fin false h.length (.int b) h = some (.int b, h) := fin_flat0 rfl
@[simp] theorem fin_str {b : Str} {h : MH} : fin false h.length (.str b) h = some (.str b, h) := fin_flat0 rfl
@[simp] theorem fin_non {h : MH} : fin false h.length .non h = some (.non, h) := fin_flat0 rfl
theorem fin_keep {n : Nat} {d : D} {h : MH} : fin true n d h = some (d, h) := rfl
@[simp] theorem flat_int {i : Int} : flat (.int i) = true := rfl
@[simp] theorem flat_bl {i : Bool} : flat (.bl i) = true := rfl
@[simp] theorem flat_str {i : Str} : flat (.str i) = true := rfl
@[simp] theorem flat_non : flat .non = true := rfl
@[simp] theorem flat_tup {xs : List D} : flat (.tup xs) = flatL xs := rfl
@[simp] theorem flat_lst {xs : List D} : flat (.lst xs) = flatL xs := rfl
@[simp] theorem flatL_nil : flatL [] = true := rfl
@[simp] theorem flatL_cons {x : D} {xs : List D} : flatL (x :: xs) = (flat x && flatL xs) := rfl
theorem flatL_iff : ∀ {xs : List D}, flatL xs = true ↔ ∀ x ∈ xs, flat x = true
  | [] => by simp
  | x :: xs => by simp [flatL_iff (xs := xs)]
@[simp] theorem flatL_append {xs ys : List D} : flatL (xs ++ ys) = (flatL xs && flatL ys) := by
  rw [Bool.eq_iff_iff, Bool.and_eq_true, flatL_iff, flatL_iff, flatL_iff]
  simp [or_imp, forall_and]
end PD


namespace PD
open PySem PySem.Spec L2
/-! ### what holds behind a run -/
def wp {α : Type} (m : M α) (h : MH) (Q : α → MH → Prop) : Prop := ∃ a h', m h = some (a, h') ∧ Q a h'
def oq {α : Type} (o : Option α) (Q : α → Prop) : Prop := ∃ a, o = some a ∧ Q a
section
variable {α β : Type} {a : α} {h h' : MH} {Q : α → MH → Prop}
theorem ex_some {b : α} {k : MH} : (∃ a h', (some (b, k) : Option (α × MH)) = some (a, h') ∧ Q a h') = Q b k := by
  refine propext ⟨fun ⟨a, h', e, q⟩ => ?_, fun q => ⟨b, k, rfl, q⟩⟩
  cases e; exact q
theorem ex_none : (∃ a h', (none : Option (α × MH)) = some (a, h') ∧ Q a h') = False := by
  refine propext ⟨fun ⟨a, h', e, q⟩ => ?_, fun q => q.elim⟩
  cases e
theorem wp_mono {m : M α} {Q' : α → MH → Prop} (w : wp m h Q) (i : ∀ a h', Q a h' → Q' a h') : wp m h Q' := by
  obtain ⟨a, h', e, q⟩ := w
  exact ⟨a, h', e, i a h' q⟩
theorem wp_of_eq {m : M α} (e : m h = some (a, h')) (q : Q a h') : wp m h Q := ⟨a, h', e, q⟩
@[simp] theorem oq_some {Q : α → Prop} : oq (some a) Q = Q a := by
  refine propext ⟨fun ⟨b, e, q⟩ => ?_, fun q => ⟨a, rfl, q⟩⟩
  cases e; exact q
@[simp] theorem oq_none {Q : α → Prop} : oq (none : Option α) Q = False := by
  refine propext ⟨fun ⟨b, e, q⟩ => ?_, fun q => q.elim⟩
  cases e
@[simp] theorem oq_map {o : Option α} {f : α → β} {Q : β → Prop} : oq (o.map f) Q = oq o fun a => Q (f a) := by
  cases o <;> simp
@[simp] theorem oq_bind {o : Option α} {f : α → Option β} {Q : β → Prop} : oq (o.bind f) Q = oq o fun a => oq (f a) Q := by
  cases o <;> simp
@[simp] theorem oq_guard {c : Prop} [Decidable c] {o : Option α} {Q : α → Prop} : oq (if c then o else none) Q = (c ∧ oq o Q) := by
  by_cases z : c <;> simp [z]
@[simp] theorem oq_ite {c : Prop} [Decidable c] {o p : α} {Q : α → Prop} : oq (if c then some o else some p) Q = (if c then Q o else Q p) := by
  by_cases z : c <;> simp [z]
@[simp ↓] theorem wp_ret : wp (.ret a) h Q = Q a h := by
  refine propext ⟨fun ⟨b, k, e, q⟩ => ?_, fun q => ⟨a, h, rfl, q⟩⟩
  cases e; exact q
@[simp ↓] theorem wp_fail : wp (M.fail : M α) h Q = False := by
  refine propext ⟨fun ⟨b, k, e, q⟩ => ?_, fun q => q.elim⟩
  cases e
@[simp ↓] theorem wp_bind {x : M β} {f : β → M α} : wp (.bind x f) h Q = wp x h fun a h' => wp (f a) h' Q := by
  refine propext ⟨fun ⟨b, k, e, q⟩ => ?_, fun ⟨b, k, e, c, l, e2, q⟩ => ?_⟩
  · have e : (match x h with | none => none | some (a, h') => f a h') = some (b, k) := e
    cases z : x h with
    | none => rw [z] at e; cases e
    | some p => rw [z] at e; exact ⟨p.1, p.2, z, b, k, e, q⟩
  · refine ⟨c, l, ?_, q⟩
    show (match x h with | none => none | some (a, h') => f a h') = _
    rw [e]; exact e2
@[simp ↓] theorem wp_look {f : MH → Option α} : wp (.look f) h Q = oq (f h) fun a => Q a h := by
  unfold wp M.look
  cases f h with
  | none => simp [ex_none]
  | some a => rw [oq_some]; exact ex_some
@[simp ↓] theorem wp_of {o : Option α} : wp (.of o) h Q = oq o fun a => Q a h := by
  unfold wp M.of
  cases o with
  | none => simp [ex_none]
  | some a => rw [oq_some]; exact ex_some
@[simp] theorem wp_ite {c : Prop} [Decidable c] {x y : M α} : wp (if c then x else y) h Q = if c then wp x h Q else wp y h Q := by
  by_cases z : c <;> simp [z]
@[simp ↓] theorem wp_guard {c : Prop} [Decidable c] {x : M α} : wp (if c then x else .fail) h Q = (c ∧ wp x h Q) := by
  by_cases z : c <;> simp [z, wp_fail]
end
section
variable {C : Str → List D → M D} {G : Str → Option D} {B W : Nat} {ρ : Env} {h : MH} {a b c t e : E} {es : List E} {Q : D → MH → Prop}
/-- a value of a name -/
def envq (o : Option (Option D)) (Q : D → Prop) : Prop := ∃ d, o = some (some d) ∧ Q d
@[simp] theorem envq_some {d : D} {Q : D → Prop} : envq (some (some d)) Q = Q d := by
  refine propext ⟨fun ⟨b, e, q⟩ => ?_, fun q => ⟨d, rfl, q⟩⟩
  cases e; exact q
@[simp ↓] theorem wp_non : wp (ev C G B .non ρ) h Q = Q .non h := wp_ret
@[simp ↓] theorem wp_bl {x : Bool} : wp (ev C G B (.bl x) ρ) h Q = Q (.bl x) h := wp_ret
@[simp ↓] theorem wp_int {x : Int} : wp (ev C G B (.int x) ρ) h Q = Q (.int x) h := wp_ret
@[simp ↓] theorem wp_str {x : Str} : wp (ev C G B (.str x) ρ) h Q = Q (.str x) h := wp_ret
@[simp ↓] theorem wp_var {i : Nat} : wp (ev C G B (.var i) ρ) h Q = envq (ρ[i]?) fun d => Q d h := by
  unfold wp
  rw [ev_var]
  cases ρ[i]? with
  | none => simp [envq, ex_none]
  | some o =>
    cases o with
    | none => simp [envq, ex_none]
    | some d => rw [envq_some]; exact ex_some
@[simp ↓] theorem wp_glob {x : Str} : wp (ev C G B (.glob x) ρ) h Q = oq (G x) fun d => Q d h := wp_of
@[simp ↓] theorem wp_bin {o : BOp} : wp (ev C G B (.bin o a b) ρ) h Q = wp (ev C G B a ρ) h fun x h => wp (ev C G B b ρ) h fun y h => oq (binop o x y h) fun r => Q r h := by
  rw [ev_bin, wp_bind]; simp only [wp_bind, wp_look]
def negq (d : D) (Q : D → Prop) : Prop := ∃ i, d = .int i ∧ Q (.int (-i))
@[simp] theorem negq_int {i : Int} {Q : D → Prop} : negq (.int i) Q = Q (.int (-i)) := by
  refine propext ⟨fun ⟨b, e, q⟩ => ?_, fun q => ⟨i, rfl, q⟩⟩
  cases e; exact q
@[simp ↓] theorem wp_neg : wp (ev C G B (.neg a) ρ) h Q = wp (ev C G B a ρ) h fun x h => negq x fun d => Q d h := by
  rw [ev_neg, wp_bind]
  congr; funext x h
  unfold negq
  cases x <;> simp [wp_fail, wp_ret]
@[simp ↓] theorem wp_not : wp (ev C G B (.not a) ρ) h Q = wp (ev C G B a ρ) h fun x h => oq (truth h x) fun b => Q (.bl !b) h := by
  rw [ev_not]; simp only [wp_bind, wp_look, wp_ret]
@[simp ↓] theorem wp_cmp {o : COp} : wp (ev C G B (.cmp o a b) ρ) h Q = wp (ev C G B a ρ) h fun x h => wp (ev C G B b ρ) h fun y h => oq (cmpop o x y h) fun r => Q (.bl r) h := by
  rw [ev_cmp]; simp only [wp_bind, wp_look, wp_ret]
@[simp ↓] theorem wp_chain {o p : COp} : wp (ev C G B (.chain o p a b c) ρ) h Q = wp (ev C G B a ρ) h fun x h => wp (ev C G B b ρ) h fun y h => oq (cmpop o x y h) fun r =>
    if r = true then wp (ev C G B c ρ) h fun z h => oq (cmpop p y z h) fun r => Q (.bl r) h else Q (.bl false) h := by
  rw [ev_chain]; simp only [wp_bind, wp_look, wp_ret, wp_ite]
@[simp ↓] theorem wp_and : wp (ev C G B (.and a b) ρ) h Q = wp (ev C G B a ρ) h fun x h => oq (truth h x) fun t => if t = true then wp (ev C G B b ρ) h Q else Q x h := by
  rw [ev_and]; simp only [wp_bind, wp_look, wp_ret, wp_ite]
@[simp ↓] theorem wp_or : wp (ev C G B (.or a b) ρ) h Q = wp (ev C G B a ρ) h fun x h => oq (truth h x) fun t => if t = true then Q x h else wp (ev C G B b ρ) h Q := by
  rw [ev_or]; simp only [wp_bind, wp_look, wp_ret, wp_ite]
@[simp ↓] theorem wp_ife : wp (ev C G B (.ife t a b) ρ) h Q = wp (ev C G B t ρ) h fun x h => oq (truth h x) fun r => if r = true then wp (ev C G B a ρ) h Q else wp (ev C G B b ρ) h Q := by
  rw [ev_ife]; simp only [wp_bind, wp_look, wp_ret, wp_ite]
@[simp ↓] theorem wp_tup {st : List Bool} : wp (ev C G B (.tup st es) ρ) h Q = wp (evL C G B es st ρ) h fun xs h => xs.length ≤ sizeLine ∧ Q (.tup xs) h := by
  rw [ev_tup]; simp only [wp_bind, wp_guard, wp_ret]
@[simp ↓] theorem wp_dsp {st : List Bool} : wp (ev C G B (.dsp st es) ρ) h Q = wp (evL C G B es st ρ) h fun xs h => xs.length ≤ sizeLine ∧ Q (.lst xs) h := by
  rw [ev_dsp]; simp only [wp_bind, wp_guard, wp_ret]
def mutq (d : D) (h : MH) (Q : D → MH → Prop) : Prop := ∃ xs, d = .lst xs ∧ Q (.ref h.length) (h ++ [.lst xs])
@[simp] theorem mutq_lst {xs : List D} : mutq (.lst xs) h Q = Q (.ref h.length) (h ++ [.lst xs]) := by
  refine propext ⟨fun ⟨b, e, q⟩ => ?_, fun q => ⟨_, rfl, q⟩⟩
  cases e; exact q
@[simp ↓] theorem wp_mut : wp (ev C G B (.mut e) ρ) h Q = wp (ev C G B e ρ) h fun x h => mutq x h Q := by
  rw [ev_mut, wp_bind]
  congr; funext x h
  cases x with
  | lst xs => rw [mutq_lst]; exact ex_some
  | _ => simp [mutq, wp_fail]
@[simp ↓] theorem wp_dct : wp (ev C G B .dct ρ) h Q = Q (.ref h.length) (h ++ [.dct []]) := by
  unfold wp; rw [ev_dct]; exact ex_some
@[simp ↓] theorem wp_ix : wp (ev C G B (.ix a b) ρ) h Q = wp (ev C G B a ρ) h fun x h => wp (ev C G B b ρ) h fun y h => oq (index h x y) fun d => Q d h := by
  rw [ev_ix]; simp only [wp_bind, wp_look]
@[simp ↓] theorem wp_sl {lo hi : Option E} : wp (ev C G B (.sl a lo hi) ρ) h Q = wp (ev C G B a ρ) h fun x h => wp (evO C G B lo ρ) h fun l h => wp (evO C G B hi ρ) h fun u h => oq (slice h x l u) fun d => Q d h := by
  rw [ev_sl]; simp only [wp_bind, wp_look]
@[simp ↓] theorem wp_rev : wp (ev C G B (.rev a) ρ) h Q = wp (ev C G B a ρ) h fun x h => oq (revop h x) fun d => Q d h := by
  rw [ev_rev]; simp only [wp_bind, wp_look]
@[simp ↓] theorem wp_call {f : Str} {ks : List Str} {kws : List E} {pm : List Nat} : wp (ev C G B (.call f es ks kws pm) ρ) h Q = wp (evL C G B es [] ρ) h fun xs h => wp (evL C G B kws [] ρ) h fun ys h => wp (C f (pick pm (xs ++ ys))) h Q := by
  rw [ev_call]; simp only [wp_bind]
@[simp ↓] theorem wp_bi {b : Bi} : wp (ev C G B (.bi b es) ρ) h Q = wp (evL C G B es [] ρ) h fun xs h => oq (biop b xs h) fun d => Q d h := by
  rw [ev_bi]; simp only [wp_bind, wp_look]
@[simp ↓] theorem wp_me {m : Me} : wp (ev C G B (.me m a es) ρ) h Q = wp (ev C G B a ρ) h fun x h => oq (kindOf h x) fun t => wp (evL C G B es [] ρ) h fun xs h => okput B x xs = true ∧ oq (meop t m x xs h) fun r => Q r.1 r.2 := by
  rw [ev_me]; simp only [wp_bind, wp_look]
  congr; funext x h
  congr; funext t
  congr; funext xs h
  unfold wp oq
  by_cases z : okput B x xs = true <;> simp [z]
@[simp ↓] theorem wp_comp {own : List Nat} {tg : T} {it : I} : wp (ev C G B (.comp own e tg it es) ρ) h Q = wp (evI C G B it ρ) h fun xs h => xs.length ≤ sizeLine ∧ wp (compL (evA C G B tg) (evIfs C G B es) (ev C G B e) (wipeD ρ own) xs) h fun ys h => Q (.lst ys) h := by
  rw [ev_comp]; simp only [wp_bind, wp_guard, wp_ret]
@[simp ↓] theorem wp_comp2 {own : List Nat} {tg tg1 : T} {it it1 : I} {es1 : List E} : wp (ev C G B (.comp2 own e tg it es tg1 it1 es1) ρ) h Q = wp (evI C G B it ρ) h fun xs h => wp (compL2 (evA C G B tg) (evIfs C G B es) (evI C G B it1) (evA C G B tg1) (evIfs C G B es1) (ev C G B e) (tvs tg1) (wipeD ρ own) xs) h fun ys h => ys.length ≤ sizeLine ∧ Q (.lst ys) h := by
  rw [ev_comp2]; simp only [wp_bind, wp_guard, wp_ret]
@[simp ↓] theorem wp_gix {x : Str} {tab : List (Str × D)} : wp (ev C G B (.gix x tab e) ρ) h Q = wp (ev C G B e ρ) h fun y h => oq (gixD tab y) fun d => Q d h := by
  rw [ev_gix]; simp only [wp_bind, wp_of]
variable {QO : Option Int → MH → Prop} {QL : List D → MH → Prop} {QB : Bool → MH → Prop} {QE : Env → MH → Prop}
@[simp ↓] theorem wpO_none : wp (evO C G B none ρ) h QO = QO none h := wp_ret
def intq (d : D) (Q : Int → Prop) : Prop := ∃ i, d = .int i ∧ Q i
@[simp] theorem intq_int {i : Int} {Q : Int → Prop} : intq (.int i) Q = Q i := by
  refine propext ⟨fun ⟨b, e, q⟩ => ?_, fun q => ⟨i, rfl, q⟩⟩
  cases e; exact q
@[simp ↓] theorem wpO_some : wp (evO C G B (some e) ρ) h QO = wp (ev C G B e ρ) h fun x h => intq x fun i => QO (some i) h := by
  rw [evO_some, wp_bind]
  congr; funext x h
  unfold intq
  cases x <;> simp [wp_fail, wp_ret]
@[simp ↓] theorem wpL_nil {st : List Bool} : wp (evL C G B [] st ρ) h QL = QL [] h := wp_ret
@[simp ↓] theorem wpL_cons : wp (evL C G B (e :: es) [] ρ) h QL = wp (ev C G B e ρ) h fun x h => wp (evL C G B es [] ρ) h fun ys h => QL (x :: ys) h := by
  rw [evL_cons]; simp [wp_bind, wp_ret, spread]
@[simp ↓] theorem wpL_consF {st : List Bool} : wp (evL C G B (e :: es) (false :: st) ρ) h QL = wp (ev C G B e ρ) h fun x h => wp (evL C G B es st ρ) h fun ys h => QL (x :: ys) h := by
  rw [evL_cons]; simp [wp_bind, wp_ret, spread]
@[simp ↓] theorem wpL_consT {st : List Bool} : wp (evL C G B (e :: es) (true :: st) ρ) h QL = wp (ev C G B e ρ) h fun x h => oq (items h x) fun xs => wp (evL C G B es st ρ) h fun ys h => QL (xs ++ ys) h := by
  rw [evL_cons]; simp [wp_bind, wp_ret, wp_look, spread]
@[simp ↓] theorem wpIfs_nil : wp (evIfs C G B [] ρ) h QB = QB true h := wp_ret
@[simp ↓] theorem wpIfs_cons : wp (evIfs C G B (e :: es) ρ) h QB = wp (ev C G B e ρ) h fun x h => oq (truth h x) fun b => if b = true then wp (evIfs C G B es ρ) h QB else QB false h := by
  rw [evIfs_cons]; simp only [wp_bind, wp_look, wp_ite, wp_ret]
@[simp ↓] theorem wpI_seq : wp (evI C G B (.seq e) ρ) h QL = wp (ev C G B e ρ) h fun x h => oq (still x) fun xs => QL xs h := by
  rw [evI_seq]; simp only [wp_bind, wp_of]
@[simp ↓] theorem wpI_range1 : wp (evI C G B (.range1 a) ρ) h QL = wp (ev C G B a ρ) h fun x h => intq x fun j => (-4611686018427387904 ≤ j ∧ j < 4611686018427387904) ∧ QL (irange 0 j) h := by
  rw [evI_range1, wp_bind]
  congr; funext x h
  cases x with
  | int i => rw [intq_int]; exact wp_guard.trans (by rw [wp_ret]; rfl)
  | _ => simp [intq, wp_fail]
@[simp ↓] theorem wpI_range2 : wp (evI C G B (.range2 a b) ρ) h QL = wp (ev C G B a ρ) h fun x h => wp (ev C G B b ρ) h fun y h => intq x fun i => intq y fun j => (-4611686018427387904 ≤ i ∧ i < 4611686018427387904 ∧ -4611686018427387904 ≤ j ∧ j < 4611686018427387904) ∧ QL (irange i j) h := by
  rw [evI_range2, wp_bind]
  congr; funext x h
  rw [wp_bind]
  congr; funext y h
  cases x with
  | int i =>
    cases y with
    | int j => rw [intq_int, intq_int]; exact wp_guard.trans (by rw [wp_ret]; rfl)
    | _ => simp [intq, wp_fail]
  | _ => simp [intq, wp_fail]
@[simp ↓] theorem wpI_enum : wp (evI C G B (.enum a) ρ) h QL = wp (ev C G B a ρ) h fun x h => oq (still x) fun xs => QL (enumL 0 xs) h := by
  rw [evI_enum]; simp only [wp_bind, wp_of, wp_ret]
@[simp ↓] theorem wpI_zip : wp (evI C G B (.zip a b) ρ) h QL = wp (ev C G B a ρ) h fun x h => wp (ev C G B b ρ) h fun y h => oq (still x) fun xs => oq (still y) fun ys => QL (zipL xs ys) h := by
  rw [evI_zip]; simp only [wp_bind, wp_of, wp_ret]
variable {d : D} {ds xs : List D} {ts : List T} {tt : T}
@[simp ↓] theorem wpA_var {i : Nat} : wp (evA C G B (.var i) d ρ) h QE = QE (ρ.set i (some d)) h := wp_ret
@[simp ↓] theorem wpA_tup : wp (evA C G B (.tup ts) (.tup xs) ρ) h QE = (xs.length = ts.length ∧ wp (evAs C G B ts xs ρ) h QE) := by
  rw [evA_tup, wp_guard]
@[simp ↓] theorem wpA_sub : wp (evA C G B (.sub a b) d ρ) h QE = wp (ev C G B a ρ) h fun x h => wp (ev C G B b ρ) h fun y h => okput B x [d] = true ∧ oq (setop x y d h) fun h => QE ρ h := by
  rw [evA_sub]; simp only [wp_bind]
  congr; funext x h
  congr; funext y h
  unfold wp
  by_cases z : okput B x [d] = true
  · simp only [z, if_true, true_and]
    cases setop x y d h with
    | none => rw [oq_none]; exact ex_none
    | some k => rw [oq_some]; exact ex_some
  · simp [z]
@[simp ↓] theorem wpAs_nil : wp (evAs C G B [] [] ρ) h QE = QE ρ h := wp_ret
@[simp ↓] theorem wpAs_cons : wp (evAs C G B (tt :: ts) (d :: ds) ρ) h QE = wp (evA C G B tt d ρ) h fun ρ h => wp (evAs C G B ts ds ρ) h QE := by
  rw [evAs_cons]; simp only [wp_bind]
@[simp ↓] theorem wpT_ap : wp (evT C G B e ρ) h QB = wp (ev C G B e ρ) h fun x h => oq (truth h x) fun b => QB b h := by
  rw [evT_ap]; simp only [wp_bind, wp_look]
variable {s : S} {ss sa sb : List S} {QC : Ctl × Env → MH → Prop}
/-- the rest of a block -/
def kq (C : Str → List D → M D) (G : Str → Option D) (B W : Nat) (ss : List S) (QC : Ctl × Env → MH → Prop) (q : Ctl × Env) (h : MH) : Prop := match q with
  | (.nx, ρ) => wp (exL C G B W ss ρ) h QC
  | q => QC q h
@[simp] theorem kq_nx : kq C G B W ss QC (.nx, ρ) h = wp (exL C G B W ss ρ) h QC := rfl
@[simp] theorem kq_bk : kq C G B W ss QC (.bk, ρ) h = QC (.bk, ρ) h := rfl
@[simp] theorem kq_ct : kq C G B W ss QC (.ct, ρ) h = QC (.ct, ρ) h := rfl
@[simp] theorem kq_rt : kq C G B W ss QC (.rt d, ρ) h = QC (.rt d, ρ) h := rfl
@[simp ↓] theorem wps_nil : wp (exL C G B W [] ρ) h QC = QC (.nx, ρ) h := wp_ret
@[simp ↓] theorem wps_cons : wp (exL C G B W (s :: ss) ρ) h QC = wp (ex C G B W s ρ) h (kq C G B W ss QC) := by
  unfold wp
  rw [exL_cons]
  cases ex C G B W s ρ h with
  | none => simp
  | some p =>
    obtain ⟨⟨c, ρ'⟩, h'⟩ := p
    rw [ex_some]
    cases c
    · rfl
    · exact ex_some
    · exact ex_some
    · exact ex_some
@[simp ↓] theorem wps_expr : wp (ex C G B W (.expr e) ρ) h QC = wp (ev C G B e ρ) h fun _ h => QC (.nx, ρ) h := by
  rw [ex_expr]; simp only [wp_bind, wp_ret]
@[simp ↓] theorem wps_asg : wp (ex C G B W (.asg tt e) ρ) h QC = wp (ev C G B e ρ) h fun d h => wp (evA C G B tt d ρ) h fun ρ h => QC (.nx, ρ) h := by
  rw [ex_asg]; simp only [wp_bind, wp_ret]
@[simp ↓] theorem wps_ite : wp (ex C G B W (.ite t sa sb) ρ) h QC = wp (ev C G B t ρ) h fun x h => oq (truth h x) fun r => if r = true then wp (exL C G B W sa ρ) h QC else wp (exL C G B W sb ρ) h QC := by
  rw [ex_ite, wp_bind, wpT_ap]; simp only [wp_ite]
@[simp ↓] theorem wps_whl : wp (ex C G B W (.whl t sa) ρ) h QC = wp (whileL (evT C G B t) (exL C G B W sa) W ρ) h QC := rfl
@[simp ↓] theorem wps_for {it : I} : wp (ex C G B W (.for_ tt it sa) ρ) h QC = wp (evI C G B it ρ) h fun xs h => wp (forL (evA C G B tt) (exL C G B W sa) xs ρ) h QC := by
  rw [ex_for]; simp only [wp_bind]
@[simp ↓] theorem wps_ret : wp (ex C G B W (.ret e) ρ) h QC = wp (ev C G B e ρ) h fun d h => QC (.rt d, ρ) h := by
  rw [ex_ret]; simp only [wp_bind, wp_ret]
@[simp ↓] theorem wps_retn : wp (ex C G B W .retn ρ) h QC = QC (.rt .non, ρ) h := wp_ret
@[simp ↓] theorem wps_brk : wp (ex C G B W .brk ρ) h QC = QC (.bk, ρ) h := wp_ret
@[simp ↓] theorem wps_cnt : wp (ex C G B W .cnt ρ) h QC = QC (.ct, ρ) h := wp_ret
@[simp ↓] theorem wps_pass : wp (ex C G B W .pass ρ) h QC = QC (.nx, ρ) h := wp_ret
@[simp ↓] theorem wps_stuck : wp (ex C G B W .stuck ρ) h QC = False := wp_fail
end
/-! ### calls -/
/-- the end of a call -/
def retq (keep : Bool) (n : Nat) (Q : D → MH → Prop) (q : Ctl × Env) (h : MH) : Prop := match q with
  | (.rt d, _) => oq (fin keep n d h) fun r => Q r.1 r.2
  | (.nx, _) => oq (fin keep n .non h) fun r => Q r.1 r.2
  | _ => False
section
variable {keep : Bool} {n : Nat} {Q : D → MH → Prop} {ρ : Env} {h : MH} {d : D}
@[simp] theorem retq_rt : retq keep n Q (.rt d, ρ) h = oq (fin keep n d h) fun r => Q r.1 r.2 := rfl
@[simp] theorem retq_nx : retq keep n Q (.nx, ρ) h = oq (fin keep n .non h) fun r => Q r.1 r.2 := rfl
end
theorem wp_run {P : Str → Option FD} {G : Str → Option D} {W k : Nat} {x : Str} {F : FD} {ds : List D} {h : MH} {Q : D → MH → Prop} (hP : P x = some F) (hl : ds.length = F.np) :
    wp (run P G W (k + 1) x ds) h Q = wp (exL (run P G W k) G h.length W F.body (ds.map some ++ List.replicate (F.nn - F.np) none)) h (retq F.keep h.length Q) := by
  unfold wp
  rw [run_of hP hl]
  cases exL (run P G W k) G h.length W F.body (ds.map some ++ List.replicate (F.nn - F.np) none) h with
  | none => simp
  | some p =>
    obtain ⟨⟨c, ρ'⟩, h'⟩ := p
    have f : ∀ o : Option (D × MH), (∃ a h', o = some (a, h') ∧ Q a h') = oq o fun r => Q r.1 r.2 := fun o => by
      cases o with
      | none => simp [ex_none]
      | some r => rw [oq_some]; exact ex_some
    rw [ex_some]
    cases c
    · exact f _
    · exact ex_none
    · exact ex_none
    · exact f _
/-! ### loops -/
/-- behind a turn -/
def lq (I : Env → MH → Prop) (Q : Ctl × Env → MH → Prop) (q : Ctl × Env) (h : MH) : Prop := match q with
  | (.nx, ρ) => I ρ h
  | (.ct, ρ) => I ρ h
  | (.bk, ρ) => Q (.nx, ρ) h
  | (.rt d, ρ) => Q (.rt d, ρ) h
section
variable {I : Env → MH → Prop} {Q : Ctl × Env → MH → Prop} {ρ : Env} {h : MH} {d : D}
@[simp] theorem lq_nx : lq I Q (.nx, ρ) h = I ρ h := rfl
@[simp] theorem lq_ct : lq I Q (.ct, ρ) h = I ρ h := rfl
@[simp] theorem lq_bk : lq I Q (.bk, ρ) h = Q (.nx, ρ) h := rfl
@[simp] theorem lq_rt : lq I Q (.rt d, ρ) h = Q (.rt d, ρ) h := rfl
end
theorem forL_cons_wp {asg : D → Env → M Env} {body : Env → M (Ctl × Env)} {x : D} {xs : List D} {ρ : Env} {h : MH} {Q : Ctl × Env → MH → Prop} :
    wp (forL asg body (x :: xs) ρ) h Q = wp (asg x ρ) h fun ρ h => wp (body ρ) h (lq (fun ρ h => wp (forL asg body xs ρ) h Q) Q) := by
  show wp (M.bind (asg x ρ) fun ρ1 => .bind (body ρ1) fun r => match r.1 with
    | .nx => forL asg body xs r.2
    | .ct => forL asg body xs r.2
    | .bk => .ret (.nx, r.2)
    | .rt d => .ret (.rt d, r.2)) h Q = _
  simp only [wp_bind]
  congr; funext ρ h
  congr; funext q h
  obtain ⟨c, ρ⟩ := q
  cases c <;> simp [wp_ret]
theorem forL_nil_wp {asg : D → Env → M Env} {body : Env → M (Ctl × Env)} {ρ : Env} {h : MH} {Q : Ctl × Env → MH → Prop} : wp (forL asg body [] ρ) h Q = Q (.nx, ρ) h := wp_ret
/-- a for by what holds between two turns -/
theorem forL_inv {α : Type} {asg : D → Env → M Env} {body : Env → M (Ctl × Env)} (g : α → D) {Q : Ctl × Env → MH → Prop} (I : List α → Env → MH → Prop) {all : List α}
    (step : ∀ pre x post ρ h, all = pre ++ x :: post → I pre ρ h → wp (asg (g x) ρ) h fun ρ h => wp (body ρ) h (lq (I (pre ++ [x])) Q))
    (done : ∀ ρ h, I all ρ h → Q (.nx, ρ) h) : ∀ (xs pre : List α) (ρ : Env) (h : MH), all = pre ++ xs → I pre ρ h → wp (forL asg body (xs.map g) ρ) h Q
  | [], pre, ρ, h, e, i => by
    rw [List.map_nil, forL_nil_wp]
    rw [List.append_nil] at e
    exact done ρ h (e ▸ i)
  | x :: xs, pre, ρ, h, e, i => by
    rw [List.map_cons, forL_cons_wp]
    refine wp_mono (step pre x xs ρ h e i) fun ρ1 h1 w => wp_mono w fun q h2 l => ?_
    obtain ⟨c, ρ2⟩ := q
    cases c
    · exact forL_inv g I step done xs (pre ++ [x]) ρ2 h2 (by simp [e]) l
    · exact l
    · exact forL_inv g I step done xs (pre ++ [x]) ρ2 h2 (by simp [e]) l
    · exact l
theorem for_inv {α : Type} {asg : D → Env → M Env} {body : Env → M (Ctl × Env)} (g : α → D) (xs : List α) {Q : Ctl × Env → MH → Prop} {ρ : Env} {h : MH} (I : List α → Env → MH → Prop)
    (start : I [] ρ h)
    (step : ∀ pre x post ρ h, xs = pre ++ x :: post → I pre ρ h → wp (asg (g x) ρ) h fun ρ h => wp (body ρ) h (lq (I (pre ++ [x])) Q))
    (done : ∀ ρ h, I xs ρ h → Q (.nx, ρ) h) : wp (forL asg body (xs.map g) ρ) h Q := forL_inv g I step done xs [] ρ h rfl start
/-- a while by what holds ahead of its test, and a number that falls -/
theorem while_inv {test : Env → M Bool} {body : Env → M (Ctl × Env)} {Q : Ctl × Env → MH → Prop} (I : Nat → Env → MH → Prop)
    (step : ∀ n ρ h, I n ρ h → wp (test ρ) h fun b h => if b = true then wp (body ρ) h (lq (fun ρ h => ∃ m, m < n ∧ I m ρ h) Q) else Q (.nx, ρ) h) :
    ∀ (W n : Nat) (ρ : Env) (h : MH), n < W → I n ρ h → wp (whileL test body W ρ) h Q
  | 0, n, ρ, h, l, i => by omega
  | W + 1, n, ρ, h, l, i => by
    show wp (M.bind (test ρ) fun b => if b = true then .bind (body ρ) fun r => match r.1 with
      | .nx => whileL test body W r.2
      | .ct => whileL test body W r.2
      | .bk => .ret (.nx, r.2)
      | .rt d => .ret (.rt d, r.2)
      else .ret (.nx, ρ)) h Q
    rw [wp_bind]
    refine wp_mono (step n ρ h i) fun b h1 w => ?_
    by_cases z : b = true
    · rw [if_pos z] at w ⊢
      rw [wp_bind]
      refine wp_mono w fun q h2 l2 => ?_
      obtain ⟨c, ρ2⟩ := q
      cases c
      · obtain ⟨m, hm, i2⟩ := l2
        exact while_inv I step W m ρ2 h2 (by omega) i2
      · show wp (M.ret (Ctl.nx, ρ2)) h2 Q
        rw [wp_ret]; exact l2
      · obtain ⟨m, hm, i2⟩ := l2
        exact while_inv I step W m ρ2 h2 (by omega) i2
      · show wp (M.ret (Ctl.rt _, ρ2)) h2 Q
        rw [wp_ret]; exact l2
    · rw [if_neg z] at w ⊢
      rw [wp_ret]; exact w
/-! ### comprehensions -/
theorem comp_inv {α : Type} {asg : D → Env → M Env} {ifs : Env → M Bool} {elt : Env → M D} (g : α → D) {ρ : Env} {I : List α → List D → MH → Prop} {all : List α}
    (step : ∀ pre x post ys h, all = pre ++ x :: post → I pre ys h → wp (asg (g x) ρ) h fun ρ h => wp (ifs ρ) h fun b h => if b = true then wp (elt ρ) h fun y h => I (pre ++ [x]) (ys ++ [y]) h else I (pre ++ [x]) ys h) :
    ∀ (xs pre : List α) (ys : List D) (h : MH) (Q : List D → MH → Prop), all = pre ++ xs → I pre ys h → (∀ zs h, I all (ys ++ zs) h → Q zs h) → wp (compL asg ifs elt ρ (xs.map g)) h Q
  | [], pre, ys, h, Q, e, i, d => by
    show wp (M.ret []) h Q
    rw [wp_ret]
    rw [List.append_nil] at e
    exact d [] h (by rw [List.append_nil]; exact e ▸ i)
  | x :: xs, pre, ys, h, Q, e, i, d => by
    show wp (M.bind (asg (g x) ρ) fun ρ1 => .bind (ifs ρ1) fun b =>
      if b = true then .bind (elt ρ1) fun y => .bind (compL asg ifs elt ρ (xs.map g)) fun ys => .ret (y :: ys) else compL asg ifs elt ρ (xs.map g)) h Q
    rw [wp_bind]
    refine wp_mono (step pre x xs ys h e i) fun ρ1 h1 w => ?_
    rw [wp_bind]
    refine wp_mono w fun b h2 w => ?_
    by_cases z : b = true
    · rw [if_pos z] at w ⊢
      rw [wp_bind]
      refine wp_mono w fun y h3 w => ?_
      rw [wp_bind]
      refine comp_inv g step xs (pre ++ [x]) (ys ++ [y]) h3 _ (by simp [e]) w fun zs h4 i4 => ?_
      rw [wp_ret]
      exact d _ _ (by simpa using i4)
    · rw [if_neg z] at w ⊢
      exact comp_inv g step xs (pre ++ [x]) ys h2 _ (by simp [e]) w fun zs h4 i4 => d _ _ i4
/-- a comprehension that changes nothing -/
theorem comp_pure {α : Type} {asg : D → Env → M Env} {ifs : Env → M Bool} {elt : Env → M D} (g : α → D) (p : α → Bool) (f : α → D) {ρ : Env} {h : MH} {Q : List D → MH → Prop} (xs : List α)
    (step : ∀ x, x ∈ xs → wp (asg (g x) ρ) h fun ρ h1 => wp (ifs ρ) h1 fun b h2 => b = p x ∧ if p x = true then wp (elt ρ) h2 fun y h3 => y = f x ∧ h3 = h else h2 = h)
    (d : Q ((xs.filter p).map f) h) : wp (compL asg ifs elt ρ (xs.map g)) h Q := by
  refine comp_inv (I := fun pre ys h1 => ys = (pre.filter p).map f ∧ h1 = h) g (all := xs) (fun pre x post ys h1 e i => ?_) xs [] [] h Q rfl ⟨rfl, rfl⟩ fun zs h1 i => ?_
  · obtain ⟨rfl, rfl⟩ := i
    refine wp_mono (step x (by simp [e])) fun ρ1 h2 w => wp_mono w fun b h3 w => ?_
    obtain ⟨rfl, w⟩ := w
    by_cases z : p x = true
    · rw [if_pos z] at w ⊢
      refine wp_mono w fun y h4 w => ?_
      obtain ⟨rfl, rfl⟩ := w
      simp [z]
    · rw [if_neg z] at w ⊢
      subst w
      simp [z]
  · obtain ⟨e, rfl⟩ := i
    rw [List.nil_append] at e
    rw [e]; exact d
theorem comp_map {α : Type} {asg : D → Env → M Env} {elt : Env → M D} {C : Str → List D → M D} {G : Str → Option D} {B : Nat} (g : α → D) (f : α → D) {ρ : Env} {h : MH} {Q : List D → MH → Prop} (xs : List α)
    (step : ∀ x, x ∈ xs → wp (asg (g x) ρ) h fun ρ h1 => wp (elt ρ) h1 fun y h3 => y = f x ∧ h3 = h)
    (d : Q (xs.map f) h) : wp (compL asg (evIfs C G B []) elt ρ (xs.map g)) h Q := by
  have t : ∀ x : α, (fun _ : α => true) x = true := fun _ => rfl
  refine comp_pure g (fun _ => true) f xs (fun x hx => wp_mono (step x hx) fun ρ1 h1 w => ?_) (by rw [List.filter_eq_self.mpr fun _ _ => rfl]; exact d)
  rw [wpIfs_nil]
  exact ⟨rfl, by simpa using w⟩
theorem comp_map0 {asg : D → Env → M Env} {elt : Env → M D} {C : Str → List D → M D} {G : Str → Option D} {B : Nat} (f : D → D) {ρ : Env} {h : MH} {Q : List D → MH → Prop} (xs : List D)
    (step : ∀ x, x ∈ xs → wp (asg x ρ) h fun ρ h1 => wp (elt ρ) h1 fun y h3 => y = f x ∧ h3 = h)
    (d : Q (xs.map f) h) : wp (compL asg (evIfs C G B []) elt ρ xs) h Q := by
  have := comp_map (asg := asg) (elt := elt) (C := C) (G := G) (B := B) (ρ := ρ) (h := h) (Q := Q) (fun x => x) f xs step d
  rwa [List.map_id'] at this
/-- .. of two clauses, without conditions -/
theorem comp2_map {α : Type} {asg asg1 : D → Env → M Env} {it1 : Env → M (List D)} {elt : Env → M D} {C : Str → List D → M D} {G : Str → Option D} {B : Nat} {vs1 : List Nat} (g : α → D) (its : α → List D) (f : α → D → D) {ρ : Env} {h : MH} : ∀ (xs : List α) {Q : List D → MH → Prop},
    (∀ x, x ∈ xs → wp (asg (g x) ρ) h fun ρ1 h1 => wp (it1 ρ1) h1 fun ys h2 => ys = its x ∧ h2 = h ∧ ∀ y, y ∈ its x → wp (asg1 y (wipeD ρ1 vs1)) h fun ρ2 h3 => wp (elt ρ2) h3 fun z h4 => z = f x y ∧ h4 = h) →
    Q (xs.flatMap fun x => (its x).map (f x)) h → wp (compL2 asg (evIfs C G B []) it1 asg1 (evIfs C G B []) elt vs1 ρ (xs.map g)) h Q
  | [], Q, _, d => by
    show wp (M.ret []) h Q
    rw [wp_ret]; exact d
  | x :: xs, Q, step, d => by
    show wp (M.bind (asg (g x) ρ) fun ρ1 => .bind (evIfs C G B [] ρ1) fun b =>
      if b = true then .bind (it1 ρ1) fun ys => .bind (compL asg1 (evIfs C G B []) elt (wipeD ρ1 vs1) ys) fun as => .bind (compL2 asg (evIfs C G B []) it1 asg1 (evIfs C G B []) elt vs1 ρ (xs.map g)) fun bs => .ret (as ++ bs) else compL2 asg (evIfs C G B []) it1 asg1 (evIfs C G B []) elt vs1 ρ (xs.map g)) h Q
    rw [wp_bind]
    refine wp_mono (step x List.mem_cons_self) fun ρ1 h1 w => ?_
    rw [wp_bind, wpIfs_nil, if_pos rfl, wp_bind]
    refine wp_mono w fun ys h2 w => ?_
    obtain ⟨rfl, rfl, w⟩ := w
    rw [wp_bind]
    refine comp_map0 (f x) _ w ?_
    rw [wp_bind]
    refine comp2_map g its f xs (fun y hy => step y (List.mem_cons_of_mem _ hy)) ?_
    rw [wp_ret]
    simpa using d
/-- what a run gives, whatever is wanted of it -/
theorem wp_eq {α : Type} {m : M α} {h h' : MH} {a : α} {Q : α → MH → Prop} (w : wp m h fun x h2 => x = a ∧ h2 = h') : wp m h Q = Q a h' := by
  obtain ⟨b, k, e, rfl, rfl⟩ := w
  refine propext ⟨fun ⟨c, l, e2, q⟩ => ?_, fun q => ⟨_, _, e, q⟩⟩
  rw [e] at e2; cases e2; exact q
/-- a block, statement by statement -/
theorem cut {C : Str → List D → M D} {G : Str → Option D} {B W : Nat} {s : S} {ss : List S} {ρ : Env} {h : MH} {QC : Ctl × Env → MH → Prop} (M : Env → MH → Prop)
    (h1 : wp (ex C G B W s ρ) h fun q h' => q.1 = .nx ∧ M q.2 h') (h2 : ∀ ρ' h', M ρ' h' → wp (exL C G B W ss ρ') h' QC) : wp (exL C G B W (s :: ss) ρ) h QC := by
  rw [wps_cons]
  refine wp_mono h1 fun q h' w => ?_
  obtain ⟨c, ρ'⟩ := q
  obtain ⟨w1, w2⟩ := w
  have w1 : c = .nx := w1
  subst w1
  exact h2 ρ' h' w2
end PD


namespace PD
open PySem PySem.Spec L2
/-! ### what the operations give -/
def allB (bs : List Bool) : Bool := bs.all id
def anyB (bs : List Bool) : Bool := bs.any id
def allF {α : Type} (f : α → Bool) (xs : List α) : Bool := xs.all f
def anyF {α : Type} (f : α → Bool) (xs : List α) : Bool := xs.any f
theorem sizeLine_is : sizeLine = 16777216 := rfl
section
variable {h l : MH} {k i j : Nat} {o : MO} {α : Type}
@[simp] theorem hp_at0 {n : Nat} (e : n = h.length) : (h ++ l)[n]? = l[0]? := by rw [e, List.getElem?_append_right (Nat.le_refl _), Nat.sub_self]
@[simp] theorem hp_at {n : Nat} (e : n = h.length) : (h ++ l)[n + k]? = l[k]? := by
  rw [e, List.getElem?_append_right (by omega)]; congr 1; omega
@[simp] theorem hp_set0 {n : Nat} (e : n = h.length) : (h ++ l).set n o = h ++ l.set 0 o := by
  rw [e, List.set_append_right _ _ (by omega)]; congr 2; omega
@[simp] theorem hp_set {n : Nat} (e : n = h.length) : (h ++ l).set (n + k) o = h ++ l.set k o := by
  rw [e, List.set_append_right _ _ (by omega)]; congr 2; omega
theorem hp_old (hi : i < h.length) : (h ++ l)[i]? = h[i]? := List.getElem?_append_left hi
theorem hp_seto (hi : i < h.length) : (h ++ l).set i o = h.set i o ++ l := List.set_append_left _ _ hi
/-! places of rows -/
@[simp] theorem atI_n (xs : List α) (j : Nat) : atI xs (j : Int) = xs[j]? := by
  unfold atI ixN
  rw [if_pos (by omega)]
  by_cases hj : j < xs.length
  · rw [if_pos (by omega)]; simp
  · rw [if_neg (by omega), List.getElem?_eq_none (by omega)]; rfl
theorem atI_m1 (xs : List α) : atI xs (-1) = xs.getLast? := by
  unfold atI ixN
  rw [if_neg (by omega)]
  cases xs with
  | nil => simp
  | cons x xs =>
    rw [if_pos (by simp; omega), List.getLast?_eq_getElem?]
    have e : (-1 + ((x :: xs).length : Int)).toNat = (x :: xs).length - 1 := by simp only [List.length_cons]; omega
    rw [e]; rfl
@[simp] theorem atI_0 (xs : List α) : atI xs 0 = xs[0]? := atI_n xs 0
@[simp] theorem atI_1 (xs : List α) : atI xs 1 = xs[1]? := atI_n xs 1
@[simp] theorem atI_2 (xs : List α) : atI xs 2 = xs[2]? := atI_n xs 2
@[simp] theorem atI_3 (xs : List α) : atI xs 3 = xs[3]? := atI_n xs 3
theorem atI_of (xs : List α) (i : Int) (hi : 0 ≤ i) : atI xs i = xs[i.toNat]? := by
  have := atI_n xs i.toNat
  rwa [Int.toNat_of_nonneg hi] at this
theorem ixN_n (n j : Nat) (hj : j < n) : ixN n (j : Int) = some j := by
  unfold ixN; rw [if_pos (by omega), if_pos (by omega)]; simp
@[simp] theorem cutD_nn (xs : List D) : cutD xs none none = xs := by simp [cutD, HT.sIx]
theorem cutD_to (xs : List D) (k : Nat) : cutD xs none (some (k : Int)) = xs.take k := by
  unfold cutD
  rw [HT.sIx_nat, HT.sIx_none]
  simp
theorem cutD_from (xs : List D) (k : Nat) : cutD xs (some (k : Int)) none = xs.drop k := by
  unfold cutD
  rw [HT.sIx_nat, HT.sIx_none]
  by_cases z : k ≤ xs.length
  · rw [Nat.min_eq_left z, List.take_of_length_le (by simp)]
  · rw [Nat.min_eq_right (by omega), List.drop_of_length_le (by omega), List.drop_of_length_le (by omega), List.take_nil]
theorem cutD_mid (xs : List D) (k m : Nat) : cutD xs (some (k : Int)) (some (m : Int)) = (xs.drop k).take (m - k) := by
  unfold cutD
  rw [HT.sIx_nat, HT.sIx_nat]
  by_cases z : k ≤ xs.length
  · rw [Nat.min_eq_left z]
    by_cases w : m ≤ xs.length
    · rw [Nat.min_eq_left w]
    · rw [Nat.min_eq_right (by omega), List.take_of_length_le (by simp), List.take_of_length_le (by rw [List.length_drop]; omega)]
  · rw [Nat.min_eq_right (show xs.length ≤ k by omega), List.drop_of_length_le (by omega), List.drop_of_length_le (by omega)]; simp
theorem cutD_last (xs : List D) : cutD xs (some (-1)) none = xs.getLast?.toList := by
  unfold cutD
  show List.take (xs.length - (-1 + (xs.length : Int)).toNat) (List.drop (-1 + (xs.length : Int)).toNat xs) = _
  rcases List.eq_nil_or_concat xs with rfl | ⟨ys, y, rfl⟩
  · rfl
  · have e : (-1 + ((ys.concat y).length : Int)).toNat = ys.length := by simp; omega
    rw [e]
    simp
end
section
variable {h : MH} {i j : Int} {s t : Str} {xs ys : List D} {b c : Bool} {d x y : D} {k : Nat}
@[simp] theorem add_int : binop .add (.int i) (.int j) h = some (.int (i + j)) := rfl
@[simp] theorem add_str : binop .add (.str s) (.str t) h = if s.length + t.length ≤ sizeLine then some (.str (s ++ t)) else none := rfl
@[simp] theorem add_tup : binop .add (.tup xs) (.tup ys) h = if xs.length + ys.length ≤ sizeLine then some (.tup (xs ++ ys)) else none := rfl
@[simp] theorem add_lst : binop .add (.lst xs) (.lst ys) h = if xs.length + ys.length ≤ sizeLine then some (.lst (xs ++ ys)) else none := rfl
@[simp] theorem add_flst : binop .add (.flst xs) (.lst ys) h = if xs.length + ys.length ≤ sizeLine then some (.lst (xs ++ ys)) else none := rfl
@[simp] theorem sub_int : binop .sub (.int i) (.int j) h = some (.int (i - j)) := rfl
theorem mul_int : binop .mul (.int i) (.int j) h = if (small i || small j) = true then some (.int (i * j)) else none := rfl
theorem mul_lst0 : binop .mul (.lst xs) (.int i) h = if -(2 ^ 63) ≤ i ∧ i < 2 ^ 63 ∧ xs.length * i.toNat ≤ sizeLine then some (.lst (repL xs i.toNat)) else none := rfl
theorem mul_lst {n : Nat} (hn : n ≤ sizeLine) (hm : xs.length * n ≤ sizeLine) : binop .mul (.lst xs) (.int (n : Int)) h = some (.lst (repL xs n)) := by
  have e : sizeLine = 16777216 := rfl
  exact mul_lst0.trans (if_pos ⟨by omega, by omega, by simpa using hm⟩)
theorem fdiv_int : binop .fdiv (.int i) (.int j) h = if j ≠ 0 ∧ j.natAbs < 1073741824 then some (.int (i.fdiv j)) else none := rfl
theorem mod_int : binop .mod (.int i) (.int j) h = if j ≠ 0 then some (.int (i.fmod j)) else none := rfl
theorem pow_int : binop .pow (.int i) (.int j) h = if 0 ≤ j ∧ j ≤ 1000000 ∧ i.natAbs < 2 ^ 64 then some (.int (i ^ j.toNat)) else none := rfl
@[simp] theorem cmp_lt : cmpop .lt (.int i) (.int j) h = some (decide (i < j)) := rfl
@[simp] theorem cmp_le : cmpop .le (.int i) (.int j) h = some (decide (i ≤ j)) := rfl
@[simp] theorem cmp_gt : cmpop .gt (.int i) (.int j) h = some (decide (j < i)) := rfl
@[simp] theorem cmp_ge : cmpop .ge (.int i) (.int j) h = some (decide (j ≤ i)) := rfl
@[simp] theorem cmp_is_non : cmpop .is x .non h = some (isNon x) := by cases x <;> rfl
@[simp] theorem cmp_isn_non : cmpop .isn x .non h = some (!isNon x) := by cases x <;> rfl
@[simp] theorem cmp_is_bl : cmpop .is (.bl b) (.bl c) h = some (b == c) := rfl
@[simp] theorem cmp_isn_bl : cmpop .isn (.bl b) (.bl c) h = some (!(b == c)) := rfl
@[simp] theorem cmp_eq : cmpop .eq x y h = eqd h x y := rfl
@[simp] theorem cmp_ne : cmpop .ne x y h = (eqd h x y).map not := rfl
@[simp] theorem cmp_mem : cmpop .mem x y h = cmpop.memd h x y := rfl
@[simp] theorem cmp_nmem : cmpop .nmem x y h = (cmpop.memd h x y).map not := rfl
@[simp] theorem isNon_non : isNon .non = true := rfl
@[simp] theorem isNon_int : isNon (.int i) = false := rfl
@[simp] theorem isNon_str : isNon (.str s) = false := rfl
@[simp] theorem isNon_tup : isNon (.tup xs) = false := rfl
@[simp] theorem isNon_lst : isNon (.lst xs) = false := rfl
@[simp] theorem truth_non : truth h .non = some false := rfl
@[simp] theorem truth_bl : truth h (.bl b) = some b := rfl
@[simp] theorem truth_int : truth h (.int i) = some (i != 0) := rfl
@[simp] theorem truth_str : truth h (.str s) = if s.length ≤ sizeLine then some (s.length != 0) else none := rfl
@[simp] theorem truth_tup : truth h (.tup xs) = some (!xs.isEmpty) := rfl
@[simp] theorem truth_lst : truth h (.lst xs) = some (!xs.isEmpty) := rfl
@[simp] theorem ix_tup : index h (.tup xs) (.int i) = atI xs i := rfl
@[simp] theorem ix_lst : index h (.lst xs) (.int i) = atI xs i := rfl
@[simp] theorem ix_flst : index h (.flst xs) (.int i) = atI xs i := rfl
@[simp] theorem ix_str : index h (.str s) (.int i) = if s.length ≤ sizeLine then (atI s.cps.toList i).map fun c => .str ⟨#[c]⟩ else none := rfl
@[simp] theorem ix_ref : index h (.ref k) d = match h[k]?, d with
    | some (.lst xs), .int i => atI xs i
    | some (.dct kvs), i => (keyOf i).bind (valD kvs)
    | _, _ => none := rfl
@[simp] theorem sl_tup {lo hi : Option Int} : slice h (.tup xs) lo hi = some (.tup (cutD xs lo hi)) := rfl
@[simp] theorem sl_lst {lo hi : Option Int} : slice h (.lst xs) lo hi = some (.lst (cutD xs lo hi)) := rfl
@[simp] theorem sl_flst {lo hi : Option Int} : slice h (.flst xs) lo hi = some (.lst (cutD xs lo hi)) := rfl
@[simp] theorem sl_ref {lo hi : Option Int} : slice h (.ref k) lo hi = match h[k]? with
    | some (.lst xs) => some (.lst (cutD xs lo hi))
    | _ => none := rfl
@[simp] theorem rev_tup : revop h (.tup xs) = some (.tup xs.reverse) := rfl
@[simp] theorem rev_lst : revop h (.lst xs) = some (.lst xs.reverse) := rfl
@[simp] theorem rev_ref : revop h (.ref k) = match h[k]? with
    | some (.lst xs) => some (.lst xs.reverse)
    | _ => none := rfl
@[simp] theorem still_tup : still (.tup xs) = some xs := rfl
@[simp] theorem still_lst : still (.lst xs) = some xs := rfl
@[simp] theorem still_flst : still (.flst xs) = some xs := rfl
@[simp] theorem still_str : still (.str s) = some (signs s) := rfl
@[simp] theorem items_tup : items h (.tup xs) = some xs := rfl
@[simp] theorem items_lst : items h (.lst xs) = some xs := rfl
@[simp] theorem items_flst : items h (.flst xs) = some xs := rfl
@[simp] theorem items_ref : items h (.ref k) = match h[k]? with
    | some (.lst xs) => some xs
    | _ => none := rfl
@[simp] theorem listy_lst : listy h (.lst xs) = some xs := rfl
@[simp] theorem listy_flst : listy h (.flst xs) = some xs := rfl
@[simp] theorem listy_ref : listy h (.ref k) = match h[k]? with
    | some (.lst xs) => some xs
    | _ => none := rfl
@[simp] theorem len_str : biop .len [.str s] h = if s.length ≤ sizeLine then some (.int s.length) else none := rfl
@[simp] theorem len_tup : biop .len [.tup xs] h = some (.int xs.length) := rfl
@[simp] theorem len_lst : biop .len [.lst xs] h = some (.int xs.length) := rfl
@[simp] theorem len_flst : biop .len [.flst xs] h = some (.int xs.length) := rfl
@[simp] theorem len_ref : biop .len [.ref k] h = (items h (.ref k)).map fun xs => .int xs.length := rfl
@[simp] theorem int_int : biop .int [.int i] h = some (.int i) := rfl
@[simp] theorem abs_int : biop .abs [.int i] h = some (.int (if i < 0 then -i else i)) := rfl
@[simp] theorem max_int : biop .max [.int i, .int j] h = some (.int (if j > i then j else i)) := rfl
@[simp] theorem min_int : biop .min [.int i, .int j] h = some (.int (if j < i then j else i)) := rfl
@[simp] theorem all_lst : biop .all [.lst xs] h = (boolsOf xs).map fun bs => .bl (allB bs) := rfl
@[simp] theorem any_lst : biop .any [.lst xs] h = (boolsOf xs).map fun bs => .bl (anyB bs) := rfl
@[simp] theorem sum_lst : biop .sum [.lst xs] h = (intsOf xs).map fun ns => .int ns.sum := rfl
@[simp] theorem tuple_tup : biop .tuple [.tup xs] h = some (.tup xs) := rfl
@[simp] theorem tuple_lst : biop .tuple [.lst xs] h = some (.tup xs) := rfl
@[simp] theorem tuple_ref : biop .tuple [.ref k] h = (listy h (.ref k)).map .tup := rfl
@[simp] theorem list_tup : biop .list [.tup xs] h = some (.lst xs) := rfl
@[simp] theorem list_lst : biop .list [.lst xs] h = some (.lst xs) := rfl
@[simp] theorem repr_any : biop .repr [x] h = reprD h x := rfl
@[simp] theorem isinst_any {t : Ty} : biop (.isinst t) [x] h = (isT t x).map .bl := rfl
theorem lrange_10 : biop .lrange [.int i] h = if -(2 ^ 62) ≤ i ∧ i < 2 ^ 62 ∧ i.toNat ≤ sizeLine then some (.lst (irange 0 i)) else none := rfl
theorem lrange_1 {n : Nat} (hn : n ≤ sizeLine) : biop .lrange [.int (n : Int)] h = some (.lst (irange 0 (n : Int))) := by
  have e : sizeLine = 16777216 := rfl
  exact lrange_10.trans (if_pos ⟨by omega, by omega, by simpa using hn⟩)
@[simp] theorem kindOf_ref : kindOf h (.ref k) = match h[k]? with
    | some (.lst _) => some .list
    | some (.dct _) => some .dict
    | none => none := rfl
@[simp] theorem okput_ref {B : Nat} : okput B (.ref k) xs = (decide (B ≤ k) || belowL k xs) := rfl
@[simp] theorem belowL_nil : belowL k [] = true := rfl
@[simp] theorem belowL_cons : belowL k (x :: xs) = (below k x && belowL k xs) := rfl
@[simp] theorem below_int : below k (.int i) = true := rfl
@[simp] theorem me_append : meop .list .append (.ref k) [x] h = match h[k]? with
    | some (.lst ys) => if ys.length < sizeLine then some (.non, h.set k (.lst (ys ++ [x]))) else none
    | _ => none := rfl
@[simp] theorem me_pop : meop .list .pop (.ref k) [] h = match h[k]? with
    | some (.lst ys) => (ys[ys.length - 1]?).map fun y => (y, h.set k (.lst ys.dropLast))
    | _ => none := rfl
@[simp] theorem setop_ref : setop (.ref k) x d h = match h[k]? with
    | some (.lst xs) => match x with
      | .int i => (ixN xs.length i).map fun j => h.set k (.lst (xs.set j d))
      | _ => none
    | some (.dct kvs) => match keyOf x with
      | some key => if kvs.length < sizeLine then some (h.set k (.dct (putD kvs key d))) else none
      | none => none
    | none => none := rfl
@[simp] theorem pick_nil {α : Type} {zs : List α} : pick [] zs = zs := rfl
theorem pick_cons {α : Type} {n : Nat} {pm : List Nat} {zs : List α} : pick (n :: pm) zs = (n :: pm).filterMap fun i => zs[i]? := rfl
@[simp] theorem wipe_nil {ρ : Env} : wipeD ρ [] = ρ := rfl
@[simp] theorem wipe_cons {ρ : Env} {v : Nat} {vs : List Nat} : wipeD ρ (v :: vs) = (wipeD ρ vs).set v none := rfl
@[simp] theorem boolsOf_map {α : Type} (f : α → Bool) : ∀ xs : List α, boolsOf (xs.map fun x => .bl (f x)) = some (xs.map f)
  | [] => rfl
  | x :: xs => by
    show (boolsOf (xs.map fun x => .bl (f x))).map (f x :: ·) = _
    rw [boolsOf_map f xs]; rfl
@[simp] theorem intsOf_map {α : Type} (f : α → Int) : ∀ xs : List α, intsOf (xs.map fun x => .int (f x)) = some (xs.map f)
  | [] => rfl
  | x :: xs => by
    show (intsOf (xs.map fun x => .int (f x))).map (f x :: ·) = _
    rw [intsOf_map f xs]; rfl
@[simp] theorem allB_map {α : Type} (f : α → Bool) (xs : List α) : allB (xs.map f) = allF f xs := by simp [allB, allF]
@[simp] theorem anyB_map {α : Type} (f : α → Bool) (xs : List α) : anyB (xs.map f) = anyF f xs := by simp [anyB, anyF]
theorem allF_iff {α : Type} {f : α → Bool} {xs : List α} : allF f xs = true ↔ ∀ x ∈ xs, f x = true := by simp [allF]
theorem anyF_iff {α : Type} {f : α → Bool} {xs : List α} : anyF f xs = true ↔ ∃ x ∈ xs, f x = true := by simp [anyF]
theorem allF_nil {α : Type} {f : α → Bool} : allF f [] = true := rfl
theorem allF_cons {α : Type} {f : α → Bool} {x : α} {xs : List α} : allF f (x :: xs) = (f x && allF f xs) := rfl
theorem enumL_map {α : Type} (g : α → D) : ∀ (xs : List α) (k : Nat), enumL k (xs.map g) = (xs.zipIdx k).map fun p => .tup [.int p.2, g p.1]
  | [], _ => rfl
  | x :: xs, k => by
    show D.tup [.int k, g x] :: enumL (k + 1) (xs.map g) = _
    rw [enumL_map g xs (k + 1)]; rfl
theorem irange_0 (n : Nat) : irange 0 (n : Int) = (List.range n).map fun (i : Nat) => .int i := by
  unfold irange
  simp
theorem repL_one (x : D) : ∀ n : Nat, repL [x] n = List.replicate n x
  | 0 => rfl
  | n + 1 => by
    show [x] ++ repL [x] n = _
    rw [repL_one x n]; rfl
@[simp] theorem repL_len : ∀ n : Nat, (repL xs n).length = n * xs.length
  | 0 => by simp [repL]
  | n + 1 => by
    show (xs ++ repL xs n).length = _
    rw [List.length_append, repL_len n, Nat.succ_mul]; omega
end
/-! ### the end of a call -/
section
variable {h l : MH} {d : D} {xs : List D} {k n m : Nat}
theorem fin_fl (hd : flat d = true) (hn : n = h.length) : fin false n d (h ++ l) = some (d, h) := fin_flat hd hn
theorem fin_fl0 (hd : flat d = true) (hn : n = h.length) : fin false n d h = some (d, h) := by subst hn; exact fin_flat0 hd
theorem fz_old (hi : n < m) : fz (k + 1) m h n = some (.ref n) := by
  show (if n < m then _ else _) = _
  rw [if_pos hi]
theorem fz_new (hi : ¬ n < m) (e : h[n]? = some (.lst xs)) : fz (k + 1) m h n = (fzL (fz k m h) xs).map .lst := by
  show (if n < m then _ else match h[n]? with | some (.lst xs) => _ | _ => _) = _
  rw [if_neg hi, e]
theorem fz_flat (hi : ¬ n < m) (e : h[n]? = some (.lst xs)) (hx : flatL xs = true) : fz (k + 1) m h n = some (.lst xs) := by
  rw [fz_new hi e, fzL_flat hx]; rfl
theorem fin_ref (hn : n = h.length) (e : l[m]? = some (.lst xs)) (hx : flatL xs = true) : fin false n (.ref (n + m)) (h ++ l) = some (.lst xs, h) := by
  subst hn
  unfold fin
  rw [if_neg Bool.false_ne_true]
  show (fz 8 h.length (h ++ l) (h.length + m)).map _ = _
  rw [fz_flat (by omega) (by rw [hp_at rfl]; exact e) hx]
  simp
theorem fin_ref0 (hn : n = h.length) (e : l[0]? = some (.lst xs)) (hx : flatL xs = true) : fin false n (.ref n) (h ++ l) = some (.lst xs, h) := fin_ref (m := 0) hn e hx
end
end PD


set_option exponentiation.threshold 3000
namespace PD
open PySem PySem.Spec L2
/-! ### values that are plain data -/
mutual
def pl : D → Bool
  | .ref _ => false
  | .fn _ => false
  | .flst _ => false
  | .tup xs => plL xs
  | .lst xs => plL xs
  | .str s => PyData.strOk s && decide (s.length ≤ 1000000)
  | .int i => decide (i.natAbs.log2 < 1920)
  | .non => true
  | .bl _ => true
def plL : List D → Bool
  | [] => true
  | x :: xs => pl x && plL xs
end
mutual
def dep : D → Nat
  | .tup xs => depL xs + 1
  | .lst xs => depL xs + 1
  | _ => 0
def depL : List D → Nat
  | [] => 0
  | x :: xs => max (dep x) (depL xs)
end
mutual
/-- how long what is written of it may be -/
def cost : D → Nat
  | .tup xs => costL xs + 3
  | .lst xs => costL xs + 3
  | .str s => 10 * s.length + 2
  | .int i => if i.natAbs < 1000000 then 7 else 1921
  | .non => 4
  | .bl _ => 5
  | _ => 0
def costL : List D → Nat
  | [] => 0
  | x :: xs => cost x + 2 + costL xs
end
mutual
def pd : D → PyData
  | .tup xs => .tuple (pdL xs)
  | .lst xs => .list (pdL xs)
  | .flst xs => .list (pdL xs)
  | .str s => .str s
  | .int i => .int i
  | .bl b => .bool b
  | _ => .none
def pdL : List D → List PyData
  | [] => []
  | x :: xs => pd x :: pdL xs
end
section
variable {xs ys : List D} {x y : D} {i : Int} {b : Bool} {s : Str} {k : Nat} {t : Str}
@[simp] theorem pl_int : pl (.int i) = decide (i.natAbs.log2 < 1920) := rfl
@[simp] theorem pl_bl : pl (.bl b) = true := rfl
@[simp] theorem pl_str : pl (.str s) = (PyData.strOk s && decide (s.length ≤ 1000000)) := rfl
@[simp] theorem pl_non : pl .non = true := rfl
@[simp] theorem pl_tup : pl (.tup xs) = plL xs := rfl
@[simp] theorem pl_lst : pl (.lst xs) = plL xs := rfl
@[simp] theorem pl_flst : pl (.flst xs) = false := rfl
@[simp] theorem pl_ref : pl (.ref k) = false := rfl
@[simp] theorem pl_fn : pl (.fn t) = false := rfl
@[simp] theorem plL_nil : plL [] = true := rfl
@[simp] theorem plL_cons : plL (x :: xs) = (pl x && plL xs) := rfl
theorem plL_iff : ∀ {xs : List D}, plL xs = true ↔ ∀ x ∈ xs, pl x = true
  | [] => by simp
  | x :: xs => by simp [plL_iff (xs := xs)]
@[simp] theorem plL_append : plL (xs ++ ys) = (plL xs && plL ys) := by
  rw [Bool.eq_iff_iff, Bool.and_eq_true, plL_iff, plL_iff, plL_iff]
  simp [or_imp, forall_and]
theorem log_small {i : Int} (h : i.natAbs < 2 ^ 1920) : i.natAbs.log2 < 1920 := by
  by_cases z : i.natAbs = 0
  · rw [z]; decide
  · exact (Nat.log2_lt z).mpr h
theorem pl_small (h1 : -1000000 < i) (h2 : i < 1000000) : pl (.int i) = true := by
  rw [pl_int, decide_eq_true_iff]
  refine log_small ?_
  have : (1000000 : Nat) < 2 ^ 1920 := by decide
  omega
@[simp] theorem dep_tup : dep (.tup xs) = depL xs + 1 := rfl
@[simp] theorem dep_lst : dep (.lst xs) = depL xs + 1 := rfl
@[simp] theorem dep_int : dep (.int i) = 0 := rfl
@[simp] theorem dep_str : dep (.str s) = 0 := rfl
@[simp] theorem dep_bl : dep (.bl b) = 0 := rfl
@[simp] theorem dep_non : dep .non = 0 := rfl
@[simp] theorem depL_nil : depL [] = 0 := rfl
@[simp] theorem depL_cons : depL (x :: xs) = max (dep x) (depL xs) := rfl
theorem depL_le {n : Nat} : ∀ {xs : List D}, (∀ x ∈ xs, dep x ≤ n) → depL xs ≤ n
  | [], _ => Nat.zero_le _
  | x :: xs, h => Nat.max_le.mpr ⟨h x List.mem_cons_self, depL_le fun y hy => h y (List.mem_cons_of_mem _ hy)⟩
@[simp] theorem cost_tup : cost (.tup xs) = costL xs + 3 := rfl
@[simp] theorem cost_lst : cost (.lst xs) = costL xs + 3 := rfl
@[simp] theorem cost_str : cost (.str s) = 10 * s.length + 2 := rfl
@[simp] theorem cost_bl : cost (.bl b) = 5 := rfl
@[simp] theorem cost_non : cost .non = 4 := rfl
@[simp] theorem costL_nil : costL [] = 0 := rfl
@[simp] theorem costL_cons : costL (x :: xs) = cost x + 2 + costL xs := rfl
theorem cost_small (h1 : -1000000 < i) (h2 : i < 1000000) : cost (.int i) = 7 := by
  show (if i.natAbs < 1000000 then 7 else 1921) = 7
  rw [if_pos (by omega)]
theorem cost_int_le : cost (.int i) ≤ 1921 := by
  show (if i.natAbs < 1000000 then 7 else 1921) ≤ 1921
  split <;> omega
theorem costL_le {c : Nat} : ∀ {xs : List D}, (∀ x ∈ xs, cost x ≤ c) → costL xs ≤ (c + 2) * xs.length
  | [], _ => Nat.zero_le _
  | x :: xs, h => by
    have h1 := h x List.mem_cons_self
    have h2 := costL_le (xs := xs) fun y hy => h y (List.mem_cons_of_mem _ hy)
    rw [costL_cons, List.length_cons, Nat.mul_succ]; omega
theorem costL_append : ∀ {xs : List D}, costL (xs ++ ys) = costL xs + costL ys
  | [] => by simp
  | x :: xs => by simp [costL_append (xs := xs)]; omega
end
mutual
theorem dat_pl : ∀ {d : D}, pl d = true → dat d = some (pd d)
  | .tup xs, e => by show (datL xs).map _ = _; rw [datL_pl (xs := xs) e]; rfl
  | .lst xs, e => by show (datL xs).map _ = _; rw [datL_pl (xs := xs) e]; rfl
  | .non, _ => rfl
  | .bl _, _ => rfl
  | .int _, _ => rfl
  | .str _, _ => rfl
theorem datL_pl : ∀ {xs : List D}, plL xs = true → datL xs = some (pdL xs)
  | [], _ => rfl
  | x :: xs, e => by
    rw [plL_cons, Bool.and_eq_true] at e
    show (match dat x, datL xs with | some p, some ps => some (p :: ps) | _, _ => none) = _
    rw [dat_pl e.1, datL_pl e.2]; rfl
end
mutual
theorem lay_pl : ∀ {d : D}, pl d = true → (pd d).canLay0 = true
  | .tup xs, e => layL_pl (xs := xs) e
  | .lst xs, e => layL_pl (xs := xs) e
  | .non, _ => rfl
  | .bl _, _ => rfl
  | .int _, _ => rfl
  | .str _, e => by rw [pl_str, Bool.and_eq_true] at e; exact e.1
theorem layL_pl : ∀ {xs : List D}, plL xs = true → PyData.canLayAll0 (pdL xs) = true
  | [], _ => rfl
  | x :: xs, e => by
    rw [plL_cons, Bool.and_eq_true] at e
    show ((pd x).canLay0 && PyData.canLayAll0 (pdL xs)) = true
    rw [lay_pl e.1, layL_pl e.2]; rfl
end
mutual
theorem dep_pd : ∀ d : D, (pd d).depth ≤ dep d ∨ pl d = false
  | .tup xs => by
    rcases depL_pd xs with h | h
    · exact .inl (Nat.succ_le_succ h)
    · exact .inr h
  | .lst xs => by
    rcases depL_pd xs with h | h
    · exact .inl (Nat.succ_le_succ h)
    · exact .inr h
  | .flst xs => .inr rfl
  | .ref _ => .inr rfl
  | .fn _ => .inr rfl
  | .non => .inl (Nat.le_refl _)
  | .bl _ => .inl (Nat.le_refl _)
  | .int _ => .inl (Nat.le_refl _)
  | .str _ => .inl (Nat.le_refl _)
theorem depL_pd : ∀ xs : List D, PyData.depthAll (pdL xs) ≤ depL xs ∨ plL xs = false
  | [] => .inl (Nat.le_refl _)
  | x :: xs => by
    rcases dep_pd x with h | h
    · rcases depL_pd xs with h2 | h2
      · refine .inl ?_
        show max (pd x).depth (PyData.depthAll (pdL xs)) ≤ max (dep x) (depL xs)
        omega
      · exact .inr (by simp [h2])
    · exact .inr (by simp [h])
end
mutual
theorem show_pl : ∀ {d : D}, pl d = true → (pd d).showable = true
  | .tup xs, e => showL_pl (xs := xs) e
  | .lst xs, e => showL_pl (xs := xs) e
  | .non, _ => rfl
  | .bl _, _ => rfl
  | .int _, e => e
  | .str _, _ => rfl
theorem showL_pl : ∀ {xs : List D}, plL xs = true → PyData.showableAll (pdL xs) = true
  | [], _ => rfl
  | x :: xs, e => by
    rw [plL_cons, Bool.and_eq_true] at e
    show ((pd x).showable && PyData.showableAll (pdL xs)) = true
    rw [show_pl e.1, showL_pl e.2]; rfl
end
mutual
theorem eqv_refl : ∀ p : PyData, p.canLay0 = true → PyData.eqv p p = true
  | .none, _ => by unfold PyData.eqv; rfl
  | .bool b, _ => by unfold PyData.eqv; simp
  | .int i, _ => by unfold PyData.eqv; simp
  | .str s, _ => by unfold PyData.eqv; simp
  | .list xs, e => by unfold PyData.eqv; exact eqvL_refl xs e
  | .tuple xs, e => by unfold PyData.eqv; exact eqvL_refl xs e
  | .dict _, e => by cases e
theorem eqvL_refl : ∀ ps : List PyData, PyData.canLayAll0 ps = true → PyData.eqvAll ps ps = true
  | [], _ => by unfold PyData.eqvAll; rfl
  | p :: ps, e => by
    have e : (p.canLay0 && PyData.canLayAll0 ps) = true := e
    rw [Bool.and_eq_true] at e
    unfold PyData.eqvAll
    rw [eqv_refl p e.1, eqvL_refl ps e.2]; rfl
end
theorem strLen_app (a b : Str) : (a ++ b).length = a.length + b.length := by
  show (a.cps ++ b.cps).size = _
  rw [Array.size_append]; rfl
theorem tupleText_le (ts : List Str) : (tupleText ts).length ≤ piled ts + 3 := by
  unfold tupleText
  rw [strLen_app, strLen_app]
  have e1 : ((("(" : String) : Str)).length = 1 := rfl
  have e3 : (((if ts.length == 1 then ",)" else ")" : String) : Str)).length ≤ 2 := by split <;> decide
  rw [e1]
  by_cases h : ts = []
  · subst h
    have : (Str.join ", " ([] : List Str)).length = 0 := rfl
    omega
  · have := join_length_add ts h
    omega
theorem textFrom_app (k : Nat) (acc : Str) : ∀ ts : List Str, (textFrom k acc ts).length ≤ acc.length + piled ts
  | [] => by show acc.length ≤ acc.length + 0; omega
  | t :: ts => by
    show (textFrom (k + 1) (acc ++ ((if k > 0 then ", " else "" : String) : Str) ++ t) ts).length ≤ _
    rw [textFrom_length_pos _ _ _ (by omega), strLen_app, strLen_app, piled_cons]
    have e3 : (((if k > 0 then ", " else "" : String) : Str)).length ≤ 2 := by split <;> decide
    omega
theorem listText_le (ts : List Str) : (listText ts).length ≤ piled ts + 3 := by
  unfold listText
  rw [strLen_app]
  have h := textFrom_app 0 "[" ts
  have e1 : ((("[" : String) : Str)).length = 1 := rfl
  have e2 : ((("]" : String) : Str)).length = 1 := rfl
  omega
mutual
theorem shown_le : ∀ {d : D}, pl d = true → (pd d).shown.length ≤ cost d
  | .tup xs, e => by
    have h := shownL_le (xs := xs) e
    show (tupleText (PyData.shownAll (pdL xs))).length ≤ costL xs + 3
    have := tupleText_le (PyData.shownAll (pdL xs))
    omega
  | .lst xs, e => by
    have h := shownL_le (xs := xs) e
    show (listText (PyData.shownAll (pdL xs))).length ≤ costL xs + 3
    have := listText_le (PyData.shownAll (pdL xs))
    omega
  | .non, _ => by decide
  | .bl b, _ => by cases b <;> decide
  | .int i, e => by
    show (Str.ofString (toString i)).length ≤ (if i.natAbs < 1000000 then 7 else 1921)
    split
    · rename_i h
      rw [ofString_length]
      exact int_text_length_le10 (k := 6) (by decide) h
    · rw [ofString_length]
      rw [pl_int, decide_eq_true_iff] at e
      exact int_text_length_le (k := 1920) (by decide) e
  | .str s, e => by
    refine StrLaws.reprText_len s fun c hc => ?_
    rw [pl_str, Bool.and_eq_true] at e
    have e : s.cps.all (· < 0x110000) = true := e.1
    rw [← Array.all_toList, List.all_eq_true] at e
    have := of_decide_eq_true (e c hc)
    have h2 : (16 : Nat) ^ 8 = 4294967296 := by decide
    omega
theorem shownL_le : ∀ {xs : List D}, plL xs = true → piled (PyData.shownAll (pdL xs)) ≤ costL xs
  | [], _ => Nat.le_refl _
  | x :: xs, e => by
    rw [plL_cons, Bool.and_eq_true] at e
    show piled ((pd x).shown :: PyData.shownAll (pdL xs)) ≤ _
    rw [piled_cons, costL_cons]
    have h1 := shown_le e.1
    have h2 := shownL_le e.2
    omega
end
mutual
theorem pl_flat : ∀ {d : D}, pl d = true → flat d = true
  | .tup xs, e => plL_flat (xs := xs) e
  | .lst xs, e => plL_flat (xs := xs) e
  | .non, _ => rfl
  | .bl _, _ => rfl
  | .int _, _ => rfl
  | .str _, _ => rfl
theorem plL_flat : ∀ {xs : List D}, plL xs = true → flatL xs = true
  | [], _ => rfl
  | x :: xs, e => by
    rw [plL_cons, Bool.and_eq_true] at e
    show (flat x && flatL xs) = true
    rw [pl_flat e.1, plL_flat e.2]; rfl
end
/-- what can be written and held against itself -/
structure Okd (d : D) : Prop where
  pl : pl d = true
  dep : dep d ≤ 64
  cost : cost d + 64 ≤ sizeLine
theorem dat1_pl {h : MH} {d : D} (e : pl d = true) : dat1 h d = some (pd d) := by
  rw [← dat_pl e]
  cases d <;> first | rfl | cases e
theorem shaped_pl {d : D} (e : pl d = true) (hd : dep d ≤ 64) : SeqAt.shaped (pd d) = true := by
  unfold SeqAt.shaped
  rw [Bool.and_eq_true]
  refine ⟨lay_pl e, decide_eq_true ?_⟩
  rcases dep_pd d with h | h
  · omega
  · rw [e] at h; cases h
theorem eqd_pl {h : MH} {x y : D} (e : pl x = true) (f : pl y = true) (hx : dep x ≤ 64) (hy : dep y ≤ 64) : eqd h x y = some (PyData.eqv (pd x) (pd y)) := by
  have z : eqd.eqd0 h x y = some (PyData.eqv (pd x) (pd y)) := by
    unfold eqd.eqd0
    rw [dat1_pl e, dat1_pl f]
    show (if (SeqAt.shaped (pd x) && SeqAt.shaped (pd y)) = true then _ else _) = _
    rw [shaped_pl e hx, shaped_pl f hy]; rfl
  unfold eqd
  split
  · refine congrArg some ?_
    show _ = PyData.eqv (.str _) (.str _)
    unfold PyData.eqv
    rw [Bool.eq_iff_iff]; simp
  · exact z
theorem eqd_same {h : MH} {d : D} (e : pl d = true) (hd : dep d ≤ 64) : eqd h d d = some true := by
  rw [eqd_pl e e hd hd, eqv_refl _ (lay_pl e)]
theorem reprD_ok {h : MH} {d : D} (o : Okd d) : reprD h d = some (.str (pd d).shown) := by
  unfold reprD
  rw [dat1_pl o.pl]
  have h1 := show_pl o.pl
  have h2 := PyData.hasDict_of_canLay _ (lay_pl o.pl)
  have h3 : (pd d).depth ≤ 64 := by
    rcases dep_pd d with h | h
    · have := o.dep; omega
    · rw [o.pl] at h; cases h
  have h4 := shown_le o.pl
  have h5 := o.cost
  show (if ((pd d).showable && !(pd d).hasDict && decide ((pd d).depth ≤ 64) && decide ((pd d).shown.length + 64 ≤ sizeLine)) = true then _ else _) = _
  rw [h1, h2, decide_eq_true h3, decide_eq_true (by omega)]; rfl
/-! equality of small things -/
section
variable {h : MH} {i j : Int} {s t : Str} {xs : List D} {b c : Bool} {k : Nat}
@[simp] theorem eqd_str : eqd h (.str s) (.str t) = some (decide (s = t)) := rfl
@[simp] theorem eqd_int : eqd h (.int i) (.int j) = some (decide (i = j)) := by
  show eqd.eqd0 h (.int i) (.int j) = _
  unfold eqd.eqd0
  show (if (true && true) = true then some (PyData.eqv (.int i) (.int j)) else none) = _
  unfold PyData.eqv
  simp [BEq.beq]
@[simp] theorem eqd_bl : eqd h (.bl b) (.bl c) = some (b == c) := by
  show eqd.eqd0 h (.bl b) (.bl c) = _
  unfold eqd.eqd0
  show (if (true && true) = true then some (PyData.eqv (.bool b) (.bool c)) else none) = _
  unfold PyData.eqv; rfl
theorem eqvAll_nil : ∀ ps : List PyData, PyData.eqvAll ps [] = ps.isEmpty
  | [] => by unfold PyData.eqvAll; rfl
  | _ :: _ => by unfold PyData.eqvAll; rfl
theorem pdL_empty : (pdL xs).isEmpty = xs.isEmpty := by cases xs <;> rfl
theorem eqd_lst_nil (e : plL xs = true) (hd : depL xs < 64) : eqd h (.lst xs) (.lst []) = some xs.isEmpty := by
  rw [eqd_pl (x := .lst xs) (y := .lst []) e rfl (by rw [dep_lst]; omega) (by decide)]
  show some (PyData.eqv (.list (pdL xs)) (.list [])) = _
  unfold PyData.eqv
  rw [eqvAll_nil, pdL_empty]
theorem eqd_tup_nil (e : plL xs = true) (hd : depL xs < 64) : eqd h (.tup xs) (.tup []) = some xs.isEmpty := by
  rw [eqd_pl (x := .tup xs) (y := .tup []) e rfl (by rw [dep_tup]; omega) (by decide)]
  show some (PyData.eqv (.tuple (pdL xs)) (.tuple [])) = _
  unfold PyData.eqv
  rw [eqvAll_nil, pdL_empty]
theorem eqd_ref_nil (q : h[k]? = some (.lst xs)) (e : plL xs = true) (hd : depL xs < 64) : eqd h (.ref k) (.lst []) = some xs.isEmpty := by
  have := eqd_lst_nil (h := h) e hd
  have z : eqd.eqd0 h (.lst xs) (.lst []) = some xs.isEmpty := this
  show eqd.eqd0 h (.ref k) (.lst []) = _
  rw [← z]
  unfold eqd.eqd0
  have : dat1 h (.ref k) = dat1 h (.lst xs) := by
    show (match h[k]? with | some (.lst xs) => (datL xs).map PyData.list | _ => none) = _
    rw [q]; rfl
  rw [this]
end
section
variable {h : MH} {x : D} {ys : List D} {s : Str}
theorem pdL_any (f : PyData → Bool) : ∀ ys : List D, (pdL ys).any f = ys.any fun y => f (pd y)
  | [] => rfl
  | y :: ys => by
    show (f (pd y) || (pdL ys).any f) = _
    rw [pdL_any f ys]; rfl
theorem mem_tup (e : pl x = true) (f : plL ys = true) (hx : dep x ≤ 64) (hy : depL ys < 64) : cmpop.memd h x (.tup ys) = some (ys.any fun y => PyData.eqv (pd y) (pd x)) := by
  have e1 := dat1_pl (h := h) e
  have e2 := dat1_pl (h := h) (d := .tup ys) f
  have s1 := shaped_pl e hx
  have s2 := shaped_pl (d := .tup ys) f (by rw [dep_tup]; omega)
  have z : (match dat1 h x, dat1 h (.tup ys) with
      | some d, some (.list ds) => if (SeqAt.shaped d && SeqAt.shaped (.list ds)) = true then some (ds.any fun z => PyData.eqv z d) else none
      | some d, some (.tuple ds) => if (SeqAt.shaped d && SeqAt.shaped (.tuple ds)) = true then some (ds.any fun z => PyData.eqv z d) else none
      | _, _ => none) = some (ys.any fun y => PyData.eqv (pd y) (pd x)) := by
    rw [e1, e2]
    show (if (SeqAt.shaped (pd x) && SeqAt.shaped (pd (.tup ys))) = true then some ((pdL ys).any fun z => PyData.eqv z (pd x)) else none) = _
    rw [s1, s2, pdL_any]; rfl
  rw [← z]
  cases x <;> rfl
@[simp] theorem eqv_str {s t : Str} : PyData.eqv (.str s) (.str t) = decide (s = t) := by
  unfold PyData.eqv
  rw [Bool.eq_iff_iff]; simp
@[simp] theorem pd_str : pd (.str s) = .str s := rfl
end
/-- held against itself -/
def isBody : List S := [(.ret (.and (.cmp .eq (.var 0) (.var 1)) (.cmp .eq (.bi .repr [(.var 0)]) (.bi .repr [(.var 1)]))))]
theorem is_wp {C : Str → List D → M D} {G : Str → Option D} {W : Nat} {h : MH} {d : D} {Q : D → MH → Prop} (o : Okd d) : wp (exL C G h.length W isBody [some d, some d]) h (retq false h.length Q) = Q (.bl true) h := by
  unfold isBody
  simp [eqd_same o.pl o.dep, reprD_ok o]
end PD


namespace PD
open PySem PySem.Spec L2
/-! ### loops by places -/
section
variable {α : Type} {asg : D → Env → M Env} {body : Env → M (Ctl × Env)} {Q : Ctl × Env → MH → Prop} {ρ : Env} {h : MH}
theorem for_idx (g : α → D) (xs : List α) (I : Nat → Env → MH → Prop) (start : I 0 ρ h)
    (step : ∀ (i : Nat) x ρ h, xs[i]? = some x → I i ρ h → wp (asg (g x) ρ) h fun ρ h => wp (body ρ) h (lq (I (i + 1)) Q))
    (done : ∀ ρ h, I xs.length ρ h → Q (.nx, ρ) h) : wp (forL asg body (xs.map g) ρ) h Q := by
  refine for_inv g xs (fun pre => I pre.length) start (fun pre x post ρ h e i => ?_) done
  have := step pre.length x ρ h (by simp [e]) i
  have z : (pre ++ [x]).length = pre.length + 1 := by simp
  rw [z]; exact this
theorem for_idx0 (xs : List D) (I : Nat → Env → MH → Prop) (start : I 0 ρ h)
    (step : ∀ (i : Nat) x ρ h, xs[i]? = some x → I i ρ h → wp (asg x ρ) h fun ρ h => wp (body ρ) h (lq (I (i + 1)) Q))
    (done : ∀ ρ h, I xs.length ρ h → Q (.nx, ρ) h) : wp (forL asg body xs ρ) h Q := by
  have := for_idx (asg := asg) (body := body) (Q := Q) (ρ := ρ) (h := h) (fun x => x) xs I start step done
  rwa [List.map_id'] at this
theorem for_enum (g : α → D) (xs : List α) (I : Nat → Env → MH → Prop) (start : I 0 ρ h)
    (step : ∀ (i : Nat) x ρ h, xs[i]? = some x → I i ρ h → wp (asg (.tup [.int i, g x]) ρ) h fun ρ h => wp (body ρ) h (lq (I (i + 1)) Q))
    (done : ∀ ρ h, I xs.length ρ h → Q (.nx, ρ) h) : wp (forL asg body (enumL 0 (xs.map g)) ρ) h Q := by
  rw [enumL_map]
  refine for_idx (fun p : α × Nat => .tup [.int p.2, g p.1]) (xs.zipIdx 0) I start (fun i x ρ h e j => ?_) (fun ρ h j => ?_)
  · rw [List.getElem?_zipIdx] at e
    cases q : xs[i]? with
    | none => rw [q] at e; cases e
    | some y =>
      rw [q] at e
      simp at e
      subst e
      exact step i y ρ h q j
  · rw [List.length_zipIdx] at j
    exact done ρ h j
theorem for_rng (n : Nat) (I : Nat → Env → MH → Prop) (start : I 0 ρ h)
    (step : ∀ i ρ h, i < n → I i ρ h → wp (asg (.int i) ρ) h fun ρ h => wp (body ρ) h (lq (I (i + 1)) Q))
    (done : ∀ ρ h, I n ρ h → Q (.nx, ρ) h) : wp (forL asg body (irange 0 (n : Int)) ρ) h Q := by
  rw [irange_0]
  refine for_idx (fun i : Nat => .int i) (List.range n) I start (fun i x ρ h e j => ?_) (fun ρ h j => ?_)
  · have hi : i < n := by
      have := (List.getElem?_eq_some_iff.mp e).1
      simpa using this
    rw [List.getElem?_range hi] at e
    cases e
    exact step i ρ h hi j
  · rw [List.length_range] at j
    exact done ρ h j
end
section
variable {α : Type} {asg : D → Env → M Env} {ifs : Env → M Bool} {elt : Env → M D} {ρ : Env} {h : MH} {Q : List D → MH → Prop}
theorem comp_idx (g : α → D) (xs : List α) (I : Nat → List D → MH → Prop) (start : I 0 [] h)
    (step : ∀ (i : Nat) x ys h, xs[i]? = some x → I i ys h → wp (asg (g x) ρ) h fun ρ h => wp (ifs ρ) h fun b h => if b = true then wp (elt ρ) h fun y h => I (i + 1) (ys ++ [y]) h else I (i + 1) ys h)
    (done : ∀ zs h, I xs.length zs h → Q zs h) : wp (compL asg ifs elt ρ (xs.map g)) h Q := by
  refine comp_inv (I := fun pre ys h => I pre.length ys h) g (all := xs) (fun pre x post ys h e i => ?_) xs [] [] h Q rfl start fun zs h i => done zs h (by simpa using i)
  have := step pre.length x ys h (by simp [e]) i
  have z : (pre ++ [x]).length = pre.length + 1 := by simp
  rw [z]; exact this
theorem comp_enum (g : α → D) (p : Nat → α → Bool) (f : Nat → α → D) (xs : List α)
    (step : ∀ (i : Nat) x, xs[i]? = some x → wp (asg (.tup [.int i, g x]) ρ) h fun ρ h1 => wp (ifs ρ) h1 fun b h2 => b = p i x ∧ if p i x = true then wp (elt ρ) h2 fun y h3 => y = f i x ∧ h3 = h else h2 = h)
    (d : Q (((xs.zipIdx 0).filter fun q => p q.2 q.1).map fun q => f q.2 q.1) h) : wp (compL asg ifs elt ρ (enumL 0 (xs.map g))) h Q := by
  rw [enumL_map]
  refine comp_pure (fun q : α × Nat => .tup [.int q.2, g q.1]) (fun q => p q.2 q.1) (fun q => f q.2 q.1) (xs.zipIdx 0) (fun q hq => ?_) d
  obtain ⟨x, i⟩ := q
  exact step i x (by have := List.mk_mem_zipIdx_iff_getElem?.mp hq; simpa using this)
end
/-! ### by places, without the things -/
section
variable {α : Type} {asg : D → Env → M Env} {ifs : Env → M Bool} {elt : Env → M D} {ρ : Env} {h : MH} {Q : List D → MH → Prop}
theorem comp_at (p : Nat → Bool) (e : Nat → D) (g : α → D) (xs : List α)
    (step : ∀ (i : Nat) x, xs[i]? = some x → wp (asg (.tup [.int i, g x]) ρ) h fun ρ h1 => wp (ifs ρ) h1 fun b h2 => b = p i ∧ if p i = true then wp (elt ρ) h2 fun y h3 => y = e i ∧ h3 = h else h2 = h)
    (d : Q (((List.range xs.length).filter p).map e) h) : wp (compL asg ifs elt ρ (enumL 0 (xs.map g))) h Q := by
  rw [enumL_map]
  refine comp_idx (fun q : α × Nat => .tup [.int q.2, g q.1]) (xs.zipIdx 0) (fun i ys h1 => ys = ((List.range i).filter p).map e ∧ h1 = h) ⟨rfl, rfl⟩ (fun i q ys h1 eq j => ?_) (fun zs h1 j => ?_)
  · obtain ⟨rfl, rfl⟩ := j
    rw [List.getElem?_zipIdx] at eq
    cases w : xs[i]? with
    | none => rw [w] at eq; cases eq
    | some y =>
      rw [w] at eq
      simp at eq
      subst eq
      refine wp_mono (step i y w) fun ρ1 h2 r => wp_mono r fun b h3 r => ?_
      obtain ⟨rfl, r⟩ := r
      by_cases z : p i = true
      · rw [if_pos z] at r ⊢
        refine wp_mono r fun y h4 r => ?_
        obtain ⟨rfl, rfl⟩ := r
        simp [List.range_succ, List.filter_append, z]
      · rw [if_neg z] at r ⊢
        subst r
        simp [List.range_succ, List.filter_append, z]
  · obtain ⟨rfl, rfl⟩ := j
    rw [List.length_zipIdx]; exact d
end
/-! ### dicts -/
@[simp] theorem keyOf_int {i : Int} : keyOf (.int i) = some (.inl i) := rfl
@[simp] theorem keyOf_str {s : Str} : keyOf (.str s) = some (.inr s) := rfl
theorem valD_nil {k : Key} : valD [] k = none := rfl
theorem valD_cons {a k : Key} {v : D} {r : List (Key × D)} : valD ((a, v) :: r) k = if a = k then some v else valD r k := by
  unfold valD
  rw [List.find?_cons]
  by_cases z : a = k <;> simp [z]
theorem putD_len {kvs : List (Key × D)} {k : Key} {v : D} : (putD kvs k v).length ≤ kvs.length + 1 := by
  unfold putD
  split <;> simp
theorem valD_put {kvs : List (Key × D)} {k j : Key} {v : D} : valD (putD kvs k v) j = if k = j then some v else valD kvs j := by
  unfold putD
  split
  · rename_i hk
    rw [List.any_eq_true] at hk
    by_cases z : k = j
    · subst z
      rw [if_pos rfl]
      induction kvs with
      | nil => obtain ⟨x, hx, _⟩ := hk; cases hx
      | cons p r ih =>
        rw [List.map_cons]
        by_cases w : p.1 = k
        · rw [if_pos w, valD_cons, if_pos w]
        · rw [if_neg w, valD_cons, if_neg w]
          refine ih ?_
          obtain ⟨x, hx, hx2⟩ := hk
          rcases List.mem_cons.mp hx with rfl | hx
          · exact absurd (of_decide_eq_true hx2) w
          · exact ⟨x, hx, hx2⟩
    · rw [if_neg z]
      clear hk
      induction kvs with
      | nil => rfl
      | cons p r ih =>
        rw [List.map_cons]
        by_cases w : p.1 = k
        · rw [if_pos w, valD_cons, ih]
          have : p.1 ≠ j := fun y => z (w.symm.trans y)
          show _ = valD ((p.1, p.2) :: r) j
          rw [valD_cons, if_neg this, if_neg this]
        · rw [if_neg w, valD_cons, ih]
          show _ = valD ((p.1, p.2) :: r) j
          rw [valD_cons]
  · rename_i hk
    induction kvs with
    | nil => rw [List.nil_append, valD_cons, valD_nil]
    | cons p r ih =>
      rw [List.any_cons, Bool.or_eq_true, not_or] at hk
      rw [List.cons_append]
      have e1 : valD (p :: (r ++ [(k, v)])) j = if p.1 = j then some p.2 else valD (r ++ [(k, v)]) j := valD_cons
      have e2 : valD (p :: r) j = if p.1 = j then some p.2 else valD r j := valD_cons
      rw [e1, e2, ih hk.2]
      by_cases w : p.1 = j
      · have : k ≠ j := fun y => hk.1 (decide_eq_true (w.trans y.symm))
        simp [w, this]
      · simp [w]
/-! ### new lists of new lists -/
theorem fzL_all {g : Nat → Option D} {α : Type} (a b : α → D) : ∀ js : List α, (∀ j ∈ js, fzD g (a j) = some (b j)) → fzL g (js.map a) = some (js.map b)
  | [], _ => rfl
  | j :: js, hj => by
    show (match fzD g (a j), fzL g (js.map a) with | some y, some ys => some (y :: ys) | _, _ => none) = _
    rw [hj j List.mem_cons_self, fzL_all a b js fun i hi => hj i (List.mem_cons_of_mem _ hi)]; rfl
theorem fz_rng {h : MH} {n k j : Nat} {g : Nat → List D} {l : MH} (hg : ∀ i, i < n → flatL (g i) = true) (hj : j < n) : fz (k + 1) h.length (h ++ ((List.range n).map (fun j => MO.lst (g j)) ++ l)) (h.length + j) = some (.lst (g j)) := by
  refine fz_flat (by omega) ?_ (hg j hj)
  rw [hp_at rfl, List.getElem?_append_left (by simpa using hj)]
  simp [hj]
theorem fin_refs {h : MH} {n : Nat} {g : Nat → List D} (hg : ∀ i, i < n → flatL (g i) = true) : fin false h.length (.lst ((List.range n).map fun j => .ref (h.length + j))) (h ++ (List.range n).map fun j => .lst (g j)) = some (.lst ((List.range n).map fun j => .lst (g j)), h) := by
  unfold fin
  rw [if_neg Bool.false_ne_true]
  show ((fzL (fz 8 h.length _) _).map D.lst).map _ = _
  rw [fzL_all (fun j => .ref (h.length + j)) (fun j => .lst (g j))]
  · simp
  · intro j hj
    have := fz_rng (h := h) (k := 7) (l := []) hg (List.mem_range.mp hj)
    rw [List.append_nil] at this
    exact this
theorem take_last {α : Type} {l : List α} {t : Nat} (h : t < l.length) : (l.take (t + 1)).getLast? = l[t]? := by
  rw [List.getLast?_eq_getElem?, List.length_take, Nat.min_eq_left (by omega), List.getElem?_take_of_lt (by omega)]; rfl
/-! ### rows of numbers -/
def nats (l : List Nat) : List D := l.map fun i : Nat => .int i
theorem nats_pl {l : List Nat} (h : ∀ x ∈ l, x < 1000000) : plL (nats l) = true := by
  rw [plL_iff]
  intro x hx
  obtain ⟨p, hp, rfl⟩ := List.mem_map.mp hx
  have := h p hp
  exact pl_small (by omega) (by omega)
theorem nats_dep {l : List Nat} : depL (nats l) = 0 := Nat.le_zero.mp (depL_le fun x hx => by
  obtain ⟨p, hp, rfl⟩ := List.mem_map.mp hx
  exact Nat.le_refl _)
theorem nats_cost {l : List Nat} (h : ∀ x ∈ l, x < 1000000) : costL (nats l) = 9 * l.length := by
  induction l with
  | nil => rfl
  | cons a l ih =>
    have := h a List.mem_cons_self
    show cost (.int (a : Int)) + 2 + costL (nats l) = _
    rw [ih fun x hx => h x (List.mem_cons_of_mem _ hx), cost_small (by omega) (by omega), List.length_cons]
    omega
theorem nats_fl {l : List Nat} : flatL (nats l) = true := by
  rw [flatL_iff]
  intro x hx
  obtain ⟨p, hp, rfl⟩ := List.mem_map.mp hx
  rfl
theorem nats_get {l : List Nat} {i x : Nat} (h : l[i]? = some x) : (nats l)[i]? = some (.int x) := by simp [nats, h]
@[simp] theorem nats_emp {l : List Nat} : (nats l).isEmpty = l.isEmpty := by cases l <;> rfl
@[simp] theorem nats_len {l : List Nat} : (nats l).length = l.length := by simp [nats]
@[simp] theorem nats_app {l m : List Nat} : nats (l ++ m) = nats l ++ nats m := by simp [nats]
@[simp] theorem nats_last {l : List Nat} : (nats l).getLast? = l.getLast?.map fun i : Nat => .int i := by simp [nats]
@[simp] theorem nats_nil : nats [] = [] := rfl
@[simp] theorem nats_cons {i : Nat} {l : List Nat} : nats (i :: l) = .int i :: nats l := rfl
theorem nats_set {l : List Nat} {i v : Nat} : (nats l).set i (.int v) = nats (l.set i v) := by simp [nats, List.map_set]
theorem rng_set {α : Type} {n y : Nat} {g : Nat → α} {v : α} : ((List.range n).map g).set y v = (List.range n).map fun j => if j = y then v else g j := by
  refine List.ext_getElem (by simp) fun i h1 h2 => ?_
  simp [List.getElem_set]
  by_cases z : y = i
  · simp [z]
  · simp [z, Ne.symm z]
theorem rng_congr {α : Type} {n : Nat} {g g' : Nat → α} (h : ∀ i, i < n → g i = g' i) : (List.range n).map g = (List.range n).map g' := List.map_congr_left fun i hi => h i (List.mem_range.mp hi)
@[simp] theorem nats_rev {l : List Nat} : (nats l).reverse = nats l.reverse := by simp [nats]
/-! ### a cup of draws -/
structure Cup where
  a : Int
  b : Int
def cupO (q : Cup) : MO := .lst [.int q.a, .int q.b]
def okc (q : Cup) : Prop := 0 ≤ q.a ∧ 0 ≤ q.b
theorem hp_cup {h : MH} {c : Nat} {q : Cup} (e : h[c]? = some (cupO q)) : c < h.length := (List.getElem?_eq_some_iff.mp e).1
theorem cup_set {h : MH} {c : Nat} {q q' : Cup} (e : h[c]? = some (cupO q)) : (h.set c (cupO q'))[c]? = some (cupO q') := List.getElem?_set_self (hp_cup e)
def sipBody : List S := [(.ite (.cmp .gt (.ix (.var 0) (.int 0)) (.int 0)) [(.asg (.var 2) (.bin .mod (.ix (.var 0) (.int 0)) (.var 1))), (.asg (.sub (.var 0) (.int 0)) (.bin .fdiv (.ix (.var 0) (.int 0)) (.var 1))), (.ret (.bi .int [(.var 2)]))] []), (.asg (.sub (.var 0) (.int 1)) (.bin .mod (.bi .int [(.bin .add (.bin .mul (.ix (.var 0) (.int 1)) (.int 48271)) (.int 13))]) (.int 2147483647))), (.ret (.bin .mod (.bi .int [(.bin .fdiv (.ix (.var 0) (.int 1)) (.int 1024))]) (.var 1)))]
theorem sip_wp {C : Str → List D → M D} {G : Str → Option D} {W : Nat} {h : MH} {c : Nat} {q : Cup} {m : Int} {Q : D → MH → Prop} (hc : h[c]? = some (cupO q)) (ok : okc q) (m0 : 0 < m) (m1 : m < 1073741824)
    (H : ∀ (r : Int) (q' : Cup), 0 ≤ r → r < m → okc q' → Q (.int r) (h.set c (cupO q'))) : wp (exL C G h.length W sipBody [some (.ref c), some (.int m), none]) h (retq false h.length Q) := by
  have hl := hp_cup hc
  have e5 : ¬ h.length ≤ c := by omega
  have hc2 : h[c]? = some (.lst [.int q.a, .int q.b]) := hc
  unfold sipBody
  simp [hc2, mod_int, fdiv_int, mul_int]
  have f1 : ∀ x : Int, x.fmod m = x % m := fun x => Int.fmod_eq_emod_of_nonneg x (by omega)
  have f2 : ∀ x : Int, x.fdiv m = x / m := fun x => Int.fdiv_eq_ediv_of_nonneg x (by omega)
  have s1 : small 48271 = true := by decide
  have l2 : ∀ a b : Int, List.set [D.int q.a, D.int q.b] 0 (.int a) = [.int a, .int q.b] := fun _ _ => rfl
  by_cases z : 0 < q.a
  · have m3 : m ≠ 0 := by omega
    have m4 : m.natAbs < 1073741824 := by omega
    have i0 : ixN 2 (0 : Int) = some 0 := rfl
    have g := H (q.a % m) ⟨q.a / m, q.b⟩ (Int.emod_nonneg _ m3) (Int.emod_lt_of_pos _ m0) ⟨Int.ediv_nonneg ok.1 (by omega), ok.2⟩
    simp [z, m3, m4, i0, f1, f2]
    rw [fin_fl0 rfl (by simp)]
    simpa [cupO] using g
  · have m3 : m ≠ 0 := by omega
    have i1 : ixN 2 (1 : Int) = some 1 := rfl
    have hd : (0 : Int) ≤ (q.b * 48271 + 13).fmod 2147483647 := Int.fmod_nonneg (by have := ok.2; omega) (by decide)
    have g := H (((q.b * 48271 + 13).fmod 2147483647).fdiv 1024 % m) ⟨q.a, (q.b * 48271 + 13).fmod 2147483647⟩ (Int.emod_nonneg _ m3) (Int.emod_lt_of_pos _ m0) ⟨ok.1, hd⟩
    simp [z, m3, i1, f1, s1, hl, mod_int, fdiv_int]
    rw [fin_fl0 rfl (by simp)]
    simpa [cupO] using g
theorem sip_wpn {C : Str → List D → M D} {G : Str → Option D} {W : Nat} {h : MH} {c : Nat} {q : Cup} {m : Int} {Q : D → MH → Prop} (hc : h[c]? = some (cupO q)) (ok : okc q) (m0 : 0 < m) (m1 : m < 1073741824)
    (H : ∀ (r : Nat) (q' : Cup), (r : Int) < m → okc q' → Q (.int r) (h.set c (cupO q'))) : wp (exL C G h.length W sipBody [some (.ref c), some (.int m), none]) h (retq false h.length Q) :=
  sip_wp hc ok m0 m1 fun r q' r0 r1 ok' => by
    obtain ⟨n, rfl⟩ : ∃ n : Nat, r = n := ⟨r.toNat, by omega⟩
    exact H n q' r1 ok'
section
variable {h l : MH} {c : Nat} {q q0 q' : Cup} {x y : MO}
theorem cup_app (e : h[c]? = some x) : (h ++ l)[c]? = some x := by rw [hp_old (List.getElem?_eq_some_iff.mp e).1]; exact e
theorem set_app (e : h[c]? = some x) : (h ++ l).set c y = h.set c y ++ l := hp_seto (List.getElem?_eq_some_iff.mp e).1
theorem cup_in (hc : h[c]? = some (cupO q0)) : (h.set c (cupO q) ++ l)[c]? = some (cupO q) := cup_app (cup_set hc)
theorem cup_out (hc : h[c]? = some (cupO q0)) : (h.set c (cupO q) ++ l).set c (cupO q') = h.set c (cupO q') ++ l := by
  rw [set_app (cup_set hc), List.set_set]
theorem cup_self (hc : h[c]? = some (cupO q0)) : h.set c (cupO q0) = h := by
  refine List.ext_getElem? fun i => ?_
  rw [List.getElem?_set]
  by_cases z : c = i
  · subst z; rw [if_pos rfl, if_pos (hp_cup hc), hc]
  · rw [if_neg z]
end
end PD


namespace K04
open PySem PySem.Spec L2 PD
/-! ### the defs, plainly (printed by gen.py) -/
def kt_SIGNS : List (Str × D) := [(("all", .str " & ") : Str × D), (("some", .str " | ") : Str × D)]
/-- mark_ok: 0 value -/
def b_mark_ok : List S := [(.ret (.and (.bi (.isinst .str) [(.var 0)]) (.and (.cmp .eq (.bi .len [(.var 0)]) (.int 1)) (.cmp .mem (.var 0) (.glob "MARKS")))))]
def F_mark_ok : FD := ⟨1, 1, false, b_mark_ok⟩
/-- word_of: 0 value -/
def b_word_of : List S := [(.ite (.or (.not (.bi (.isinst .tuple) [(.var 0)])) (.or (.cmp .eq (.var 0) (.tup [] [])) (.not (.bi (.isinst .str) [(.ix (.var 0) (.int 0))])))) [(.ret .non)] []), (.ret (.ix (.var 0) (.int 0)))]
def F_word_of : FD := ⟨1, 1, false, b_word_of⟩
/-- words_told: 0 value, 1 deep, 2 is_within, 3 word, 4 own -/
def b_words_told : List S := [(.asg (.var 3) (.call "word_of" [(.var 0)] [] [] [])), (.ite (.or (.cmp .eq (.var 1) (.int 0)) (.cmp .is (.var 3) .non)) [(.ret .non)] []), (.ite (.cmp .eq (.var 3) (.glob "ANY")) [(.ret (.ife (.cmp .eq (.bi .len [(.var 0)]) (.int 1)) (.int 0) .non))] []), (.ite (.cmp .ne (.bi .len [(.var 0)]) (.int 2)) [(.ret .non)] []), (.ite (.cmp .eq (.var 3) (.glob "MARK")) [(.ret (.ife (.call "mark_ok" [(.ix (.var 0) (.int 1))] [] [] []) (.int 0) .non))] []), (.ite (.cmp .eq (.var 3) (.glob "NOT")) [(.ret (.call "words_told" [(.ix (.var 0) (.int 1)), (.bin .sub (.var 1) (.int 1)), (.var 2)] [] [] []))] []), (.ite (.cmp .mem (.var 3) (.glob "OF_PARTS")) [(.ret (.call "words_of_parts" [(.ix (.var 0) (.int 1)), (.bin .sub (.var 1) (.int 1)), (.var 2)] [] [] []))] []), (.ite (.or (.cmp .nmem (.var 3) (.glob "WORDS")) (.and (.var 2) (.cmp .mem (.var 3) (.glob "OUTER")))) [(.ret .non)] []), (.asg (.var 4) (.call "words_told" [(.ix (.var 0) (.int 1)), (.bin .sub (.var 1) (.int 1)), (.or (.var 2) (.cmp .nmem (.var 3) (.glob "ABOVE")))] [] [] [])), (.ret (.ife (.cmp .isn (.var 4) .non) (.bin .add (.var 4) (.int 1)) .non))]
def F_words_told : FD := ⟨3, 5, false, b_words_told⟩
/-- words_of_parts: 0 value, 1 deep, 2 is_within, 3 found, 4 part -/
def b_words_of_parts : List S := [(.ite (.or (.not (.bi (.isinst .tuple) [(.var 0)])) (.not (.chain .le .le (.int 2) (.bi .len [(.var 0)]) (.glob "MOST_PARTS")))) [(.ret .non)] []), (.asg (.var 3) (.comp [4] (.call "words_told" [(.var 4), (.var 1), (.var 2)] [] [] []) (.var 4) (.seq (.var 0)) [])), (.ret (.ife (.cmp .nmem .non (.var 3)) (.bi .sum [(.var 3)]) .non))]
def F_words_of_parts : FD := ⟨3, 5, false, b_words_of_parts⟩
/-- is_few: 0 words -/
def b_is_few : List S := [(.ret (.and (.cmp .isn (.var 0) .non) (.cmp .le (.var 0) (.glob "MOST_WORDS"))))]
def F_is_few : FD := ⟨1, 1, false, b_is_few⟩
/-- saying_ok: 0 value -/
def b_saying_ok : List S := [(.ret (.call "is_few" [(.call "words_told" [(.var 0), (.glob "MOST_DEEP"), (.bl false)] [] [] [])] [] [] []))]
def F_saying_ok : FD := ⟨1, 1, false, b_saying_ok⟩
/-- inner_ok: 0 value -/
def b_inner_ok : List S := [(.ret (.call "is_few" [(.call "words_told" [(.var 0), (.glob "MOST_DEEP"), (.bl true)] [] [] [])] [] [] []))]
def F_inner_ok : FD := ⟨1, 1, false, b_inner_ok⟩
/-- parts_of: 0 saying -/
def b_parts_of : List S := [(.ite (.cmp .mem (.ix (.var 0) (.int 0)) (.tup [] [(.glob "MARK"), (.glob "ANY")])) [(.ret (.tup [] []))] []), (.ret (.ife (.cmp .mem (.ix (.var 0) (.int 0)) (.glob "OF_PARTS")) (.ix (.var 0) (.int 1)) (.tup [] [(.ix (.var 0) (.int 1))])))]
def F_parts_of : FD := ⟨1, 1, false, b_parts_of⟩
/-- looks_within: 0 saying, 1 own, 2 part, 3 look -/
def b_looks_within : List S := [(.asg (.var 1) (.ife (.cmp .mem (.ix (.var 0) (.int 0)) (.glob "WORDS")) (.dsp [] [(.var 0)]) (.dsp [] []))), (.ret (.dsp [true, true] [(.var 1), (.comp2 [2, 3] (.var 3) (.var 2) (.seq (.call "parts_of" [(.var 0)] [] [] [])) [] (.var 3) (.seq (.call "looks_within" [(.var 2)] [] [] [])) [])]))]
def F_looks_within : FD := ⟨1, 4, false, b_looks_within⟩
/-- looks_in: 0 sayings, 1 found, 2 look, 3 saying -/
def b_looks_in : List S := [(.asg (.var 1) .dct), (.for_ (.var 2) (.seq (.comp2 [3, 2] (.var 2) (.var 3) (.seq (.var 0)) [] (.var 2) (.seq (.call "looks_within" [(.var 3)] [] [] [])) [])) [(.expr (.me .setdefault (.var 1) [(.call "text_of_saying" [(.var 2)] [] [] []), (.var 2)]))]), (.ret (.bi .tvals [(.var 1)]))]
def F_looks_in : FD := ⟨1, 4, false, b_looks_in⟩
/-- text_of_saying: 0 saying, 1 word, 2 part -/
def b_text_of_saying : List S := [(.asg (.var 1) (.ix (.var 0) (.int 0))), (.ite (.cmp .eq (.var 1) (.glob "MARK")) [(.ret (.ix (.var 0) (.int 1)))] []), (.ite (.cmp .eq (.var 1) (.glob "ANY")) [(.ret (.glob "ANY"))] []), (.ite (.cmp .mem (.var 1) (.glob "OF_PARTS")) [(.ret (.bin .add (.bin .add (.glob "OPEN") (.me .join (.gix "SIGNS" kt_SIGNS (.var 1)) [(.comp [2] (.call "text_of_saying" [(.var 2)] [] [] []) (.var 2) (.seq (.ix (.var 0) (.int 1))) [])])) (.glob "SHUT")))] []), (.ret (.bin .add (.bin .add (.var 1) (.glob "BLANK")) (.call "text_of_saying" [(.ix (.var 0) (.int 1))] [] [] [])))]
def F_text_of_saying : FD := ⟨1, 3, false, b_text_of_saying⟩
/-- check_saying: 0 saying -/
def b_check_saying : List S := [(.ite (.not (.call "saying_ok" [(.var 0)] [] [] [])) [.stuck] [])]
def F_check_saying : FD := ⟨1, 1, false, b_check_saying⟩
/-- check_some_sayings: 0 sayings, 1 index, 2 saying -/
def b_check_some_sayings : List S := [(.ite (.not (.bi (.isinst .tuple) [(.var 0)])) [.stuck] []), (.for_ (.tup [(.var 1), (.var 2)]) (.enum (.var 0)) [(.ite (.or (.cmp .eq (.var 1) (.glob "MOST_SAYINGS")) (.not (.call "saying_ok" [(.var 2)] [] [] []))) [.stuck] [])])]
def F_check_some_sayings : FD := ⟨1, 3, false, b_check_some_sayings⟩
/-- check_sayings: 0 sayings -/
def b_check_sayings : List S := [(.expr (.call "check_some_sayings" [(.var 0)] [] [] [])), (.ite (.cmp .eq (.var 0) (.tup [] [])) [.stuck] [])]
def F_check_sayings : FD := ⟨1, 1, false, b_check_sayings⟩
/-- is_saying: 0 value -/
def b_is_saying : List S := [(.ret (.call "saying_ok" [(.var 0)] [] [] []))]
def F_is_saying : FD := ⟨1, 1, false, b_is_saying⟩
/-- is_inner: 0 saying -/
def b_is_inner : List S := [(.expr (.call "check_saying" [(.var 0)] [] [] [])), (.ret (.call "inner_ok" [(.var 0)] [] [] []))]
def F_is_inner : FD := ⟨1, 1, false, b_is_inner⟩
/-- looks_of: 0 sayings -/
def b_looks_of : List S := [(.expr (.call "check_sayings" [(.var 0)] [] [] [])), (.ret (.call "looks_in" [(.var 0)] [] [] []))]
def F_looks_of : FD := ⟨1, 1, false, b_looks_of⟩
/-- _law_cup: 0 script, 1 lap, 2 told, 3 mill, 4 part -/
def b__law_cup : List S := [(.asg (.var 2) (.ife (.cmp .lt (.var 1) (.bi .len [(.var 0)])) (.bi .int [(.ix (.var 0) (.var 1))]) (.bin .add (.int 983) (.bin .mul (.int 31) (.var 1))))), (.asg (.var 3) (.bin .add (.int 60329) (.bin .mul (.int 5) (.var 1)))), (.for_ (.var 4) (.seq (.bin .add (.sl (.var 0) none (some (.int 11))) (.dsp [] [(.var 2)]))) [(.asg (.var 3) (.bin .mod (.bi .int [(.bin .add (.bin .add (.bin .mul (.var 3) (.int 48271)) (.bin .mod (.bi .int [(.var 4)]) (.int 1000003))) (.int 29))]) (.int 2147483647)))]), (.ret (.mut (.dsp [] [(.ife (.or (.cmp .lt (.var 2) (.int 0)) (.cmp .ge (.var 2) (.bin .pow (.int 10) (.int 16)))) (.bin .mod (.bi .int [(.bi .abs [(.var 2)])]) (.bin .pow (.int 10) (.int 59))) (.int 0)), (.var 3)])))]
def F__law_cup : FD := ⟨2, 5, true, b__law_cup⟩
/-- _law_sip: 0 cup, 1 many, 2 number -/
def b__law_sip : List S := [(.ite (.cmp .gt (.ix (.var 0) (.int 0)) (.int 0)) [(.asg (.var 2) (.bin .mod (.ix (.var 0) (.int 0)) (.var 1))), (.asg (.sub (.var 0) (.int 0)) (.bin .fdiv (.ix (.var 0) (.int 0)) (.var 1))), (.ret (.bi .int [(.var 2)]))] []), (.asg (.sub (.var 0) (.int 1)) (.bin .mod (.bi .int [(.bin .add (.bin .mul (.ix (.var 0) (.int 1)) (.int 48271)) (.int 13))]) (.int 2147483647))), (.ret (.bin .mod (.bi .int [(.bin .fdiv (.ix (.var 0) (.int 1)) (.int 1024))]) (.var 1)))]
def F__law_sip : FD := ⟨2, 3, false, b__law_sip⟩
/-- _law_one: 0 cup, 1 some -/
def b__law_one : List S := [(.ret (.ix (.var 1) (.call "_law_sip" [(.var 0), (.bi .len [(.var 1)])] [] [] [])))]
def F__law_one : FD := ⟨2, 2, false, b__law_one⟩
/-- _law_is: 0 told, 1 due -/
def b__law_is : List S := [(.ret (.and (.cmp .eq (.var 0) (.var 1)) (.cmp .eq (.bi .repr [(.var 0)]) (.bi .repr [(.var 1)]))))]
def F__law_is : FD := ⟨2, 2, false, b__law_is⟩
/-- _law_saying: 0 cup, 1 deep, 2 plain, 3 kind, 4 words, 5 part -/
def b__law_saying : List S := [(.asg (.var 3) (.ife (.cmp .gt (.var 1) (.int 1)) (.call "_law_sip" [(.var 0), (.int 16)] [] [] []) (.int 0))), (.ite (.cmp .eq (.var 3) (.int 0)) [(.ret (.call "_law_one" [(.var 0), (.tup [] [(.tup [] [(.str "any")]), (.tup [] [(.str "mark"), (.str "a")]), (.tup [] [(.str "mark"), (.str "b")]), (.tup [] [(.str "mark"), (.call "_law_one" [(.var 0), (.str "abcd")] [] [] [])])])] [] [] []))] []), (.ite (.cmp .lt (.var 3) (.int 3)) [(.ret (.tup [] [(.str "not"), (.call "_law_saying" [(.var 0), (.bin .sub (.var 1) (.int 1)), (.var 2)] [] [] [])]))] []), (.ite (.cmp .lt (.var 3) (.int 6)) [(.ret (.tup [] [(.call "_law_one" [(.var 0), (.tup [] [(.str "all"), (.str "some")])] [] [] []), (.bi .tuple [(.comp [5] (.call "_law_saying" [(.var 0), (.bin .sub (.var 1) (.int 1)), (.var 2)] [] [] []) (.var 5) (.range1 (.bin .add (.int 2) (.bin .fdiv (.call "_law_sip" [(.var 0), (.int 5)] [] [] []) (.int 4)))) [])])]))] []), (.ite (.and (.not (.var 2)) (.cmp .gt (.var 3) (.int 12))) [(.ret (.tup [] [(.call "_law_one" [(.var 0), (.tup [] [(.str "up"), (.str "under")])] [] [] []), (.call "_law_saying" [(.var 0), (.bin .sub (.var 1) (.int 1)), (.bl false)] [] [] [])]))] []), (.asg (.var 4) (.ife (.or (.var 2) (.cmp .lt (.var 3) (.int 10))) (.tup [] [(.str "child"), (.str "below"), (.str "odd"), (.str "odd"), (.str "two"), (.str "first"), (.str "last")]) (.tup [] [(.str "ahead"), (.str "behind")]))), (.ret (.tup [] [(.call "_law_one" [(.var 0), (.var 4)] [] [] []), (.call "_law_saying" [(.var 0), (.bin .sub (.var 1) (.int 1)), (.bl true)] [] [] [])]))]
def F__law_saying : FD := ⟨3, 6, false, b__law_saying⟩
/-- _law_deep: 0 value, 1 inner, 2 word, 3 parts, 4 part -/
def b__law_deep : List S := [(.ite (.or (.not (.bi (.isinst .tuple) [(.var 0)])) (.or (.cmp .eq (.var 0) (.tup [] [])) (.not (.bi (.isinst .str) [(.ix (.var 0) (.int 0))])))) [(.ret .non)] []), (.asg (.var 2) (.ix (.var 0) (.int 0))), (.ite (.cmp .eq (.var 2) (.str "any")) [(.ret (.ife (.cmp .eq (.var 0) (.tup [] [(.str "any")])) (.tup [] [(.int 1), (.int 0)]) .non))] []), (.ite (.cmp .eq (.var 2) (.str "mark")) [(.ret (.ife (.and (.cmp .eq (.bi .len [(.var 0)]) (.int 2)) (.and (.bi (.isinst .str) [(.ix (.var 0) (.int 1))]) (.cmp .mem (.ix (.var 0) (.int 1)) (.tup [] [(.str "a"), (.str "b"), (.str "c"), (.str "d")])))) (.tup [] [(.int 1), (.int 0)]) .non))] []), (.ite (.cmp .mem (.var 2) (.tup [] [(.str "all"), (.str "some")])) [(.ite (.or (.cmp .ne (.bi .len [(.var 0)]) (.int 2)) (.or (.not (.bi (.isinst .tuple) [(.ix (.var 0) (.int 1))])) (.not (.chain .le .le (.int 2) (.bi .len [(.ix (.var 0) (.int 1))]) (.int 6))))) [(.ret .non)] []), (.asg (.var 3) (.comp [4] (.call "_law_deep" [(.var 4), (.var 1)] [] [] []) (.var 4) (.seq (.ix (.var 0) (.int 1))) [])), (.ret (.ife (.cmp .mem .non (.var 3)) .non (.tup [] [(.bin .add (.int 1) (.bi .max [(.comp [4] (.ix (.var 4) (.int 0)) (.var 4) (.seq (.var 3)) [])])), (.bi .sum [(.comp [4] (.ix (.var 4) (.int 1)) (.var 4) (.seq (.var 3)) [])])])))] []), (.ite (.or (.cmp .nmem (.var 2) (.tup [] [(.str "not"), (.str "child"), (.str "below"), (.str "odd"), (.str "two"), (.str "first"), (.str "last"), (.str "up"), (.str "under"), (.str "ahead"), (.str "behind")])) (.cmp .ne (.bi .len [(.var 0)]) (.int 2))) [(.ret .non)] []), (.ite (.and (.var 1) (.cmp .mem (.var 2) (.tup [] [(.str "up"), (.str "under"), (.str "ahead"), (.str "behind")]))) [(.ret .non)] []), (.asg (.var 4) (.call "_law_deep" [(.ix (.var 0) (.int 1)), (.or (.var 1) (.cmp .nmem (.var 2) (.tup [] [(.str "not"), (.str "up"), (.str "under")])))] [] [] [])), (.ret (.ife (.cmp .is (.var 4) .non) .non (.tup [] [(.bin .add (.ix (.var 4) (.int 0)) (.int 1)), (.bin .add (.ix (.var 4) (.int 1)) (.ife (.cmp .eq (.var 2) (.str "not")) (.int 0) (.int 1)))])))]
def F__law_deep : FD := ⟨2, 5, false, b__law_deep⟩
/-- _law_is_saying: 0 value, 1 deep -/
def b__law_is_saying : List S := [(.asg (.var 1) (.call "_law_deep" [(.var 0), (.bl false)] [] [] [])), (.ret (.and (.cmp .isn (.var 1) .non) (.and (.cmp .lt (.ix (.var 1) (.int 0)) (.int 7)) (.cmp .lt (.ix (.var 1) (.int 1)) (.int 9)))))]
def F__law_is_saying : FD := ⟨1, 2, false, b__law_is_saying⟩
/-- _law_looks: 0 saying, 1 part -/
def b__law_looks : List S := [(.ite (.cmp .mem (.ix (.var 0) (.int 0)) (.tup [] [(.str "mark"), (.str "any")])) [(.ret (.dsp [] []))] []), (.ite (.cmp .mem (.ix (.var 0) (.int 0)) (.tup [] [(.str "all"), (.str "some")])) [(.ret (.bi .sumL [(.comp [1] (.call "_law_looks" [(.var 1)] [] [] []) (.var 1) (.seq (.ix (.var 0) (.int 1))) []), (.dsp [] [])]))] []), (.ret (.bin .add (.ife (.cmp .eq (.ix (.var 0) (.int 0)) (.str "not")) (.dsp [] []) (.dsp [] [(.var 0)])) (.call "_law_looks" [(.ix (.var 0) (.int 1))] [] [] [])))]
def F__law_looks : FD := ⟨1, 2, false, b__law_looks⟩
/-- _law_words: 0 saying, 1 part -/
def b__law_words : List S := [(.ite (.cmp .mem (.ix (.var 0) (.int 0)) (.tup [] [(.str "mark"), (.str "any")])) [(.ret (.dsp [] [(.ix (.var 0) (.int 0))]))] []), (.ret (.bin .add (.dsp [] [(.ix (.var 0) (.int 0))]) (.ife (.cmp .mem (.ix (.var 0) (.int 0)) (.tup [] [(.str "all"), (.str "some")])) (.bi .sumL [(.comp [1] (.call "_law_words" [(.var 1)] [] [] []) (.var 1) (.seq (.ix (.var 0) (.int 1))) []), (.dsp [] [])]) (.call "_law_words" [(.ix (.var 0) (.int 1))] [] [] []))))]
def F__law_words : FD := ⟨1, 2, false, b__law_words⟩
/-- _law_bent: 0 cup, 1 saying, 2 some, 3 one, 4 found, 5 word -/
def b__law_bent : List S := [(.asg (.var 2) (.dsp [] [(.tup [] [(.str "mark"), (.str "e")]), (.tup [] [(.str "mark"), (.str "")]), (.tup [] [(.str "mark"), .non]), (.tup [] [(.str "mark")]), (.tup [] [(.str "any"), (.int 1)]), (.tup [] []), .non, (.str "any")])), (.asg (.var 2) (.bin .add (.var 2) (.dsp [] [(.dsp [] [(.str "any")]), (.tup [] [(.str "hop"), (.tup [] [(.str "any")])]), (.tup [] [(.str "not")]), (.tup [] [(.str "not"), (.tup [] [(.str "any")]), (.tup [] [(.str "any")])]), (.tup [] [(.str "all"), (.tup [] [])]), (.tup [] [(.str "some"), (.tup [] [(.tup [] [(.str "any")])])]), (.tup [] [(.str "all"), (.bin .mul (.tup [] [(.tup [] [(.str "any")])]) (.int 7))])]))), (.asg (.var 2) (.bin .add (.var 2) (.dsp [] [(.tup [] [(.str "some"), (.dsp [] [(.tup [] [(.str "any")]), (.tup [] [(.str "any")])])]), (.tup [] [(.str "all"), (.tup [] [(.str "any")]), (.tup [] [(.str "any")])]), (.tup [] [(.str "child"), (.tup [] [(.str "up"), (.tup [] [(.str "any")])])]), (.tup [] [(.str "up"), (.tup [] [(.str "child"), (.tup [] [(.str "any")])])]), (.tup [] [(.str "ahead"), (.tup [] [(.str "behind"), (.tup [] [(.str "any")])])])]))), (.asg (.var 2) (.bin .add (.var 2) (.dsp [] [(.tup [] [(.int 1), (.tup [] [(.str "any")])]), (.tup [] [(.str "all"), (.bin .mul (.tup [] [(.tup [] [(.str "any")])]) (.int 6))]), (.int 5), (.tup [] [(.str "under"), (.tup [] [(.str "ahead"), (.tup [] [(.str "any")])])])]))), (.asg (.var 3) (.call "_law_one" [(.var 0), (.var 2)] [] [] [])), (.asg (.var 4) (.bin .add (.var 2) (.comp [5] (.tup [] [(.var 5), (.var 1)]) (.var 5) (.seq (.tup [] [(.str "not"), (.str "child"), (.str "below"), (.str "odd"), (.str "up"), (.str "under"), (.str "ahead"), (.str "behind")])) []))), (.asg (.var 4) (.bin .add (.var 4) (.dsp [] [(.tup [] [(.str "all"), (.tup [] [(.var 1), (.var 3)])]), (.tup [] [(.str "some"), (.tup [] [(.var 3), (.var 1), (.var 1)])]), (.tup [] [(.str "not"), (.var 3)]), (.tup [] [(.str "up"), (.var 3)]), (.bi .list [(.var 1)])]))), (.ret (.bin .add (.var 4) (.dsp [] [(.bin .add (.var 1) (.tup [] [(.var 1)])), (.tup [] [(.ix (.tup [] [(.str "all"), (.str "some")]) (.call "_law_sip" [(.var 0), (.int 2)] [] [] [])), (.bin .mul (.tup [] [(.var 1)]) (.call "_law_sip" [(.var 0), (.int 8)] [] [] []))])])))]
def F__law_bent : FD := ⟨2, 6, false, b__law_bent⟩
/-- _law_stands: 0 cup, 1 deepest, 2 turn, 3 saying, 4 inner, 5 some, 6 due, 7 look, 8 eight, 9 told, 10 word, 11 value, 12 part, 13 one, 14 sign -/
def b__law_stands : List S := [(.asg (.var 1) (.tup [] [(.str "mark"), (.str "a")])), (.for_ (.var 2) (.range1 (.int 8)) [(.asg (.var 1) (.tup [] [(.ife (.cmp .gt (.var 2) (.int 0)) (.call "_law_one" [(.var 0), (.tup [] [(.str "not"), (.str "child"), (.str "below"), (.str "up")])] [] [] []) (.str "two")), (.var 1)])), (.ite (.not (.call "_law_is" [(.call "is_saying" [(.var 1)] [] [] []), (.call "_law_is_saying" [(.var 1)] [] [] [])] [] [] [])) [(.ret (.bl false))] [])]), (.for_ (.var 2) (.range1 (.int 14)) [(.asg (.var 3) (.call "_law_saying" [(.var 0), (.bin .add (.int 1) (.call "_law_sip" [(.var 0), (.int 3)] [] [] [])), (.cmp .eq (.call "_law_sip" [(.var 0), (.int 2)] [] [] []) (.int 0))] [] [] [])), (.asg (.var 4) (.not (.bi .any [(.comp [10] (.cmp .mem (.var 10) (.tup [] [(.str "up"), (.str "under"), (.str "ahead"), (.str "behind")])) (.var 10) (.seq (.call "_law_words" [(.var 3)] [] [] [])) [])]))), (.ite (.not (.call "_law_is" [(.tup [] [(.call "is_saying" [(.var 3)] [] [] []), (.call "is_saying" [] ["value"] [(.var 3)] [0]), (.call "is_inner" [(.var 3)] [] [] []), (.call "is_inner" [] ["saying"] [(.var 3)] [0])]), (.tup [] [(.bl true), (.bl true), (.var 4), (.var 4)])] [] [] [])) [(.ret (.bl false))] []), (.ite (.not (.bi .all [(.comp [11] (.call "_law_is" [(.call "is_saying" [(.var 11)] [] [] []), (.call "_law_is_saying" [(.var 11)] [] [] [])] [] [] []) (.var 11) (.seq (.call "_law_bent" [(.var 0), (.var 3)] [] [] [])) [])])) [(.ret (.bl false))] []), (.asg (.var 5) (.bi .tuple [(.bin .add (.bin .add (.dsp [] [(.var 3)]) (.comp [12] (.call "_law_saying" [(.var 0), (.bin .add (.int 1) (.call "_law_sip" [(.var 0), (.int 3)] [] [] [])), (.bl false)] [] [] []) (.var 12) (.range1 (.call "_law_sip" [(.var 0), (.int 4)] [] [] [])) [])) (.bin .mul (.dsp [] [(.var 3)]) (.call "_law_sip" [(.var 0), (.int 2)] [] [] [])))])), (.asg (.var 6) (.dsp [] [])), (.for_ (.var 7) (.seq (.bi .sumL [(.comp [13] (.call "_law_looks" [(.var 13)] [] [] []) (.var 13) (.seq (.var 5)) []), (.dsp [] [])])) [(.asg (.var 6) (.bin .add (.var 6) (.ife (.cmp .nmem (.var 7) (.var 6)) (.dsp [] [(.var 7)]) (.dsp [] []))))]), (.ite (.not (.call "_law_is" [(.tup [] [(.call "looks_of" [(.var 5)] [] [] []), (.call "looks_of" [] ["sayings"] [(.var 5)] [0])]), (.tup [] [(.bi .tuple [(.var 6)]), (.bi .tuple [(.var 6)])])] [] [] [])) [(.ret (.bl false))] [])]), (.asg (.var 1) (.tup [] [(.str "mark"), (.str "a")])), (.for_ (.var 2) (.range1 (.int 7)) [(.ite (.or (.and (.cmp .isn (.call "is_saying" [(.var 1)] [] [] []) (.bl true)) (.cmp .lt (.var 2) (.int 6))) (.and (.cmp .eq (.var 2) (.int 6)) (.cmp .isn (.call "is_saying" [(.var 1)] [] [] []) (.bl false)))) [(.ret (.bl false))] []), (.asg (.var 1) (.tup [] [(.str "not"), (.var 1)]))]), (.asg (.var 8) (.tup [] [(.str "all"), (.bi .tuple [(.comp [14] (.tup [] [(.str "child"), (.tup [] [(.str "below"), (.tup [] [(.str "mark"), (.var 14)])])]) (.var 14) (.seq (.str "abcd")) [])])])), (.asg (.var 9) (.tup [] [(.call "is_saying" [(.var 8)] [] [] []), (.call "is_saying" [(.tup [] [(.str "some"), (.tup [] [(.var 8), (.tup [] [(.str "mark"), (.str "a")])])])] [] [] []), (.call "is_saying" [(.tup [] [(.str "some"), (.tup [] [(.var 8), (.tup [] [(.str "odd"), (.tup [] [(.str "any")])])])])] [] [] [])])), (.asg (.var 9) (.bin .add (.var 9) (.tup [] [(.call "is_saying" [(.tup [] [(.str "child"), (.var 8)])] [] [] []), (.call "is_saying" [(.tup [] [(.str "not"), (.var 8)])] [] [] []), (.bi .len [(.call "looks_of" [(.tup [] [(.var 8)])] [] [] [])])]))), (.ret (.call "_law_is" [(.var 9), (.tup [] [(.bl true), (.bl true), (.bl false), (.bl false), (.bl true), (.int 8)])] [] [] []))]
def F__law_stands : FD := ⟨1, 15, false, b__law_stands⟩
/-- law: 0 script, 1 lap -/
def b_law : List S := [(.ret (.bi .all [(.comp [1] (.call "_law_stands" [(.call "_law_cup" [(.var 0), (.var 1)] [] [] [])] [] [] []) (.var 1) (.seq (.tup [] [(.int 0), (.int 1)])) [])]))]
def F_law : FD := ⟨1, 2, false, b_law⟩
def tab : List (Str × FD) := [("mark_ok", F_mark_ok), ("word_of", F_word_of), ("words_told", F_words_told), ("words_of_parts", F_words_of_parts), ("is_few", F_is_few), ("saying_ok", F_saying_ok), ("inner_ok", F_inner_ok), ("parts_of", F_parts_of), ("looks_within", F_looks_within), ("looks_in", F_looks_in), ("text_of_saying", F_text_of_saying), ("check_saying", F_check_saying), ("check_some_sayings", F_check_some_sayings), ("check_sayings", F_check_sayings), ("is_saying", F_is_saying), ("is_inner", F_is_inner), ("looks_of", F_looks_of), ("_law_cup", F__law_cup), ("_law_sip", F__law_sip), ("_law_one", F__law_one), ("_law_is", F__law_is), ("_law_saying", F__law_saying), ("_law_deep", F__law_deep), ("_law_is_saying", F__law_is_saying), ("_law_looks", F__law_looks), ("_law_words", F__law_words), ("_law_bent", F__law_bent), ("_law_stands", F__law_stands), ("law", F_law)]
def P (x : Str) : Option FD := (tab.find? fun p => decide (p.1 = x)).map (·.2)
def gs : List (Str × D) := [(("MARKS", .str "abcd") : Str × D), (("MARK", .str "mark") : Str × D), (("ANY", .str "any") : Str × D), (("NOT", .str "not") : Str × D), (("ALL", .str "all") : Str × D), (("SOME", .str "some") : Str × D), (("OF_PARTS", .tup [(.str "all"), (.str "some")]) : Str × D), (("ABOVE", .tup [(.str "up"), (.str "under")]) : Str × D), (("OUTER", .tup [(.str "up"), (.str "under"), (.str "ahead"), (.str "behind")]) : Str × D), (("WORDS", .tup [(.str "child"), (.str "below"), (.str "odd"), (.str "two"), (.str "first"), (.str "last"), (.str "up"), (.str "under"), (.str "ahead"), (.str "behind")]) : Str × D), (("MOST_DEEP", .int 6) : Str × D), (("MOST_WORDS", .int 8) : Str × D), (("MOST_PARTS", .int 6) : Str × D), (("OPEN", .str "(") : Str × D), (("SHUT", .str ")") : Str × D), (("BLANK", .str " ") : Str × D), (("MOST_SAYINGS", .int 6) : Str × D)]
def G (x : Str) : Option D := gs.lookup x
abbrev WW : Nat := 1000000000
abbrev R (k : Nat) : Str → List D → M D := run P G WW k
@[simp] theorem G_MARKS : G "MARKS" = some (.str "abcd") := by kernel_rfl
@[simp] theorem G_MARK : G "MARK" = some (.str "mark") := by kernel_rfl
@[simp] theorem G_ANY : G "ANY" = some (.str "any") := by kernel_rfl
@[simp] theorem G_NOT : G "NOT" = some (.str "not") := by kernel_rfl
@[simp] theorem G_ALL : G "ALL" = some (.str "all") := by kernel_rfl
@[simp] theorem G_SOME : G "SOME" = some (.str "some") := by kernel_rfl
@[simp] theorem G_OF_PARTS : G "OF_PARTS" = some (.tup [(.str "all"), (.str "some")]) := by kernel_rfl
@[simp] theorem G_ABOVE : G "ABOVE" = some (.tup [(.str "up"), (.str "under")]) := by kernel_rfl
@[simp] theorem G_OUTER : G "OUTER" = some (.tup [(.str "up"), (.str "under"), (.str "ahead"), (.str "behind")]) := by kernel_rfl
@[simp] theorem G_WORDS : G "WORDS" = some (.tup [(.str "child"), (.str "below"), (.str "odd"), (.str "two"), (.str "first"), (.str "last"), (.str "up"), (.str "under"), (.str "ahead"), (.str "behind")]) := by kernel_rfl
@[simp] theorem G_MOST_DEEP : G "MOST_DEEP" = some (.int 6) := by kernel_rfl
@[simp] theorem G_MOST_WORDS : G "MOST_WORDS" = some (.int 8) := by kernel_rfl
@[simp] theorem G_MOST_PARTS : G "MOST_PARTS" = some (.int 6) := by kernel_rfl
@[simp] theorem G_OPEN : G "OPEN" = some (.str "(") := by kernel_rfl
@[simp] theorem G_SHUT : G "SHUT" = some (.str ")") := by kernel_rfl
@[simp] theorem G_BLANK : G "BLANK" = some (.str " ") := by kernel_rfl
@[simp] theorem G_MOST_SAYINGS : G "MOST_SAYINGS" = some (.int 6) := by kernel_rfl
theorem l_mark_ok : P "mark_ok" = some F_mark_ok := by kernel_rfl
theorem w_mark_ok {k : Nat} {a0 : D} {h : MH} {Q : D → MH → Prop} : wp (R (k + 1) "mark_ok" [a0]) h Q = wp (exL (R k) G h.length WW b_mark_ok [some a0]) h (retq false h.length Q) := wp_run l_mark_ok rfl
theorem l_word_of : P "word_of" = some F_word_of := by kernel_rfl
theorem w_word_of {k : Nat} {a0 : D} {h : MH} {Q : D → MH → Prop} : wp (R (k + 1) "word_of" [a0]) h Q = wp (exL (R k) G h.length WW b_word_of [some a0]) h (retq false h.length Q) := wp_run l_word_of rfl
theorem l_words_told : P "words_told" = some F_words_told := by kernel_rfl
theorem w_words_told {k : Nat} {a0 a1 a2 : D} {h : MH} {Q : D → MH → Prop} : wp (R (k + 1) "words_told" [a0, a1, a2]) h Q = wp (exL (R k) G h.length WW b_words_told [some a0, some a1, some a2, none, none]) h (retq false h.length Q) := wp_run l_words_told rfl
theorem l_words_of_parts : P "words_of_parts" = some F_words_of_parts := by kernel_rfl
theorem w_words_of_parts {k : Nat} {a0 a1 a2 : D} {h : MH} {Q : D → MH → Prop} : wp (R (k + 1) "words_of_parts" [a0, a1, a2]) h Q = wp (exL (R k) G h.length WW b_words_of_parts [some a0, some a1, some a2, none, none]) h (retq false h.length Q) := wp_run l_words_of_parts rfl
theorem l_is_few : P "is_few" = some F_is_few := by kernel_rfl
theorem w_is_few {k : Nat} {a0 : D} {h : MH} {Q : D → MH → Prop} : wp (R (k + 1) "is_few" [a0]) h Q = wp (exL (R k) G h.length WW b_is_few [some a0]) h (retq false h.length Q) := wp_run l_is_few rfl
theorem l_saying_ok : P "saying_ok" = some F_saying_ok := by kernel_rfl
theorem w_saying_ok {k : Nat} {a0 : D} {h : MH} {Q : D → MH → Prop} : wp (R (k + 1) "saying_ok" [a0]) h Q = wp (exL (R k) G h.length WW b_saying_ok [some a0]) h (retq false h.length Q) := wp_run l_saying_ok rfl
theorem l_inner_ok : P "inner_ok" = some F_inner_ok := by kernel_rfl
theorem w_inner_ok {k : Nat} {a0 : D} {h : MH} {Q : D → MH → Prop} : wp (R (k + 1) "inner_ok" [a0]) h Q = wp (exL (R k) G h.length WW b_inner_ok [some a0]) h (retq false h.length Q) := wp_run l_inner_ok rfl
theorem l_parts_of : P "parts_of" = some F_parts_of := by kernel_rfl
theorem w_parts_of {k : Nat} {a0 : D} {h : MH} {Q : D → MH → Prop} : wp (R (k + 1) "parts_of" [a0]) h Q = wp (exL (R k) G h.length WW b_parts_of [some a0]) h (retq false h.length Q) := wp_run l_parts_of rfl
theorem l_looks_within : P "looks_within" = some F_looks_within := by kernel_rfl
theorem w_looks_within {k : Nat} {a0 : D} {h : MH} {Q : D → MH → Prop} : wp (R (k + 1) "looks_within" [a0]) h Q = wp (exL (R k) G h.length WW b_looks_within [some a0, none, none, none]) h (retq false h.length Q) := wp_run l_looks_within rfl
theorem l_looks_in : P "looks_in" = some F_looks_in := by kernel_rfl
theorem w_looks_in {k : Nat} {a0 : D} {h : MH} {Q : D → MH → Prop} : wp (R (k + 1) "looks_in" [a0]) h Q = wp (exL (R k) G h.length WW b_looks_in [some a0, none, none, none]) h (retq false h.length Q) := wp_run l_looks_in rfl
theorem l_text_of_saying : P "text_of_saying" = some F_text_of_saying := by kernel_rfl
theorem w_text_of_saying {k : Nat} {a0 : D} {h : MH} {Q : D → MH → Prop} : wp (R (k + 1) "text_of_saying" [a0]) h Q = wp (exL (R k) G h.length WW b_text_of_saying [some a0, none, none]) h (retq false h.length Q) := wp_run l_text_of_saying rfl
theorem l_check_saying : P "check_saying" = some F_check_saying := by kernel_rfl
theorem w_check_saying {k : Nat} {a0 : D} {h : MH} {Q : D → MH → Prop} : wp (R (k + 1) "check_saying" [a0]) h Q = wp (exL (R k) G h.length WW b_check_saying [some a0]) h (retq false h.length Q) := wp_run l_check_saying rfl
theorem l_check_some_sayings : P "check_some_sayings" = some F_check_some_sayings := by kernel_rfl
theorem w_check_some_sayings {k : Nat} {a0 : D} {h : MH} {Q : D → MH → Prop} : wp (R (k + 1) "check_some_sayings" [a0]) h Q = wp (exL (R k) G h.length WW b_check_some_sayings [some a0, none, none]) h (retq false h.length Q) := wp_run l_check_some_sayings rfl
theorem l_check_sayings : P "check_sayings" = some F_check_sayings := by kernel_rfl
theorem w_check_sayings {k : Nat} {a0 : D} {h : MH} {Q : D → MH → Prop} : wp (R (k + 1) "check_sayings" [a0]) h Q = wp (exL (R k) G h.length WW b_check_sayings [some a0]) h (retq false h.length Q) := wp_run l_check_sayings rfl
theorem l_is_saying : P "is_saying" = some F_is_saying := by kernel_rfl
theorem w_is_saying {k : Nat} {a0 : D} {h : MH} {Q : D → MH → Prop} : wp (R (k + 1) "is_saying" [a0]) h Q = wp (exL (R k) G h.length WW b_is_saying [some a0]) h (retq false h.length Q) := wp_run l_is_saying rfl
theorem l_is_inner : P "is_inner" = some F_is_inner := by kernel_rfl
theorem w_is_inner {k : Nat} {a0 : D} {h : MH} {Q : D → MH → Prop} : wp (R (k + 1) "is_inner" [a0]) h Q = wp (exL (R k) G h.length WW b_is_inner [some a0]) h (retq false h.length Q) := wp_run l_is_inner rfl
theorem l_looks_of : P "looks_of" = some F_looks_of := by kernel_rfl
theorem w_looks_of {k : Nat} {a0 : D} {h : MH} {Q : D → MH → Prop} : wp (R (k + 1) "looks_of" [a0]) h Q = wp (exL (R k) G h.length WW b_looks_of [some a0]) h (retq false h.length Q) := wp_run l_looks_of rfl
theorem l__law_cup : P "_law_cup" = some F__law_cup := by kernel_rfl
theorem w__law_cup {k : Nat} {a0 a1 : D} {h : MH} {Q : D → MH → Prop} : wp (R (k + 1) "_law_cup" [a0, a1]) h Q = wp (exL (R k) G h.length WW b__law_cup [some a0, some a1, none, none, none]) h (retq true h.length Q) := wp_run l__law_cup rfl
theorem l__law_sip : P "_law_sip" = some F__law_sip := by kernel_rfl
theorem w__law_sip {k : Nat} {a0 a1 : D} {h : MH} {Q : D → MH → Prop} : wp (R (k + 1) "_law_sip" [a0, a1]) h Q = wp (exL (R k) G h.length WW b__law_sip [some a0, some a1, none]) h (retq false h.length Q) := wp_run l__law_sip rfl
theorem l__law_one : P "_law_one" = some F__law_one := by kernel_rfl
theorem w__law_one {k : Nat} {a0 a1 : D} {h : MH} {Q : D → MH → Prop} : wp (R (k + 1) "_law_one" [a0, a1]) h Q = wp (exL (R k) G h.length WW b__law_one [some a0, some a1]) h (retq false h.length Q) := wp_run l__law_one rfl
theorem l__law_is : P "_law_is" = some F__law_is := by kernel_rfl
theorem w__law_is {k : Nat} {a0 a1 : D} {h : MH} {Q : D → MH → Prop} : wp (R (k + 1) "_law_is" [a0, a1]) h Q = wp (exL (R k) G h.length WW b__law_is [some a0, some a1]) h (retq false h.length Q) := wp_run l__law_is rfl
theorem l__law_saying : P "_law_saying" = some F__law_saying := by kernel_rfl
theorem w__law_saying {k : Nat} {a0 a1 a2 : D} {h : MH} {Q : D → MH → Prop} : wp (R (k + 1) "_law_saying" [a0, a1, a2]) h Q = wp (exL (R k) G h.length WW b__law_saying [some a0, some a1, some a2, none, none, none]) h (retq false h.length Q) := wp_run l__law_saying rfl
theorem l__law_deep : P "_law_deep" = some F__law_deep := by kernel_rfl
theorem w__law_deep {k : Nat} {a0 a1 : D} {h : MH} {Q : D → MH → Prop} : wp (R (k + 1) "_law_deep" [a0, a1]) h Q = wp (exL (R k) G h.length WW b__law_deep [some a0, some a1, none, none, none]) h (retq false h.length Q) := wp_run l__law_deep rfl
theorem l__law_is_saying : P "_law_is_saying" = some F__law_is_saying := by kernel_rfl
theorem w__law_is_saying {k : Nat} {a0 : D} {h : MH} {Q : D → MH → Prop} : wp (R (k + 1) "_law_is_saying" [a0]) h Q = wp (exL (R k) G h.length WW b__law_is_saying [some a0, none]) h (retq false h.length Q) := wp_run l__law_is_saying rfl
theorem l__law_looks : P "_law_looks" = some F__law_looks := by kernel_rfl
theorem w__law_looks {k : Nat} {a0 : D} {h : MH} {Q : D → MH → Prop} : wp (R (k + 1) "_law_looks" [a0]) h Q = wp (exL (R k) G h.length WW b__law_looks [some a0, none]) h (retq false h.length Q) := wp_run l__law_looks rfl
theorem l__law_words : P "_law_words" = some F__law_words := by kernel_rfl
theorem w__law_words {k : Nat} {a0 : D} {h : MH} {Q : D → MH → Prop} : wp (R (k + 1) "_law_words" [a0]) h Q = wp (exL (R k) G h.length WW b__law_words [some a0, none]) h (retq false h.length Q) := wp_run l__law_words rfl
theorem l__law_bent : P "_law_bent" = some F__law_bent := by kernel_rfl
theorem w__law_bent {k : Nat} {a0 a1 : D} {h : MH} {Q : D → MH → Prop} : wp (R (k + 1) "_law_bent" [a0, a1]) h Q = wp (exL (R k) G h.length WW b__law_bent [some a0, some a1, none, none, none, none]) h (retq false h.length Q) := wp_run l__law_bent rfl
theorem l__law_stands : P "_law_stands" = some F__law_stands := by kernel_rfl
theorem w__law_stands {k : Nat} {a0 : D} {h : MH} {Q : D → MH → Prop} : wp (R (k + 1) "_law_stands" [a0]) h Q = wp (exL (R k) G h.length WW b__law_stands [some a0, none, none, none, none, none, none, none, none, none, none, none, none, none, none]) h (retq false h.length Q) := wp_run l__law_stands rfl
theorem l_law : P "law" = some F_law := by kernel_rfl
theorem w_law {k : Nat} {a0 : D} {h : MH} {Q : D → MH → Prop} : wp (R (k + 1) "law" [a0]) h Q = wp (exL (R k) G h.length WW b_law [some a0, none]) h (retq false h.length Q) := wp_run l_law rfl
end K04


namespace K04
open PySem PySem.Spec L2 PD
/-! ### what is counted of a value, by own reading -/
def markS (s : Str) : Bool := match s.cps.toList with
  | [c] => decide (c ∈ [97, 98, 99, 100])
  | _ => false
def markB : D → Bool
  | .str s => markS s
  | _ => false
def partW (s : Str) : Bool := decide (s = "all") || decide (s = "some")
def aboveW (s : Str) : Bool := decide (s = "up") || decide (s = "under")
def outW (s : Str) : Bool := decide (s = "up") || (decide (s = "under") || (decide (s = "ahead") || decide (s = "behind")))
def inW (s : Str) : Bool := decide (s = "child") || (decide (s = "below") || (decide (s = "odd") || (decide (s = "two") || (decide (s = "first") || decide (s = "last")))))
def wordW (s : Str) : Bool := inW s || outW s
def sumO : List (Option Nat) → Option Nat
  | [] => some 0
  | x :: xs => match x, sumO xs with
    | some a, some b => some (a + b)
    | _, _ => none
/-- words of a value, none where it is no saying so deep -/
def wt : Nat → Bool → D → Option Nat
  | 0, _, _ => none
  | n + 1, b, v => match v with
    | .tup (.str s :: r) => if s = "any" then (if r.isEmpty = true then some 0 else none) else match r with
      | [x] => if s = "mark" then (if markB x = true then some 0 else none) else if s = "not" then wt n b x else
        if partW s = true then (match x with
          | .tup ps => if 2 ≤ ps.length ∧ ps.length ≤ 6 then sumO (ps.map (wt n b)) else none
          | _ => none) else
        if (!wordW s || (b && outW s)) = true then none else (wt n (b || !aboveW s) x).map (· + 1)
      | _ => none
    | _ => none
def oi : Option Nat → D
  | none => .non
  | some n => .int n
def comb : List (Option (Nat × Nat)) → Option (Nat × Nat)
  | [] => some (1, 0)
  | x :: xs => match x, comb xs with
    | some a, some b => some (max (a.1 + 1) b.1, a.2 + b.2)
    | _, _ => none
/-- levels and words of a value -/
def ld : Nat → D → Bool → Option (Nat × Nat)
  | 0, _, _ => none
  | m + 1, v, b => match v with
    | .tup (.str s :: r) => if s = "any" then (if r.isEmpty = true then some (1, 0) else none) else match r with
      | [x] => if s = "mark" then (if markB x = true then some (1, 0) else none) else
        if partW s = true then (match x with
          | .tup ps => if 2 ≤ ps.length ∧ ps.length ≤ 6 then comb (ps.map fun p => ld m p b) else none
          | _ => none) else
        if s = "not" then (ld m x b).map fun p => (p.1 + 1, p.2) else
        if (!wordW s || (b && outW s)) = true then none else (ld m x (b || !aboveW s)).map fun p => (p.1 + 1, p.2 + 1)
      | _ => none
    | _ => none
def oi2 : Option (Nat × Nat) → D
  | none => .non
  | some p => .tup [.int p.1, .int p.2]
theorem comb_pos : ∀ {l : List (Option (Nat × Nat))} {p : Nat × Nat}, comb l = some p → 1 ≤ p.1
  | [], p, e => by cases e; exact Nat.le_refl _
  | x :: xs, p, e => by
    unfold comb at e
    cases x with
    | none => cases e
    | some a =>
      cases h : comb xs with
      | none => rw [h] at e; cases e
      | some b => rw [h] at e; cases e; exact Nat.le_trans (by omega) (Nat.le_max_left _ _)
theorem ld_pos : ∀ {m : Nat} {v : D} {b : Bool} {p : Nat × Nat}, ld m v b = some p → 1 ≤ p.1
  | 0, _, _, _, e => by cases e
  | m + 1, v, b, p, e => by
    unfold ld at e
    split at e
    · split at e
      · split at e
        · cases e; exact Nat.le_refl _
        · cases e
      · split at e
        · split at e
          · split at e
            · cases e; exact Nat.le_refl _
            · cases e
          · split at e
            · split at e
              · split at e
                · exact comb_pos e
                · cases e
              · cases e
            · split at e
              · obtain ⟨q, e1, rfl⟩ := Option.map_eq_some_iff.mp e
                exact Nat.le_add_left _ _
              · split at e
                · cases e
                · obtain ⟨q, e1, rfl⟩ := Option.map_eq_some_iff.mp e
                  exact Nat.le_add_left _ _
        · cases e
    · cases e
theorem p7 {m a : Nat} (h : a ≤ 6 * 7 ^ m) : a ≤ 7 ^ (m + 1) := by rw [Nat.pow_succ]; omega
theorem comb_le {c e : Nat} : ∀ {l : List (Option (Nat × Nat))} {p : Nat × Nat}, (∀ o ∈ l, ∀ q, o = some q → q.1 ≤ c ∧ q.2 ≤ e) → comb l = some p → p.1 ≤ c + 1 ∧ p.2 ≤ l.length * e
  | [], p, _, h => by cases h; exact ⟨by omega, by simp⟩
  | x :: xs, p, hq, h => by
    unfold comb at h
    cases x with
    | none => cases h
    | some a =>
      cases h2 : comb xs with
      | none => rw [h2] at h; cases h
      | some b =>
        rw [h2] at h; cases h
        obtain ⟨a1, a2⟩ := hq _ List.mem_cons_self a rfl
        obtain ⟨b1, b2⟩ := comb_le (fun o ho => hq o (List.mem_cons_of_mem _ ho)) h2
        refine ⟨Nat.max_le.mpr ⟨by omega, b1⟩, ?_⟩
        rw [List.length_cons, Nat.succ_mul]
        show a.2 + b.2 ≤ _
        omega
theorem ld_le : ∀ {m : Nat} {v : D} {b : Bool} {p : Nat × Nat}, ld m v b = some p → p.1 ≤ m ∧ p.2 ≤ 7 ^ m
  | 0, _, _, _, e => by cases e
  | m + 1, v, b, p, e => by
    have h1 : 1 ≤ 7 ^ (m + 1) := Nat.pow_pos (by decide)
    have h2 : 1 ≤ 7 ^ m := Nat.pow_pos (by decide)
    unfold ld at e
    split at e
    · split at e
      · split at e
        · cases e; exact ⟨by show 1 ≤ m + 1; omega, Nat.zero_le _⟩
        · cases e
      · split at e
        · split at e
          · split at e
            · cases e; exact ⟨by show 1 ≤ m + 1; omega, Nat.zero_le _⟩
            · cases e
          · split at e
            · split at e
              · split at e
                · rename_i ps hl
                  obtain ⟨a1, a2⟩ := comb_le (c := m) (e := 7 ^ m) (fun o ho q hq => by
                    obtain ⟨x, hx, rfl⟩ := List.mem_map.mp ho
                    exact ld_le hq) e
                  refine ⟨a1, p7 (Nat.le_trans a2 ?_)⟩
                  rw [List.length_map]
                  exact Nat.mul_le_mul_right _ hl.2
                · cases e
              · cases e
            · split at e
              · obtain ⟨q, e1, rfl⟩ := Option.map_eq_some_iff.mp e
                obtain ⟨a1, a2⟩ := ld_le e1
                exact ⟨by show q.1 + 1 ≤ m + 1; omega, p7 (by show q.2 ≤ _; omega)⟩
              · split at e
                · cases e
                · obtain ⟨q, e1, rfl⟩ := Option.map_eq_some_iff.mp e
                  obtain ⟨a1, a2⟩ := ld_le e1
                  exact ⟨by show q.1 + 1 ≤ m + 1; omega, p7 (by show q.2 + 1 ≤ _; omega)⟩
        · cases e
    · cases e
/-- so deep at most -/
def most (n : Nat) (o : Option (Nat × Nat)) : Option Nat := o.bind fun p => if p.1 ≤ n then some p.2 else none
theorem sumO_comb (n : Nat) : ∀ l : List (Option (Nat × Nat)), sumO (l.map (most n)) = most (n + 1) (comb l)
  | [] => by
    show some 0 = if 1 ≤ n + 1 then some 0 else none
    rw [if_pos (by omega)]
  | x :: xs => by
    have ih := sumO_comb n xs
    rw [List.map_cons]
    unfold sumO comb
    rw [ih]
    cases x with
    | none => cases most (n + 1) (comb xs) <;> rfl
    | some a =>
      cases comb xs with
      | none =>
        by_cases h : a.1 ≤ n
        · simp [most, h]
        · simp [most, h]
      | some b =>
        by_cases h : a.1 ≤ n
        · by_cases h2 : b.1 ≤ n + 1
          · have : max (a.1 + 1) b.1 ≤ n + 1 := by omega
            simp [most, h, h2, this]
          · have : ¬ max (a.1 + 1) b.1 ≤ n + 1 := by omega
            simp [most, h, h2, this]
        · have : ¬ max (a.1 + 1) b.1 ≤ n + 1 := by omega
          simp [most, h, this]
theorem most_succ (n k : Nat) (o : Option (Nat × Nat)) : most (n + 1) (o.map fun p => (p.1 + 1, p.2 + k)) = (most n o).map (· + k) := by
  cases o with
  | none => rfl
  | some p =>
    by_cases h : p.1 ≤ n
    · have : p.1 + 1 ≤ n + 1 := by omega
      simp [most, h, this]
    · have : ¬ p.1 + 1 ≤ n + 1 := by omega
      simp [most, h, this]
theorem most_zero {m : Nat} {v : D} {b : Bool} : most 0 (ld m v b) = none := by
  cases e : ld m v b with
  | none => rfl
  | some p =>
    have := ld_pos e
    have h : ¬ p.1 = 0 := by omega
    simp [most, h]
theorem depL_mem {xs : List D} {x : D} (h : x ∈ xs) : dep x ≤ depL xs := by
  induction xs with
  | nil => cases h
  | cons y ys ih =>
    rw [depL_cons]
    rcases List.mem_cons.mp h with rfl | h
    · omega
    · have := ih h; omega
theorem wt_ld : ∀ (n m : Nat) (b : Bool) (v : D), dep v < m → wt n b v = most n (ld m v b)
  | 0, m, b, v, _ => by rw [most_zero]; rfl
  | n + 1, 0, b, v, h => by omega
  | n + 1, m + 1, b, v, h => by
    unfold wt ld
    split
    · rename_i s r
      split
      · split
        · show _ = if 1 ≤ n + 1 then some 0 else none
          rw [if_pos (by omega)]
        · rfl
      · split
        · rename_i x
          have hx : dep x < m := by simp at h; omega
          split
          · split
            · show _ = if 1 ≤ n + 1 then some 0 else none
              rw [if_pos (by omega)]
            · rfl
          · by_cases hn : s = "not"
            · subst hn
              have : partW "not" = false := by decide +kernel
              rw [if_pos rfl, if_neg (by rw [this]; exact Bool.false_ne_true), if_pos rfl, wt_ld n m b x hx]
              have := most_succ n 0 (ld m x b)
              simp at this
              exact this.symm
            · rw [if_neg hn]
              split
              · split
                · rename_i ps
                  split
                  · rw [← sumO_comb, List.map_map]
                    congr 1
                    refine List.map_congr_left fun p hp => ?_
                    have := depL_mem hp
                    exact wt_ld n m b p (by simp at hx; omega)
                  · rfl
                · rfl
              · split
                · rfl
                · rw [wt_ld n m _ x hx, most_succ]
        · rfl
    · rfl
theorem wt_le {n m : Nat} {b : Bool} {v : D} {w : Nat} (hd : dep v < m) (e : wt n b v = some w) : w ≤ 7 ^ m := by
  rw [wt_ld n m b v hd] at e
  unfold most at e
  obtain ⟨p, e1, e2⟩ := Option.bind_eq_some_iff.mp e
  split at e2
  · cases e2; exact (ld_le e1).2
  · cases e2
theorem p7_log {w : Nat} (h : w ≤ 7 ^ 64) : pl (.int (w : Int)) = true := by
  rw [pl_int, decide_eq_true_iff]
  refine log_small ?_
  have : (7 : Nat) ^ 64 < 2 ^ 1920 := by decide +kernel
  omega
def few : Option Nat → Bool
  | none => false
  | some n => decide (n ≤ 8)
def sayB (v : D) : Bool := few (wt 6 false v)
end K04


namespace K04
open PySem PySem.Spec L2 PD
def wO : D → D
  | .tup (.str s :: _) => .str s
  | _ => .non
theorem one_sign {s : Str} (h : s.length = 1) : ∃ c, s = ⟨#[c]⟩ := by
  obtain ⟨⟨l⟩⟩ := s
  match l, h with
  | [c], _ => exact ⟨c, rfl⟩
theorem markS_eq (s : Str) : markS s = (decide (s = "a") || (decide (s = "b") || (decide (s = "c") || decide (s = "d")))) := by
  obtain ⟨⟨l⟩⟩ := s
  have e : ∀ (c : Nat) (t : String), (Str.ofString t) = ⟨#[c]⟩ → ∀ l : List Nat, decide ((⟨⟨l⟩⟩ : Str) = Str.ofString t) = decide (l = [c]) := fun c t ht l => by
    rw [ht, Bool.eq_iff_iff, decide_eq_true_iff, decide_eq_true_iff]
    constructor
    · intro h; injection h with h; injection h
    · intro h; rw [h]
  rw [e 97 "a" (by decide +kernel), e 98 "b" (by decide +kernel), e 99 "c" (by decide +kernel), e 100 "d" (by decide +kernel)]
  unfold markS
  match l with
  | [] => rfl
  | [c] => simp
  | a :: b :: r => simp
section
variable {k : Nat} {h : MH} {v : D} {Q : D → MH → Prop}
theorem mem_abcd (c : Nat) : cmpop.memd h (.str ⟨#[c]⟩) (.str "abcd") = some (decide (c ∈ [97, 98, 99, 100])) :=
  congrArg some (SX.in_one [97, 98, 99, 100] c)
@[simp] theorem mark_ok_ok (hv : pl v = true) : wp (R (k + 1) "mark_ok" [v]) h Q = Q (.bl (markB v)) h := by
  rw [w_mark_ok]; unfold b_mark_ok
  cases v <;> simp [isT, markB] at hv ⊢
  rename_i s
  rw [sizeLine_is]
  refine (and_iff_right (by omega)).trans ?_
  by_cases z : s.length = 1
  · obtain ⟨c, rfl⟩ := one_sign z
    simp [mem_abcd, markS, Str.length]
  · have z2 : (s.length : Int) ≠ 1 := by omega
    have e : markS s = false := by
      unfold markS
      split
      · rename_i c hc
        exact absurd (by show s.cps.size = 1; rw [← Array.length_toList, hc]; rfl) z
      · rfl
    simp [z2, e]
@[simp] theorem word_of_ok (hv : pl v = true) (hd : dep v < 64) : wp (R (k + 1) "word_of" [v]) h Q = Q (wO v) h := by
  refine wp_eq ?_
  rw [w_word_of]; unfold b_word_of
  cases v <;> simp [isT, wO] at hv hd ⊢
  rename_i xs
  cases xs with
  | nil => rw [eqd_tup_nil (by rfl) (by decide)]; simp
  | cons x xs =>
    simp at hv hd
    rw [eqd_tup_nil (by simp [hv]) (by simp; omega)]
    cases x <;> simp [isT, wO] at hv ⊢
theorem mem_strs {s : Str} {ys : List D} (hs : pl (.str s) = true) (hy : plL ys = true) (hd : depL ys = 0) : cmpop.memd h (.str s) (.tup ys) = some (ys.any fun y => PyData.eqv (pd y) (.str s)) := by
  rw [mem_tup hs hy (Nat.zero_le _) (by omega)]
  rfl
theorem mem_parts {s : Str} (hs : pl (.str s) = true) : cmpop.memd h (.str s) (.tup [.str "all", .str "some"]) = some (partW s) := by
  rw [mem_strs hs (by decide +kernel) (by rfl)]
  simp [List.any_cons, pd_str, eqv_str, eq_comm, partW]
theorem mem_above {s : Str} (hs : pl (.str s) = true) : cmpop.memd h (.str s) (.tup [.str "up", .str "under"]) = some (aboveW s) := by
  rw [mem_strs hs (by decide +kernel) (by rfl)]
  simp [List.any_cons, pd_str, eqv_str, eq_comm, aboveW]
theorem mem_out {s : Str} (hs : pl (.str s) = true) : cmpop.memd h (.str s) (.tup [.str "up", .str "under", .str "ahead", .str "behind"]) = some (outW s) := by
  rw [mem_strs hs (by decide +kernel) (by rfl)]
  simp [List.any_cons, pd_str, eqv_str, eq_comm, outW]
theorem mem_words {s : Str} (hs : pl (.str s) = true) : cmpop.memd h (.str s) (.tup [.str "child", .str "below", .str "odd", .str "two", .str "first", .str "last", .str "up", .str "under", .str "ahead", .str "behind"]) = some (wordW s) := by
  rw [mem_strs hs (by decide +kernel) (by rfl)]
  simp [List.any_cons, pd_str, eqv_str, eq_comm, wordW, inW, outW, Bool.or_assoc]
theorem mem_all11 {s : Str} (hs : pl (.str s) = true) : cmpop.memd h (.str s) (.tup [.str "not", .str "child", .str "below", .str "odd", .str "two", .str "first", .str "last", .str "up", .str "under", .str "ahead", .str "behind"]) = some (decide (s = "not") || wordW s) := by
  rw [mem_strs hs (by decide +kernel) (by rfl)]
  simp [List.any_cons, pd_str, eqv_str, eq_comm, wordW, inW, outW, Bool.or_assoc]
theorem mem_not3 {s : Str} (hs : pl (.str s) = true) : cmpop.memd h (.str s) (.tup [.str "not", .str "up", .str "under"]) = some (decide (s = "not") || aboveW s) := by
  rw [mem_strs hs (by decide +kernel) (by rfl)]
  simp [List.any_cons, pd_str, eqv_str, eq_comm, aboveW]
theorem mem_marks {s : Str} (hs : pl (.str s) = true) : cmpop.memd h (.str s) (.tup [.str "a", .str "b", .str "c", .str "d"]) = some (markS s) := by
  rw [mem_strs hs (by decide +kernel) (by rfl), markS_eq]
  simp [List.any_cons, pd_str, eqv_str, eq_comm]
theorem any_cong {α : Type} {f g : α → Bool} : ∀ {ys : List α}, (∀ y ∈ ys, f y = g y) → ys.any f = ys.any g
  | [], _ => rfl
  | y :: ys, e => by
    rw [List.any_cons, List.any_cons, e y List.mem_cons_self, any_cong fun z hz => e z (List.mem_cons_of_mem _ hz)]
/-- None in a list -/
theorem non_lst {ys : List D} (f : plL ys = true) (hy : depL ys < 64) : cmpop.memd h .non (.lst ys) = some (ys.any PD.isNon) := by
  have e2 := dat1_pl (h := h) (d := .lst ys) f
  have s2 := shaped_pl (d := .lst ys) f (by rw [dep_lst]; omega)
  show (match dat1 h .non, dat1 h (.lst ys) with
      | some d, some (.list ds) => if (SeqAt.shaped d && SeqAt.shaped (.list ds)) = true then some (ds.any fun z => PyData.eqv z d) else none
      | some d, some (.tuple ds) => if (SeqAt.shaped d && SeqAt.shaped (.tuple ds)) = true then some (ds.any fun z => PyData.eqv z d) else none
      | _, _ => none) = some (ys.any PD.isNon)
  rw [e2]
  show (if (SeqAt.shaped .none && SeqAt.shaped (pd (.lst ys))) = true then some ((pdL ys).any fun z => PyData.eqv z .none) else none) = _
  rw [s2, pdL_any]
  show some (ys.any fun y => PyData.eqv (pd y) .none) = _
  rw [any_cong fun y hy => ?_]
  have := plL_iff.mp f y hy
  cases y <;> first | rfl | (unfold pd PyData.eqv; rfl) | cases this
theorem non_in {os : List (Option Nat)} (hs : ∀ o ∈ os, ∀ w, o = some w → w ≤ 7 ^ 64) : cmpop.memd h .non (.lst (os.map oi)) = some (os.any fun o => o.isNone) := by
  rw [non_lst (plL_iff.mpr fun x hx => ?_) (Nat.lt_of_le_of_lt (depL_le (n := 0) fun x hx => ?_) (by decide))]
  · rw [List.any_map, show PD.isNon ∘ oi = (fun o : Option Nat => o.isNone) from funext fun o => by cases o <;> rfl]
  · obtain ⟨o, ho, rfl⟩ := List.mem_map.mp hx
    cases o with
    | none => rfl
    | some w => exact p7_log (hs _ ho w rfl)
  · obtain ⟨o, ho, rfl⟩ := List.mem_map.mp hx
    cases o <;> exact Nat.le_refl _
theorem sumO_none : ∀ {os : List (Option Nat)}, (os.any fun o => o.isNone) = true → sumO os = none
  | x :: xs, e => by
    unfold sumO
    cases x with
    | none => rfl
    | some a =>
      rw [sumO_none (os := xs) (by simpa using e)]
theorem sumO_some : ∀ {os : List (Option Nat)}, (os.any fun o => o.isNone) = false → ∃ ns : List Int, intsOf (os.map oi) = some ns ∧ oi (sumO os) = .int ns.sum ∧ (sumO os).isSome = true
  | [], _ => ⟨[], rfl, rfl, rfl⟩
  | x :: xs, e => by
    cases x with
    | none => simp at e
    | some a =>
      obtain ⟨ns, h1, h2, h3⟩ := sumO_some (os := xs) (by simpa using e)
      refine ⟨(a : Int) :: ns, ?_, ?_, ?_⟩
      · show (intsOf (xs.map oi)).map ((a : Int) :: ·) = _
        rw [h1]; rfl
      · obtain ⟨b, hb⟩ := Option.isSome_iff_exists.mp h3
        unfold sumO
        rw [hb] at h2 ⊢
        have h2 : D.int (b : Int) = .int ns.sum := h2
        injection h2 with h2
        show D.int ((a + b : Nat) : Int) = _
        rw [List.sum_cons, ← h2]
        congr 1
      · obtain ⟨b, hb⟩ := Option.isSome_iff_exists.mp h3
        unfold sumO
        rw [hb]; rfl
@[simp] theorem fin_oi {n : Nat} (hn : n = h.length) {o : Option Nat} : fin false n (oi o) h = some (oi o, h) := fin_fl0 (by cases o <;> rfl) hn
@[simp] theorem oi_none : oi none = .non := rfl
@[simp] theorem oi_some {n : Nat} : oi (some n) = .int n := rfl
def partsO (n : Nat) (b : Bool) : D → Option Nat
  | .tup ps => if 2 ≤ ps.length ∧ ps.length ≤ 6 then sumO (ps.map (wt n b)) else none
  | _ => none
theorem parts_ok {m n : Nat} {b : Bool} {v : D} (ih : ∀ x, pl x = true → dep x < 64 → ∀ (h : MH) (Q : D → MH → Prop), wp (R m "words_told" [x, .int n, .bl b]) h Q = Q (oi (wt n b x)) h) (hv : pl v = true) (hd : dep v < 64) :
    wp (R (m + 1) "words_of_parts" [v, .int n, .bl b]) h Q = Q (oi (partsO n b v)) h := by
  refine wp_eq ?_
  rw [w_words_of_parts]; unfold b_words_of_parts
  cases v <;> simp [isT, partsO] at hv hd ⊢
  rename_i ps
  by_cases z1 : 2 ≤ ps.length
  · have z1' : (2 : Int) ≤ ps.length := by omega
    by_cases z2 : ps.length ≤ 6
    · have z2' : (ps.length : Int) ≤ 6 := by omega
      simp [z1, z1', z2, z2', sizeLine_is]
      refine ⟨by omega, ?_⟩
      have hp : ∀ x ∈ ps, pl x = true := plL_iff.mp hv
      have hq : ∀ x ∈ ps, dep x < 63 := fun x hx => by have := depL_mem hx; omega
      refine comp_map0 (fun x => oi (wt n b x)) ps (fun x hx => ?_) ?_
      · simp [ih x (hp x hx) (by have := hq x hx; omega)]
      · have e1 : ps.map (fun x => oi (wt n b x)) = (ps.map (wt n b)).map oi := by rw [List.map_map]; rfl
        rw [e1]
        have hl : ∀ o ∈ ps.map (wt n b), ∀ w, o = some w → w ≤ 7 ^ 64 := fun o ho w ew => by
          obtain ⟨x, hx, rfl⟩ := List.mem_map.mp ho
          exact wt_le (by have := hq x hx; omega) ew
        simp only [wps_cons, wps_nil, wps_ret, wp_ife, wp_cmp, wp_non, wp_var, envq_some, List.getElem?_cons_succ, List.getElem?_cons_zero, cmp_nmem, non_in hl, List.set_cons_succ, List.set_cons_zero, oq_map, oq_some]
        generalize ps.map (wt n b) = os at *
        cases e : os.any fun o => o.isNone with
        | true =>
          simp [sumO_none e]
        | false =>
          obtain ⟨ns, h1, h2, h3⟩ := sumO_some e
          simp [h1, h2]
    · have z2' : ¬ (ps.length : Int) ≤ 6 := by omega
      simp [z1, z1', z2, z2']
  · have z1' : ¬ (2 : Int) ≤ ps.length := by omega
    simp [z1, z1']
theorem truth_oi (o : Option Nat) : isNon (oi o) = o.isNone := by cases o <;> rfl
theorem told_ok : ∀ (n : Nat) (b : Bool) (v : D) (k : Nat) (h : MH) (Q : D → MH → Prop), n ≤ 6 → pl v = true → dep v < 64 → wp (R (k + 2 * n + 2) "words_told" [v, .int n, .bl b]) h Q = Q (oi (wt n b v)) h
  | 0, b, v, k, h, Q, hn, hv, hd => by
    refine wp_eq ?_
    rw [w_words_told]; unfold b_words_told
    simp [word_of_ok hv hd, wt, oi]
  | n + 1, b, v, k, h, Q, hn, hv, hd => by
    refine wp_eq ?_
    have ek : k + 2 * (n + 1) + 2 = (k + 2 * n + 2 + 1) + 1 := by omega
    rw [ek, w_words_told]; unfold b_words_told
    have en : ((n + 1 : Nat) : Int) ≠ 0 := by omega
    have key : (∃ s r, v = .tup (.str s :: r)) ∨ (wO v = .non ∧ wt (n + 1) b v = none) := by
      cases v with
      | tup xs =>
        cases xs with
        | nil => exact .inr ⟨rfl, rfl⟩
        | cons x r => cases x <;> first | exact .inr ⟨rfl, rfl⟩ | exact .inl ⟨_, _, rfl⟩
      | _ => exact .inr ⟨rfl, rfl⟩
    have ih : ∀ (b' : Bool) (x : D), pl x = true → dep x < 64 → ∀ (h : MH) (Q : D → MH → Prop), wp (R (k + 2 * n + 3) "words_told" [x, .int n, .bl b']) h Q = Q (oi (wt n b' x)) h := fun b' x hx hd h Q => by
      have := told_ok n b' x (k + 1) h Q (by omega) hx hd
      rwa [show k + 1 + 2 * n + 2 = k + 2 * n + 3 by omega] at this
    have ih0 : ∀ (b' : Bool) (x : D), pl x = true → dep x < 64 → ∀ (h : MH) (Q : D → MH → Prop), wp (R (k + 2 * n + 2) "words_told" [x, .int n, .bl b']) h Q = Q (oi (wt n b' x)) h := fun b' x hx hd h Q => told_ok n b' x k h Q (by omega) hx hd
    rcases key with ⟨s, r, rfl⟩ | ⟨e1, e2⟩
    · have hw : wO (.tup (.str s :: r)) = .str s := rfl
      have hv' := hv
      simp at hv' hd
      have hs : pl (.str s) = true := by simp [hv'.1]
      have ez : ¬ ((n : Int) + 1 = 0) := by omega
      have em : ((n : Int) + 1 - 1) = (n : Int) := by omega
      simp [word_of_ok hv (by simp; omega), hw, ez]
      unfold wt
      by_cases a1 : s = "any"
      · subst a1
        cases r with
        | nil => simp [oi]
        | cons y r =>
          have : ¬ ((r.length : Int) + 1 + 1 = 1) := by omega
          simp [this, oi]
      · simp [a1]
        match r, hv', hd, hv with
        | [], _, _, _ => simp [oi]
        | y :: z :: r, _, _, _ =>
          have : ¬ ((r.length : Int) + 1 + 1 + 1 = 2) := by omega
          simp [this, oi]
        | [x], hv', hd, hv =>
          simp at hv' hd
          obtain ⟨hv1, hx⟩ := hv'
          have hdx : dep x < 63 := by omega
          simp
          by_cases a2 : s = "mark"
          · subst a2
            simp [hx]
            cases markB x <;> simp [oi]
          · simp [a2]
            by_cases a3 : s = "not"
            · subst a3
              simp [ih b x hx (by omega)]
            · have ihp := fun (h : MH) (Q : D → MH → Prop) => parts_ok (h := h) (Q := Q) (ih0 b) hx (by omega)
              simp [a3, mem_parts hs, mem_words hs, mem_out hs, mem_above hs]
              cases a4 : partW s with
              | true =>
                (simp [ihp, partsO]) <;> (cases x <;> rfl)
              | false =>
                simp
                cases a5 : wordW s with
                | false => simp
                | true =>
                  simp
                  have ihx := fun b' => ih b' x hx (by omega)
                  cases b with
                  | true =>
                    cases outW s with
                    | true => simp
                    | false =>
                      simp [ihx]
                      cases wt n true x <;> simp
                  | false =>
                    simp [ihx]
                    cases wt n (!aboveW s) x <;> simp
    · have ez : ¬ ((n : Int) + 1 = 0) := by omega
      simp [word_of_ok hv hd, e1, e2, oi, ez]
variable {b : Bool}
theorem few_ok {o : Option Nat} : wp (R (k + 1) "is_few" [oi o]) h Q = Q (.bl (few o)) h := by
  refine wp_eq ?_
  rw [w_is_few]; unfold b_is_few
  cases o with
  | none => simp [few]
  | some n =>
    simp [few]
    omega
theorem saying_ok_ok (hv : pl v = true) (hd : dep v < 64) : wp (R (k + 15) "saying_ok" [v]) h Q = Q (.bl (sayB v)) h := by
  refine wp_eq ?_
  have e := fun (h : MH) (Q : D → MH → Prop) => told_ok 6 false v k h Q (Nat.le_refl _) hv hd
  rw [w_saying_ok]; unfold b_saying_ok
  simp [show ∀ h Q, wp (R (k + 14) "words_told" [v, .int 6, .bl false]) h Q = Q (oi (wt 6 false v)) h from e, few_ok, sayB]
theorem inner_ok_ok (hv : pl v = true) (hd : dep v < 64) : wp (R (k + 15) "inner_ok" [v]) h Q = Q (.bl (few (wt 6 true v))) h := by
  refine wp_eq ?_
  have e := fun (h : MH) (Q : D → MH → Prop) => told_ok 6 true v k h Q (Nat.le_refl _) hv hd
  rw [w_inner_ok]; unfold b_inner_ok
  simp [show ∀ h Q, wp (R (k + 14) "words_told" [v, .int 6, .bl true]) h Q = Q (oi (wt 6 true v)) h from e, few_ok]
theorem is_saying_ok (hv : pl v = true) (hd : dep v < 64) : wp (R (k + 16) "is_saying" [v]) h Q = Q (.bl (sayB v)) h := by
  refine wp_eq ?_
  rw [w_is_saying]; unfold b_is_saying
  simp [saying_ok_ok hv hd]
theorem check_saying_ok (hv : pl v = true) (hd : dep v < 64) (hs : sayB v = true) : wp (R (k + 16) "check_saying" [v]) h Q = Q .non h := by
  refine wp_eq ?_
  rw [w_check_saying]; unfold b_check_saying
  simp [saying_ok_ok hv hd, hs]
theorem is_inner_ok (hv : pl v = true) (hd : dep v < 64) (hs : sayB v = true) : wp (R (k + 17) "is_inner" [v]) h Q = Q (.bl (few (wt 6 true v))) h := by
  refine wp_eq ?_
  rw [w_is_inner]; unfold b_is_inner
  simp [check_saying_ok hv hd hs, show R (k + 16) = R (k + 1 + 15) from rfl, inner_ok_ok hv hd]
end
end K04


namespace K04
open PySem PySem.Spec L2 PD
@[simp] theorem oi2_none : oi2 none = .non := rfl
@[simp] theorem oi2_some {p : Nat × Nat} : oi2 (some p) = .tup [.int p.1, .int p.2] := rfl
section
variable {k : Nat} {h : MH} {v : D} {Q : D → MH → Prop}
@[simp] theorem fin_oi2 {n : Nat} (hn : n = h.length) {o : Option (Nat × Nat)} : fin false n (oi2 o) h = some (oi2 o, h) := fin_fl0 (by cases o <;> rfl) hn
theorem oi2_pl {o : Option (Nat × Nat)} (ho : ∀ p, o = some p → p.1 ≤ 7 ^ 64 ∧ p.2 ≤ 7 ^ 64) : pl (oi2 o) = true := by
  cases o with
  | none => rfl
  | some p =>
    obtain ⟨a, b⟩ := ho p rfl
    show (pl (.int (p.1 : Int)) && (pl (.int (p.2 : Int)) && true)) = true
    rw [p7_log a, p7_log b]; rfl
theorem non_in2 {os : List (Option (Nat × Nat))} (hs : ∀ o ∈ os, ∀ p, o = some p → p.1 ≤ 7 ^ 64 ∧ p.2 ≤ 7 ^ 64) : cmpop.memd h .non (.lst (os.map oi2)) = some (os.any fun o => o.isNone) := by
  rw [non_lst (plL_iff.mpr fun x hx => ?_) (Nat.lt_of_le_of_lt (depL_le (n := 1) fun x hx => ?_) (by decide))]
  · rw [List.any_map, show PD.isNon ∘ oi2 = (fun o : Option (Nat × Nat) => o.isNone) from funext fun o => by cases o <;> rfl]
  · obtain ⟨o, ho, rfl⟩ := List.mem_map.mp hx
    exact oi2_pl (hs o ho)
  · obtain ⟨o, ho, rfl⟩ := List.mem_map.mp hx
    cases o with
    | none => exact Nat.zero_le _
    | some p => simp
theorem comb_none : ∀ {os : List (Option (Nat × Nat))}, (os.any fun o => o.isNone) = true → comb os = none
  | x :: xs, e => by
    unfold comb
    cases x with
    | none => rfl
    | some a => rw [comb_none (os := xs) (by simpa using e)]
theorem all_some {α : Type} : ∀ {os : List (Option α)}, (os.any fun o => o.isNone) = false → ∃ qs : List α, os = qs.map some
  | [], _ => ⟨[], rfl⟩
  | x :: xs, e => by
    cases x with
    | none => simp at e
    | some a =>
      obtain ⟨qs, rfl⟩ := all_some (os := xs) (by simpa using e)
      exact ⟨a :: qs, rfl⟩
theorem comb_some : ∀ (q : Nat × Nat) (qs : List (Nat × Nat)), ∃ (M : Int) (p : Nat × Nat), maxL ((q :: qs).map fun q => (q.1 : Int)) = some M ∧ comb ((q :: qs).map some) = some p ∧ (p.1 : Int) = 1 + M ∧ (p.2 : Int) = ((q :: qs).map fun q => (q.2 : Int)).sum
  | q, [] => ⟨q.1, (q.1 + 1, q.2), rfl, by show some (max (q.1 + 1) 1, q.2 + 0) = _; congr 2; omega, by show ((q.1 + 1 : Nat) : Int) = _; omega, by simp⟩
  | q, q2 :: qs => by
    obtain ⟨M, p, h1, h2, h3, h4⟩ := comb_some q2 qs
    refine ⟨max q.1 M, (max (q.1 + 1) p.1, q.2 + p.2), ?_, ?_, ?_, ?_⟩
    · show (maxL ((q2 :: qs).map fun q => (q.1 : Int))).map (fun m => max (q.1 : Int) m) = _
      rw [h1]; rfl
    · show (match some q, comb ((q2 :: qs).map some) with | some a, some b => some (max (a.1 + 1) b.1, a.2 + b.2) | _, _ => none) = _
      rw [h2]
    · show ((max (q.1 + 1) p.1 : Nat) : Int) = _
      omega
    · rw [List.map_cons, List.sum_cons, ← h4]
      show ((q.2 + p.2 : Nat) : Int) = _
      omega
theorem fin_t2 {n : Nat} {a b : Int} (hn : n = h.length) : fin false n (.tup [.int a, .int b]) h = some (.tup [.int a, .int b], h) := fin_fl0 rfl hn
theorem eqd_any {r : List D} (hr : plL (D.str "any" :: r) = true) (hd : depL r < 60) : eqd h (.tup (.str "any" :: r)) (.tup [.str "any"]) = some r.isEmpty := by
  rw [eqd_pl (show pl (.tup (.str "any" :: r)) = true from hr) (by decide +kernel) (by simp; omega) (by simp)]
  show some (PyData.eqvAll (pdL (.str "any" :: r)) (pdL [.str "any"])) = _
  show some (PyData.eqv (.str "any") (.str "any") && PyData.eqvAll (pdL r) []) = _
  rw [eqv_str, eqvAll_nil, pdL_empty]
  simp
theorem deep_ok (m : Nat) : ∀ (v : D) (b : Bool) (k : Nat) (h : MH) (Q : D → MH → Prop), dep v < m → m ≤ 60 → pl v = true → wp (R (k + m) "_law_deep" [v, .bl b]) h Q = Q (oi2 (ld m v b)) h := by
  induction m with
  | zero => intro v b k h Q hd; omega
  | succ m ihm =>
    intro v b k h Q hd hm hv
    refine wp_eq ?_
    rw [show k + (m + 1) = (k + m) + 1 from rfl, w__law_deep]; unfold b__law_deep
    have ih : ∀ (x : D) (b' : Bool), pl x = true → dep x < m → ∀ (h : MH) (Q : D → MH → Prop), wp (R (k + m) "_law_deep" [x, .bl b']) h Q = Q (oi2 (ld m x b')) h := fun x b' hx hd h Q => ihm x b' k h Q hd (by omega) hx
    clear ihm
    cases v <;> simp [isT, ld] at hv hd ⊢
    rename_i xs
    cases xs with
    | nil => rw [eqd_tup_nil (by rfl) (by decide)]; simp
    | cons y r =>
      rw [eqd_tup_nil hv (by omega)]
      cases y <;> simp [isT] at hv hd ⊢
      rename_i s
      have hs : pl (.str s) = true := by simp [hv.1]
      by_cases a1 : s = "any"
      · subst a1
        rw [show eqd h (.tup (.str "any" :: r)) (.tup [.str "any"]) = some r.isEmpty from eqd_any (by simp [hv.1, hv.2]) (by omega)]
        cases r with
        | nil => simp [sizeLine_is]; rw [fin_fl0 rfl rfl]; simp
        | cons y r => simp [sizeLine_is]
      · simp [a1]
        match r, hv, hd with
        | [], hv, hd =>
          by_cases a2 : s = "mark"
          · simp [a2]
          · simp [a2, mem_parts hs, mem_all11 hs]
            cases partW s with
            | true => simp [sizeLine_is]
            | false =>
              simp [sizeLine_is]
              intro h1 h2 h3
              rcases h3 with h3 | h3
              · exact absurd h3 h1
              · rw [h2] at h3; cases h3
        | y :: z :: r, hv, hd =>
          have hl : ¬ ((r.length : Int) + 1 + 1 + 1 = 2) := by omega
          by_cases a2 : s = "mark"
          · simp [a2, hl]
          · simp [a2, hl, mem_parts hs, mem_all11 hs]
            cases partW s with
            | true => simp [sizeLine_is]
            | false =>
              simp [sizeLine_is]
              intro h1 h2 h3
              rcases h3 with h3 | h3
              · exact absurd h3 h1
              · rw [h2] at h3; cases h3
        | [x], hv, hd =>
          simp at hv hd
          obtain ⟨hv1, hx⟩ := hv
          by_cases a2 : s = "mark"
          · subst a2
            simp [sizeLine_is]
            cases x <;> simp [isT, markB] at hx ⊢
            rename_i t
            rw [mem_marks (by simpa using hx)]
            simp
            by_cases z : markS t = true <;> simp [z]
            rw [fin_fl0 rfl rfl]; simp
          · simp [a2, mem_parts hs, mem_all11 hs, mem_out hs, mem_not3 hs]
            cases a3 : partW s with
            | true =>
              simp [sizeLine_is]
              cases x <;> simp [isT] at hx hd ⊢
              rename_i ps
              by_cases z1 : 2 ≤ ps.length
              · have z1' : (2 : Int) ≤ ps.length := by omega
                by_cases z2 : ps.length ≤ 6
                · have z2' : (ps.length : Int) ≤ 6 := by omega
                  simp [z1, z1', z2, z2', sizeLine_is]
                  refine ⟨by omega, ?_⟩
                  have hp : ∀ x ∈ ps, pl x = true := plL_iff.mp hx
                  have hq : ∀ x ∈ ps, dep x < m := fun x hx => by have := depL_mem hx; omega
                  refine comp_map0 (fun x => oi2 (ld m x b)) ps (fun x hx => ?_) ?_
                  · simp [ih x b (hp x hx) (hq x hx)]
                  · have e1 : ps.map (fun x => oi2 (ld m x b)) = (ps.map fun x => ld m x b).map oi2 := by rw [List.map_map]; rfl
                    rw [e1]
                    have hm7 : 7 ^ m ≤ 7 ^ 64 := Nat.pow_le_pow_right (by decide) (by omega)
                    have hm8 : m ≤ 7 ^ 64 := Nat.le_trans (Nat.le_of_lt (Nat.lt_pow_self (by decide))) hm7
                    have hl : ∀ o ∈ ps.map (fun x => ld m x b), ∀ p, o = some p → p.1 ≤ 7 ^ 64 ∧ p.2 ≤ 7 ^ 64 := fun o ho p ep => by
                      obtain ⟨x, hx, rfl⟩ := List.mem_map.mp ho
                      obtain ⟨b1, b2⟩ := ld_le ep
                      exact ⟨Nat.le_trans b1 hm8, Nat.le_trans b2 hm7⟩
                    have hlen : (ps.map fun x => ld m x b).length ≤ 6 := by simpa using z2
                    have hpos : 1 ≤ (ps.map fun x => ld m x b).length := by rw [List.length_map]; omega
                    clear hm7 hm8
                    have hni : ∀ h : MH, cmpop.memd h .non (.lst ((ps.map fun x => ld m x b).map oi2)) = some ((ps.map fun x => ld m x b).any fun o => o.isNone) := fun h => non_in2 hl
                    clear hl
                    generalize (ps.map fun x => ld m x b) = os at *
                    cases e : os.any fun o => o.isNone with
                    | true =>
                      simp [hni, e, comb_none e]
                    | false =>
                      obtain ⟨qs, rfl⟩ := all_some e
                      cases qs with
                      | nil => simp at hpos
                      | cons q qs =>
                        obtain ⟨M, p, g1, g2, g3, g4⟩ := comb_some q qs
                        generalize hL : q :: qs = L at *
                        have hn2 : ∀ h : MH, cmpop.memd h .non (.lst (L.map (oi2 ∘ some))) = some false := fun h => by rw [← List.map_map, hni h, e]
                        have hl6 : L.length ≤ 6 := by simpa using hlen
                        simp [hn2, g2, sizeLine_is]
                        refine ⟨by omega, ?_⟩
                        refine comp_map (oi2 ∘ some) (fun q : Nat × Nat => .int (q.1 : Int)) L (fun q hq => by simp) ?_
                        have i1 : intsOf (L.map fun q : Nat × Nat => D.int (q.1 : Int)) = some (L.map fun q => (q.1 : Int)) := intsOf_map _ L
                        have m1 : ∀ h : MH, biop .max [.lst (L.map fun q : Nat × Nat => D.int (q.1 : Int))] h = some (.int M) := fun h => by
                          show ((listy h (.lst _)).bind fun xs => (intsOf xs).bind maxL).map D.int = _
                          rw [listy_lst, Option.bind_some, i1, Option.bind_some, g1]; rfl
                        simp [m1]
                        refine ⟨by omega, ?_⟩
                        refine comp_map (oi2 ∘ some) (fun q : Nat × Nat => .int (q.2 : Int)) L (fun q hq => by simp) ?_
                        simp [intsOf_map, fin_t2, ← g3, ← g4]
                · have z2' : ¬ (ps.length : Int) ≤ 6 := by omega
                  simp [z1, z1', z2, z2']
              · have z1' : ¬ (2 : Int) ≤ ps.length := by omega
                simp [z1, z1']
            | false =>
              simp
              have ihx := fun b' => ih x b' hx (by omega)
              by_cases a4 : s = "not"
              · subst a4
                have e1 : wordW "not" = false := by decide +kernel
                have e2 : outW "not" = false := by decide +kernel
                simp [e1, e2, sizeLine_is, ihx]
                cases b with
                | true =>
                  simp
                  cases ld m x true with
                  | none => simp
                  | some p => simp [fin_t2]
                | false =>
                  simp
                  cases ld m x false with
                  | none => simp
                  | some p => simp [fin_t2]
              · simp [a4, sizeLine_is]
                cases a5 : wordW s with
                | false => simp
                | true =>
                  simp
                  cases b with
                  | true =>
                    cases outW s with
                    | true => simp
                    | false =>
                      simp [ihx]
                      cases ld m x true with
                      | none => simp
                      | some p => simp [fin_t2, sizeLine_is]
                  | false =>
                    simp [ihx]
                    cases ld m x (!aboveW s) with
                    | none => simp
                    | some p => simp [fin_t2, sizeLine_is]
theorem few_ld {v : D} {m : Nat} (hd : dep v < m) : sayB v = (match ld m v false with | none => false | some p => decide (p.1 < 7) && decide (p.2 < 9)) := by
  unfold sayB
  rw [wt_ld 6 m false v hd]
  cases ld m v false with
  | none => rfl
  | some p =>
    by_cases h1 : p.1 ≤ 6
    · have h2 : p.1 < 7 := by omega
      simp [most, h1, h2, few]
      by_cases h3 : p.2 ≤ 8
      · have : p.2 < 9 := by omega
        simp [h3, this]
      · have : ¬ p.2 < 9 := by omega
        simp [h3, this]
    · have h2 : ¬ p.1 < 7 := by omega
      simp [most, h1, h2, few]
theorem law_is_saying_ok {m : Nat} (hv : pl v = true) (hd : dep v < m) (hm : m ≤ 60) : wp (R (k + m + 1) "_law_is_saying" [v]) h Q = Q (.bl (sayB v)) h := by
  refine wp_eq ?_
  rw [w__law_is_saying]; unfold b__law_is_saying
  rw [few_ld hd]
  simp [deep_ok m v false k _ _ hd hm hv]
  cases ld m v false with
  | none => simp
  | some p =>
    simp
    by_cases h1 : p.1 < 7
    · have h2 : (p.1 : Int) < 7 := by omega
      simp [h1, h2]
      omega
    · have h2 : ¬ (p.1 : Int) < 7 := by omega
      simp [h1, h2]
end
end K04


namespace K04
open PySem PySem.Spec L2 PD
/-! ### sayings, plainly -/
inductive Sy where
  | any | mark (c : Nat) | nt (s : Sy) | op (b : Bool) (ps : List Sy) | wd (w : Nat) (s : Sy)
  deriving Inhabited
def wn : Nat → Str
  | 0 => "child" | 1 => "below" | 2 => "odd" | 3 => "two" | 4 => "first" | 5 => "last" | 6 => "up" | 7 => "under" | 8 => "ahead" | _ => "behind"
def pn (b : Bool) : Str := if b then "all" else "some"
mutual
def enc : Sy → D
  | .any => .tup [.str "any"]
  | .mark c => .tup [.str "mark", .str ⟨#[97 + c]⟩]
  | .nt s => .tup [.str "not", enc s]
  | .op b ps => .tup [.str (pn b), .tup (encL ps)]
  | .wd w s => .tup [.str (wn w), enc s]
def encL : List Sy → List D
  | [] => []
  | s :: ss => enc s :: encL ss
end
theorem encL_map : ∀ ss : List Sy, encL ss = ss.map enc
  | [] => rfl
  | s :: ss => by rw [List.map_cons, ← encL_map ss]; rfl
mutual
def dp : Sy → Nat
  | .any => 1
  | .mark _ => 1
  | .nt s => dp s + 1
  | .op _ ps => dpL ps + 1
  | .wd _ s => dp s + 1
def dpL : List Sy → Nat
  | [] => 0
  | s :: ss => max (dp s) (dpL ss)
end
mutual
def wc : Sy → Nat
  | .any => 0
  | .mark _ => 0
  | .nt s => wc s
  | .op _ ps => wcL ps
  | .wd _ s => wc s + 1
def wcL : List Sy → Nat
  | [] => 0
  | s :: ss => wc s + wcL ss
end
/-! of the right form -/
mutual
def shp : Sy → Bool
  | .any => true
  | .mark c => decide (c < 4)
  | .nt s => shp s
  | .op _ ps => decide (2 ≤ ps.length) && decide (ps.length ≤ 6) && shpL ps
  | .wd w s => decide (w < 10) && shp s
def shpL : List Sy → Bool
  | [] => true
  | s :: ss => shp s && shpL ss
end
/-! no word out of its place -/
mutual
def okb (b : Bool) : Sy → Bool
  | .any => true
  | .mark _ => true
  | .nt s => okb b s
  | .op _ ps => okbL b ps
  | .wd w s => !(b && outW (wn w)) && okb (b || !aboveW (wn w)) s
def okbL (b : Bool) : List Sy → Bool
  | [] => true
  | s :: ss => okb b s && okbL b ss
end
mutual
def noOut : Sy → Bool
  | .any => true
  | .mark _ => true
  | .nt s => noOut s
  | .op _ ps => noOutL ps
  | .wd w s => !outW (wn w) && noOut s
def noOutL : List Sy → Bool
  | [] => true
  | s :: ss => noOut s && noOutL ss
end
theorem dpL_mem {s : Sy} : ∀ {ss : List Sy}, s ∈ ss → dp s ≤ dpL ss
  | x :: ss, h => by
    show dp s ≤ max (dp x) (dpL ss)
    rcases List.mem_cons.mp h with rfl | h
    · omega
    · have := dpL_mem h; omega
theorem dpL_le {n : Nat} : ∀ {ss : List Sy}, (∀ s ∈ ss, dp s ≤ n) → dpL ss ≤ n
  | [], _ => Nat.zero_le _
  | x :: ss, h => Nat.max_le.mpr ⟨h x List.mem_cons_self, dpL_le fun s hs => h s (List.mem_cons_of_mem _ hs)⟩
theorem shpL_iff : ∀ {ss : List Sy}, shpL ss = true ↔ ∀ s ∈ ss, shp s = true
  | [] => by simp [shpL]
  | x :: ss => by simp [shpL, shpL_iff (ss := ss)]
theorem okbL_iff {b : Bool} : ∀ {ss : List Sy}, okbL b ss = true ↔ ∀ s ∈ ss, okb b s = true
  | [] => by simp [okbL]
  | x :: ss => by simp [okbL, okbL_iff (ss := ss)]
theorem noOutL_iff : ∀ {ss : List Sy}, noOutL ss = true ↔ ∀ s ∈ ss, noOut s = true
  | [] => by simp [noOutL]
  | x :: ss => by simp [noOutL, noOutL_iff (ss := ss)]
theorem dp_pos : ∀ s : Sy, 1 ≤ dp s
  | .any => Nat.le_refl _
  | .mark _ => Nat.le_refl _
  | .nt _ => Nat.le_add_left _ _
  | .op _ _ => Nat.le_add_left _ _
  | .wd _ _ => Nat.le_add_left _ _
/-- by levels -/
theorem by_level {P : Sy → Prop} (h1 : P .any) (h2 : ∀ c, P (.mark c)) (h3 : ∀ s, P s → P (.nt s)) (h4 : ∀ b ps, (∀ p ∈ ps, P p) → P (.op b ps)) (h5 : ∀ w s, P s → P (.wd w s)) (s : Sy) : P s := by
  have key : ∀ n s, dp s ≤ n → P s := by
    intro n
    induction n with
    | zero => intro s h; have := dp_pos s; omega
    | succ n ih =>
      intro s h
      cases s with
      | any => exact h1
      | mark c => exact h2 c
      | nt s => exact h3 s (ih s (by have : dp s + 1 ≤ n + 1 := h; omega))
      | op b ps => exact h4 b ps fun p hp => ih p (by have := dpL_mem hp; have : dpL ps + 1 ≤ n + 1 := h; omega)
      | wd w s => exact h5 w s (ih s (by have : dp s + 1 ≤ n + 1 := h; omega))
  exact key _ s (Nat.le_refl _)
theorem pn_pl (b : Bool) : pl (.str (pn b)) = true := by cases b <;> decide +kernel
theorem wn_pl : ∀ w : Nat, pl (.str (wn w)) = true
  | 0 => by decide +kernel | 1 => by decide +kernel | 2 => by decide +kernel | 3 => by decide +kernel | 4 => by decide +kernel | 5 => by decide +kernel | 6 => by decide +kernel | 7 => by decide +kernel | 8 => by decide +kernel
  | _ + 9 => by show pl (.str "behind") = true; decide +kernel
theorem sign_pl {c : Nat} (h : c < 4) : pl (.str ⟨#[97 + c]⟩) = true := by
  match c, h with
  | 0, _ => decide +kernel
  | 1, _ => decide +kernel
  | 2, _ => decide +kernel
  | 3, _ => decide +kernel
theorem sign_mark {c : Nat} (h : c < 4) : markS ⟨#[97 + c]⟩ = true := by
  match c, h with
  | 0, _ => decide +kernel
  | 1, _ => decide +kernel
  | 2, _ => decide +kernel
  | 3, _ => decide +kernel
theorem enc_pl (s : Sy) : shp s = true → pl (enc s) = true := by
  refine by_level (P := fun s => shp s = true → pl (enc s) = true) ?_ ?_ ?_ ?_ ?_ s
  · intro _; decide +kernel
  · intro c h
    have h : c < 4 := of_decide_eq_true h
    show (pl (.str "mark") && (pl (.str ⟨#[97 + c]⟩) && true)) = true
    rw [sign_pl h, show pl (.str "mark") = true by decide +kernel]; rfl
  · intro s ih h
    show (pl (.str "not") && (pl (enc s) && true)) = true
    rw [ih h, show pl (.str "not") = true by decide +kernel]; rfl
  · intro b ps ih h
    have h : (decide (2 ≤ ps.length) && decide (ps.length ≤ 6) && shpL ps) = true := h
    rw [Bool.and_eq_true] at h
    show (pl (.str (pn b)) && (plL (encL ps) && true)) = true
    rw [pn_pl, show plL (encL ps) = true from by
      rw [encL_map, plL_iff]
      intro x hx
      obtain ⟨p, hp, rfl⟩ := List.mem_map.mp hx
      exact ih p hp (shpL_iff.mp h.2 p hp)]
    rfl
  · intro w s ih h
    have h : (decide (w < 10) && shp s) = true := h
    rw [Bool.and_eq_true] at h
    show (pl (.str (wn w)) && (pl (enc s) && true)) = true
    rw [ih h.2, wn_pl]; rfl
theorem enc_dep (s : Sy) : dep (enc s) ≤ 2 * dp s := by
  refine by_level (P := fun s => dep (enc s) ≤ 2 * dp s) ?_ ?_ ?_ ?_ ?_ s
  · decide
  · intro c; show max 0 (max 0 0) + 1 ≤ 2; decide
  · intro s ih
    have e1 : dep (enc (.nt s)) = max 0 (max (dep (enc s)) 0) + 1 := rfl
    have e2 : dp (.nt s) = dp s + 1 := rfl
    omega
  · intro b ps ih
    have e1 : dep (enc (.op b ps)) = max 0 (max (depL (encL ps) + 1) 0) + 1 := rfl
    have e2 : dp (.op b ps) = dpL ps + 1 := rfl
    have : depL (encL ps) ≤ 2 * dpL ps := depL_le fun x hx => by
      rw [encL_map] at hx
      obtain ⟨q, hq, rfl⟩ := List.mem_map.mp hx
      have := ih q hq
      have := dpL_mem hq
      omega
    omega
  · intro w s ih
    have e1 : dep (enc (.wd w s)) = max 0 (max (dep (enc s)) 0) + 1 := rfl
    have e2 : dp (.wd w s) = dp s + 1 := rfl
    omega
/-! what words are -/
theorem wn_in {w : Nat} (h : w < 10) : wordW (wn w) = true ∧ partW (wn w) = false ∧ wn w ≠ "any" ∧ wn w ≠ "mark" ∧ wn w ≠ "not" := by
  match w, h with
  | 0, _ => decide +kernel
  | 1, _ => decide +kernel
  | 2, _ => decide +kernel
  | 3, _ => decide +kernel
  | 4, _ => decide +kernel
  | 5, _ => decide +kernel
  | 6, _ => decide +kernel
  | 7, _ => decide +kernel
  | 8, _ => decide +kernel
  | 9, _ => decide +kernel
theorem pn_in (b : Bool) : partW (pn b) = true ∧ wordW (pn b) = false ∧ pn b ≠ "any" ∧ pn b ≠ "mark" ∧ pn b ≠ "not" := by cases b <;> decide +kernel
theorem comb_enc {m : Nat} {b : Bool} : ∀ {ss : List Sy}, (∀ s ∈ ss, ld m (enc s) b = if okb b s = true then some (dp s, wc s) else none) →
    comb ((encL ss).map fun p => ld m p b) = if okbL b ss = true then some (dpL ss + 1, wcL ss) else none
  | [], _ => rfl
  | s :: ss, h => by
    have ih := comb_enc (ss := ss) fun t ht => h t (List.mem_cons_of_mem _ ht)
    have h1 := h s List.mem_cons_self
    show (match ld m (enc s) b, comb ((encL ss).map fun p => ld m p b) with | some a, some b => some (max (a.1 + 1) b.1, a.2 + b.2) | _, _ => none) = if (okb b s && okbL b ss) = true then some (max (dp s) (dpL ss) + 1, wc s + wcL ss) else none
    rw [ih, h1]
    cases okb b s <;> cases okbL b ss <;> simp
theorem ld_two {m : Nat} {s : Str} {x : D} {b : Bool} : ld (m + 1) (.tup [.str s, x]) b = if s = "any" then (if ([x] : List D).isEmpty = true then some (1, 0) else none) else
      if s = "mark" then (if markB x = true then some (1, 0) else none) else
        if partW s = true then (match x with
          | .tup ps => if 2 ≤ ps.length ∧ ps.length ≤ 6 then comb (ps.map fun p => ld m p b) else none
          | _ => none) else
        if s = "not" then (ld m x b).map fun p => (p.1 + 1, p.2) else
        if (!wordW s || (b && outW s)) = true then none else (ld m x (b || !aboveW s)).map fun p => (p.1 + 1, p.2 + 1) := rfl
theorem ld_enc (s : Sy) : ∀ (m : Nat) (b : Bool), shp s = true → dep (enc s) < m → ld m (enc s) b = if okb b s = true then some (dp s, wc s) else none := by
  refine by_level (P := fun s => ∀ (m : Nat) (b : Bool), shp s = true → dep (enc s) < m → ld m (enc s) b = if okb b s = true then some (dp s, wc s) else none) ?_ ?_ ?_ ?_ ?_ s
  · intro m b _ hd
    obtain ⟨m, rfl⟩ : ∃ n, m = n + 1 := ⟨m - 1, by omega⟩
    rfl
  · intro c m b h hd
    obtain ⟨m, rfl⟩ : ∃ n, m = n + 1 := ⟨m - 1, by omega⟩
    have h : c < 4 := of_decide_eq_true h
    have e : ld (m + 1) (enc (.mark c)) b = if markS ⟨#[97 + c]⟩ = true then some (1, 0) else none := rfl
    rw [e, sign_mark h]; rfl
  · intro s ih m b h hd
    obtain ⟨m, rfl⟩ : ∃ n, m = n + 1 := ⟨m - 1, by omega⟩
    have hd' : dep (enc s) < m := by
      have e1 : dep (enc (.nt s)) = max 0 (max (dep (enc s)) 0) + 1 := rfl
      omega
    have e : ld (m + 1) (enc (.nt s)) b = (ld m (enc s) b).map (fun p => (p.1 + 1, p.2)) := rfl
    rw [e, ih m b h hd']
    show _ = if okb b s = true then some (dp s + 1, wc s) else none
    cases okb b s <;> rfl
  · intro o ps ih m b h hd
    obtain ⟨m, rfl⟩ : ∃ n, m = n + 1 := ⟨m - 1, by omega⟩
    have h : (decide (2 ≤ ps.length) && decide (ps.length ≤ 6) && shpL ps) = true := h
    simp only [Bool.and_eq_true, decide_eq_true_eq] at h
    obtain ⟨⟨h1, h2⟩, h3⟩ := h
    obtain ⟨p1, p2, p3, p4, p5⟩ := pn_in o
    have e : ld (m + 1) (enc (.op o ps)) b = if 2 ≤ (encL ps).length ∧ (encL ps).length ≤ 6 then comb ((encL ps).map fun p => ld m p b) else none := by
      show ld (m + 1) (.tup [.str (pn o), .tup (encL ps)]) b = _
      rw [ld_two, if_neg p3, if_neg p4, if_pos p1]
    rw [e, if_pos (by rw [encL_map, List.length_map]; exact ⟨h1, h2⟩)]
    rw [comb_enc fun s hs => ih s hs m b (shpL_iff.mp h3 s hs) ?_]
    · rfl
    · have e1 : dep (enc (.op o ps)) = max 0 (max (depL (encL ps) + 1) 0) + 1 := rfl
      have : dep (enc s) ≤ depL (encL ps) := depL_mem (by rw [encL_map]; exact List.mem_map.mpr ⟨s, hs, rfl⟩)
      omega
  · intro w s ih m b h hd
    obtain ⟨m, rfl⟩ : ∃ n, m = n + 1 := ⟨m - 1, by omega⟩
    have h : (decide (w < 10) && shp s) = true := h
    simp only [Bool.and_eq_true, decide_eq_true_eq] at h
    obtain ⟨p1, p2, p3, p4, p5⟩ := wn_in h.1
    have hd' : dep (enc s) < m := by
      have e1 : dep (enc (.wd w s)) = max 0 (max (dep (enc s)) 0) + 1 := rfl
      omega
    have e : ld (m + 1) (enc (.wd w s)) b = if (b && outW (wn w)) = true then none else (ld m (enc s) (b || !aboveW (wn w))).map fun p => (p.1 + 1, p.2 + 1) := by
      show ld (m + 1) (.tup [.str (wn w), enc s]) b = _
      rw [ld_two, if_neg p3, if_neg p4, if_neg (by rw [p2]; exact Bool.false_ne_true), if_neg p5, p1]; rfl
    rw [e, ih m _ h.2 hd']
    show _ = if (!(b && outW (wn w)) && okb (b || !aboveW (wn w)) s) = true then some (dp s + 1, wc s + 1) else none
    cases (b && outW (wn w)) with
    | true => rfl
    | false => cases okb (b || !aboveW (wn w)) s <;> rfl
theorem noOut_ok (s : Sy) : ∀ b, noOut s = true → okb b s = true := by
  refine by_level (P := fun s => ∀ b, noOut s = true → okb b s = true) (fun _ _ => rfl) (fun _ _ _ => rfl) (fun s ih b h => ih b h) (fun o ps ih b h => ?_) (fun w s ih b h => ?_) s
  · exact okbL_iff.mpr fun p hp => ih p hp b (noOutL_iff.mp h p hp)
  · have h : (!outW (wn w) && noOut s) = true := h
    rw [Bool.and_eq_true, Bool.not_eq_true'] at h
    show (!(b && outW (wn w)) && okb _ s) = true
    rw [h.1, ih _ h.2]
    cases b <;> rfl
theorem ok_noOut (s : Sy) : okb true s = true → noOut s = true := by
  refine by_level (P := fun s => okb true s = true → noOut s = true) (fun _ => rfl) (fun _ _ => rfl) (fun s ih h => ih h) (fun o ps ih h => ?_) (fun w s ih h => ?_) s
  · exact noOutL_iff.mpr fun p hp => ih p hp (okbL_iff.mp h p hp)
  · have h : (!(true && outW (wn w)) && okb (true || !aboveW (wn w)) s) = true := h
    rw [Bool.true_and, Bool.true_or, Bool.and_eq_true] at h
    show (!outW (wn w) && noOut s) = true
    rw [h.1, ih h.2]; rfl
theorem okb_true (s : Sy) : okb true s = noOut s := by
  cases h : noOut s with
  | true => exact noOut_ok s true h
  | false =>
    cases h2 : okb true s with
    | false => rfl
    | true => rw [ok_noOut s h2] at h; cases h
/-- a saying of the law -/
structure Say (s : Sy) : Prop where
  shp : shp s = true
  ok : okb false s = true
  dp : dp s ≤ 6
  wc : wc s ≤ 8
theorem Say.dep {s : Sy} (h : Say s) : dep (enc s) < 13 := by have := enc_dep s; have := h.dp; omega
theorem Say.pl {s : Sy} (h : Say s) : pl (enc s) = true := enc_pl s h.shp
theorem Say.say {s : Sy} (h : Say s) : sayB (enc s) = true := by
  rw [few_ld h.dep, ld_enc s 13 false h.shp h.dep, h.ok]
  have := h.dp; have := h.wc
  simp; omega
theorem Say.inner {s : Sy} (h : Say s) : few (wt 6 true (enc s)) = noOut s := by
  rw [wt_ld 6 13 true _ h.dep, ld_enc s 13 true h.shp h.dep, okb_true]
  have h1 := h.dp; have := h.wc
  cases noOut s with
  | true => simp [most, h1, few]; omega
  | false => rfl
end K04


namespace K04
open PySem PySem.Spec L2 PD
/-! ### texts of sayings, plainly -/
def cw (w : Nat) : List Nat := (wn w).cps.toList
def sep (b : Bool) : List Nat := [32, if b then 38 else 124, 32]
mutual
def tx : Sy → List Nat
  | .any => [97, 110, 121]
  | .mark c => [97 + c]
  | .nt s => [110, 111, 116] ++ 32 :: tx s
  | .op b ps => 40 :: ((txR b ps).drop 3 ++ [41])
  | .wd w s => cw w ++ 32 :: tx s
def txR (b : Bool) : List Sy → List Nat
  | [] => []
  | s :: ss => sep b ++ (tx s ++ txR b ss)
end
def letter (n : Nat) : Bool := decide (97 ≤ n) && decide (n ≤ 122)
/-- begins with no letter -/
def ends : List Nat → Bool
  | [] => true
  | c :: _ => !letter c
theorem split_tok : ∀ {l m x y : List Nat}, l.all letter = true → m.all letter = true → ends x = true → ends y = true → l ++ x = m ++ y → l = m ∧ x = y
  | [], [], x, y, _, _, _, _, e => ⟨rfl, e⟩
  | [], b :: m, x, y, _, hm, hx, _, e => by
    have e : x = b :: (m ++ y) := e
    subst e
    rw [List.all_cons, Bool.and_eq_true] at hm
    have hx : (!letter b) = true := hx
    rw [hm.1] at hx; cases hx
  | a :: l, [], x, y, hl, _, _, hy, e => by
    have e : a :: (l ++ x) = y := e
    subst e
    rw [List.all_cons, Bool.and_eq_true] at hl
    have hy : (!letter a) = true := hy
    rw [hl.1] at hy; cases hy
  | a :: l, b :: m, x, y, hl, hm, hx, hy, e => by
    rw [List.all_cons, Bool.and_eq_true] at hl hm
    have e : a :: (l ++ x) = b :: (m ++ y) := e
    injection e with e1 e2
    obtain ⟨r1, r2⟩ := split_tok hl.2 hm.2 hx hy e2
    exact ⟨by rw [e1, r1], r2⟩
def tok : Sy → List Nat
  | .any => [97, 110, 121]
  | .mark c => [97 + c]
  | .nt _ => [110, 111, 116]
  | .op _ _ => []
  | .wd w _ => cw w
def rst : Sy → List Nat
  | .any => []
  | .mark _ => []
  | .nt s => 32 :: tx s
  | .op b ps => 40 :: ((txR b ps).drop 3 ++ [41])
  | .wd _ s => 32 :: tx s
theorem tx_split (s : Sy) : tx s = tok s ++ rst s := by cases s <;> rfl
theorem cw_fin : ∀ w : Fin 10, (cw w.1).all letter = true ∧ cw w.1 ≠ [97, 110, 121] ∧ cw w.1 ≠ [110, 111, 116] ∧ 2 ≤ (cw w.1).length ∧ (cw w.1).length ≤ 6 := by decide +kernel
theorem cw_two : ∀ w v : Fin 10, cw w.1 = cw v.1 → w = v := by decide +kernel
theorem tok_all {s : Sy} (h : shp s = true) : (tok s).all letter = true := by
  cases s with
  | any => decide
  | mark c =>
    have h : c < 4 := of_decide_eq_true h
    match c, h with
    | 0, _ => decide
    | 1, _ => decide
    | 2, _ => decide
    | 3, _ => decide
  | nt s => rfl
  | op b ps => rfl
  | wd w s =>
    have h : (decide (w < 10) && shp s) = true := h
    simp only [Bool.and_eq_true, decide_eq_true_eq] at h
    exact (cw_fin ⟨w, h.1⟩).1
theorem rst_ends {s : Sy} {x : List Nat} (hx : ends x = true) : ends (rst s ++ x) = true := by cases s <;> first | exact hx | rfl
/-- by its token and the rest -/
theorem tx_list {b b' : Bool} : ∀ {ps qs : List Sy} {x y : List Nat}, (∀ p ∈ ps, ∀ t x y, shp t = true → ends x = true → ends y = true → tx p ++ x = tx t ++ y → p = t ∧ x = y) → shpL qs = true →
    txR b ps ++ 41 :: x = txR b' qs ++ 41 :: y → ps = qs ∧ x = y ∧ (ps ≠ [] → b = b')
  | [], [], x, y, _, _, e => by injection e with _ e; exact ⟨rfl, e, fun h => absurd rfl h⟩
  | [], q :: qs, x, y, _, _, e => by
    have e : 41 :: x = 32 :: _ := e
    injection e with e _; cases e
  | p :: ps, [], x, y, _, _, e => by
    have e : 32 :: _ = 41 :: y := e
    injection e with e _; cases e
  | p :: ps, q :: qs, x, y, h, hq, e => by
    have hq : (shp q && shpL qs) = true := hq
    rw [Bool.and_eq_true] at hq
    have e : 32 :: (if b then 38 else 124) :: 32 :: (tx p ++ txR b ps ++ 41 :: x) = 32 :: (if b' then 38 else 124) :: 32 :: (tx q ++ txR b' qs ++ 41 :: y) := e
    injection e with _ e
    injection e with eb e
    injection e with _ e
    rw [List.append_assoc, List.append_assoc] at e
    have en : ∀ (c : Bool) (l : List Sy) (z : List Nat), ends (txR c l ++ 41 :: z) = true := fun c l z => by cases l <;> rfl
    obtain ⟨e1, e2⟩ := h p List.mem_cons_self q _ _ hq.1 (en _ _ _) (en _ _ _) e
    obtain ⟨e3, e4, _⟩ := tx_list (fun p hp => h p (List.mem_cons_of_mem _ hp)) hq.2 e2
    refine ⟨by rw [e1, e3], e4, fun _ => ?_⟩
    cases b <;> cases b' <;> first | rfl | cases eb
theorem cw_ne {w : Nat} {s : Sy} (h : shp (.wd w s) = true) : cw w ≠ [97, 110, 121] ∧ cw w ≠ [110, 111, 116] ∧ 2 ≤ (cw w).length := by
  have h : (decide (w < 10) && shp s) = true := h
  simp only [Bool.and_eq_true, decide_eq_true_eq] at h
  obtain ⟨_, a, b, c, _⟩ := cw_fin ⟨w, h.1⟩
  exact ⟨a, b, c⟩
theorem tx_inj (s : Sy) : shp s = true → ∀ t x y, shp t = true → ends x = true → ends y = true → tx s ++ x = tx t ++ y → s = t ∧ x = y := by
  have start : ∀ {s t : Sy} {x y : List Nat}, shp s = true → shp t = true → ends x = true → ends y = true → tx s ++ x = tx t ++ y → tok s = tok t ∧ rst s ++ x = rst t ++ y := fun {s t x y} hs ht hx hy e =>
    split_tok (tok_all hs) (tok_all ht) (rst_ends hx) (rst_ends hy) (by rw [tx_split, tx_split t, List.append_assoc, List.append_assoc] at e; exact e)
  refine by_level (P := fun s => shp s = true → ∀ t x y, shp t = true → ends x = true → ends y = true → tx s ++ x = tx t ++ y → s = t ∧ x = y) ?_ ?_ ?_ ?_ ?_ s
  · intro hs t x y ht hx hy e
    obtain ⟨e1, e2⟩ := start hs ht hx hy e
    cases t with
    | any => exact ⟨rfl, e2⟩
    | mark c => injection e1 with _ e1; cases e1
    | nt s => cases e1
    | op b ps => cases e1
    | wd w s => exact absurd e1.symm (cw_ne ht).1
  · intro c hs t x y ht hx hy e
    obtain ⟨e1, e2⟩ := start hs ht hx hy e
    cases t with
    | any => injection e1 with _ e1; cases e1
    | mark d =>
      have e1 : [97 + c] = [97 + d] := e1
      injection e1 with e1 _
      have : c = d := by omega
      exact ⟨by rw [this], e2⟩
    | nt s => injection e1 with _ e1; cases e1
    | op b ps => cases e1
    | wd w s =>
      have e1 : [97 + c] = cw w := e1
      have := (cw_ne ht).2.2
      rw [← e1] at this
      simp at this
  · intro s ih hs t x y ht hx hy e
    obtain ⟨e1, e2⟩ := start hs ht hx hy e
    cases t with
    | any => cases e1
    | mark c => injection e1 with _ e1; cases e1
    | nt t =>
      have e2 : 32 :: (tx s ++ x) = 32 :: (tx t ++ y) := e2
      injection e2 with _ e2
      obtain ⟨r1, r2⟩ := ih hs t x y ht hx hy e2
      exact ⟨by rw [r1], r2⟩
    | op b ps => cases e1
    | wd w s => exact absurd e1.symm (cw_ne ht).2.1
  · intro b ps ih hs t x y ht hx hy e
    obtain ⟨e1, e2⟩ := start hs ht hx hy e
    cases t with
    | any => cases e1
    | mark c => cases e1
    | nt s => cases e1
    | op b' qs =>
      have hs : (decide (2 ≤ ps.length) && decide (ps.length ≤ 6) && shpL ps) = true := hs
      have ht : (decide (2 ≤ qs.length) && decide (qs.length ≤ 6) && shpL qs) = true := ht
      simp only [Bool.and_eq_true, decide_eq_true_eq] at hs ht
      match ps, qs, hs, ht, ih, e2 with
      | p :: ps, q :: qs, hs, ht, ih, e2 =>
        have e2 : 40 :: (((tx p ++ txR b ps) ++ [41]) ++ x) = 40 :: (((tx q ++ txR b' qs) ++ [41]) ++ y) := e2
        injection e2 with _ e2
        simp only [List.append_assoc, List.singleton_append] at e2
        have hs2 : (shp p && shpL ps) = true := hs.2
        have ht2 : (shp q && shpL qs) = true := ht.2
        rw [Bool.and_eq_true] at hs2 ht2
        have en : ∀ (c : Bool) (l : List Sy) (z : List Nat), ends (txR c l ++ 41 :: z) = true := fun c l z => by cases l <;> rfl
        obtain ⟨r1, r2⟩ := ih p List.mem_cons_self hs2.1 q _ _ ht2.1 (en _ _ _) (en _ _ _) e2
        obtain ⟨r3, r4, r5⟩ := tx_list (fun t ht' => ih t (List.mem_cons_of_mem _ ht') (shpL_iff.mp hs2.2 t ht')) ht2.2 r2
        have : b = b' := r5 (by rintro rfl; simp at hs)
        exact ⟨by rw [r1, r3, this], r4⟩
      | [], _, hs, _, _, _ => simp at hs
      | _ :: _, [], _, ht, _, _ => simp at ht
    | wd w s =>
      have e1 : [] = cw w := e1
      have := (cw_ne ht).2.2
      rw [← e1] at this
      exact absurd this (by decide)
  · intro w s ih hs t x y ht hx hy e
    obtain ⟨e1, e2⟩ := start hs ht hx hy e
    cases t with
    | any => exact absurd e1 (cw_ne hs).1
    | mark c =>
      have e1 : cw w = [97 + c] := e1
      have := (cw_ne hs).2.2
      rw [e1] at this
      simp at this
    | nt s => exact absurd e1 (cw_ne hs).2.1
    | op b ps =>
      have e1 : cw w = [] := e1
      have := (cw_ne hs).2.2
      rw [e1] at this
      exact absurd this (by decide)
    | wd v t =>
      have e2 : 32 :: (tx s ++ x) = 32 :: (tx t ++ y) := e2
      injection e2 with _ e2
      have hs : (decide (w < 10) && shp s) = true := hs
      have ht : (decide (v < 10) && shp t) = true := ht
      simp only [Bool.and_eq_true, decide_eq_true_eq] at hs ht
      obtain ⟨r1, r2⟩ := ih hs.2 t x y ht.2 hx hy e2
      have := cw_two ⟨w, hs.1⟩ ⟨v, ht.1⟩ e1
      injection this with this
      exact ⟨by rw [r1, this], r2⟩
theorem tx_eq {s t : Sy} (hs : shp s = true) (ht : shp t = true) (e : tx s = tx t) : s = t := (tx_inj s hs t [] [] ht rfl rfl (by rw [e])).1
theorem txR_len {b : Bool} {c : Nat} : ∀ {ps : List Sy}, (∀ p ∈ ps, (tx p).length ≤ c) → (txR b ps).length ≤ ps.length * (c + 3)
  | [], _ => Nat.zero_le _
  | p :: ps, h => by
    have h1 := h p List.mem_cons_self
    have h2 := txR_len (b := b) fun q hq => h q (List.mem_cons_of_mem _ hq)
    show (sep b ++ (tx p ++ txR b ps)).length ≤ (ps.length + 1) * (c + 3)
    rw [List.length_append, List.length_append, Nat.succ_mul]
    have : (sep b).length = 3 := rfl
    omega
theorem tx_len (s : Sy) : shp s = true → (tx s).length ≤ 10 * 8 ^ dp s := by
  have p8 : ∀ n : Nat, 1 ≤ 8 ^ n := fun n => Nat.pow_pos (by decide)
  refine by_level (P := fun s => shp s = true → (tx s).length ≤ 10 * 8 ^ dp s) ?_ ?_ ?_ ?_ ?_ s
  · intro _; decide
  · intro c _; show 1 ≤ 10 * 8 ^ 1; decide
  · intro s ih h
    have := ih h
    have e : 8 ^ dp (.nt s) = 8 ^ dp s * 8 := Nat.pow_succ ..
    have := p8 (dp s)
    show ([110, 111, 116] ++ 32 :: tx s).length ≤ _
    rw [e]; simp; omega
  · intro b ps ih h
    have h : (decide (2 ≤ ps.length) && decide (ps.length ≤ 6) && shpL ps) = true := h
    simp only [Bool.and_eq_true, decide_eq_true_eq] at h
    have h1 : (txR b ps).length ≤ ps.length * (10 * 8 ^ dpL ps + 3) := txR_len fun p hp => Nat.le_trans (ih p hp (shpL_iff.mp h.2 p hp)) (Nat.mul_le_mul_left _ (Nat.pow_le_pow_right (by decide) (dpL_mem hp)))
    have h2 : ps.length * (10 * 8 ^ dpL ps + 3) ≤ 6 * (10 * 8 ^ dpL ps + 3) := Nat.mul_le_mul_right _ h.1.2
    have e : 8 ^ dp (.op b ps) = 8 ^ dpL ps * 8 := Nat.pow_succ ..
    have := p8 (dpL ps)
    show (40 :: ((txR b ps).drop 3 ++ [41])).length ≤ _
    rw [e]; simp; omega
  · intro w s ih h
    have h : (decide (w < 10) && shp s) = true := h
    simp only [Bool.and_eq_true, decide_eq_true_eq] at h
    have := ih h.2
    have e : 8 ^ dp (.wd w s) = 8 ^ dp s * 8 := Nat.pow_succ ..
    have := p8 (dp s)
    have := (cw_fin ⟨w, h.1⟩).2.2.2.2
    show (cw w ++ 32 :: tx s).length ≤ _
    rw [e, List.length_append, List.length_cons]
    have : (cw w).length ≤ 6 := this
    omega
end K04


namespace K04
open PySem PySem.Spec L2 PD
def prt : Sy → List Sy
  | .any => []
  | .mark _ => []
  | .nt s => [s]
  | .op _ ps => ps
  | .wd _ s => [s]
/-! looks of a saying, outer ones first -/
mutual
def lk : Sy → List Sy
  | .any => []
  | .mark _ => []
  | .nt s => lk s
  | .op _ ps => lkL ps
  | .wd w s => .wd w s :: lk s
def lkL : List Sy → List Sy
  | [] => []
  | s :: ss => lk s ++ lkL ss
end
theorem lkL_flat : ∀ ss : List Sy, lkL ss = ss.flatMap lk
  | [] => rfl
  | s :: ss => by rw [List.flatMap_cons, ← lkL_flat ss]; rfl
section
variable {k : Nat} {h : MH} {v : D} {Q : D → MH → Prop}
theorem mem_ma {s : Str} (hs : pl (.str s) = true) : cmpop.memd h (.str s) (.tup [.str "mark", .str "any"]) = some (decide (s = "mark") || decide (s = "any")) := by
  rw [mem_strs hs (by decide +kernel) (by rfl)]
  simp [List.any_cons, pd_str, eqv_str, eq_comm]
theorem fin_pl {n : Nat} {d : D} (hd : pl d = true) (hn : n = h.length) : fin false n d h = some (d, h) := fin_fl0 (pl_flat hd) hn
theorem encs_pl {ss : List Sy} (hs : ∀ s ∈ ss, shp s = true) : plL (ss.map enc) = true := plL_iff.mpr fun x hx => by
  obtain ⟨s, h, rfl⟩ := List.mem_map.mp hx
  exact enc_pl s (hs s h)
theorem parts_of_ok {s : Sy} (hs : shp s = true) : wp (R (k + 1) "parts_of" [enc s]) h Q = Q (.tup ((prt s).map enc)) h := by
  refine wp_eq ?_
  rw [w_parts_of]; unfold b_parts_of
  cases s with
  | any =>
    have := mem_ma (h := h) (s := "any") (by decide +kernel)
    simp [enc, prt, this, sizeLine_is]
    rw [fin_pl rfl rfl]; simp
  | mark c =>
    have := mem_ma (h := h) (s := "mark") (by decide +kernel)
    simp [enc, prt, this, sizeLine_is]
    rw [fin_pl rfl rfl]; simp
  | nt s =>
    have := mem_ma (h := h) (s := "not") (by decide +kernel)
    have e2 := mem_parts (h := h) (s := "not") (by decide +kernel)
    have e3 : partW "not" = false := by decide +kernel
    have n1 : ¬ ("not" : Str) = "mark" := by decide +kernel
    have n2 : ¬ ("not" : Str) = "any" := by decide +kernel
    simp [enc, prt, this, sizeLine_is, e2, e3, n1, n2]
    rw [fin_pl (by simp [enc_pl s hs]) rfl]; simp
  | op b ps =>
    obtain ⟨p1, p2, p3, p4, p5⟩ := pn_in b
    have := mem_ma (h := h) (pn_pl b)
    have e2 := mem_parts (h := h) (pn_pl b)
    simp [enc, prt, this, sizeLine_is, e2, p1, p3, p4, encL_map]
    have hs : (decide (2 ≤ ps.length) && decide (ps.length ≤ 6) && shpL ps) = true := hs
    rw [Bool.and_eq_true] at hs
    rw [fin_pl (show pl (.tup (ps.map enc)) = true from encs_pl (shpL_iff.mp hs.2)) rfl]; simp
  | wd w s =>
    have hs : (decide (w < 10) && shp s) = true := hs
    simp only [Bool.and_eq_true, decide_eq_true_eq] at hs
    obtain ⟨p1, p2, p3, p4, p5⟩ := wn_in hs.1
    have := mem_ma (h := h) (wn_pl w)
    have e2 := mem_parts (h := h) (wn_pl w)
    simp [enc, prt, this, sizeLine_is, e2, p2, p3, p4]
    rw [fin_pl (by simp [enc_pl s hs.2]) rfl]; simp
theorem lk_shp (s : Sy) : shp s = true → ∀ l ∈ lk s, shp l = true := by
  refine by_level (P := fun s => shp s = true → ∀ l ∈ lk s, shp l = true) ?_ ?_ ?_ ?_ ?_ s
  · intro _ l hl; cases hl
  · intro c _ l hl; cases hl
  · intro s ih h l hl; exact ih h l hl
  · intro b ps ih h l hl
    have h : (decide (2 ≤ ps.length) && decide (ps.length ≤ 6) && shpL ps) = true := h
    rw [Bool.and_eq_true] at h
    have hl : l ∈ lkL ps := hl
    rw [lkL_flat] at hl
    obtain ⟨p, hp, hl⟩ := List.mem_flatMap.mp hl
    exact ih p hp (shpL_iff.mp h.2 p hp) l hl
  · intro w s ih h l hl
    have hl : l ∈ Sy.wd w s :: lk s := hl
    rcases List.mem_cons.mp hl with rfl | hl
    · exact h
    · have h : (decide (w < 10) && shp s) = true := h
      rw [Bool.and_eq_true] at h
      exact ih h.2 l hl
theorem wcL_mem {s : Sy} : ∀ {ss : List Sy}, s ∈ ss → wc s ≤ wcL ss
  | x :: ss, h => by
    show wc s ≤ wc x + wcL ss
    rcases List.mem_cons.mp h with rfl | h
    · omega
    · have := wcL_mem h; omega
theorem lkL_len : ∀ {ss : List Sy}, (∀ s ∈ ss, (lk s).length = wc s) → (lkL ss).length = wcL ss
  | [], _ => rfl
  | s :: ss, h => by
    show (lk s ++ lkL ss).length = wc s + wcL ss
    rw [List.length_append, h s List.mem_cons_self, lkL_len fun t ht => h t (List.mem_cons_of_mem _ ht)]
theorem lk_len (s : Sy) : (lk s).length = wc s := by
  refine by_level (P := fun s => (lk s).length = wc s) rfl (fun _ => rfl) (fun s ih => ih) (fun b ps ih => lkL_len ih) (fun w s ih => ?_) s
  show (lk s).length + 1 = wc s + 1
  rw [ih]
def hw : Sy → Str
  | .any => "any"
  | .mark _ => "mark"
  | .nt _ => "not"
  | .op b _ => pn b
  | .wd w _ => wn w
def isW : Sy → Bool
  | .wd _ _ => true
  | _ => false
theorem enc_hd (s : Sy) : ∃ tl, enc s = .tup (.str (hw s) :: tl) := by cases s <;> exact ⟨_, rfl⟩
theorem hw_pl {s : Sy} : pl (.str (hw s)) = true := by
  cases s with
  | op b ps => exact pn_pl b
  | wd w s => exact wn_pl w
  | any => show pl (.str "any") = true; decide +kernel
  | mark c => show pl (.str "mark") = true; decide +kernel
  | nt s => show pl (.str "not") = true; decide +kernel
theorem hw_word {s : Sy} (hs : shp s = true) : wordW (hw s) = isW s := by
  cases s with
  | op b ps => exact (pn_in b).2.1
  | wd w s =>
    have hs : (decide (w < 10) && shp s) = true := hs
    simp only [Bool.and_eq_true, decide_eq_true_eq] at hs
    exact (wn_in hs.1).1
  | any => show wordW "any" = false; decide +kernel
  | mark c => show wordW "mark" = false; decide +kernel
  | nt s => show wordW "not" = false; decide +kernel
theorem prt_dp {s p : Sy} (h : p ∈ prt s) : dp p < dp s := by
  cases s with
  | any => cases h
  | mark c => cases h
  | nt s => have : p = s := by simpa [prt] using h
            subst this; exact Nat.lt_succ_self _
  | op b ps => have := dpL_mem (show p ∈ ps from h); show dp p < dpL ps + 1; omega
  | wd w s => have : p = s := by simpa [prt] using h
              subst this; exact Nat.lt_succ_self _
theorem prt_shp {s p : Sy} (hs : shp s = true) (h : p ∈ prt s) : shp p = true := by
  cases s with
  | any => cases h
  | mark c => cases h
  | nt s => have : p = s := by simpa [prt] using h
            subst this; exact hs
  | op b ps =>
    have hs : (decide (2 ≤ ps.length) && decide (ps.length ≤ 6) && shpL ps) = true := hs
    rw [Bool.and_eq_true] at hs
    exact shpL_iff.mp hs.2 p h
  | wd w s =>
    have : p = s := by simpa [prt] using h
    subst this
    have hs : (decide (w < 10) && shp p) = true := hs
    rw [Bool.and_eq_true] at hs
    exact hs.2
theorem prt_wc {s p : Sy} (h : p ∈ prt s) : wc p ≤ wc s := by
  cases s with
  | any => cases h
  | mark c => cases h
  | nt s => have : p = s := by simpa [prt] using h
            subst this; exact Nat.le_refl _
  | op b ps => exact wcL_mem (show p ∈ ps from h)
  | wd w s => have : p = s := by simpa [prt] using h
              subst this; exact Nat.le_succ _
theorem lk_prt (s : Sy) : lk s = (if isW s = true then [s] else []) ++ (prt s).flatMap lk := by
  cases s with
  | op b ps => show lkL ps = [] ++ ps.flatMap lk; rw [lkL_flat]; rfl
  | any => rfl
  | mark c => rfl
  | nt s => show lk s = [] ++ [s].flatMap lk; simp
  | wd w s => show Sy.wd w s :: lk s = [Sy.wd w s] ++ [s].flatMap lk; simp
@[simp] theorem tvs_var {i : Nat} : tvs (.var i) = [i] := rfl
theorem looks_within_ok (n : Nat) : ∀ (s : Sy) (k : Nat) (h : MH) (Q : D → MH → Prop), dp s ≤ n → shp s = true → wc s ≤ 100000 → wp (R (k + n + 1) "looks_within" [enc s]) h Q = Q (.lst ((lk s).map enc)) h := by
  induction n with
  | zero => intro s k h Q hd; have := dp_pos s; omega
  | succ n ih =>
    intro s k h Q hd hs hwc
    refine wp_eq ?_
    rw [w_looks_within]; unfold b_looks_within
    obtain ⟨tl, e⟩ := enc_hd s
    refine cut (fun ρ h' => ρ = [some (enc s), some (.lst (if isW s = true then [enc s] else [])), none, none] ∧ h' = h) ?_ ?_
    · have m := mem_words (h := h) (hw_pl (s := s))
      simp [e, m, hw_word hs, sizeLine_is]
    rintro _ h' ⟨rfl, rfl⟩
    have hl := lk_len s
    have pk : ∀ (h : MH) (Q : D → MH → Prop), wp (R (k + (n + 1)) "parts_of" [enc s]) h Q = Q (.tup ((prt s).map enc)) h := fun h Q => parts_of_ok (k := k + n) hs
    have ihk : ∀ p ∈ prt s, ∀ (h : MH) (Q : D → MH → Prop), wp (R (k + (n + 1)) "looks_within" [enc p]) h Q = Q (.lst ((lk p).map enc)) h := fun p hp h Q =>
      ih p k h Q (by have := prt_dp hp; omega) (prt_shp hs hp) (by have := prt_wc hp; omega)
    simp [sizeLine_is, pk]
    refine comp2_map enc (fun p => (lk p).map enc) (fun _ y => y) (prt s) (fun p hp => ?_) ?_
    · simp [ihk p hp]
    · have e3 : (prt s).flatMap (fun x => ((lk x).map enc).map fun y => y) = ((prt s).flatMap lk).map enc := by
        rw [List.map_flatMap]; simp [Function.comp_def]
      have e4 := lk_prt s
      have hsh : ∀ l ∈ lk s, shp l = true := lk_shp s hs
      rw [e3]
      generalize (prt s).flatMap lk = L at *
      have h1 : (if isW s = true then [s] else []).length + L.length ≤ 100000 := by
        rw [← List.length_append, ← e4]; omega
      rw [e4] at hsh ⊢
      have hL : ∀ l ∈ L, shp l = true := fun l hl => hsh l (List.mem_append_right _ hl)
      cases isW s with
      | true =>
        simp at h1 hsh ⊢
        refine ⟨by omega, by omega, ?_⟩
        rw [fin_pl (show pl (.lst (enc s :: L.map enc)) = true from by simp [enc_pl s hs]; exact encs_pl hL) rfl]
        simp
      | false =>
        simp at h1 hsh ⊢
        refine ⟨by omega, ?_⟩
        rw [fin_pl (show pl (.lst (L.map enc)) = true from encs_pl hL) rfl]
        simp
/-! ### texts -/
def stx (l : List Nat) : Str := ⟨l.toArray⟩
theorem stx_app (l m : List Nat) : stx l ++ stx m = stx (l ++ m) := by
  show (⟨l.toArray ++ m.toArray⟩ : Str) = ⟨(l ++ m).toArray⟩
  simp
theorem stx_len (l : List Nat) : (stx l).length = l.length := by
  show l.toArray.size = l.length
  simp
theorem join_tx (b : Bool) : ∀ (ps : List Sy), Txt.join (stx (sep b)) (ps.map fun p => stx (tx p)) = stx ((txR b ps).drop 3) := by
  intro ps
  show Builtin.Str.glued _ _ = _
  rw [StrLaws.glued_eq_join]
  match ps with
  | [] => rfl
  | p :: ps =>
    show Str.join (stx (sep b)) (stx (tx p) :: ps.map fun p => stx (tx p)) = stx (tx p ++ txR b ps)
    induction ps generalizing p with
    | nil => show stx (tx p) = stx (tx p ++ []); rw [List.append_nil]
    | cons q qs ih =>
      show stx (tx p) ++ stx (sep b) ++ Str.join (stx (sep b)) (stx (tx q) :: qs.map fun p => stx (tx p)) = stx (tx p ++ (sep b ++ (tx q ++ txR b qs)))
      rw [ih q, stx_app, stx_app, List.append_assoc]
theorem sum_len {c : Nat} : ∀ {ps : List Sy}, (∀ p ∈ ps, (tx p).length ≤ c) → ((ps.map fun p => stx (tx p)).map (·.length)).sum ≤ ps.length * c
  | [], _ => Nat.zero_le _
  | p :: ps, h => by
    have h1 := h p List.mem_cons_self
    have h2 := sum_len fun q hq => h q (List.mem_cons_of_mem _ hq)
    rw [List.map_cons, List.map_cons, List.sum_cons, List.length_cons, Nat.succ_mul, stx_len]
    omega
theorem wn_stx (w : Nat) : wn w = stx (cw w) := by
  show wn w = ⟨(wn w).cps.toList.toArray⟩
  simp
theorem gix_ok (b : Bool) : gixD kt_SIGNS (.str (pn b)) = some (.str (stx (sep b))) := by cases b <;> rfl
@[simp] theorem kindOf_str {s : Str} : kindOf h (.str s) = some .str := rfl
@[simp] theorem okput_str {B : Nat} {s : Str} {xs : List D} : okput B (.str s) xs = true := rfl
theorem strsOf_map {α : Type} (f : α → Str) : ∀ xs : List α, strsOf (xs.map fun x => .str (f x)) = some (xs.map f)
  | [] => rfl
  | x :: xs => by
    show (strsOf (xs.map fun x => .str (f x))).map (f x :: ·) = _
    rw [strsOf_map f xs]; rfl
theorem me_join {α : Type} {f : α → Str} {xs : List α} {s : Str} (hz : ((xs.map f).map fun s : Str => s.length).sum + xs.length * s.length ≤ 16777216) : meop .str .join (.str s) [.lst (xs.map fun x => .str (f x))] h = some (.str (Txt.join s (xs.map f)), h) := by
  show (match (items h (.lst (xs.map fun x => .str (f x)))).bind strsOf with
    | some (ys : List Str) => if (ys.map fun t : Str => t.length).sum + ys.length * s.length ≤ 16777216 then some (D.str (Txt.join s ys), h) else none
    | none => none) = _
  rw [items_lst, Option.bind_some, strsOf_map]
  show (if ((xs.map f).map fun s : Str => s.length).sum + (xs.map f).length * s.length ≤ 16777216 then _ else _) = _
  rw [List.length_map, if_pos hz]
theorem p8_le {s : Sy} {n : Nat} (hs : shp s = true) (hd : dp s ≤ n) (hn : n ≤ 6) : (tx s).length ≤ 2621440 := by
  have h1 := tx_len s hs
  have h2 : 8 ^ dp s ≤ 8 ^ 6 := Nat.pow_le_pow_right (by decide) (by omega)
  have h3 : (8 : Nat) ^ 6 = 262144 := by decide
  omega
theorem text_ok (n : Nat) : ∀ (s : Sy) (k : Nat) (h : MH) (Q : D → MH → Prop), dp s ≤ n → n ≤ 6 → shp s = true → wp (R (k + n) "text_of_saying" [enc s]) h Q = Q (.str (stx (tx s))) h := by
  induction n with
  | zero => intro s k h Q hd; have := dp_pos s; omega
  | succ n ih =>
    intro s k h Q hd hn hs
    refine wp_eq ?_
    rw [show k + (n + 1) = k + n + 1 from rfl, w_text_of_saying]; unfold b_text_of_saying
    cases s with
    | any =>
      simp [enc, sizeLine_is]
      exact ⟨by decide +kernel, rfl⟩
    | mark c =>
      simp [enc]
      rfl
    | nt s =>
      have hd1 : dp s ≤ n := by have : dp s + 1 ≤ n + 1 := hd; omega
      have n1 : ¬ ("not" : Str) = "mark" := by decide +kernel
      have n2 : ¬ ("not" : Str) = "any" := by decide +kernel
      have e2 := mem_parts (h := h) (s := "not") (by decide +kernel)
      have e3 : partW "not" = false := by decide +kernel
      have hl := p8_le (s := s) hs hd1 (by omega)
      have l1 : ("not" : Str).length = 3 := rfl
      have l2 : (" " : Str).length = 1 := rfl
      have l3 : (("not" : Str) ++ (" " : Str)).length = 4 := rfl
      simp [enc, n1, n2, e2, e3, ih s k _ _ hd1 (by omega) hs, sizeLine_is, l1, l2, l3, stx_len]
      refine ⟨by omega, ?_⟩
      show stx [110, 111, 116] ++ stx [32] ++ stx (tx s) = stx (tx (.nt s))
      rw [stx_app, stx_app]; rfl
    | op b ps =>
      have hd1 : ∀ p ∈ ps, dp p ≤ n := fun p hp => by have := dpL_mem hp; have : dpL ps + 1 ≤ n + 1 := hd; omega
      have hs : (decide (2 ≤ ps.length) && decide (ps.length ≤ 6) && shpL ps) = true := hs
      simp only [Bool.and_eq_true, decide_eq_true_eq] at hs
      obtain ⟨⟨s1, s2⟩, s3⟩ := hs
      have hsp := shpL_iff.mp s3
      obtain ⟨p1, p2, p3, p4, p5⟩ := pn_in b
      have e2 := mem_parts (h := h) (pn_pl b)
      have hl : ∀ p ∈ ps, (tx p).length ≤ 2621440 := fun p hp => p8_le (hsp p hp) (hd1 p hp) (by omega)
      simp [enc, p1, p3, p4, e2, gix_ok, sizeLine_is, encL_map]
      refine ⟨by omega, ?_⟩
      refine comp_map enc (fun p => .str (stx (tx p))) ps (fun p hp => ?_) ?_
      · simp [ih p k _ _ (hd1 p hp) (by omega) (hsp p hp)]
      · have h1 := sum_len hl
        have h2 : (stx (sep b)).length = 3 := stx_len _
        have h3 := txR_len (b := b) hl
        have h4 : ((txR b ps).drop 3).length ≤ 6 * 2621443 := by
          rw [List.length_drop]
          have := Nat.mul_le_mul_right 2621443 s2
          omega
        have h5 : ps.length * 2621440 ≤ 6 * 2621440 := Nat.mul_le_mul_right _ s2
        rw [me_join (f := fun p => stx (tx p)) (by rw [h2]; omega), join_tx]
        have l1 : ("(" : Str).length = 1 := rfl
        have l2 : (")" : Str).length = 1 := rfl
        have l3 : (("(" : Str) ++ stx ((txR b ps).drop 3)) = stx (40 :: (txR b ps).drop 3) := stx_app [40] _
        simp only [oq_some, add_str, l1, l2, l3, stx_len, List.length_cons, sizeLine_is]
        rw [if_pos (by omega)]
        simp only [oq_some, add_str, stx_len, l2, List.length_cons, sizeLine_is]
        rw [if_pos (by omega)]
        have l4 : stx (40 :: (txR b ps).drop 3) ++ (")" : Str) = stx ((40 :: (txR b ps).drop 3) ++ [41]) := stx_app _ [41]
        rw [l4, oq_some, fin_fl0 rfl rfl, oq_some]
        exact ⟨rfl, rfl⟩
    | wd w s =>
      have hs : (decide (w < 10) && shp s) = true := hs
      simp only [Bool.and_eq_true, decide_eq_true_eq] at hs
      obtain ⟨p1, p2, p3, p4, p5⟩ := wn_in hs.1
      have hd1 : dp s ≤ n := by have : dp s + 1 ≤ n + 1 := hd; omega
      have e2 := mem_parts (h := h) (wn_pl w)
      have hl := p8_le hs.2 hd1 (by omega)
      have hc : (cw w).length ≤ 6 := (cw_fin ⟨w, hs.1⟩).2.2.2.2
      have l1 : (wn w).length = (cw w).length := by rw [wn_stx, stx_len]
      have l2 : (" " : Str).length = 1 := rfl
      have l3 : wn w ++ (" " : Str) = stx (cw w ++ [32]) := by rw [wn_stx]; exact stx_app _ [32]
      simp [enc, p2, p3, p4, e2, ih s k _ _ hd1 (by omega) hs.2, sizeLine_is, l1, l2, l3, stx_len]
      refine ⟨by omega, by omega, ?_⟩
      rw [stx_app]
      show stx (cw w ++ [32] ++ tx s) = stx (cw w ++ 32 :: tx s)
      rw [List.append_assoc]; rfl
end
end K04


namespace K04
open PySem PySem.Spec L2 PD
def had (acc : List Sy) (l : Sy) : Bool := acc.any fun a => decide (tx a = tx l)
def add (acc : List Sy) (l : Sy) : List Sy := if had acc l = true then acc else acc ++ [l]
/-- each once -/
def dd (L : List Sy) : List Sy := L.foldl add []
theorem dd_snoc (L : List Sy) (l : Sy) : dd (L ++ [l]) = add (dd L) l := by unfold dd; rw [List.foldl_append]; rfl
theorem add_mem {acc : List Sy} {l x : Sy} (h : x ∈ add acc l) : x ∈ acc ∨ x = l := by
  unfold add at h
  split at h
  · exact .inl h
  · rcases List.mem_append.mp h with h | h
    · exact .inl h
    · exact .inr (by simpa using h)
theorem fold_mem : ∀ {L acc : List Sy} {x : Sy}, x ∈ L.foldl add acc → x ∈ acc ∨ x ∈ L
  | [], acc, x, h => .inl h
  | l :: L, acc, x, h => by
    rcases fold_mem (L := L) h with h | h
    · rcases add_mem h with h | h
      · exact .inl h
      · exact .inr (by rw [h]; exact List.mem_cons_self)
    · exact .inr (List.mem_cons_of_mem _ h)
theorem dd_mem {L : List Sy} {x : Sy} (h : x ∈ dd L) : x ∈ L := (fold_mem h).elim (fun h => nomatch h) id
theorem fold_len : ∀ {L acc : List Sy}, (L.foldl add acc).length ≤ acc.length + L.length
  | [], acc => Nat.le_refl _
  | l :: L, acc => by
    have h1 := fold_len (L := L) (acc := add acc l)
    have h2 : (add acc l).length ≤ acc.length + 1 := by unfold add; split <;> simp
    show (L.foldl add (add acc l)).length ≤ acc.length + (L.length + 1)
    omega
theorem dd_len (L : List Sy) : (dd L).length ≤ L.length := by have := fold_len (L := L) (acc := []); rw [List.length_nil, Nat.zero_add] at this; exact this
def kv (l : Sy) : Key × D := (.inr (stx (tx l)), enc l)
theorem stx_inj {a b : List Nat} : stx a = stx b ↔ a = b := by
  constructor
  · intro h
    have h : (⟨a.toArray⟩ : Str) = ⟨b.toArray⟩ := h
    injection h with h
    injection h
  · intro h; rw [h]
theorem val_kv (acc : List Sy) (l : Sy) : (had acc l = true → ∃ d, valD (acc.map kv) (.inr (stx (tx l))) = some d) ∧ (had acc l = false → valD (acc.map kv) (.inr (stx (tx l))) = none ∧ putD (acc.map kv) (.inr (stx (tx l))) (enc l) = (acc ++ [l]).map kv) := by
  have e : ∀ a : Sy, ((kv a).1 = .inr (stx (tx l))) ↔ tx a = tx l := fun a => by
    show (Sum.inr (stx (tx a)) = Sum.inr (stx (tx l))) ↔ _
    rw [Sum.inr.injEq, stx_inj]
  have ea : ((acc.map kv).any fun q => decide (q.1 = .inr (stx (tx l)))) = had acc l := by
    rw [List.any_map]
    unfold had
    refine any_cong fun a _ => ?_
    show decide ((kv a).1 = _) = _
    rw [decide_eq_decide.mpr (e a)]
  refine ⟨fun h => ?_, fun h => ⟨?_, ?_⟩⟩
  · rw [← ea] at h
    obtain ⟨q, hq, he⟩ := List.any_eq_true.mp h
    unfold valD
    cases ef : (acc.map kv).find? fun q => decide (q.1 = .inr (stx (tx l))) with
    | none =>
      have := List.find?_eq_none.mp ef q hq
      exact absurd he this
    | some q => exact ⟨_, rfl⟩
  · unfold valD
    rw [List.find?_eq_none.mpr fun q hq he => ?_]
    · rfl
    · have : ((acc.map kv).any fun q => decide (q.1 = .inr (stx (tx l)))) = true := List.any_eq_true.mpr ⟨q, hq, he⟩
      rw [ea, h] at this; cases this
  · unfold putD
    rw [ea, h, List.map_append]; rfl
section
variable {k : Nat} {h : MH} {v : D} {Q : D → MH → Prop} {ss : List Sy}
theorem me_setd {n : Nat} {acc : List Sy} {l : Sy} (e : h[n]? = some (.dct (acc.map kv))) (hl : acc.length < 16777216) : ∃ d, meop .dict .setdefault (.ref n) [.str (stx (tx l)), enc l] h = some (d, h.set n (.dct ((add acc l).map kv))) := by
  obtain ⟨v1, v2⟩ := val_kv acc l
  have hn : n < h.length := (List.getElem?_eq_some_iff.mp e).1
  have e0 : meop .dict .setdefault (.ref n) [.str (stx (tx l)), enc l] h = if (acc.map kv).length < sizeLine then (match valD (acc.map kv) (.inr (stx (tx l))) with
      | some d => some (d, h)
      | none => some (enc l, h.set n (.dct (putD (acc.map kv) (.inr (stx (tx l))) (enc l))))) else none := by
    show (match h[n]?, keyOf (.str (stx (tx l))) with
      | some (.dct kvs), some key => if kvs.length < sizeLine then (match valD kvs key with
        | some d => some (d, h)
        | none => some (enc l, h.set n (.dct (putD kvs key (enc l))))) else none
      | _, _ => none) = _
    rw [e]; rfl
  rw [e0, if_pos (by rw [List.length_map, sizeLine_is]; exact hl)]
  unfold add
  cases hh : had acc l with
  | true =>
    obtain ⟨d, hd⟩ := v1 hh
    rw [hd, if_pos rfl]
    refine ⟨d, ?_⟩
    have es : h.set n (.dct (acc.map kv)) = h := by
      apply List.ext_getElem?
      intro i
      by_cases z : n = i
      · subst z; rw [List.getElem?_set_self hn, e]
      · rw [List.getElem?_set_ne z]
    rw [es]
  | false =>
    obtain ⟨h1, h2⟩ := v2 hh
    rw [h1, h2, if_neg Bool.false_ne_true]
    exact ⟨_, rfl⟩
@[simp] theorem kindOf_dct {n : Nat} {kvs : List (Key × D)} (e : h[n]? = some (.dct kvs)) : kindOf h (.ref n) = some .dict := by
  show (match h[n]? with | some (.lst _) => some Ty.list | some (.dct _) => some Ty.dict | none => none) = _
  rw [e]
theorem tvals_ok {n : Nat} {acc : List Sy} (e : h[n]? = some (.dct (acc.map kv))) (hl : acc.length < 16777216) : biop .tvals [.ref n] h = some (.tup (acc.map enc)) := by
  show (match h[n]? with
    | some (.dct (kvs : List (Key × D))) => if kvs.length ≤ sizeLine then some (D.tup (kvs.map fun q : Key × D => q.2)) else none
    | _ => none) = _
  rw [e]
  show (if (acc.map kv).length ≤ sizeLine then _ else _) = _
  rw [if_pos (by rw [List.length_map, sizeLine_is]; omega), List.map_map]; rfl
theorem lk_dp (s : Sy) : ∀ l ∈ lk s, dp l ≤ dp s := by
  refine by_level (P := fun s => ∀ l ∈ lk s, dp l ≤ dp s) ?_ ?_ ?_ ?_ ?_ s
  · intro l hl; cases hl
  · intro c l hl; cases hl
  · intro s ih l hl; exact Nat.le_succ_of_le (ih l hl)
  · intro b ps ih l hl
    have hl : l ∈ lkL ps := hl
    rw [lkL_flat] at hl
    obtain ⟨p, hp, hl⟩ := List.mem_flatMap.mp hl
    exact Nat.le_succ_of_le (Nat.le_trans (ih p hp l hl) (dpL_mem hp))
  · intro w s ih l hl
    have hl : l ∈ Sy.wd w s :: lk s := hl
    rcases List.mem_cons.mp hl with rfl | hl
    · exact Nat.le_refl _
    · exact Nat.le_succ_of_le (ih l hl)
theorem looks_in_ok (hs : ∀ s ∈ ss, Say s) (hl : (ss.flatMap lk).length ≤ 100000) : wp (R (k + 8) "looks_in" [.tup (ss.map enc)]) h Q = Q (.tup ((dd (ss.flatMap lk)).map enc)) h := by
  refine wp_eq ?_
  rw [w_looks_in]; unfold b_looks_in
  have hk : ∀ s ∈ ss, ∀ (h : MH) (Q : D → MH → Prop), wp (R (k + 7) "looks_within" [enc s]) h Q = Q (.lst ((lk s).map enc)) h := fun s hm h Q => looks_within_ok 6 s k h Q (hs s hm).dp (hs s hm).shp (by have := (hs s hm).wc; omega)
  simp
  refine comp2_map enc (fun p => (lk p).map enc) (fun _ y => y) ss (fun p hp => ?_) ?_
  · simp [hk p hp]
  · have e3 : ss.flatMap (fun x => ((lk x).map enc).map fun y => y) = (ss.flatMap lk).map enc := by
      rw [List.map_flatMap]; simp [Function.comp_def]
    rw [e3]
    have hsh : ∀ l ∈ ss.flatMap lk, shp l = true ∧ dp l ≤ 6 := fun l hl => by
      obtain ⟨s, hm, hl⟩ := List.mem_flatMap.mp hl
      exact ⟨lk_shp s (hs s hm).shp l hl, Nat.le_trans (lk_dp s l hl) (hs s hm).dp⟩
    generalize ss.flatMap lk = L at *
    simp [sizeLine_is]
    refine ⟨by omega, ?_⟩
    refine for_idx enc L (fun i ρ h' => h' = h ++ [.dct ((dd (L.take i)).map kv)] ∧ ∃ x, ρ = [some (.tup (ss.map enc)), some (.ref h.length), x, none]) ⟨rfl, none, rfl⟩ (fun i x ρ h' e j => ?_) (fun ρ h' j => ?_)
    · obtain ⟨rfl, y, rfl⟩ := j
      have hx := List.mem_of_getElem? e
      obtain ⟨x1, x2⟩ := hsh x hx
      have ht : ∀ (h : MH) (Q : D → MH → Prop), wp (R (k + 7) "text_of_saying" [enc x]) h Q = Q (.str (stx (tx x))) h := fun h Q => text_ok 6 x (k + 1) h Q x2 (Nat.le_refl _) x1
      have ek : (h ++ [MO.dct ((dd (L.take i)).map kv)])[h.length]? = some (.dct ((dd (L.take i)).map kv)) := by simp
      have hll : (dd (L.take i)).length < 16777216 := by
        have := dd_len (L.take i)
        rw [List.length_take] at this
        omega
      obtain ⟨d, hd⟩ := me_setd (l := x) ek hll
      have et : L.take (i + 1) = L.take i ++ [x] := by rw [List.take_add_one, e]; rfl
      simp [ht, kindOf_dct ek, hd, et, dd_snoc]
    · obtain ⟨rfl, y, rfl⟩ := j
      have ek : (h ++ [MO.dct ((dd L).map kv)])[h.length]? = some (.dct ((dd L).map kv)) := by simp
      have hll : (dd L).length < 16777216 := by have := dd_len L; omega
      simp [tvals_ok ek hll]
      rw [fin_fl (pl_flat (show pl (.tup ((dd L).map enc)) = true from encs_pl fun l hl => (hsh l (dd_mem hl)).1)) rfl]
      simp
end
end K04


namespace K04
open PySem PySem.Spec L2 PD
section
variable {k : Nat} {h : MH} {v : D} {Q : D → MH → Prop} {ss : List Sy}
theorem check_some_ok (hs : ∀ s ∈ ss, Say s) (hl : ss.length ≤ 6) : wp (R (k + 16) "check_some_sayings" [.tup (ss.map enc)]) h Q = Q .non h := by
  refine wp_eq ?_
  rw [w_check_some_sayings]; unfold b_check_some_sayings
  simp [isT]
  refine for_enum enc ss (fun i ρ h' => h' = h ∧ ∃ x y, ρ = [some (.tup (ss.map enc)), x, y]) ⟨rfl, none, none, rfl⟩ (fun i x ρ h' e j => ?_) (fun ρ h' j => ?_)
  · obtain ⟨rfl, y, z, rfl⟩ := j
    have hi : i < ss.length := (List.getElem?_eq_some_iff.mp e).1
    have hi' : ¬ ((i : Int) = 6) := by omega
    have hx := hs x (List.mem_of_getElem? e)
    simp [hi', saying_ok_ok hx.pl (by have := hx.dep; omega), hx.say]
  · obtain ⟨rfl, y, z, rfl⟩ := j
    simp
theorem check_sayings_ok (hs : ∀ s ∈ ss, Say s) (hl : ss.length ≤ 6) (h0 : ss ≠ []) : wp (R (k + 17) "check_sayings" [.tup (ss.map enc)]) h Q = Q .non h := by
  refine wp_eq ?_
  rw [w_check_sayings]; unfold b_check_sayings
  have hd : depL (ss.map enc) < 64 := Nat.lt_of_le_of_lt (depL_le (n := 12) fun x hx => by
    obtain ⟨s, hm, rfl⟩ := List.mem_map.mp hx
    have := (hs s hm).dep; omega) (by decide)
  have e := eqd_tup_nil (h := h) (encs_pl fun s hm => (hs s hm).shp) hd
  simp [check_some_ok hs hl, e, h0]
theorem looks_of_ok (hs : ∀ s ∈ ss, Say s) (hl : ss.length ≤ 6) (h0 : ss ≠ []) (hn : (ss.flatMap lk).length ≤ 100000) : wp (R (k + 18) "looks_of" [.tup (ss.map enc)]) h Q = Q (.tup ((dd (ss.flatMap lk)).map enc)) h := by
  refine wp_eq ?_
  rw [w_looks_of]; unfold b_looks_of
  simp [check_sayings_ok hs hl h0, show R (k + 17) = R (k + 9 + 8) from rfl, looks_in_ok hs hn]
  rw [fin_pl (show pl (.tup ((dd (ss.flatMap lk)).map enc)) = true from encs_pl fun l hl => ?_) rfl]
  · simp
  · obtain ⟨s, hm, hl⟩ := List.mem_flatMap.mp (dd_mem hl)
    exact lk_shp s (hs s hm).shp l hl
/-! ### the law's own looks and words -/
theorem lists_enc : ∀ {ps : List Sy}, listsOf h (ps.map fun p => .lst ((lk p).map enc)) = some (ps.map fun p => (lk p).map enc)
  | [] => rfl
  | p :: ps => by
    show (match listy h (.lst ((lk p).map enc)), listsOf h (ps.map fun p => .lst ((lk p).map enc)) with | some xs, some ys => some (xs :: ys) | _, _ => none) = _
    rw [lists_enc (ps := ps)]; rfl
theorem sumL_ok {xs : List D} {yss : List (List D)} (e : listsOf h xs = some yss) (h0 : yss ≠ []) (hl : yss.flatten.length ≤ 16777216) : biop .sumL [.lst xs, .lst []] h = some (.lst yss.flatten) := by
  show (match (listy h (.lst xs)).bind (listsOf h) with
    | some (ys :: yss) => if (ys :: yss).flatten.length ≤ sizeLine then some (D.lst (ys :: yss).flatten) else none
    | _ => none) = _
  rw [listy_lst, Option.bind_some, e]
  cases yss with
  | nil => exact absurd rfl h0
  | cons ys yss =>
    show (if (ys :: yss).flatten.length ≤ sizeLine then _ else _) = _
    rw [if_pos (by rw [sizeLine_is]; exact hl)]
theorem flat_lk (ps : List Sy) : (ps.map fun p => (lk p).map enc).flatten = (lkL ps).map enc := by
  rw [lkL_flat, List.map_flatMap]; rfl
theorem law_looks_ok (n : Nat) : ∀ (s : Sy) (k : Nat) (h : MH) (Q : D → MH → Prop), dp s ≤ n → shp s = true → wc s ≤ 100000 → wp (R (k + n) "_law_looks" [enc s]) h Q = Q (.lst ((lk s).map enc)) h := by
  induction n with
  | zero => intro s k h Q hd; have := dp_pos s; omega
  | succ n ih =>
    intro s k h Q hd hs hwc
    refine wp_eq ?_
    rw [show k + (n + 1) = k + n + 1 from rfl, w__law_looks]; unfold b__law_looks
    have hl := lk_len s
    have hsh := lk_shp s hs
    cases s with
    | any =>
      have := mem_ma (h := h) (s := "any") (by decide +kernel)
      simp [enc, this, sizeLine_is]
      rw [fin_pl rfl rfl]; exact ⟨_, rfl, rfl, rfl⟩
    | mark c =>
      have := mem_ma (h := h) (s := "mark") (by decide +kernel)
      simp [enc, this, sizeLine_is]
      rw [fin_pl rfl rfl]; exact ⟨_, rfl, rfl, rfl⟩
    | nt s =>
      have hd1 : dp s ≤ n := by have : dp s + 1 ≤ n + 1 := hd; omega
      have := mem_ma (h := h) (s := "not") (by decide +kernel)
      have n1 : ¬ ("not" : Str) = "mark" := by decide +kernel
      have n2 : ¬ ("not" : Str) = "any" := by decide +kernel
      have e2 := mem_parts (h := h) (s := "not") (by decide +kernel)
      have e3 : partW "not" = false := by decide +kernel
      have hl' : (lk s).length ≤ 100000 := by have : (lk s).length = wc s := hl; have : wc s ≤ 100000 := hwc; omega
      simp [enc, this, sizeLine_is, n1, n2, e2, e3, ih s k _ _ hd1 hs hwc]
      refine ⟨by omega, ?_⟩
      rw [fin_pl (show pl (.lst ((lk s).map enc)) = true from encs_pl hsh) rfl]
      exact ⟨_, rfl, rfl, rfl⟩
    | op b ps =>
      have hd1 : ∀ p ∈ ps, dp p ≤ n := fun p hp => by have := dpL_mem hp; have : dpL ps + 1 ≤ n + 1 := hd; omega
      have hs : (decide (2 ≤ ps.length) && decide (ps.length ≤ 6) && shpL ps) = true := hs
      simp only [Bool.and_eq_true, decide_eq_true_eq] at hs
      obtain ⟨⟨s1, s2⟩, s3⟩ := hs
      have hsp := shpL_iff.mp s3
      obtain ⟨p1, p2, p3, p4, p5⟩ := pn_in b
      have := mem_ma (h := h) (pn_pl b)
      have e2 := mem_parts (h := h) (pn_pl b)
      simp [enc, this, p1, p3, p4, e2, sizeLine_is, encL_map]
      refine ⟨by omega, ?_⟩
      refine comp_map enc (fun p => .lst ((lk p).map enc)) ps (fun p hp => ?_) ?_
      · simp [ih p k _ _ (hd1 p hp) (hsp p hp) (by have : wc p ≤ wcL ps := wcL_mem hp; have : wcL ps ≤ 100000 := hwc; omega)]
      · have hl' : ((lkL ps).map enc).length ≤ 16777216 := by rw [List.length_map]; have : (lkL ps).length = wcL ps := hl; have : wcL ps ≤ 100000 := hwc; omega
        rw [sumL_ok lists_enc (by intro e; have := congrArg List.length e; simp at this; subst this; simp at s1) (by rw [flat_lk]; exact hl'), flat_lk, oq_some]
        rw [fin_pl (show pl (.lst ((lkL ps).map enc)) = true from encs_pl hsh) rfl, oq_some]
        exact ⟨rfl, rfl⟩
    | wd w s =>
      have hs' : (decide (w < 10) && shp s) = true := hs
      simp only [Bool.and_eq_true, decide_eq_true_eq] at hs'
      obtain ⟨p1, p2, p3, p4, p5⟩ := wn_in hs'.1
      have hd1 : dp s ≤ n := by have : dp s + 1 ≤ n + 1 := hd; omega
      have := mem_ma (h := h) (wn_pl w)
      have e2 := mem_parts (h := h) (wn_pl w)
      have hw1 : wc s + 1 ≤ 100000 := hwc
      have hl' : (lk s).length ≤ 100000 := by rw [lk_len]; omega
      simp [enc, this, sizeLine_is, p2, p3, p4, p5, e2, ih s k _ _ hd1 hs'.2 (by omega)]
      refine ⟨by omega, ?_⟩
      rw [show D.lst (D.tup [.str (wn w), enc s] :: (lk s).map enc) = .lst ((lk (.wd w s)).map enc) from rfl, fin_pl (show pl (.lst ((lk (.wd w s)).map enc)) = true from encs_pl hsh) rfl]
      simp
mutual
def ws : Sy → List Str
  | .any => ["any"]
  | .mark _ => ["mark"]
  | .nt s => "not" :: ws s
  | .op b ps => pn b :: wsL ps
  | .wd w s => wn w :: ws s
def wsL : List Sy → List Str
  | [] => []
  | s :: ss => ws s ++ wsL ss
end
theorem wsL_flat : ∀ ss : List Sy, wsL ss = ss.flatMap ws
  | [] => rfl
  | s :: ss => by rw [List.flatMap_cons, ← wsL_flat ss]; rfl
theorem wsL_len {c : Nat} : ∀ {ss : List Sy}, (∀ s ∈ ss, (ws s).length ≤ c) → (wsL ss).length ≤ ss.length * c
  | [], _ => Nat.zero_le _
  | s :: ss, h => by
    have h1 := h s List.mem_cons_self
    have h2 := wsL_len fun t ht => h t (List.mem_cons_of_mem _ ht)
    show (ws s ++ wsL ss).length ≤ (ss.length + 1) * c
    rw [List.length_append, Nat.succ_mul]
    omega
theorem ws_len (s : Sy) : shp s = true → (ws s).length ≤ 7 ^ dp s := by
  have p7 : ∀ n : Nat, 1 ≤ 7 ^ n := fun n => Nat.pow_pos (by decide)
  refine by_level (P := fun s => shp s = true → (ws s).length ≤ 7 ^ dp s) ?_ ?_ ?_ ?_ ?_ s
  · intro _; decide
  · intro c _; show 1 ≤ 7 ^ 1; decide
  · intro s ih h
    have := ih h
    have e : 7 ^ dp (.nt s) = 7 ^ dp s * 7 := Nat.pow_succ ..
    have := p7 (dp s)
    show (ws s).length + 1 ≤ _
    omega
  · intro b ps ih h
    have h : (decide (2 ≤ ps.length) && decide (ps.length ≤ 6) && shpL ps) = true := h
    simp only [Bool.and_eq_true, decide_eq_true_eq] at h
    have h1 : (wsL ps).length ≤ ps.length * 7 ^ dpL ps := wsL_len fun p hp => Nat.le_trans (ih p hp (shpL_iff.mp h.2 p hp)) (Nat.pow_le_pow_right (by decide) (dpL_mem hp))
    have h2 : ps.length * 7 ^ dpL ps ≤ 6 * 7 ^ dpL ps := Nat.mul_le_mul_right _ h.1.2
    have e : 7 ^ dp (.op b ps) = 7 ^ dpL ps * 7 := Nat.pow_succ ..
    have := p7 (dpL ps)
    show (wsL ps).length + 1 ≤ _
    omega
  · intro w s ih h
    have h : (decide (w < 10) && shp s) = true := h
    simp only [Bool.and_eq_true, decide_eq_true_eq] at h
    have := ih h.2
    have e : 7 ^ dp (.wd w s) = 7 ^ dp s * 7 := Nat.pow_succ ..
    have := p7 (dp s)
    show (ws s).length + 1 ≤ _
    omega
theorem ws_out (s : Sy) : ((ws s).any outW) = !noOut s := by
  refine by_level (P := fun s => ((ws s).any outW) = !noOut s) ?_ ?_ ?_ ?_ ?_ s
  · decide +kernel
  · intro c; show (([("mark" : Str)] : List Str).any outW) = !true; decide +kernel
  · intro s ih
    show (outW "not" || (ws s).any outW) = !noOut s
    rw [ih, show outW "not" = false by decide +kernel]; rfl
  · intro b ps ih
    show (outW (pn b) || (wsL ps).any outW) = !noOutL ps
    rw [show outW (pn b) = false by cases b <;> decide +kernel, Bool.false_or]
    induction ps with
    | nil => rfl
    | cons p ps ihp =>
      show ((ws p ++ wsL ps).any outW) = !(noOut p && noOutL ps)
      rw [List.any_append, ih p List.mem_cons_self, ihp fun q hq => ih q (List.mem_cons_of_mem _ hq)]
      cases noOut p <;> cases noOutL ps <;> rfl
  · intro w s ih
    show (outW (wn w) || (ws s).any outW) = !(!outW (wn w) && noOut s)
    rw [ih]
    cases outW (wn w) <;> cases noOut s <;> rfl
theorem ws_pl (s : Sy) : shp s = true → ∀ w ∈ ws s, pl (.str w) = true := by
  refine by_level (P := fun s => shp s = true → ∀ w ∈ ws s, pl (.str w) = true) ?_ ?_ ?_ ?_ ?_ s
  · intro _ w hw
    have : w = "any" := by simpa [ws] using hw
    subst this; decide +kernel
  · intro c _ w hw
    have : w = "mark" := by simpa [ws] using hw
    subst this; decide +kernel
  · intro s ih h w hw
    rcases List.mem_cons.mp (show w ∈ ("not" : Str) :: ws s from hw) with rfl | hw
    · decide +kernel
    · exact ih h w hw
  · intro b ps ih h w hw
    have h : (decide (2 ≤ ps.length) && decide (ps.length ≤ 6) && shpL ps) = true := h
    rw [Bool.and_eq_true] at h
    rcases List.mem_cons.mp (show w ∈ pn b :: wsL ps from hw) with rfl | hw
    · exact pn_pl b
    · rw [wsL_flat] at hw
      obtain ⟨p, hp, hw⟩ := List.mem_flatMap.mp hw
      exact ih p hp (shpL_iff.mp h.2 p hp) w hw
  · intro v s ih h w hw
    have h : (decide (v < 10) && shp s) = true := h
    rw [Bool.and_eq_true] at h
    rcases List.mem_cons.mp (show w ∈ wn v :: ws s from hw) with rfl | hw
    · exact wn_pl v
    · exact ih h.2 w hw
theorem words_pl {l : List Str} (h : ∀ w ∈ l, pl (.str w) = true) : plL (l.map D.str) = true := plL_iff.mpr fun x hx => by
  obtain ⟨w, hw, rfl⟩ := List.mem_map.mp hx
  exact h w hw
theorem lists_ws : ∀ {ps : List Sy}, listsOf h (ps.map fun p => .lst ((ws p).map D.str)) = some (ps.map fun p => (ws p).map D.str)
  | [] => rfl
  | p :: ps => by
    show (match listy h (.lst ((ws p).map D.str)), listsOf h (ps.map fun p => .lst ((ws p).map D.str)) with | some xs, some ys => some (xs :: ys) | _, _ => none) = _
    rw [lists_ws (ps := ps)]; rfl
theorem flat_ws (ps : List Sy) : (ps.map fun p => (ws p).map D.str).flatten = (wsL ps).map D.str := by
  rw [wsL_flat, List.map_flatMap]; rfl
theorem law_words_ok (n : Nat) : ∀ (s : Sy) (k : Nat) (h : MH) (Q : D → MH → Prop), dp s ≤ n → n ≤ 6 → shp s = true → wp (R (k + n) "_law_words" [enc s]) h Q = Q (.lst ((ws s).map D.str)) h := by
  induction n with
  | zero => intro s k h Q hd; have := dp_pos s; omega
  | succ n ih =>
    intro s k h Q hd hn hs
    refine wp_eq ?_
    rw [show k + (n + 1) = k + n + 1 from rfl, w__law_words]; unfold b__law_words
    have hp : pl (.lst ((ws s).map D.str)) = true := words_pl (ws_pl s hs)
    have hl : (ws s).length ≤ 117649 := by
      have h1 := ws_len s hs
      have h2 : 7 ^ dp s ≤ 7 ^ 6 := Nat.pow_le_pow_right (by decide) (by omega)
      have h3 : (7 : Nat) ^ 6 = 117649 := by decide
      omega
    cases s with
    | any =>
      have := mem_ma (h := h) (s := "any") (by decide +kernel)
      simp [enc, this, sizeLine_is]
      rw [fin_pl (by decide +kernel) rfl]; exact ⟨_, rfl, rfl, rfl⟩
    | mark c =>
      have := mem_ma (h := h) (s := "mark") (by decide +kernel)
      simp [enc, this, sizeLine_is]
      rw [fin_pl (by decide +kernel) rfl]; exact ⟨_, rfl, rfl, rfl⟩
    | nt s =>
      have hd1 : dp s ≤ n := by have : dp s + 1 ≤ n + 1 := hd; omega
      have := mem_ma (h := h) (s := "not") (by decide +kernel)
      have n1 : ¬ ("not" : Str) = "mark" := by decide +kernel
      have n2 : ¬ ("not" : Str) = "any" := by decide +kernel
      have e2 := mem_parts (h := h) (s := "not") (by decide +kernel)
      have e3 : partW "not" = false := by decide +kernel
      have hl' : (ws s).length + 1 ≤ 117649 := hl
      simp [enc, this, sizeLine_is, n1, n2, e2, e3, ih s k _ _ hd1 (by omega) hs]
      refine ⟨by omega, ?_⟩
      rw [show D.lst (.str "not" :: (ws s).map D.str) = .lst ((ws (.nt s)).map D.str) from rfl, fin_pl hp rfl]
      exact ⟨_, rfl, rfl, rfl⟩
    | op b ps =>
      have hd1 : ∀ p ∈ ps, dp p ≤ n := fun p hp => by have := dpL_mem hp; have : dpL ps + 1 ≤ n + 1 := hd; omega
      have hs : (decide (2 ≤ ps.length) && decide (ps.length ≤ 6) && shpL ps) = true := hs
      simp only [Bool.and_eq_true, decide_eq_true_eq] at hs
      obtain ⟨⟨s1, s2⟩, s3⟩ := hs
      have hsp := shpL_iff.mp s3
      obtain ⟨p1, p2, p3, p4, p5⟩ := pn_in b
      have := mem_ma (h := h) (pn_pl b)
      have e2 := mem_parts (h := h) (pn_pl b)
      simp [enc, this, p1, p3, p4, e2, sizeLine_is, encL_map]
      refine ⟨by omega, ?_⟩
      refine comp_map enc (fun p => .lst ((ws p).map D.str)) ps (fun p hp => ?_) ?_
      · simp [ih p k _ _ (hd1 p hp) (by omega) (hsp p hp)]
      · have hl' : (wsL ps).length + 1 ≤ 117649 := hl
        have hl2 : ((wsL ps).map D.str).length ≤ 16777216 := by rw [List.length_map]; omega
        rw [sumL_ok lists_ws (by intro e; have := congrArg List.length e; simp at this; subst this; simp at s1) (by rw [flat_ws]; exact hl2), flat_ws, oq_some]
        simp [sizeLine_is]
        refine ⟨by omega, ?_⟩
        rw [show D.lst (.str (pn b) :: (wsL ps).map D.str) = .lst ((ws (.op b ps)).map D.str) from rfl, fin_pl hp rfl]
        exact ⟨_, rfl, rfl, rfl⟩
    | wd w s =>
      have hs' : (decide (w < 10) && shp s) = true := hs
      simp only [Bool.and_eq_true, decide_eq_true_eq] at hs'
      obtain ⟨p1, p2, p3, p4, p5⟩ := wn_in hs'.1
      have hd1 : dp s ≤ n := by have : dp s + 1 ≤ n + 1 := hd; omega
      have := mem_ma (h := h) (wn_pl w)
      have e2 := mem_parts (h := h) (wn_pl w)
      have hl' : (ws s).length + 1 ≤ 117649 := hl
      simp [enc, this, sizeLine_is, p2, p3, p4, p5, e2, ih s k _ _ hd1 (by omega) hs'.2]
      refine ⟨by omega, ?_⟩
      rw [show D.lst (.str (wn w) :: (ws s).map D.str) = .lst ((ws (.wd w s)).map D.str) from rfl, fin_pl hp rfl]
      exact ⟨_, rfl, rfl, rfl⟩
end
end K04


namespace K04
open PySem PySem.Spec L2 PD
/-! ### sayings are equal just if they are one -/
theorem eqv_tup {xs ys : List D} : PyData.eqv (pd (.tup xs)) (pd (.tup ys)) = PyData.eqvAll (pdL xs) (pdL ys) := by
  show PyData.eqv (.tuple (pdL xs)) (.tuple (pdL ys)) = _
  unfold PyData.eqv; rfl
theorem eqvA_cons {x y : D} {xs ys : List D} : PyData.eqvAll (pdL (x :: xs)) (pdL (y :: ys)) = (PyData.eqv (pd x) (pd y) && PyData.eqvAll (pdL xs) (pdL ys)) := rfl
theorem eqvA_nc {y : D} {ys : List D} : PyData.eqvAll (pdL []) (pdL (y :: ys)) = false := rfl
theorem eqvA_cn {y : D} {ys : List D} : PyData.eqvAll (pdL (y :: ys)) (pdL []) = false := rfl
theorem eqvA_nn : PyData.eqvAll (pdL []) (pdL []) = true := rfl
theorem eqv_hd {s t : Sy} (e : PyData.eqv (pd (enc s)) (pd (enc t)) = true) : hw s = hw t ∧ PyData.eqvAll (pdL (match enc s with | .tup (_ :: r) => r | _ => [])) (pdL (match enc t with | .tup (_ :: r) => r | _ => [])) = true := by
  obtain ⟨x, ex⟩ := enc_hd s
  obtain ⟨y, ey⟩ := enc_hd t
  rw [ex, ey] at e ⊢
  rw [eqv_tup, eqvA_cons, Bool.and_eq_true, pd_str, pd_str, eqv_str] at e
  exact ⟨of_decide_eq_true e.1, e.2⟩
theorem wn_two : ∀ w v : Fin 10, wn w.1 = wn v.1 → w = v := by decide +kernel
theorem eqv_one : ∀ (s : Sy), shp s = true → ∀ t, shp t = true → PyData.eqv (pd (enc s)) (pd (enc t)) = true → s = t := by
  intro s
  refine by_level (P := fun s => shp s = true → ∀ t, shp t = true → PyData.eqv (pd (enc s)) (pd (enc t)) = true → s = t) ?_ ?_ ?_ ?_ ?_ s
  · intro hs t ht e
    obtain ⟨e1, e2⟩ := eqv_hd e
    cases t with
    | any => rfl
    | mark c => exact absurd e1 (by show ¬ ("any" : Str) = "mark"; decide +kernel)
    | nt s => exact absurd e1 (by show ¬ ("any" : Str) = "not"; decide +kernel)
    | op b ps => exact absurd e1.symm (pn_in b).2.2.1
    | wd w s =>
      have ht : (decide (w < 10) && shp s) = true := ht
      simp only [Bool.and_eq_true, decide_eq_true_eq] at ht
      exact absurd e1.symm (wn_in ht.1).2.2.1
  · intro c hs t ht e
    obtain ⟨e1, e2⟩ := eqv_hd e
    cases t with
    | any => exact absurd e1 (by show ¬ ("mark" : Str) = "any"; decide +kernel)
    | mark d =>
      have e2 : PyData.eqvAll (pdL [.str ⟨#[97 + c]⟩]) (pdL [.str ⟨#[97 + d]⟩]) = true := e2
      rw [eqvA_cons, pd_str, pd_str, eqv_str, Bool.and_eq_true] at e2
      have e3 := of_decide_eq_true e2.1
      have e4 : [97 + c] = [97 + d] := stx_inj.mp e3
      injection e4 with e4 _
      have : c = d := by omega
      rw [this]
    | nt s => exact absurd e1 (by show ¬ ("mark" : Str) = "not"; decide +kernel)
    | op b ps => exact absurd e1.symm (pn_in b).2.2.2.1
    | wd w s =>
      have ht : (decide (w < 10) && shp s) = true := ht
      simp only [Bool.and_eq_true, decide_eq_true_eq] at ht
      exact absurd e1.symm (wn_in ht.1).2.2.2.1
  · intro s ih hs t ht e
    obtain ⟨e1, e2⟩ := eqv_hd e
    cases t with
    | any => exact absurd e1 (by show ¬ ("not" : Str) = "any"; decide +kernel)
    | mark d => exact absurd e1 (by show ¬ ("not" : Str) = "mark"; decide +kernel)
    | nt t =>
      have e2 : PyData.eqvAll (pdL [enc s]) (pdL [enc t]) = true := e2
      rw [eqvA_cons, Bool.and_eq_true] at e2
      rw [ih hs t ht e2.1]
    | op b ps => exact absurd e1.symm (pn_in b).2.2.2.2
    | wd w s =>
      have ht : (decide (w < 10) && shp s) = true := ht
      simp only [Bool.and_eq_true, decide_eq_true_eq] at ht
      exact absurd e1.symm (wn_in ht.1).2.2.2.2
  · intro b ps ih hs t ht e
    obtain ⟨e1, e2⟩ := eqv_hd e
    cases t with
    | any => exact absurd e1 (pn_in b).2.2.1
    | mark d => exact absurd e1 (pn_in b).2.2.2.1
    | nt t => exact absurd e1 (pn_in b).2.2.2.2
    | op b' qs =>
      have eb : b = b' := by
        have e1 : pn b = pn b' := e1
        cases b <;> cases b' <;> first | rfl | exact absurd e1 (by decide +kernel)
      have hs : (decide (2 ≤ ps.length) && decide (ps.length ≤ 6) && shpL ps) = true := hs
      have ht : (decide (2 ≤ qs.length) && decide (qs.length ≤ 6) && shpL qs) = true := ht
      rw [Bool.and_eq_true] at hs ht
      have e2 : PyData.eqvAll (pdL [.tup (encL ps)]) (pdL [.tup (encL qs)]) = true := e2
      rw [eqvA_cons, Bool.and_eq_true, eqv_tup] at e2
      have key : ∀ (ps qs : List Sy), (∀ p ∈ ps, shp p = true → ∀ t, shp t = true → PyData.eqv (pd (enc p)) (pd (enc t)) = true → p = t) → shpL ps = true → shpL qs = true → PyData.eqvAll (pdL (encL ps)) (pdL (encL qs)) = true → ps = qs := by
        intro ps
        induction ps with
        | nil => intro qs _ _ _ e; cases qs with
          | nil => rfl
          | cons q qs => exact absurd e (by show ¬ PyData.eqvAll (pdL []) (pdL (enc q :: encL qs)) = true; rw [eqvA_nc]; exact Bool.false_ne_true)
        | cons p ps ihp => intro qs ih h1 h2 e; cases qs with
          | nil => exact absurd e (by show ¬ PyData.eqvAll (pdL (enc p :: encL ps)) (pdL []) = true; rw [eqvA_cn]; exact Bool.false_ne_true)
          | cons q qs =>
            have h1 : (shp p && shpL ps) = true := h1
            have h2 : (shp q && shpL qs) = true := h2
            rw [Bool.and_eq_true] at h1 h2
            have e : PyData.eqvAll (pdL (enc p :: encL ps)) (pdL (enc q :: encL qs)) = true := e
            rw [eqvA_cons, Bool.and_eq_true] at e
            rw [ih p List.mem_cons_self h1.1 q h2.1 e.1, ihp qs (fun r hr => ih r (List.mem_cons_of_mem _ hr)) h1.2 h2.2 e.2]
      rw [eb, key ps qs ih hs.2 ht.2 e2.1]
    | wd w s =>
      have ht : (decide (w < 10) && shp s) = true := ht
      simp only [Bool.and_eq_true, decide_eq_true_eq] at ht
      have e1 : pn b = wn w := e1
      have h1 := (pn_in b).1
      rw [e1, (wn_in ht.1).2.1] at h1
      cases h1
  · intro w s ih hs t ht e
    have hs : (decide (w < 10) && shp s) = true := hs
    simp only [Bool.and_eq_true, decide_eq_true_eq] at hs
    obtain ⟨e1, e2⟩ := eqv_hd e
    cases t with
    | any => exact absurd e1 (wn_in hs.1).2.2.1
    | mark d => exact absurd e1 (wn_in hs.1).2.2.2.1
    | nt t => exact absurd e1 (wn_in hs.1).2.2.2.2
    | op b qs =>
      have e1 : wn w = pn b := e1
      have h1 := (pn_in b).1
      rw [← e1, (wn_in hs.1).2.1] at h1
      cases h1
    | wd v t =>
      have ht : (decide (v < 10) && shp t) = true := ht
      simp only [Bool.and_eq_true, decide_eq_true_eq] at ht
      have e2 : PyData.eqvAll (pdL [enc s]) (pdL [enc t]) = true := e2
      rw [eqvA_cons, Bool.and_eq_true] at e2
      have e1 : wn w = wn v := e1
      have := wn_two ⟨w, hs.1⟩ ⟨v, ht.1⟩ e1
      injection this with this
      rw [this, ih hs.2 t ht.2 e2.1]
theorem eqv_enc {s t : Sy} (hs : shp s = true) (ht : shp t = true) : PyData.eqv (pd (enc s)) (pd (enc t)) = decide (tx s = tx t) := by
  cases e : PyData.eqv (pd (enc s)) (pd (enc t)) with
  | true => rw [eqv_one s hs t ht e]; simp
  | false =>
    symm
    rw [decide_eq_false_iff_not]
    intro h
    rw [tx_eq hs ht h, eqv_refl _ (lay_pl (enc_pl t ht))] at e
    cases e
section
variable {h : MH} {v : D}
theorem mem_lst {x : D} {ys : List D} (hx : ∃ zs, x = .tup zs) (e : pl x = true) (f : plL ys = true) (hd : dep x ≤ 64) (hy : depL ys < 64) : cmpop.memd h x (.lst ys) = some (ys.any fun y => PyData.eqv (pd y) (pd x)) := by
  have e1 := dat1_pl (h := h) e
  have e2 := dat1_pl (h := h) (d := .lst ys) f
  have s1 := shaped_pl e hd
  have s2 := shaped_pl (d := .lst ys) f (by rw [dep_lst]; omega)
  have z : (match dat1 h x, dat1 h (.lst ys) with
      | some d, some (.list ds) => if (SeqAt.shaped d && SeqAt.shaped (.list ds)) = true then some (ds.any fun z => PyData.eqv z d) else none
      | some d, some (.tuple ds) => if (SeqAt.shaped d && SeqAt.shaped (.tuple ds)) = true then some (ds.any fun z => PyData.eqv z d) else none
      | _, _ => none) = some (ys.any fun y => PyData.eqv (pd y) (pd x)) := by
    rw [e1, e2]
    show (if (SeqAt.shaped (pd x) && SeqAt.shaped (pd (.lst ys))) = true then some ((pdL ys).any fun z => PyData.eqv z (pd x)) else none) = _
    rw [s1, s2, pdL_any]; rfl
  rw [← z]
  obtain ⟨zs, rfl⟩ := hx
  rfl
theorem had_ok {acc : List Sy} {l : Sy} (ha : ∀ a ∈ acc, shp a = true ∧ dp a ≤ 6) (hl : shp l = true ∧ dp l ≤ 6) : cmpop.memd h (enc l) (.lst (acc.map enc)) = some (had acc l) := by
  have d0 : ∀ a : Sy, dp a ≤ 6 → dep (enc a) ≤ 12 := fun a h => by have := enc_dep a; omega
  rw [mem_lst (by obtain ⟨tl, e⟩ := enc_hd l; exact ⟨_, e⟩) (enc_pl l hl.1) (encs_pl fun a h => (ha a h).1) (by have := d0 l hl.2; omega) (Nat.lt_of_le_of_lt (depL_le (n := 12) fun x hx => by
    obtain ⟨a, hm, rfl⟩ := List.mem_map.mp hx
    exact d0 a (ha a hm).2) (by decide)), List.any_map]
  unfold had
  congr 1
  exact any_cong fun a hm => eqv_enc (ha a hm).1 hl.1
end
end K04


namespace K04
open PySem PySem.Spec L2 PD
section
variable {k : Nat} {h : MH} {v : D} {Q : D → MH → Prop} {p c : Nat} {q : Cup}
theorem law_is_ok {d : D} (o : Okd d) : wp (R (k + 1) "_law_is" [d, d]) h Q = Q (.bl true) h := by
  rw [w__law_is]; exact is_wp o
theorem sip_ok {m : Int} (hc : h[c]? = some (cupO q)) (ok : okc q) (m0 : 0 < m) (m1 : m < 1073741824)
    (H : ∀ (r : Nat) (q' : Cup), (r : Int) < m → okc q' → Q (.int r) (h.set c (cupO q'))) : wp (R (k + 1) "_law_sip" [.ref c, .int m]) h Q := by
  rw [w__law_sip]; exact sip_wpn hc ok m0 m1 H
theorem one_tup {xs : List D} (hc : h[c]? = some (cupO q)) (ok : okc q) (hx : xs ≠ []) (hl : xs.length < 1073741824) (hf : flatL xs = true)
    (H : ∀ (x : D) (q' : Cup), x ∈ xs → okc q' → Q x (h.set c (cupO q'))) : wp (R (k + 2) "_law_one" [.ref c, .tup xs]) h Q := by
  rw [w__law_one]; unfold b__law_one
  have h0 : 0 < xs.length := List.length_pos_iff.mpr hx
  simp
  refine sip_ok hc ok (by omega) (by omega) fun r q' r1 ok' => ?_
  have hr : r < xs.length := by omega
  simp [hr]
  rw [fin_fl0 (flatL_iff.mp hf _ (List.getElem_mem hr)) (by simp)]
  simp
  exact H _ _ (List.getElem_mem hr) ok'
theorem one_str {s : Str} (hc : h[c]? = some (cupO q)) (ok : okc q) (hx : 0 < s.length) (hl : s.length ≤ sizeLine)
    (H : ∀ (x : Nat) (q' : Cup), x ∈ s.cps.toList → okc q' → Q (.str ⟨#[x]⟩) (h.set c (cupO q'))) : wp (R (k + 2) "_law_one" [.ref c, .str s]) h Q := by
  rw [w__law_one]; unfold b__law_one
  rw [sizeLine_is] at hl
  simp [sizeLine_is, hl]
  refine sip_ok hc ok (by omega) (by omega) fun r q' r1 ok' => ?_
  have hs : s.length = s.cps.toList.length := by rw [Array.length_toList]; rfl
  have hr : r < s.cps.toList.length := by omega
  simp [hl, sizeLine_is, List.getElem?_eq_getElem hr]
  rw [fin_fl0 rfl (by simp)]
  simpa using H _ _ (List.getElem_mem hr) ok'
theorem one_lst {xs : List D} (hc : h[c]? = some (cupO q)) (ok : okc q) (hx : xs ≠ []) (hl : xs.length < 1073741824) (hf : flatL xs = true)
    (H : ∀ (x : D) (q' : Cup), x ∈ xs → okc q' → Q x (h.set c (cupO q'))) : wp (R (k + 2) "_law_one" [.ref c, .lst xs]) h Q := by
  rw [w__law_one]; unfold b__law_one
  have h0 : 0 < xs.length := List.length_pos_iff.mpr hx
  simp
  refine sip_ok hc ok (by omega) (by omega) fun r q' r1 ok' => ?_
  have hr : r < xs.length := by omega
  simp [hr]
  rw [fin_fl0 (flatL_iff.mp hf _ (List.getElem_mem hr)) (by simp)]
  simp
  exact H _ _ (List.getElem_mem hr) ok'
theorem fm0 (a b : Int) (h : 0 < b) : 0 ≤ a.fmod b := by
  rw [Int.fmod_eq_emod_of_nonneg _ (by omega)]; exact Int.emod_nonneg _ (by omega)
theorem cup_ok {ns : List Int} {lap : Nat} (H : ∀ q : Cup, okc q → Q (.ref h.length) (h ++ [cupO q])) : wp (R (k + 1) "_law_cup" [.flst (ns.map D.int), .int lap]) h Q := by
  rw [w__law_cup]; unfold b__law_cup
  have s1 : small 48271 = true := by decide
  have s2 : small 31 = true := by decide
  have s3 : small 5 = true := by decide
  refine cut (fun ρ h' => ∃ t : Int, ρ = [some (.flst (ns.map D.int)), some (.int lap), some (.int t), none, none] ∧ h' = h) ?_ ?_
  · by_cases z : lap < ns.length
    · simp [z]
    · simp [z, mul_int, s2]
  rintro _ h' ⟨t, rfl, e⟩
  rw [e]
  have c11 : ∀ xs : List D, cutD xs none (some 11) = xs.take 11 := fun xs => cutD_to xs 11
  simp [mul_int, s3, sizeLine_is, c11]
  refine ⟨by omega, ?_⟩
  rw [show (ns.map D.int).take 11 ++ [.int t] = (ns.take 11 ++ [t]).map D.int by simp]
  refine for_idx D.int (ns.take 11 ++ [t]) (fun i ρ h1 => h1 = h ∧ ∃ m x, 0 ≤ m ∧ ρ = [some (.flst (ns.map D.int)), some (.int lap), some (.int t), some (.int m), x]) ⟨rfl, 60329 + 5 * (lap : Int), none, by omega, rfl⟩ (fun i x ρ h1 e j => ?_) (fun ρ h1 j => ?_)
  · obtain ⟨rfl, m, y, hm, rfl⟩ := j
    simp [mul_int, s1, mod_int]
    exact fm0 _ _ (by decide)
  · obtain ⟨rfl, m, y, hm, rfl⟩ := j
    have p16 : binop .pow (.int 10) (.int 16) h1 = some (.int (10 ^ 16)) := by rw [pow_int, if_pos (by decide)]; rfl
    have p59 : binop .pow (.int 10) (.int 59) h1 = some (.int (10 ^ 59)) := by rw [pow_int, if_pos (by decide)]; rfl
    have ne : (10 : Int) ^ 59 ≠ 0 := by decide
    have po : (0 : Int) < 10 ^ 59 := by decide
    generalize (10 : Int) ^ 59 = w at p59 ne po
    generalize (10 : Int) ^ 16 = w2 at p16
    by_cases z : t < 0
    · simp [z, p59, mod_int, ne, sizeLine_is, fin_keep]
      exact H ⟨_, m⟩ ⟨fm0 _ _ po, hm⟩
    · by_cases z2 : w2 ≤ t
      · simp [z, z2, p16, p59, mod_int, ne, sizeLine_is, fin_keep]
        exact H ⟨_, m⟩ ⟨fm0 _ _ po, hm⟩
      · simp [z, z2, p16, p59, mod_int, ne, sizeLine_is, fin_keep]
        exact H ⟨0, m⟩ ⟨Int.le_refl _, hm⟩

/-! ### drawn sayings -/
def Wb : Nat → Nat
  | 0 => 0
  | n + 1 => 3 * Wb n + 1
structure Gd (n : Nat) (b : Bool) (s : Sy) : Prop where
  shp : shp s = true
  ok : okb b s = true
  dp : dp s ≤ n + 1
  wc : wc s ≤ Wb n
theorem gd_leaf {n : Nat} {b : Bool} {x : Nat} (hx : x ∈ [97, 98, 99, 100]) : ∀ d, d ∈ [enc .any, enc (.mark 0), enc (.mark 1), D.tup [.str "mark", .str ⟨#[x]⟩]] → ∃ s, Gd n b s ∧ enc s = d := fun d hd => by
  have lf : ∀ c, c < 4 → Gd n b (.mark c) := fun c hc => ⟨decide_eq_true hc, rfl, Nat.le_add_left _ _, Nat.zero_le _⟩
  simp only [List.mem_cons, List.not_mem_nil, or_false] at hd hx
  rcases hd with rfl | rfl | rfl | rfl
  · exact ⟨.any, ⟨rfl, rfl, Nat.le_add_left _ _, Nat.zero_le _⟩, rfl⟩
  · exact ⟨.mark 0, lf 0 (by decide), rfl⟩
  · exact ⟨.mark 1, lf 1 (by decide), rfl⟩
  · rcases hx with rfl | rfl | rfl | rfl
    · exact ⟨.mark 0, lf 0 (by decide), rfl⟩
    · exact ⟨.mark 1, lf 1 (by decide), rfl⟩
    · exact ⟨.mark 2, lf 2 (by decide), rfl⟩
    · exact ⟨.mark 3, lf 3 (by decide), rfl⟩
theorem abcd4 : (("abcd" : String) : Str).length = 4 := rfl
theorem leaf_ok {n : Nat} {b : Bool} {d : Int} {o1 o2 : Option D} (hc : h[c]? = some (cupO q)) (ok : okc q) (H : ∀ (s : Sy) (q' : Cup), Gd n b s → okc q' → Q (enc s) (h.set c (cupO q'))) :
    wp (exL (R (k + 2)) G h.length WW (b__law_saying.drop 1) [some (.ref c), some (.int d), some (.bl b), some (.int 0), o1, o2]) h (retq false h.length Q) := by
  unfold b__law_saying
  rw [List.drop_succ_cons, List.drop_zero]
  simp [sizeLine_is]
  refine one_str hc ok (by rw [abcd4]; decide) (by rw [abcd4, sizeLine_is]; decide) fun x q1 hx ok1 => ?_
  have hx : x ∈ [97, 98, 99, 100] := hx
  have hl := gd_leaf (n := n) (b := b) hx
  refine one_tup (cup_set hc) ok1 (by simp) (by simp) ?_ fun y q2 hy ok2 => ?_
  · rw [flatL_iff]
    intro y hy
    obtain ⟨s, gs, e⟩ := hl y hy
    rw [← e]; exact pl_flat (enc_pl s gs.shp)
  · obtain ⟨s, gs, e⟩ := hl y hy
    rw [← e, fin_pl (enc_pl s gs.shp) (by simp)]
    simp
    exact H s q2 gs ok2
theorem law_saying_ok (n : Nat) : ∀ (b : Bool) (k : Nat) (h : MH) (c : Nat) (q : Cup) (Q : D → MH → Prop), n ≤ 2 → h[c]? = some (cupO q) → okc q → (∀ (s : Sy) (q' : Cup), Gd n b s → okc q' → Q (enc s) (h.set c (cupO q'))) →
    wp (R (k + n + 3) "_law_saying" [.ref c, .int ((n : Int) + 1), .bl b]) h Q := by
  induction n with
  | zero =>
    intro b k h c q Q _ hc ok H
    rw [show k + 0 + 3 = (k + 2) + 1 from rfl, w__law_saying]
    have e : b__law_saying = b__law_saying.head (by unfold b__law_saying; simp) :: b__law_saying.drop 1 := rfl
    rw [e]
    refine cut (fun ρ h' => ρ = [some (.ref c), some (.int (((0 : Nat) : Int) + 1)), some (.bl b), some (.int 0), none, none] ∧ h' = h) ?_ ?_
    · show wp (ex _ _ _ _ (.asg (.var 3) (.ife (.cmp .gt (.var 1) (.int 1)) (.call "_law_sip" [(.var 0), (.int 16)] [] [] []) (.int 0))) _) h _
      simp
    · rintro _ h' ⟨rfl, rfl⟩
      exact leaf_ok hc ok H
  | succ n ih =>
    intro b k h c q Q hn hc ok H
    rw [show k + (n + 1) + 3 = (k + n + 3) + 1 from rfl, w__law_saying]
    have e : b__law_saying = b__law_saying.head (by unfold b__law_saying; simp) :: b__law_saying.drop 1 := rfl
    rw [e]
    refine cut (fun ρ h' => ∃ (r : Nat) (q1 : Cup), okc q1 ∧ ρ = [some (.ref c), some (.int (((n + 1 : Nat) : Int) + 1)), some (.bl b), some (.int r), none, none] ∧ h' = h.set c (cupO q1)) ?_ ?_
    · show wp (ex _ _ _ _ (.asg (.var 3) (.ife (.cmp .gt (.var 1) (.int 1)) (.call "_law_sip" [(.var 0), (.int 16)] [] [] []) (.int 0))) _) h _
      have z : (1 : Int) < (n : Int) + 1 + 1 := by omega
      simp [z]
      refine sip_ok hc ok (by decide) (by decide) fun r q1 _ ok1 => ?_
      simp
      exact ⟨r, q1, ok1, rfl, rfl⟩
    · rintro _ h' ⟨r, q1, ok1, rfl, rfl⟩
      have hl : (h.set c (cupO q1)).length = h.length := by simp
      have em : ((n : Int) + 1 + 1 - 1) = (n : Int) + 1 := by omega
      have hw : Wb (n + 1) = 3 * Wb n + 1 := rfl
      have hk : ∀ (b' : Bool) (h1 : MH) (q2 : Cup) (Q : D → MH → Prop), h1[c]? = some (cupO q2) → okc q2 → (∀ (s : Sy) (q' : Cup), Gd n b' s → okc q' → Q (enc s) (h1.set c (cupO q'))) →
          wp (R (k + n + 3) "_law_saying" [.ref c, .int ((n : Int) + 1), .bl b']) h1 Q := fun b' h1 q2 Q hc1 ok2 H1 => ih b' k h1 c q2 Q (by omega) hc1 ok2 H1
      by_cases r0 : r = 0
      · subst r0
        have := leaf_ok (k := k + n + 1) (n := n + 1) (b := b) (d := ((n + 1 : Nat) : Int) + 1) (o1 := none) (o2 := none) (Q := Q) (cup_set (q' := q1) hc) ok1 (fun s q' gs ok' => by rw [List.set_set]; exact H s q' gs ok')
        rw [hl] at this
        exact this
      · unfold b__law_saying
        rw [List.drop_succ_cons, List.drop_zero]
        have r0' : ¬ ((r : Int) = 0) := by omega
        by_cases r3 : r < 3
        · have r3' : (r : Int) < 3 := by omega
          simp [r0, r3', r3]
          refine hk b _ q1 _ (cup_set hc) ok1 fun s q2 gs ok2 => ?_
          have hp : pl (.tup [.str "not", enc s]) = true := enc_pl (.nt s) gs.shp
          rw [fin_pl hp (by simp)]
          simp [sizeLine_is]
          exact H (.nt s) q2 ⟨gs.shp, gs.ok, Nat.succ_le_succ gs.dp, by have := gs.wc; show wc s ≤ _; omega⟩ ok2
        · have r3' : ¬ (r : Int) < 3 := by omega
          simp [r0, r3', r3]
          by_cases r6 : r < 6
          · have r6' : (r : Int) < 6 := by omega
            simp [r0, r6', r6]
            refine ⟨by rw [sizeLine_is]; decide, one_tup (cup_set hc) ok1 (by simp) (by simp) rfl fun x q2 hx ok2 => ?_⟩
            have hx : ∃ b0, x = .str (pn b0) := by
              simp only [List.mem_cons, List.not_mem_nil, or_false] at hx
              rcases hx with rfl | rfl
              · exact ⟨true, rfl⟩
              · exact ⟨false, rfl⟩
            obtain ⟨b0, rfl⟩ := hx
            rw [List.set_set]
            refine sip_ok (cup_set hc) ok2 (by decide) (by decide) fun r2 q3 hr2 ok3 => ?_
            rw [List.set_set]
            have hf : binop .fdiv (.int (r2 : Int)) (.int 4) (h.set c (cupO q3)) = some (.int ((r2 / 4 : Nat) : Int)) := by
              rw [fdiv_int, if_pos (by decide), Int.fdiv_eq_ediv_of_nonneg _ (by decide)]; rfl
            have ej : (2 : Int) + ((r2 / 4 : Nat) : Int) = ((2 + r2 / 4 : Nat) : Int) := by omega
            rw [hf, oq_some, add_int, oq_some, ej]
            have hj : 2 + r2 / 4 ≤ 3 := by omega
            generalize hJ : 2 + r2 / 4 = J at *
            have hj2 : 2 ≤ J := by omega
            rw [intq_int, irange_0]
            refine ⟨by omega, by rw [sizeLine_is]; simp; omega, ?_⟩
            refine comp_idx (fun i : Nat => .int i) (List.range J) (fun i ys h1 => ∃ (ss : List Sy) (q4 : Cup), ss.length = i ∧ ys = ss.map enc ∧ (∀ s ∈ ss, Gd n b s) ∧ okc q4 ∧ h1 = h.set c (cupO q4)) ⟨[], q3, rfl, rfl, (fun s hs => absurd hs List.not_mem_nil), ok3, rfl⟩ (fun i x ys h1 e j => ?_) (fun zs h1 j => ?_)
            · obtain ⟨ss, q4, l1, rfl, g1, ok4, rfl⟩ := j
              simp
              refine hk b _ q4 _ (cup_set hc) ok4 fun s q5 gs ok5 => ?_
              rw [List.set_set]
              have g2 : ∀ t ∈ ss ++ [s], Gd n b t := fun t ht => by
                rcases List.mem_append.mp ht with ht | ht
                · exact g1 t ht
                · have : t = s := by simpa using ht
                  rw [this]; exact gs
              exact ⟨ss ++ [s], by simp [l1], by simp, g2, q5, ok5, rfl⟩
            · obtain ⟨ss, q4, l1, rfl, g1, ok4, rfl⟩ := j
              rw [List.length_range] at l1
              have hs : shp (.op b0 ss) = true := by
                show (decide (2 ≤ ss.length) && decide (ss.length ≤ 6) && shpL ss) = true
                rw [decide_eq_true (by omega), decide_eq_true (by omega), shpL_iff.mpr fun s h => (g1 s h).shp]; rfl
              have hp : pl (.tup [.str (pn b0), .tup (ss.map enc)]) = true := by rw [← encL_map]; exact enc_pl (.op b0 ss) hs
              rw [fin_pl hp (by simp), oq_some]
              refine ⟨by rw [sizeLine_is]; decide, ?_⟩
              have := H (.op b0 ss) q4 ⟨hs, okbL_iff.mpr fun s h => (g1 s h).ok, Nat.succ_le_succ (dpL_le fun s h => (g1 s h).dp), ?_⟩ ok4
              · have e9 : enc (.op b0 ss) = .tup [.str (pn b0), .tup (ss.map enc)] := by show D.tup [_, .tup (encL ss)] = _; rw [encL_map]
                rw [e9] at this
                exact this
              · have hwl : ∀ {l : List Sy}, (∀ s ∈ l, Gd n b s) → wcL l ≤ l.length * Wb n := by
                  intro l
                  induction l with
                  | nil => intro _; exact Nat.zero_le _
                  | cons s l ihl =>
                    intro hg
                    have h1 := (hg s List.mem_cons_self).wc
                    have h2 := ihl fun t ht => hg t (List.mem_cons_of_mem _ ht)
                    show wc s + wcL l ≤ (l.length + 1) * Wb n
                    rw [Nat.succ_mul]; omega
                have h1 := hwl g1
                have h2 : ss.length * Wb n ≤ 3 * Wb n := Nat.mul_le_mul_right _ (by omega)
                show wcL ss ≤ _
                omega
          · have r6' : ¬ (r : Int) < 6 := by omega
            simp [r0, r6', r6]
            have fin2 : ∀ (w : Nat) (b' : Bool) (q2 : Cup), w < 10 → (!(b && outW (wn w))) = true → b' = (b || !aboveW (wn w)) → okc q2 →
                wp (R (k + n + 3) "_law_saying" [.ref c, .int ((n : Int) + 1), .bl b']) (h.set c (cupO q2)) fun x1 h2 => 2 ≤ sizeLine ∧ oq (fin false h.length (.tup [.str (wn w), x1]) h2) fun r => Q r.1 r.2 := fun w b' q2 hw hb hb' ok2 => by
              refine hk b' _ q2 _ (cup_set hc) ok2 fun s q3 gs ok3 => ?_
              rw [List.set_set]
              have hs : shp (.wd w s) = true := by show (decide (w < 10) && shp s) = true; rw [decide_eq_true hw, gs.shp]; rfl
              have hp : pl (.tup [.str (wn w), enc s]) = true := enc_pl (.wd w s) hs
              rw [fin_pl hp (by simp), oq_some]
              refine ⟨by rw [sizeLine_is]; decide, H (.wd w s) q3 ⟨hs, ?_, Nat.succ_le_succ gs.dp, by have := gs.wc; show wc s + 1 ≤ _; omega⟩ ok3⟩
              show (!(b && outW (wn w)) && okb (b || !aboveW (wn w)) s) = true
              rw [hb, ← hb', gs.ok]; rfl
            have w7 : ∀ (x : D), x ∈ [D.str "child", .str "below", .str "odd", .str "odd", .str "two", .str "first", .str "last"] → ∃ w, w < 10 ∧ x = .str (wn w) ∧ outW (wn w) = false ∧ aboveW (wn w) = false := fun x hx => by
              simp only [List.mem_cons, List.not_mem_nil, or_false] at hx
              rcases hx with rfl | rfl | rfl | rfl | rfl | rfl | rfl
              · exact ⟨0, by decide, rfl, by decide +kernel, by decide +kernel⟩
              · exact ⟨1, by decide, rfl, by decide +kernel, by decide +kernel⟩
              · exact ⟨2, by decide, rfl, by decide +kernel, by decide +kernel⟩
              · exact ⟨2, by decide, rfl, by decide +kernel, by decide +kernel⟩
              · exact ⟨3, by decide, rfl, by decide +kernel, by decide +kernel⟩
              · exact ⟨4, by decide, rfl, by decide +kernel, by decide +kernel⟩
              · exact ⟨5, by decide, rfl, by decide +kernel, by decide +kernel⟩
            have w2 : ∀ (x : D), x ∈ [D.str "ahead", .str "behind"] → ∃ w, w < 10 ∧ x = .str (wn w) ∧ aboveW (wn w) = false := fun x hx => by
              simp only [List.mem_cons, List.not_mem_nil, or_false] at hx
              rcases hx with rfl | rfl
              · exact ⟨8, by decide, rfl, by decide +kernel⟩
              · exact ⟨9, by decide, rfl, by decide +kernel⟩
            have w3 : ∀ (x : D), x ∈ [D.str "up", .str "under"] → ∃ w, w < 10 ∧ x = .str (wn w) ∧ aboveW (wn w) = true := fun x hx => by
              simp only [List.mem_cons, List.not_mem_nil, or_false] at hx
              rcases hx with rfl | rfl
              · exact ⟨6, by decide, rfl, by decide +kernel⟩
              · exact ⟨7, by decide, rfl, by decide +kernel⟩
            have s7 : 7 ≤ sizeLine := by rw [sizeLine_is]; decide
            have s2 : 2 ≤ sizeLine := by rw [sizeLine_is]; decide
            have g7 : wp (R (k + n + 3) "_law_one" [.ref c, .tup [.str "child", .str "below", .str "odd", .str "odd", .str "two", .str "first", .str "last"]]) (h.set c (cupO q1)) fun x h_1 =>
                wp (R (k + n + 3) "_law_saying" [.ref c, .int ((n : Int) + 1), .bl true]) h_1 fun x_1 h_2 => 2 ≤ sizeLine ∧ oq (fin false h.length (.tup [x, x_1]) h_2) fun r => Q r.1 r.2 := by
              refine one_tup (cup_set hc) ok1 (by simp) (by simp) rfl fun x q2 hx ok2 => ?_
              obtain ⟨w, w1, rfl, o1, a1⟩ := w7 x hx
              rw [List.set_set]
              exact fin2 w true q2 w1 (by rw [o1]; cases b <;> rfl) (by rw [a1]; cases b <;> rfl) ok2
            cases b with
            | true =>
              simp
              exact ⟨s7, g7⟩
            | false =>
              simp
              by_cases r12 : 12 < r
              · have r12' : (12 : Int) < r := by omega
                simp [r12', r12]
                refine ⟨s2, one_tup (cup_set hc) ok1 (by simp) (by simp) rfl fun x q2 hx ok2 => ?_⟩
                obtain ⟨w, w1, rfl, a1⟩ := w3 x hx
                rw [List.set_set]
                exact fin2 w false q2 w1 rfl (by rw [a1]; rfl) ok2
              · have r12' : ¬ (12 : Int) < r := by omega
                simp [r12', r12]
                by_cases r10 : r < 10
                · have r10' : (r : Int) < 10 := by omega
                  simp [r10', r10]
                  exact ⟨s7, g7⟩
                · have r10' : ¬ (r : Int) < 10 := by omega
                  simp [r10', r10]
                  refine ⟨s2, one_tup (cup_set hc) ok1 (by simp) (by simp) rfl fun x q2 hx ok2 => ?_⟩
                  obtain ⟨w, w1, rfl, a1⟩ := w2 x hx
                  rw [List.set_set]
                  exact fin2 w true q2 w1 rfl (by rw [a1]; rfl) ok2
end
end K04


namespace K04
open PySem PySem.Spec L2 PD
def AN : D := .tup [.str "any"]
def bA : List D := [.tup [.str "mark", .str "e"], .tup [.str "mark", .str ""], .tup [.str "mark", .non], .tup [.str "mark"], .tup [.str "any", .int 1], .tup [], .non, .str "any"]
def bB : List D := [.lst [.str "any"], .tup [.str "hop", AN], .tup [.str "not"], .tup [.str "not", AN, AN], .tup [.str "all", .tup []], .tup [.str "some", .tup [AN]], .tup [.str "all", .tup (repL [AN] 7)]]
def bC : List D := [.tup [.str "some", .lst [AN, AN]], .tup [.str "all", AN, AN], .tup [.str "child", .tup [.str "up", AN]], .tup [.str "up", .tup [.str "child", AN]], .tup [.str "ahead", .tup [.str "behind", AN]]]
def bD : List D := [.tup [.int 1, AN], .tup [.str "all", .tup (repL [AN] 6)], .int 5, .tup [.str "under", .tup [.str "ahead", AN]]]
theorem b_pl : plL (bA ++ bB ++ bC ++ bD) = true := by decide +kernel
theorem b_dep : depL (bA ++ bB ++ bC ++ bD) ≤ 3 := by decide +kernel
section
variable {k : Nat} {h : MH} {v : D} {Q : D → MH → Prop} {p c : Nat} {q : Cup}
theorem mul_tup0 {xs : List D} {i : Int} : binop .mul (.tup xs) (.int i) h = if -(2 ^ 63) ≤ i ∧ i < 2 ^ 63 ∧ xs.length * i.toNat + 16 ≤ sizeLine then some (.tup (repL xs i.toNat)) else none := rfl
theorem mul_tup {xs : List D} {n : Nat} (hn : n ≤ 100) (hx : xs.length ≤ 100) : binop .mul (.tup xs) (.int (n : Int)) h = some (.tup (repL xs n)) := by
  have e : (n : Int).toNat = n := by omega
  have hm : xs.length * n ≤ 100 * 100 := Nat.mul_le_mul hx hn
  rw [mul_tup0, e]
  exact if_pos ⟨by omega, by omega, by rw [sizeLine_is]; omega⟩
theorem repL_mem {x y : D} : ∀ {n : Nat}, y ∈ repL [x] n → y = x
  | n + 1, hy => by
    rcases List.mem_append.mp (show y ∈ [x] ++ repL [x] n from hy) with hy | hy
    · simpa using hy
    · exact repL_mem hy
theorem law_bent_ok {xs : List D} (hc : h[c]? = some (cupO q)) (ok : okc q) (hp : plL xs = true) (hd : depL xs ≤ 12) (hx : xs.length ≤ 2)
    (H : ∀ (vs : List D) (q' : Cup), (∀ v ∈ vs, pl v = true ∧ dep v ≤ 20) → vs.length ≤ 60 → okc q' → Q (.lst vs) (h.set c (cupO q'))) :
    wp (R (k + 3) "_law_bent" [.ref c, .tup xs]) h Q := by
  rw [w__law_bent]; unfold b__law_bent
  have m7 : ∀ h, binop .mul (.tup [.tup [.str "any"]]) (.int 7) h = some (.tup (repL [AN] 7)) := fun h => mul_tup (n := 7) (by decide) (by decide)
  have m6 : ∀ h, binop .mul (.tup [.tup [.str "any"]]) (.int 6) h = some (.tup (repL [AN] 6)) := fun h => mul_tup (n := 6) (by decide) (by decide)
  refine cut (fun ρ h' => ρ = [some (.ref c), some (.tup xs), some (.lst bA), none, none, none] ∧ h' = h) ?_ ?_
  · simp [sizeLine_is, bA]
  rintro _ h' ⟨rfl, rfl⟩
  refine cut (fun ρ h1 => ρ = [some (.ref c), some (.tup xs), some (.lst (bA ++ bB)), none, none, none] ∧ h1 = h') ?_ ?_
  · simp [sizeLine_is, m7]
    exact ⟨by decide, rfl⟩
  rintro _ h1 ⟨rfl, rfl⟩
  refine cut (fun ρ h2 => ρ = [some (.ref c), some (.tup xs), some (.lst (bA ++ bB ++ bC)), none, none, none] ∧ h2 = h1) ?_ ?_
  · simp [sizeLine_is]
    exact ⟨by decide, rfl⟩
  rintro _ h2 ⟨rfl, rfl⟩
  refine cut (fun ρ h3 => ρ = [some (.ref c), some (.tup xs), some (.lst (bA ++ bB ++ bC ++ bD)), none, none, none] ∧ h3 = h2) ?_ ?_
  · simp [sizeLine_is, m6]
    exact ⟨by decide, rfl⟩
  rintro _ h3 ⟨rfl, rfl⟩
  have lv : (bA ++ bB ++ bC ++ bD).length = 24 := rfl
  have pv := b_pl
  have dv := b_dep
  generalize bA ++ bB ++ bC ++ bD = bs at pv dv lv
  have pb : ∀ v ∈ bs, pl v = true ∧ dep v ≤ 3 := fun v hv => ⟨plL_iff.mp pv v hv, Nat.le_trans (depL_mem hv) dv⟩
  refine cut (fun ρ h4 => ∃ (one : D) (q1 : Cup), one ∈ bs ∧ okc q1 ∧ ρ = [some (.ref c), some (.tup xs), some (.lst bs), some one, none, none] ∧ h4 = h3.set c (cupO q1)) ?_ ?_
  · simp
    refine one_lst hc ok (by intro e; rw [e] at lv; cases lv) (by omega) (plL_flat pv) fun x q1 hx ok1 => ?_
    exact ⟨x, hx, q1, ok1, rfl, rfl⟩
  rintro _ h4 ⟨one, q1, ho, ok1, rfl, rfl⟩
  have pw : ∀ w : Str, pl (.str w) = true → pl (.tup [.str w, .tup xs]) = true ∧ dep (.tup [.str w, .tup xs]) ≤ 20 := fun w hw => by
    refine ⟨?_, ?_⟩
    · rw [pl_tup, plL_cons, plL_cons, plL_nil, pl_tup, hp, hw]; rfl
    · simp; omega
  refine cut (fun ρ h5 => ∃ (vs : List D), vs.length = 32 ∧ (∀ v ∈ vs, pl v = true ∧ dep v ≤ 20) ∧ ρ = [some (.ref c), some (.tup xs), some (.lst bs), some one, some (.lst vs), none] ∧ h5 = h3.set c (cupO q1)) ?_ ?_
  · simp [sizeLine_is]
    refine comp_map0 (fun w => .tup [w, .tup xs]) _ (fun x hx => ?_) ?_
    · simp [sizeLine_is]
    · simp [sizeLine_is, lv]
      intro v hv
      rcases hv with hv | rfl | rfl | rfl | rfl | rfl | rfl | rfl | rfl
      · exact ⟨(pb v hv).1, Nat.le_trans (pb v hv).2 (by decide)⟩
      all_goals exact pw _ (by decide +kernel)
  rintro _ h5 ⟨vs, hl, hvs, rfl, rfl⟩
  obtain ⟨po, do_⟩ := pb one ho
  refine cut (fun ρ h5 => ∃ (vs : List D), vs.length = 37 ∧ (∀ v ∈ vs, pl v = true ∧ dep v ≤ 20) ∧ ρ = [some (.ref c), some (.tup xs), some (.lst bs), some one, some (.lst vs), none] ∧ h5 = h3.set c (cupO q1)) ?_ ?_
  · simp [sizeLine_is, hl]
    have sA : pl (.str "all") = true := by decide +kernel
    have sS : pl (.str "some") = true := by decide +kernel
    have sN : pl (.str "not") = true := by decide +kernel
    have sU : pl (.str "up") = true := by decide +kernel
    intro v hv
    rcases hv with hv | rfl | rfl | rfl | rfl | rfl
    · exact hvs v hv
    · exact ⟨by rw [pl_tup, plL_cons, plL_cons, plL_nil, pl_tup, plL_cons, plL_cons, plL_nil, pl_tup, hp, po, sA]; rfl, by simp; omega⟩
    · exact ⟨by rw [pl_tup, plL_cons, plL_cons, plL_nil, pl_tup, plL_cons, plL_cons, plL_cons, plL_nil, pl_tup, hp, po, sS]; rfl, by simp; omega⟩
    · exact ⟨by rw [pl_tup, plL_cons, plL_cons, plL_nil, po, sN]; rfl, by simp; omega⟩
    · exact ⟨by rw [pl_tup, plL_cons, plL_cons, plL_nil, po, sU]; rfl, by simp; omega⟩
    · exact ⟨by rw [pl_lst]; exact hp, by simp; omega⟩
  rintro _ h6 ⟨us, hl2, hus, rfl, rfl⟩
  simp [sizeLine_is]
  refine ⟨by omega, ?_⟩
  refine sip_ok (cup_set hc) ok1 (by decide) (by decide) fun r q2 hr ok2 => ?_
  rw [List.set_set]
  have hix : ∃ b0, index (h3.set c (cupO q2)) (.tup [.str "all", .str "some"]) (.int (r : Int)) = some (.str (pn b0)) := by
    match r, hr with
    | 0, _ => exact ⟨true, rfl⟩
    | 1, _ => exact ⟨false, rfl⟩
    | r + 2, hr => exact absurd hr (by omega)
  obtain ⟨b0, hb0⟩ := hix
  rw [hb0, oq_some]
  refine sip_ok (cup_set hc) ok2 (by decide) (by decide) fun r2 q3 hr2 ok3 => ?_
  rw [List.set_set, mul_tup (n := r2) (by omega) (by simp), oq_some]
  have px : pl (.tup (xs ++ [.tup xs])) = true ∧ dep (.tup (xs ++ [.tup xs])) ≤ 20 := by
    refine ⟨by rw [pl_tup, plL_append, plL_cons, plL_nil, pl_tup, hp]; rfl, ?_⟩
    have : depL (xs ++ [.tup xs]) ≤ 13 := depL_le fun x hx => by
      rcases List.mem_append.mp hx with hx | hx
      · have := depL_mem hx; omega
      · have : x = .tup xs := by simpa using hx
        rw [this, dep_tup]; omega
    rw [dep_tup]; omega
  have pr : pl (.tup [.str (pn b0), .tup (repL [.tup xs] r2)]) = true ∧ dep (.tup [.str (pn b0), .tup (repL [.tup xs] r2)]) ≤ 20 := by
    have h1 : plL (repL [.tup xs] r2) = true := plL_iff.mpr fun y hy => by rw [repL_mem hy, pl_tup]; exact hp
    have h2 : depL (repL [.tup xs] r2) ≤ 13 := depL_le fun y hy => by rw [repL_mem hy, dep_tup]; omega
    refine ⟨by rw [pl_tup, plL_cons, plL_cons, plL_nil, pl_tup, h1, pn_pl]; rfl, ?_⟩
    simp; omega
  have pa : ∀ v ∈ us ++ [.tup (xs ++ [.tup xs]), .tup [.str (pn b0), .tup (repL [.tup xs] r2)]], pl v = true ∧ dep v ≤ 20 := fun v hv => by
    rcases List.mem_append.mp hv with hv | hv
    · exact hus v hv
    · simp only [List.mem_cons, List.not_mem_nil, or_false] at hv
      rcases hv with rfl | rfl
      · exact px
      · exact pr
  rw [fin_pl (show pl (.lst (us ++ [.tup (xs ++ [.tup xs]), .tup [.str (pn b0), .tup (repL [.tup xs] r2)]])) = true from plL_iff.mpr fun v hv => (pa v hv).1) (by simp), oq_some]
  exact ⟨by omega, H _ q3 pa (by rw [List.length_append, hl2]; simp) ok3⟩
end
end K04


namespace K04
open PySem PySem.Spec L2 PD
theorem okb_false {b : Bool} {s : Sy} (h : okb b s = true) : okb false s = true := by
  cases b with
  | false => exact h
  | true => exact noOut_ok s false (ok_noOut s h)
theorem Gd.say {n : Nat} {b : Bool} {s : Sy} (g : Gd n b s) (hn : n ≤ 2) : Say s := by
  refine ⟨g.shp, okb_false g.ok, by have := g.dp; omega, ?_⟩
  have h1 := g.wc
  match n, hn, h1 with
  | 0, _, h1 => exact Nat.le_trans h1 (by decide)
  | 1, _, h1 => exact Nat.le_trans h1 (by decide)
  | 2, _, h1 => exact Nat.le_trans h1 (by decide)
theorem say_iff {s : Sy} (hs : shp s = true) (ho : okb false s = true) (hd : dp s ≤ 20) : sayB (enc s) = (decide (dp s ≤ 6) && decide (wc s ≤ 8)) := by
  have h1 : dep (enc s) < 41 := by have := enc_dep s; omega
  rw [few_ld h1, ld_enc s 41 false hs h1, ho]
  simp
  congr 1 <;> (rw [decide_eq_decide]; omega)
section
variable {k : Nat} {h : MH} {v : D} {Q : D → MH → Prop} {p c : Nat} {q : Cup}
theorem okd_bl (b : Bool) : Okd (.bl b) := ⟨rfl, Nat.zero_le _, by rw [cost_bl, sizeLine_is]; decide⟩
/-- both judge alike -/
theorem both_one {x : D} (hv : pl x = true) (hd : dep x ≤ 20) : ∀ (h : MH) (Q : D → MH → Prop), wp (R (k + 30) "is_saying" [x]) h Q = Q (.bl (sayB x)) h ∧ wp (R (k + 30) "_law_is_saying" [x]) h Q = Q (.bl (sayB x)) h := fun h Q =>
  ⟨is_saying_ok (k := k + 14) hv (by omega), law_is_saying_ok (k := k) (m := 29) hv (by omega) (by decide)⟩
theorem cost_enc (s : Sy) : shp s = true → cost (enc s) ≤ 100 * 8 ^ dp s := by
  have p8 : ∀ n : Nat, 1 ≤ 8 ^ n := fun n => Nat.pow_pos (by decide)
  refine by_level (P := fun s => shp s = true → cost (enc s) ≤ 100 * 8 ^ dp s) ?_ ?_ ?_ ?_ ?_ s
  · intro _; decide +kernel
  · intro c _; show (10 * 4 + 2) + 2 + ((10 * 1 + 2) + 2 + 0) + 3 ≤ 100 * 8 ^ 1; decide
  · intro s ih h
    have h1 := ih h
    have e : 8 ^ dp (.nt s) = 8 ^ dp s * 8 := Nat.pow_succ ..
    have := p8 (dp s)
    have e1 : cost (enc (.nt s)) = (10 * 3 + 2) + 2 + (cost (enc s) + 2 + 0) + 3 := rfl
    omega
  · intro b ps ih h
    have h : (decide (2 ≤ ps.length) && decide (ps.length ≤ 6) && shpL ps) = true := h
    simp only [Bool.and_eq_true, decide_eq_true_eq] at h
    have hc : costL (encL ps) ≤ (100 * 8 ^ dpL ps + 2) * ps.length := by
      have := costL_le (c := 100 * 8 ^ dpL ps) (xs := encL ps) fun x hx => by
        rw [encL_map] at hx
        obtain ⟨p, hp, rfl⟩ := List.mem_map.mp hx
        exact Nat.le_trans (ih p hp (shpL_iff.mp h.2 p hp)) (Nat.mul_le_mul_left _ (Nat.pow_le_pow_right (by decide) (dpL_mem hp)))
      rw [encL_map, List.length_map] at this
      rwa [encL_map]
    have h2 : (100 * 8 ^ dpL ps + 2) * ps.length ≤ (100 * 8 ^ dpL ps + 2) * 6 := Nat.mul_le_mul_left _ h.1.2
    have e : 8 ^ dp (.op b ps) = 8 ^ dpL ps * 8 := Nat.pow_succ ..
    have := p8 (dpL ps)
    have hpn : (pn b).length ≤ 4 := by cases b <;> decide +kernel
    have e1 : cost (enc (.op b ps)) = (10 * (pn b).length + 2) + 2 + ((costL (encL ps) + 3) + 2 + 0) + 3 := rfl
    omega
  · intro w s ih h
    have h : (decide (w < 10) && shp s) = true := h
    simp only [Bool.and_eq_true, decide_eq_true_eq] at h
    have h1 := ih h.2
    have e : 8 ^ dp (.wd w s) = 8 ^ dp s * 8 := Nat.pow_succ ..
    have := p8 (dp s)
    have hc : (wn w).length ≤ 6 := by rw [wn_stx, stx_len]; exact (cw_fin ⟨w, h.1⟩).2.2.2.2
    have e1 : cost (enc (.wd w s)) = (10 * (wn w).length + 2) + 2 + (cost (enc s) + 2 + 0) + 3 := rfl
    omega
/-- tuples of few sayings are compared and written -/
theorem okd_two {L : List Sy} (hl : L.length ≤ 40) (hs : ∀ l ∈ L, shp l = true ∧ dp l ≤ 3) : Okd (.tup [.tup (L.map enc), .tup (L.map enc)]) := by
  have hp : plL (L.map enc) = true := encs_pl fun l h => (hs l h).1
  have hd : depL (L.map enc) ≤ 8 := depL_le fun x hx => by
    obtain ⟨l, h, rfl⟩ := List.mem_map.mp hx
    have := enc_dep l; have := (hs l h).2; omega
  have hc : costL (L.map enc) ≤ (100 * 512 + 2) * 40 := by
    have := costL_le (c := 100 * 512) (xs := L.map enc) fun x hx => by
      obtain ⟨l, h, rfl⟩ := List.mem_map.mp hx
      have h1 := cost_enc l (hs l h).1
      have h2 : 8 ^ dp l ≤ 8 ^ 3 := Nat.pow_le_pow_right (by decide) (hs l h).2
      have h3 : (8 : Nat) ^ 3 = 512 := by decide
      omega
    rw [List.length_map] at this
    exact Nat.le_trans this (Nat.mul_le_mul_left _ hl)
  refine ⟨?_, ?_, ?_⟩
  · rw [pl_tup, plL_cons, plL_cons, plL_nil, pl_tup, hp]; rfl
  · simp; omega
  · simp [sizeLine_is]; omega
theorem okd_four (a b c d : Bool) : Okd (.tup [.bl a, .bl b, .bl c, .bl d]) := ⟨rfl, by simp, by simp [sizeLine_is]⟩
/-- the looks of the law's own reading -/
theorem due_ok {L : List Sy} {n : Nat} {a1 a2 a3 a4 a5 a7 a8 : Option D} {C : Ctl × PD.Env → MH → Prop} (hs : ∀ l ∈ L, shp l = true ∧ dp l ≤ 6) (hl : L.length ≤ 1000) {rest : List (Option D)}
    (H : ∀ x, C (.nx, a1 :: a2 :: a3 :: a4 :: a5 :: a7 :: some (.lst ((dd L).map enc)) :: x :: rest) h) :
    wp (forL (evA (R k) G n (.var 7)) (exL (R k) G n WW [(.asg (.var 6) (.bin .add (.var 6) (.ife (.cmp .nmem (.var 7) (.var 6)) (.dsp [] [(.var 7)]) (.dsp [] []))))]) (L.map enc)
      (a1 :: a2 :: a3 :: a4 :: a5 :: a7 :: some (.lst []) :: a8 :: rest)) h C := by
  refine for_idx enc L (fun i ρ h' => h' = h ∧ ∃ x, ρ = a1 :: a2 :: a3 :: a4 :: a5 :: a7 :: some (.lst ((dd (L.take i)).map enc)) :: x :: rest) ⟨rfl, a8, rfl⟩ (fun i x ρ h' e j => ?_) (fun ρ h' j => ?_)
  · obtain ⟨rfl, y, rfl⟩ := j
    have hx := List.mem_of_getElem? e
    have hm : ∀ a ∈ dd (L.take i), shp a = true ∧ dp a ≤ 6 := fun a ha => hs a (List.mem_of_mem_take (dd_mem ha))
    have hh := had_ok (h := h') hm (hs x hx)
    have hll : (dd (L.take i)).length ≤ 1000 := by
      have := dd_len (L.take i)
      rw [List.length_take] at this
      omega
    have et : L.take (i + 1) = L.take i ++ [x] := by rw [List.take_add_one, e]; rfl
    simp [hh, sizeLine_is, et, dd_snoc, add]
    cases had (dd (L.take i)) x with
    | true => simp; omega
    | false => simp; omega
  · obtain ⟨rfl, y, rfl⟩ := j
    have : L.take L.length = L := List.take_length
    rw [this]
    exact H y
end
end K04


namespace K04
open PySem PySem.Spec L2 PD
def wrap : Nat → Sy
  | 0 => .mark 0
  | n + 1 => .nt (wrap n)
theorem wrap_ok : ∀ n, shp (wrap n) = true ∧ okb false (wrap n) = true ∧ dp (wrap n) = n + 1 ∧ wc (wrap n) = 0
  | 0 => ⟨by decide, rfl, rfl, rfl⟩
  | n + 1 => by
    obtain ⟨a, b, c, d⟩ := wrap_ok n
    exact ⟨a, b, by show dp (wrap n) + 1 = _; rw [c], d⟩
theorem wrap_say {n : Nat} (hn : n ≤ 10) : sayB (enc (wrap n)) = decide (n < 6) := by
  obtain ⟨a, b, c, d⟩ := wrap_ok n
  rw [say_iff a b (by omega), c, d]
  simp
  omega
def eight : Sy := .op true [.wd 0 (.wd 1 (.mark 0)), .wd 0 (.wd 1 (.mark 1)), .wd 0 (.wd 1 (.mark 2)), .wd 0 (.wd 1 (.mark 3))]
section
variable {k : Nat} {h : MH} {v : D} {Q : D → MH → Prop} {p c : Nat} {q : Cup}
def Sm (s : Sy) : Prop := Say s ∧ dp s ≤ 3 ∧ wc s ≤ 4
theorem stands_ok (hc : h[c]? = some (cupO q)) (ok : okc q) (H : ∀ q', okc q' → Q (.bl true) (h.set c (cupO q'))) : wp (R (k + 31) "_law_stands" [.ref c]) h Q := by
  rw [w__law_stands]; unfold b__law_stands
  have bo : ∀ (x : D), pl x = true → dep x ≤ 20 → ∀ (h : MH) (Q : D → MH → Prop), wp (R (k + 30) "is_saying" [x]) h Q = Q (.bl (sayB x)) h := fun x a b h Q => (both_one a b h Q).1
  have bl : ∀ (x : D), pl x = true → dep x ≤ 20 → ∀ (h : MH) (Q : D → MH → Prop), wp (R (k + 30) "_law_is_saying" [x]) h Q = Q (.bl (sayB x)) h := fun x a b h Q => (both_one a b h Q).2
  have li : ∀ (x : D), Okd x → ∀ (h : MH) (Q : D → MH → Prop), wp (R (k + 30) "_law_is" [x, x]) h Q = Q (.bl true) h := fun x o h Q => law_is_ok o
  have ls : ∀ (r : Nat), r ≤ 2 → ∀ (b : Bool) (h1 : MH) (q1 : Cup) (Q : D → MH → Prop), h1[c]? = some (cupO q1) → okc q1 → (∀ (s : Sy) (q' : Cup), Sm s → okc q' → Q (enc s) (h1.set c (cupO q'))) →
      wp (R (k + 30) "_law_saying" [.ref c, .int (1 + (r : Int)), .bl b]) h1 Q := fun r hr b h1 q1 Q hc1 ok1 H1 => by
    have hm : ∀ (s : Sy) (q' : Cup), Gd r b s → okc q' → Q (enc s) (h1.set c (cupO q')) := fun s q' g ok' => by
      refine H1 s q' ⟨g.say hr, by have := g.dp; omega, ?_⟩ ok'
      have h1 := g.wc
      match r, hr, h1 with
      | 0, _, h1 => exact Nat.le_trans h1 (by decide)
      | 1, _, h1 => exact Nat.le_trans h1 (by decide)
      | 2, _, h1 => exact Nat.le_trans h1 (by decide)
    rw [Int.add_comm]
    have := law_saying_ok r b (k + 27 - r) h1 c q1 Q hr hc1 ok1 hm
    rwa [show k + 27 - r + r + 3 = k + 30 by omega] at this
  refine cut (fun ρ h' => ρ = [some (.ref c), some (enc (.mark 0)), none, none, none, none, none, none, none, none, none, none, none, none, none] ∧ h' = h) ?_ ?_
  · simp [sizeLine_is]; rfl
  rintro _ h0 ⟨rfl, rfl⟩
  obtain ⟨M1, hM1⟩ : ∃ M : PD.Env → MH → Prop, ∀ ρ h', M ρ h' ↔ ∃ (d : D) (q1 : Cup) (x2 : Option D), okc q1 ∧ ρ = [some (.ref c), some d, x2, none, none, none, none, none, none, none, none, none, none, none, none] ∧ h' = h0.set c (cupO q1) := ⟨_, fun _ _ => Iff.rfl⟩
  refine cut M1 ?_ ?_
  · simp
    obtain ⟨I, hI⟩ : ∃ I : Nat → PD.Env → MH → Prop, ∀ i ρ h', I i ρ h' ↔ ∃ (d : D) (q1 : Cup) (x2 : Option D), pl d = true ∧ dep d ≤ i + 1 ∧ okc q1 ∧ ρ = [some (.ref c), some d, x2, none, none, none, none, none, none, none, none, none, none, none, none] ∧ h' = h0.set c (cupO q1) := ⟨_, fun _ _ _ => Iff.rfl⟩
    refine for_rng 8 I ((hI _ _ _).mpr ⟨enc (.mark 0), q, none, by decide +kernel, by decide, ok, rfl, (cup_self hc).symm⟩) (fun i ρ h' hi j => ?_) (fun ρ h' j => ?_)
    · obtain ⟨d, q1, x2, pd_, dd_, ok1, rfl, rfl⟩ := (hI _ _ _).mp j
      simp only [wpA_var]
      obtain ⟨M2, hM2⟩ : ∃ M : PD.Env → MH → Prop, ∀ ρ h', M ρ h' ↔ ∃ (w : Str) (q2 : Cup), pl (.str w) = true ∧ okc q2 ∧ ρ = [some (.ref c), some (.tup [.str w, d]), some (.int i), none, none, none, none, none, none, none, none, none, none, none, none] ∧ h' = h0.set c (cupO q2) := ⟨_, fun _ _ => Iff.rfl⟩
      refine cut M2 ?_ ?_
      · by_cases z : i = 0
        · subst z
          simp [sizeLine_is]
          exact (hM2 _ _).mpr ⟨"two", q1, by decide +kernel, ok1, rfl, rfl⟩
        · have z' : (0 : Int) < i := by omega
          simp [z', show 0 < i by omega, sizeLine_is]
          refine one_tup (cup_set hc) ok1 (by simp) (by simp) rfl fun x q2 hx ok2 => ?_
          rw [List.set_set]
          have hx : ∃ w : Str, x = .str w ∧ pl (.str w) = true := by
            simp only [List.mem_cons, List.not_mem_nil, or_false] at hx
            rcases hx with rfl | rfl | rfl | rfl <;> exact ⟨_, rfl, by decide +kernel⟩
          obtain ⟨w, rfl, pw⟩ := hx
          exact (hM2 _ _).mpr ⟨w, q2, pw, ok2, rfl, rfl⟩
      · intro ρ' h' hm
        obtain ⟨w, q2, pw, ok2, rfl, rfl⟩ := (hM2 _ _).mp hm
        have p1 : pl (.tup [.str w, d]) = true := by rw [pl_tup, plL_cons, plL_cons, plL_nil, pw, pd_]; rfl
        have d1 : dep (.tup [.str w, d]) ≤ i + 2 := by simp; omega
        simp [bo _ p1 (by omega), bl _ p1 (by omega), li _ (okd_bl _)]
        exact (hI _ _ _).mpr ⟨_, q2, _, p1, d1, ok2, rfl, rfl⟩
    · obtain ⟨d, q1, x2, pd_, dd_, ok1, rfl, rfl⟩ := (hI _ _ _).mp j
      exact ⟨rfl, (hM1 _ _).mpr ⟨d, q1, x2, ok1, rfl, rfl⟩⟩
  intro ρ1 h1 hm1
  obtain ⟨d, q1, x2, ok1, rfl, rfl⟩ := (hM1 _ _).mp hm1
  clear hm1 hM1
  -- the turns with drawn sayings
  obtain ⟨M3, hM3⟩ : ∃ M : PD.Env → MH → Prop, ∀ ρ h', M ρ h' ↔ ∃ (q1 : Cup) (x1 x2 x3 x4 x5 x6 x7 : Option D), okc q1 ∧ ρ = [some (.ref c), x1, x2, x3, x4, x5, x6, x7, none, none, none, none, none, none, none] ∧ h' = h0.set c (cupO q1) := ⟨_, fun _ _ => Iff.rfl⟩
  refine cut M3 ?_ ?_
  · simp
    refine for_rng 14 (fun _ => M3) ((hM3 _ _).mpr ⟨q1, _, _, _, _, _, _, _, ok1, rfl, rfl⟩) (fun i ρ h' hi j => ?_) (fun ρ h' j => ⟨rfl, j⟩)
    obtain ⟨q1, x1, x2, x3, x4, x5, x6, x7, ok1, rfl, rfl⟩ := (hM3 _ _).mp j
    clear j
    simp only [wpA_var]
    obtain ⟨A1, hA1⟩ : ∃ M : PD.Env → MH → Prop, ∀ ρ h', M ρ h' ↔ ∃ (s : Sy) (q2 : Cup), Sm s ∧ okc q2 ∧ ρ = [some (.ref c), x1, some (.int i), some (enc s), x4, x5, x6, x7, none, none, none, none, none, none, none] ∧ h' = h0.set c (cupO q2) := ⟨_, fun _ _ => Iff.rfl⟩
    refine cut A1 ?_ ?_
    · simp
      refine sip_ok (cup_set hc) ok1 (by decide) (by decide) fun r q2 hr ok2 => ?_
      rw [List.set_set]
      simp
      refine sip_ok (cup_set hc) ok2 (by decide) (by decide) fun r2 q3 hr2 ok3 => ?_
      rw [List.set_set]
      simp
      refine ls r (by omega) _ _ q3 _ (cup_set hc) ok3 fun s q4 hs ok4 => ?_
      rw [List.set_set]
      exact (hA1 _ _).mpr ⟨s, q4, hs, ok4, rfl, rfl⟩
    intro ρ3 h3 hm3
    obtain ⟨s, q2, hs, ok2, rfl, rfl⟩ := (hA1 _ _).mp hm3
    clear hm3 hA1 ok1
    have ps := hs.1.pl
    have ds : dep (enc s) ≤ 6 := by have := enc_dep s; have := hs.2.1; omega
    refine cut (fun ρ h' => ρ = [some (.ref c), x1, some (.int i), some (enc s), some (.bl (noOut s)), x5, x6, x7, none, none, none, none, none, none, none] ∧ h' = h0.set c (cupO q2)) ?_ ?_
    · have lw : ∀ (h : MH) (Q : D → MH → Prop), wp (R (k + 30) "_law_words" [enc s]) h Q = Q (.lst ((ws s).map D.str)) h := fun h Q => law_words_ok 6 s (k + 24) h Q hs.1.dp (Nat.le_refl _) hs.1.shp
      have wl : (ws s).length ≤ 16777216 := by
        have h1 := ws_len s hs.1.shp
        have h2 : 7 ^ dp s ≤ 7 ^ 6 := Nat.pow_le_pow_right (by decide) hs.1.dp
        have h3 : (7 : Nat) ^ 6 = 117649 := by decide
        omega
      simp [lw, sizeLine_is]
      refine ⟨wl, ?_⟩
      refine comp_map D.str (fun w => .bl (outW w)) (ws s) (fun w hw => ?_) ?_
      · simp [mem_out (ws_pl s hs.1.shp w hw), sizeLine_is]
      · have e : anyF outW (ws s) = !noOut s := ws_out s
        simp [e]
    rintro _ _ ⟨rfl, rfl⟩
    have ii : ∀ (h : MH) (Q : D → MH → Prop), wp (R (k + 30) "is_inner" [enc s]) h Q = Q (.bl (noOut s)) h := fun h Q => by
      rw [is_inner_ok (k := k + 13) ps (by omega) hs.1.say, hs.1.inner]
    refine cut (fun ρ h' => ρ = [some (.ref c), x1, some (.int i), some (enc s), some (.bl (noOut s)), x5, x6, x7, none, none, none, none, none, none, none] ∧ h' = h0.set c (cupO q2)) ?_ ?_
    · simp [pick_cons, bo _ ps (by omega), ii, hs.1.say, sizeLine_is, li _ (okd_four true true (noOut s) (noOut s))]
    rintro _ _ ⟨rfl, rfl⟩
    obtain ⟨A2, hA2⟩ : ∃ M : PD.Env → MH → Prop, ∀ ρ h', M ρ h' ↔ ∃ (q2 : Cup), okc q2 ∧ ρ = [some (.ref c), x1, some (.int i), some (enc s), some (.bl (noOut s)), x5, x6, x7, none, none, none, none, none, none, none] ∧ h' = h0.set c (cupO q2) := ⟨_, fun _ _ => Iff.rfl⟩
    refine cut A2 ?_ ?_
    · simp
      obtain ⟨xs, ex, lx⟩ : ∃ xs, enc s = .tup xs ∧ xs.length ≤ 2 := by cases s <;> exact ⟨_, rfl, by simp⟩
      have px : plL xs = true := by rw [ex] at ps; exact ps
      have dx : depL xs ≤ 12 := by rw [ex, dep_tup] at ds; omega
      have lb : ∀ Q : D → MH → Prop, (∀ (vs : List D) (q' : Cup), (∀ v ∈ vs, pl v = true ∧ dep v ≤ 20) → vs.length ≤ 60 → okc q' → Q (.lst vs) ((h0.set c (cupO q2)).set c (cupO q'))) → wp (R (k + 30) "_law_bent" [.ref c, enc s]) (h0.set c (cupO q2)) Q := fun Q HH => by
        rw [ex]; exact law_bent_ok (k := k + 27) (cup_set hc) ok2 px dx lx HH
      refine lb _ fun vs q3 hv hl ok3 => ?_
      rw [List.set_set]
      simp [sizeLine_is]
      refine ⟨by omega, ?_⟩
      refine comp_map0 (fun _ => .bl true) vs (fun x hx => ?_) ?_
      · simp [bo _ (hv x hx).1 (hv x hx).2, bl _ (hv x hx).1 (hv x hx).2, li _ (okd_bl _)]
      · have e1 := boolsOf_map (fun _ : D => true) vs
        have e2 : allB (vs.map fun _ => true) = true := by rw [allB_map]; exact allF_iff.mpr fun _ _ => rfl
        rw [e1, oq_some]
        exact ⟨e2, (hA2 _ _).mpr ⟨q3, ok3, rfl, rfl⟩⟩
    intro ρ4 h4 hm4
    obtain ⟨q3, ok3, rfl, rfl⟩ := (hA2 _ _).mp hm4
    clear hm4 hA2 ok2
    obtain ⟨A3, hA3⟩ : ∃ M : PD.Env → MH → Prop, ∀ ρ h', M ρ h' ↔ ∃ (ss : List Sy) (q2 : Cup), 1 ≤ ss.length ∧ ss.length ≤ 5 ∧ (∀ s ∈ ss, Sm s) ∧ okc q2 ∧ ρ = [some (.ref c), x1, some (.int i), some (enc s), some (.bl (noOut s)), some (.tup (ss.map enc)), x6, x7, none, none, none, none, none, none, none] ∧ h' = h0.set c (cupO q2) := ⟨_, fun _ _ => Iff.rfl⟩
    refine cut A3 ?_ ?_
    · simp
      refine ⟨by rw [sizeLine_is]; decide, ?_⟩
      refine sip_ok (cup_set hc) ok3 (by decide) (by decide) fun r q4 hr ok4 => ?_
      rw [List.set_set, intq_int, irange_0]
      refine ⟨by omega, by rw [sizeLine_is]; simp; omega, ?_⟩
      obtain ⟨I, hI⟩ : ∃ I : Nat → List D → MH → Prop, ∀ i ys h', I i ys h' ↔ ∃ (ss : List Sy) (q5 : Cup), ss.length = i ∧ ys = ss.map enc ∧ (∀ s ∈ ss, Sm s) ∧ okc q5 ∧ h' = h0.set c (cupO q5) := ⟨_, fun _ _ _ => Iff.rfl⟩
      refine comp_idx (fun i : Nat => .int i) (List.range r) I ((hI _ _ _).mpr ⟨[], q4, rfl, rfl, (fun s hs => absurd hs List.not_mem_nil), ok4, rfl⟩) (fun j x ys h1 e jj => ?_) (fun zs h1 jj => ?_)
      · obtain ⟨ss, q5, l1, rfl, g1, ok5, rfl⟩ := (hI _ _ _).mp jj
        simp
        refine sip_ok (cup_set hc) ok5 (by decide) (by decide) fun r2 q6 hr2 ok6 => ?_
        rw [List.set_set]
        simp
        refine ls r2 (by omega) _ _ q6 _ (cup_set hc) ok6 fun t q7 ht ok7 => ?_
        rw [List.set_set]
        refine (hI _ _ _).mpr ⟨ss ++ [t], q7, by simp [l1], by simp, fun u hu => ?_, ok7, rfl⟩
        rcases List.mem_append.mp hu with hu | hu
        · exact g1 u hu
        · have : u = t := by simpa using hu
          rw [this]; exact ht
      · obtain ⟨ss, q5, l1, rfl, g1, ok5, rfl⟩ := (hI _ _ _).mp jj
        rw [List.length_range] at l1
        simp [sizeLine_is]
        refine ⟨by omega, ?_⟩
        refine sip_ok (cup_set hc) ok5 (by decide) (by decide) fun r2 q6 hr2 ok6 => ?_
        rw [List.set_set, mul_lst (n := r2) (by rw [sizeLine_is]; omega) (by rw [sizeLine_is]; simp; omega), oq_some, repL_one]
        have hr3 : r2 ≤ 1 := by omega
        have em : (enc s :: ss.map enc) ++ List.replicate r2 (enc s) = (s :: (ss ++ List.replicate r2 s)).map enc := by simp
        simp [sizeLine_is]
        refine ⟨by omega, (hA3 _ _).mpr ⟨s :: (ss ++ List.replicate r2 s), q6, by simp, by simp; omega, fun u hu => ?_, ok6, by simp, rfl⟩⟩
        rcases List.mem_cons.mp hu with rfl | hu
        · exact hs
        · rcases List.mem_append.mp hu with hu | hu
          · exact g1 u hu
          · rw [List.eq_of_mem_replicate hu]; exact hs
    intro ρ5 h5 hm5
    obtain ⟨ss, q4, l1, l2, hss, ok4, rfl, rfl⟩ := (hA3 _ _).mp hm5
    clear hm5 hA3 ok3
    refine cut (fun ρ h' => ρ = [some (.ref c), x1, some (.int i), some (enc s), some (.bl (noOut s)), some (.tup (ss.map enc)), some (.lst []), x7, none, none, none, none, none, none, none] ∧ h' = h0.set c (cupO q4)) ?_ ?_
    · simp [sizeLine_is]
    rintro _ _ ⟨rfl, rfl⟩
    have hL1 : ∀ l ∈ ss.flatMap lk, shp l = true ∧ dp l ≤ 3 := fun l hl => by
      obtain ⟨t, ht, hl⟩ := List.mem_flatMap.mp hl
      exact ⟨lk_shp t (hss t ht).1.shp l hl, Nat.le_trans (lk_dp t l hl) (hss t ht).2.1⟩
    have hL2 : (ss.flatMap lk).length ≤ 20 := by
      have : ∀ {l : List Sy}, (∀ t ∈ l, Sm t) → (l.flatMap lk).length ≤ l.length * 4 := by
        intro l
        induction l with
        | nil => intro _; exact Nat.zero_le _
        | cons t l ih =>
          intro hg
          have h1 := (hg t List.mem_cons_self).2.2
          have h2 := ih fun u hu => hg u (List.mem_cons_of_mem _ hu)
          rw [List.flatMap_cons, List.length_append, lk_len, List.length_cons, Nat.succ_mul]
          omega
      have h1 := this hss
      have h2 : ss.length * 4 ≤ 5 * 4 := Nat.mul_le_mul_right _ l2
      omega
    obtain ⟨A4, hA4⟩ : ∃ M : PD.Env → MH → Prop, ∀ ρ h', M ρ h' ↔ ∃ x, ρ = [some (.ref c), x1, some (.int i), some (enc s), some (.bl (noOut s)), some (.tup (ss.map enc)), some (.lst ((dd (ss.flatMap lk)).map enc)), x, none, none, none, none, none, none, none] ∧ h' = h0.set c (cupO q4) := ⟨_, fun _ _ => Iff.rfl⟩
    refine cut A4 ?_ ?_
    · simp [sizeLine_is]
      refine ⟨by omega, ?_⟩
      refine comp_map enc (fun p => .lst ((lk p).map enc)) ss (fun p hp => ?_) ?_
      · simp [show ∀ (h : MH) (Q : D → MH → Prop), wp (R (k + 30) "_law_looks" [enc p]) h Q = Q (.lst ((lk p).map enc)) h from fun h Q => law_looks_ok 6 p (k + 24) h Q (hss p hp).1.dp (hss p hp).1.shp (by have := (hss p hp).2.2; omega)]
      · rw [sumL_ok lists_enc (by intro e; have := congrArg List.length e; simp at this; subst this; simp at l1) (by rw [flat_lk, lkL_flat, List.length_map]; omega), flat_lk, lkL_flat, oq_some]
        simp only [still_lst, oq_some]
        exact due_ok (rest := [none, none, none, none, none, none, none]) (fun l hl => ⟨(hL1 l hl).1, Nat.le_trans (hL1 l hl).2 (by decide)⟩) (by omega) fun x => ⟨rfl, (hA4 _ _).mpr ⟨x, rfl, rfl⟩⟩
    intro ρ6 h6 hm6
    obtain ⟨x8, rfl, rfl⟩ := (hA4 _ _).mp hm6
    clear hm6 hA4
    have lo : ∀ (h : MH) (Q : D → MH → Prop), wp (R (k + 30) "looks_of" [.tup (ss.map enc)]) h Q = Q (.tup ((dd (ss.flatMap lk)).map enc)) h := fun h Q =>
      looks_of_ok (k := k + 12) (fun t ht => (hss t ht).1) (by omega) (by intro e; subst e; simp at l1) (by omega)
    have o2 := okd_two (L := dd (ss.flatMap lk)) (by have := dd_len (ss.flatMap lk); omega) fun l hl => hL1 l (dd_mem hl)
    simp [pick_cons, lo, sizeLine_is, li _ o2]
    exact (hM3 _ _).mpr ⟨q4, _, _, _, _, _, _, _, ok4, rfl, rfl⟩
  intro ρ2 h2 hm2
  obtain ⟨q2, y1, y2, y3, y4, y5, y6, y7, ok2, rfl, rfl⟩ := (hM3 _ _).mp hm2
  clear hm2 hM3
  refine cut (fun ρ h' => ρ = [some (.ref c), some (enc (wrap 0)), y2, y3, y4, y5, y6, y7, none, none, none, none, none, none, none] ∧ h' = h0.set c (cupO q2)) ?_ ?_
  · simp [sizeLine_is]; rfl
  rintro _ _ ⟨rfl, rfl⟩
  have wp_ : ∀ i, i ≤ 7 → pl (enc (wrap i)) = true ∧ dep (enc (wrap i)) ≤ 20 := fun i hi => by
    obtain ⟨a, _, b, _⟩ := wrap_ok i
    have := enc_dep (wrap i)
    exact ⟨enc_pl _ a, by omega⟩
  obtain ⟨M4, hM4⟩ : ∃ M : PD.Env → MH → Prop, ∀ ρ h', M ρ h' ↔ ∃ x1 x2, ρ = [some (.ref c), x1, x2, y3, y4, y5, y6, y7, none, none, none, none, none, none, none] ∧ h' = h0.set c (cupO q2) := ⟨_, fun _ _ => Iff.rfl⟩
  refine cut M4 ?_ ?_
  · simp
    obtain ⟨I, hI⟩ : ∃ I : Nat → PD.Env → MH → Prop, ∀ i ρ h', I i ρ h' ↔ ∃ x2, ρ = [some (.ref c), some (enc (wrap i)), x2, y3, y4, y5, y6, y7, none, none, none, none, none, none, none] ∧ h' = h0.set c (cupO q2) := ⟨_, fun _ _ _ => Iff.rfl⟩
    refine for_rng 7 I ((hI _ _ _).mpr ⟨_, rfl, rfl⟩) (fun i ρ h' hi j => ?_) (fun ρ h' j => ?_)
    · obtain ⟨x2, rfl, rfl⟩ := (hI _ _ _).mp j
      obtain ⟨w1, w2⟩ := wp_ i (by omega)
      have fin1 : I (i + 1) [some (.ref c), some (.tup [.str "not", enc (wrap i)]), some (.int (i : Int)), y3, y4, y5, y6, y7, none, none, none, none, none, none, none] (h0.set c (cupO q2)) := (hI _ _ _).mpr ⟨_, rfl, rfl⟩
      by_cases z : i < 6
      · have z' : ¬ ((i : Int) = 6) := by omega
        simp [bo _ w1 w2, wrap_say (n := i) (by omega), z, show ¬ i = 6 by omega, sizeLine_is]
        exact ⟨z', fin1⟩
      · have z' : i = 6 := by omega
        subst z'
        simp [bo _ w1 w2, wrap_say (n := 6) (by omega), sizeLine_is]
        exact fin1
    · obtain ⟨x2, rfl, rfl⟩ := (hI _ _ _).mp j
      exact ⟨rfl, (hM4 _ _).mpr ⟨_, _, rfl, rfl⟩⟩
  intro ρ3 h3 hm3
  obtain ⟨z1, z2, rfl, rfl⟩ := (hM4 _ _).mp hm3
  clear hm3 hM4
  refine cut (fun ρ h' => ρ = [some (.ref c), z1, z2, y3, y4, y5, y6, y7, some (enc eight), none, none, none, none, none, none] ∧ h' = h0.set c (cupO q2)) ?_ ?_
  · have es : signs "abcd" = [.str ⟨#[97]⟩, .str ⟨#[98]⟩, .str ⟨#[99]⟩, .str ⟨#[100]⟩] := rfl
    simp [es, sizeLine_is]
    refine comp_map0 (fun x => .tup [.str "child", .tup [.str "below", .tup [.str "mark", x]]]) _ (fun x hx => ?_) ?_
    · simp [sizeLine_is]
    · simp [sizeLine_is]
      rfl
  rintro _ _ ⟨rfl, rfl⟩
  have s8 : shp eight = true ∧ okb false eight = true ∧ dp eight = 4 ∧ wc eight = 8 := by decide +kernel
  have say8 : Say eight := ⟨s8.1, s8.2.1, by rw [s8.2.2.1]; decide, by rw [s8.2.2.2]; decide⟩
  have ju : ∀ (s : Sy), shp s = true ∧ okb false s = true ∧ dp s ≤ 6 → ∀ (h : MH) (Q : D → MH → Prop), wp (R (k + 30) "is_saying" [enc s]) h Q = Q (.bl (decide (wc s ≤ 8))) h := fun s g h Q => by
    rw [bo _ (enc_pl s g.1) (by have := enc_dep s; omega), say_iff g.1 g.2.1 (by omega)]
    rw [decide_eq_true g.2.2, Bool.true_and]
  have j1 := ju eight (by decide +kernel)
  have j2 := ju (.op false [eight, .mark 0]) (by decide +kernel)
  have j3 := ju (.op false [eight, .wd 2 .any]) (by decide +kernel)
  have j4 := ju (.wd 0 eight) (by decide +kernel)
  have j5 := ju (.nt eight) (by decide +kernel)
  have v1 : wc eight = 8 := s8.2.2.2
  have v2 : wc (.op false [eight, .mark 0]) = 8 := by decide +kernel
  have v3 : wc (.op false [eight, .wd 2 .any]) = 9 := by decide +kernel
  have v4 : wc (.wd 0 eight) = 9 := by decide +kernel
  have v5 : wc (.nt eight) = 8 := by decide +kernel
  have e2 : enc (.op false [eight, .mark 0]) = .tup [.str "some", .tup [enc eight, .tup [.str "mark", .str "a"]]] := rfl
  have e3 : enc (.op false [eight, .wd 2 .any]) = .tup [.str "some", .tup [enc eight, .tup [.str "odd", .tup [.str "any"]]]] := rfl
  have e4 : enc (.wd 0 eight) = .tup [.str "child", enc eight] := rfl
  have e5 : enc (.nt eight) = .tup [.str "not", enc eight] := rfl
  rw [e2] at j2
  rw [e3] at j3
  rw [e4] at j4
  rw [e5] at j5
  have lo : ∀ (h : MH) (Q : D → MH → Prop), wp (R (k + 30) "looks_of" [.tup [enc eight]]) h Q = Q (.tup ((dd (([eight]).flatMap lk)).map enc)) h := fun h Q =>
    looks_of_ok (k := k + 12) (ss := [eight]) (fun s hs => by have : s = eight := by simpa using hs
                                                              rw [this]; exact say8) (by decide) (by simp) (by decide +kernel)
  have l8 : (dd (([eight]).flatMap lk)).length = 8 := by decide +kernel
  generalize hE : enc eight = E8 at j1 j2 j3 j4 j5 lo ⊢
  clear hE
  generalize dd (([eight]).flatMap lk) = L8 at lo l8
  refine cut (fun ρ h' => ρ = [some (.ref c), z1, z2, y3, y4, y5, y6, y7, some E8, some (.tup [.bl true, .bl true, .bl false]), none, none, none, none, none] ∧ h' = h0.set c (cupO q2)) ?_ ?_
  · simp [j1, j2, j3, v1, v2, v3, sizeLine_is]
  rintro _ _ ⟨rfl, rfl⟩
  refine cut (fun ρ h' => ρ = [some (.ref c), z1, z2, y3, y4, y5, y6, y7, some E8, some (.tup [.bl true, .bl true, .bl false, .bl false, .bl true, .int 8]), none, none, none, none, none] ∧ h' = h0.set c (cupO q2)) ?_ ?_
  · simp [j4, j5, lo, v4, v5, l8, sizeLine_is]
  rintro _ _ ⟨rfl, rfl⟩
  have ok8 : Okd (.tup [.bl true, .bl true, .bl false, .bl false, .bl true, .int 8]) := ⟨by decide +kernel, by decide, by rw [sizeLine_is]; decide +kernel⟩
  simp [sizeLine_is, li _ ok8]
  rw [fin_pl rfl (by simp)]
  simp
  exact H q2 ok2
theorem law_ok {ns : List Int} : wp (R (k + 32) "law" [.flst (ns.map D.int)]) [] (fun d h => d = .bl true) := by
  rw [w_law]; unfold b_law
  simp [sizeLine_is]
  refine comp_idx (fun i : Nat => .int i) [0, 1] (fun i ys h => ys = List.replicate i (.bl true)) rfl (fun i x ys h e j => ?_) (fun zs h j => ?_)
  · subst j
    simp
    refine cup_ok (k := k + 30) fun q okq => ?_
    refine stands_ok (k := k) (hp_at0 rfl) okq fun q' ok' => ?_
    simp [List.replicate_succ']
  · subst j
    have e : boolsOf (List.replicate 2 (D.bl true)) = some [true, true] := rfl
    show oq (boolsOf (List.replicate 2 (D.bl true))) _
    rw [e, oq_some]
    simp [fin, fzD]
    rfl
end
end K04

namespace K04
open PySem PySem.Spec L2 PD
theorem good (ns : List Int) (_ : ns.length ≤ 63) : ∃ h', R 60 "law" [.flst (ns.map D.int)] [] = some (.bl true, h') := by
  obtain ⟨d, h', e, rfl⟩ := law_ok (k := 28) (ns := ns)
  exact ⟨h', e⟩
end K04


namespace K04
open PySem PySem.Spec L2 PD
abbrev top (i : Nat) : Stmt := PySem.Challenge.pw_limbpages_k04_whole_sayings_and_their_lo.main.body.getD i (.Pass ⟨0, 0, 0, 0⟩)
def r_mark_ok : DR := ⟨⟨("mark_ok", none), "mark_ok", "mark_ok", defArgs (top 2), defBody (top 2), defScope (top 2), [], []⟩, ["value"], ["value"], F_mark_ok⟩
def r_word_of : DR := ⟨⟨("word_of", none), "word_of", "word_of", defArgs (top 24), defBody (top 24), defScope (top 24), [], []⟩, ["value"], ["value"], F_word_of⟩
def r_words_told : DR := ⟨⟨("words_told", none), "words_told", "words_told", defArgs (top 25), defBody (top 25), defScope (top 25), [], []⟩, ["value", "deep", "is_within", "word", "own"], ["value", "deep", "is_within"], F_words_told⟩
def r_words_of_parts : DR := ⟨⟨("words_of_parts", none), "words_of_parts", "words_of_parts", defArgs (top 26), defBody (top 26), defScope (top 26), [], []⟩, ["value", "deep", "is_within", "found", "part"], ["value", "deep", "is_within"], F_words_of_parts⟩
def r_is_few : DR := ⟨⟨("is_few", none), "is_few", "is_few", defArgs (top 27), defBody (top 27), defScope (top 27), [], []⟩, ["words"], ["words"], F_is_few⟩
def r_saying_ok : DR := ⟨⟨("saying_ok", none), "saying_ok", "saying_ok", defArgs (top 28), defBody (top 28), defScope (top 28), [], []⟩, ["value"], ["value"], F_saying_ok⟩
def r_inner_ok : DR := ⟨⟨("inner_ok", none), "inner_ok", "inner_ok", defArgs (top 29), defBody (top 29), defScope (top 29), [], []⟩, ["value"], ["value"], F_inner_ok⟩
def r_parts_of : DR := ⟨⟨("parts_of", none), "parts_of", "parts_of", defArgs (top 30), defBody (top 30), defScope (top 30), [], []⟩, ["saying"], ["saying"], F_parts_of⟩
def r_looks_within : DR := ⟨⟨("looks_within", none), "looks_within", "looks_within", defArgs (top 31), defBody (top 31), defScope (top 31), [], []⟩, ["saying", "own", "part", "look"], ["saying"], F_looks_within⟩
def r_looks_in : DR := ⟨⟨("looks_in", none), "looks_in", "looks_in", defArgs (top 32), defBody (top 32), defScope (top 32), [], []⟩, ["sayings", "found", "look", "saying"], ["sayings"], F_looks_in⟩
def r_text_of_saying : DR := ⟨⟨("text_of_saying", none), "text_of_saying", "text_of_saying", defArgs (top 33), defBody (top 33), defScope (top 33), [], []⟩, ["saying", "word", "part"], ["saying"], F_text_of_saying⟩
def r_check_saying : DR := ⟨⟨("check_saying", none), "check_saying", "check_saying", defArgs (top 36), defBody (top 36), defScope (top 36), [], []⟩, ["saying"], ["saying"], F_check_saying⟩
def r_check_some_sayings : DR := ⟨⟨("check_some_sayings", none), "check_some_sayings", "check_some_sayings", defArgs (top 37), defBody (top 37), defScope (top 37), [], []⟩, ["sayings", "index", "saying"], ["sayings"], F_check_some_sayings⟩
def r_check_sayings : DR := ⟨⟨("check_sayings", none), "check_sayings", "check_sayings", defArgs (top 38), defBody (top 38), defScope (top 38), [], []⟩, ["sayings"], ["sayings"], F_check_sayings⟩
def r_is_saying : DR := ⟨⟨("is_saying", none), "is_saying", "is_saying", defArgs (top 40), defBody (top 40), defScope (top 40), [], []⟩, ["value"], ["value"], F_is_saying⟩
def r_is_inner : DR := ⟨⟨("is_inner", none), "is_inner", "is_inner", defArgs (top 41), defBody (top 41), defScope (top 41), [], []⟩, ["saying"], ["saying"], F_is_inner⟩
def r_looks_of : DR := ⟨⟨("looks_of", none), "looks_of", "looks_of", defArgs (top 42), defBody (top 42), defScope (top 42), [], []⟩, ["sayings"], ["sayings"], F_looks_of⟩
def r__law_cup : DR := ⟨⟨("_law_cup", none), "_law_cup", "_law_cup", defArgs (top 44), defBody (top 44), defScope (top 44), [], []⟩, ["script", "lap", "told", "mill", "part"], ["script", "lap"], F__law_cup⟩
def r__law_sip : DR := ⟨⟨("_law_sip", none), "_law_sip", "_law_sip", defArgs (top 45), defBody (top 45), defScope (top 45), [], []⟩, ["cup", "many", "number"], ["cup", "many"], F__law_sip⟩
def r__law_one : DR := ⟨⟨("_law_one", none), "_law_one", "_law_one", defArgs (top 46), defBody (top 46), defScope (top 46), [], []⟩, ["cup", "some"], ["cup", "some"], F__law_one⟩
def r__law_is : DR := ⟨⟨("_law_is", none), "_law_is", "_law_is", defArgs (top 47), defBody (top 47), defScope (top 47), [], []⟩, ["told", "due"], ["told", "due"], F__law_is⟩
def r__law_saying : DR := ⟨⟨("_law_saying", none), "_law_saying", "_law_saying", defArgs (top 48), defBody (top 48), defScope (top 48), [], []⟩, ["cup", "deep", "plain", "kind", "words", "part"], ["cup", "deep", "plain"], F__law_saying⟩
def r__law_deep : DR := ⟨⟨("_law_deep", none), "_law_deep", "_law_deep", defArgs (top 49), defBody (top 49), defScope (top 49), [], []⟩, ["value", "inner", "word", "parts", "part"], ["value", "inner"], F__law_deep⟩
def r__law_is_saying : DR := ⟨⟨("_law_is_saying", none), "_law_is_saying", "_law_is_saying", defArgs (top 50), defBody (top 50), defScope (top 50), [], []⟩, ["value", "deep"], ["value"], F__law_is_saying⟩
def r__law_looks : DR := ⟨⟨("_law_looks", none), "_law_looks", "_law_looks", defArgs (top 51), defBody (top 51), defScope (top 51), [], []⟩, ["saying", "part"], ["saying"], F__law_looks⟩
def r__law_words : DR := ⟨⟨("_law_words", none), "_law_words", "_law_words", defArgs (top 52), defBody (top 52), defScope (top 52), [], []⟩, ["saying", "part"], ["saying"], F__law_words⟩
def r__law_bent : DR := ⟨⟨("_law_bent", none), "_law_bent", "_law_bent", defArgs (top 53), defBody (top 53), defScope (top 53), [], []⟩, ["cup", "saying", "some", "one", "found", "word"], ["cup", "saying"], F__law_bent⟩
def r__law_stands : DR := ⟨⟨("_law_stands", none), "_law_stands", "_law_stands", defArgs (top 54), defBody (top 54), defScope (top 54), [], []⟩, ["cup", "deepest", "turn", "saying", "inner", "some", "due", "look", "eight", "told", "word", "value", "part", "one", "sign"], ["cup"], F__law_stands⟩
def r_law : DR := ⟨⟨("law", none), "law", "law", defArgs (top 55), defBody (top 55), defScope (top 55), [], []⟩, ["script", "lap"], ["script"], F_law⟩
def Pr : List DR := [r_mark_ok, r_word_of, r_words_told, r_words_of_parts, r_is_few, r_saying_ok, r_inner_ok, r_parts_of, r_looks_within, r_looks_in, r_text_of_saying, r_check_saying, r_check_some_sayings, r_check_sayings, r_is_saying, r_is_inner, r_looks_of, r__law_cup, r__law_sip, r__law_one, r__law_is, r__law_saying, r__law_deep, r__law_is_saying, r__law_looks, r__law_words, r__law_bent, r__law_stands, r_law]
def ct : List CT := [(("word_of", 1, [], []) : CT), (("mark_ok", 1, [], []) : CT), (("words_told", 3, [], []) : CT), (("words_of_parts", 3, [], []) : CT), (("is_few", 1, [], []) : CT), (("parts_of", 1, [], []) : CT), (("looks_within", 1, [], []) : CT), (("text_of_saying", 1, [], []) : CT), (("saying_ok", 1, [], []) : CT), (("check_some_sayings", 1, [], []) : CT), (("check_saying", 1, [], []) : CT), (("inner_ok", 1, [], []) : CT), (("check_sayings", 1, [], []) : CT), (("looks_in", 1, [], []) : CT), (("_law_sip", 2, [], []) : CT), (("_law_one", 2, [], []) : CT), (("_law_saying", 3, [], []) : CT), (("_law_deep", 2, [], []) : CT), (("_law_looks", 1, [], []) : CT), (("_law_words", 1, [], []) : CT), (("_law_is", 2, [], []) : CT), (("is_saying", 1, [], []) : CT), (("_law_is_saying", 1, [], []) : CT), (("is_saying", 0, ["value"], [0]) : CT), (("is_inner", 1, [], []) : CT), (("is_inner", 0, ["saying"], [0]) : CT), (("_law_bent", 2, [], []) : CT), (("looks_of", 1, [], []) : CT), (("looks_of", 0, ["sayings"], [0]) : CT), (("_law_stands", 1, [], []) : CT), (("_law_cup", 2, [], []) : CT)]
def kt : Kt := [("SIGNS", kt_SIGNS)]
theorem prP : prF Pr = P := prF_tab rfl
/-! ### the checks -/
theorem c_mark_ok : chkD ct kt r_mark_ok = true := by decide +kernel
theorem c_word_of : chkD ct kt r_word_of = true := by decide +kernel
theorem c_words_told : chkD ct kt r_words_told = true := by decide +kernel
theorem c_words_of_parts : chkD ct kt r_words_of_parts = true := by decide +kernel
theorem c_is_few : chkD ct kt r_is_few = true := by decide +kernel
theorem c_saying_ok : chkD ct kt r_saying_ok = true := by decide +kernel
theorem c_inner_ok : chkD ct kt r_inner_ok = true := by decide +kernel
theorem c_parts_of : chkD ct kt r_parts_of = true := by decide +kernel
theorem c_looks_within : chkD ct kt r_looks_within = true := by decide +kernel
theorem c_looks_in : chkD ct kt r_looks_in = true := by decide +kernel
theorem c_text_of_saying : chkD ct kt r_text_of_saying = true := by decide +kernel
theorem c_check_saying : chkD ct kt r_check_saying = true := by decide +kernel
theorem c_check_some_sayings : chkD ct kt r_check_some_sayings = true := by decide +kernel
theorem c_check_sayings : chkD ct kt r_check_sayings = true := by decide +kernel
theorem c_is_saying : chkD ct kt r_is_saying = true := by decide +kernel
theorem c_is_inner : chkD ct kt r_is_inner = true := by decide +kernel
theorem c_looks_of : chkD ct kt r_looks_of = true := by decide +kernel
theorem c__law_cup : chkD ct kt r__law_cup = true := by decide +kernel
theorem c__law_sip : chkD ct kt r__law_sip = true := by decide +kernel
theorem c__law_one : chkD ct kt r__law_one = true := by decide +kernel
theorem c__law_is : chkD ct kt r__law_is = true := by decide +kernel
theorem c__law_saying : chkD ct kt r__law_saying = true := by decide +kernel
theorem c__law_deep : chkD ct kt r__law_deep = true := by decide +kernel
theorem c__law_is_saying : chkD ct kt r__law_is_saying = true := by decide +kernel
theorem c__law_looks : chkD ct kt r__law_looks = true := by decide +kernel
theorem c__law_words : chkD ct kt r__law_words = true := by decide +kernel
theorem c__law_bent : chkD ct kt r__law_bent = true := by decide +kernel
theorem c__law_stands : chkD ct kt r__law_stands = true := by decide +kernel
theorem c_law : chkD ct kt r_law = true := by decide +kernel
theorem m_mark_ok : prF Pr "mark_ok" = some r_mark_ok.F := by kernel_rfl
theorem m_word_of : prF Pr "word_of" = some r_word_of.F := by kernel_rfl
theorem m_words_told : prF Pr "words_told" = some r_words_told.F := by kernel_rfl
theorem m_words_of_parts : prF Pr "words_of_parts" = some r_words_of_parts.F := by kernel_rfl
theorem m_is_few : prF Pr "is_few" = some r_is_few.F := by kernel_rfl
theorem m_saying_ok : prF Pr "saying_ok" = some r_saying_ok.F := by kernel_rfl
theorem m_inner_ok : prF Pr "inner_ok" = some r_inner_ok.F := by kernel_rfl
theorem m_parts_of : prF Pr "parts_of" = some r_parts_of.F := by kernel_rfl
theorem m_looks_within : prF Pr "looks_within" = some r_looks_within.F := by kernel_rfl
theorem m_looks_in : prF Pr "looks_in" = some r_looks_in.F := by kernel_rfl
theorem m_text_of_saying : prF Pr "text_of_saying" = some r_text_of_saying.F := by kernel_rfl
theorem m_check_saying : prF Pr "check_saying" = some r_check_saying.F := by kernel_rfl
theorem m_check_some_sayings : prF Pr "check_some_sayings" = some r_check_some_sayings.F := by kernel_rfl
theorem m_check_sayings : prF Pr "check_sayings" = some r_check_sayings.F := by kernel_rfl
theorem m_is_saying : prF Pr "is_saying" = some r_is_saying.F := by kernel_rfl
theorem m_is_inner : prF Pr "is_inner" = some r_is_inner.F := by kernel_rfl
theorem m_looks_of : prF Pr "looks_of" = some r_looks_of.F := by kernel_rfl
theorem m__law_cup : prF Pr "_law_cup" = some r__law_cup.F := by kernel_rfl
theorem m__law_sip : prF Pr "_law_sip" = some r__law_sip.F := by kernel_rfl
theorem m__law_one : prF Pr "_law_one" = some r__law_one.F := by kernel_rfl
theorem m__law_is : prF Pr "_law_is" = some r__law_is.F := by kernel_rfl
theorem m__law_saying : prF Pr "_law_saying" = some r__law_saying.F := by kernel_rfl
theorem m__law_deep : prF Pr "_law_deep" = some r__law_deep.F := by kernel_rfl
theorem m__law_is_saying : prF Pr "_law_is_saying" = some r__law_is_saying.F := by kernel_rfl
theorem m__law_looks : prF Pr "_law_looks" = some r__law_looks.F := by kernel_rfl
theorem m__law_words : prF Pr "_law_words" = some r__law_words.F := by kernel_rfl
theorem m__law_bent : prF Pr "_law_bent" = some r__law_bent.F := by kernel_rfl
theorem m__law_stands : prF Pr "_law_stands" = some r__law_stands.F := by kernel_rfl
theorem m_law : prF Pr "law" = some r_law.F := by kernel_rfl
theorem k_0 : ∃ r ∈ Pr, r.d.name = "word_of" ∧ pmB 1 0 r.ps.length [] = true ∧ KBx r ("word_of", 1, [], []) := ⟨r_word_of, by unfold Pr; repeat (first | exact List.mem_cons_self | apply List.mem_cons_of_mem), rfl, by decide, fun _ _ _ _ _ _ us ws h1 h2 => match us, ws, h1, h2 with | [_], [], _, _ => by kernel_rfl⟩
theorem k_1 : ∃ r ∈ Pr, r.d.name = "mark_ok" ∧ pmB 1 0 r.ps.length [] = true ∧ KBx r ("mark_ok", 1, [], []) := ⟨r_mark_ok, by unfold Pr; repeat (first | exact List.mem_cons_self | apply List.mem_cons_of_mem), rfl, by decide, fun _ _ _ _ _ _ us ws h1 h2 => match us, ws, h1, h2 with | [_], [], _, _ => by kernel_rfl⟩
theorem k_2 : ∃ r ∈ Pr, r.d.name = "words_told" ∧ pmB 3 0 r.ps.length [] = true ∧ KBx r ("words_told", 3, [], []) := ⟨r_words_told, by unfold Pr; repeat (first | exact List.mem_cons_self | apply List.mem_cons_of_mem), rfl, by decide, fun _ _ _ _ _ _ us ws h1 h2 => match us, ws, h1, h2 with | [_, _, _], [], _, _ => by kernel_rfl⟩
theorem k_3 : ∃ r ∈ Pr, r.d.name = "words_of_parts" ∧ pmB 3 0 r.ps.length [] = true ∧ KBx r ("words_of_parts", 3, [], []) := ⟨r_words_of_parts, by unfold Pr; repeat (first | exact List.mem_cons_self | apply List.mem_cons_of_mem), rfl, by decide, fun _ _ _ _ _ _ us ws h1 h2 => match us, ws, h1, h2 with | [_, _, _], [], _, _ => by kernel_rfl⟩
theorem k_4 : ∃ r ∈ Pr, r.d.name = "is_few" ∧ pmB 1 0 r.ps.length [] = true ∧ KBx r ("is_few", 1, [], []) := ⟨r_is_few, by unfold Pr; repeat (first | exact List.mem_cons_self | apply List.mem_cons_of_mem), rfl, by decide, fun _ _ _ _ _ _ us ws h1 h2 => match us, ws, h1, h2 with | [_], [], _, _ => by kernel_rfl⟩
theorem k_5 : ∃ r ∈ Pr, r.d.name = "parts_of" ∧ pmB 1 0 r.ps.length [] = true ∧ KBx r ("parts_of", 1, [], []) := ⟨r_parts_of, by unfold Pr; repeat (first | exact List.mem_cons_self | apply List.mem_cons_of_mem), rfl, by decide, fun _ _ _ _ _ _ us ws h1 h2 => match us, ws, h1, h2 with | [_], [], _, _ => by kernel_rfl⟩
theorem k_6 : ∃ r ∈ Pr, r.d.name = "looks_within" ∧ pmB 1 0 r.ps.length [] = true ∧ KBx r ("looks_within", 1, [], []) := ⟨r_looks_within, by unfold Pr; repeat (first | exact List.mem_cons_self | apply List.mem_cons_of_mem), rfl, by decide, fun _ _ _ _ _ _ us ws h1 h2 => match us, ws, h1, h2 with | [_], [], _, _ => by kernel_rfl⟩
theorem k_7 : ∃ r ∈ Pr, r.d.name = "text_of_saying" ∧ pmB 1 0 r.ps.length [] = true ∧ KBx r ("text_of_saying", 1, [], []) := ⟨r_text_of_saying, by unfold Pr; repeat (first | exact List.mem_cons_self | apply List.mem_cons_of_mem), rfl, by decide, fun _ _ _ _ _ _ us ws h1 h2 => match us, ws, h1, h2 with | [_], [], _, _ => by kernel_rfl⟩
theorem k_8 : ∃ r ∈ Pr, r.d.name = "saying_ok" ∧ pmB 1 0 r.ps.length [] = true ∧ KBx r ("saying_ok", 1, [], []) := ⟨r_saying_ok, by unfold Pr; repeat (first | exact List.mem_cons_self | apply List.mem_cons_of_mem), rfl, by decide, fun _ _ _ _ _ _ us ws h1 h2 => match us, ws, h1, h2 with | [_], [], _, _ => by kernel_rfl⟩
theorem k_9 : ∃ r ∈ Pr, r.d.name = "check_some_sayings" ∧ pmB 1 0 r.ps.length [] = true ∧ KBx r ("check_some_sayings", 1, [], []) := ⟨r_check_some_sayings, by unfold Pr; repeat (first | exact List.mem_cons_self | apply List.mem_cons_of_mem), rfl, by decide, fun _ _ _ _ _ _ us ws h1 h2 => match us, ws, h1, h2 with | [_], [], _, _ => by kernel_rfl⟩
theorem k_10 : ∃ r ∈ Pr, r.d.name = "check_saying" ∧ pmB 1 0 r.ps.length [] = true ∧ KBx r ("check_saying", 1, [], []) := ⟨r_check_saying, by unfold Pr; repeat (first | exact List.mem_cons_self | apply List.mem_cons_of_mem), rfl, by decide, fun _ _ _ _ _ _ us ws h1 h2 => match us, ws, h1, h2 with | [_], [], _, _ => by kernel_rfl⟩
theorem k_11 : ∃ r ∈ Pr, r.d.name = "inner_ok" ∧ pmB 1 0 r.ps.length [] = true ∧ KBx r ("inner_ok", 1, [], []) := ⟨r_inner_ok, by unfold Pr; repeat (first | exact List.mem_cons_self | apply List.mem_cons_of_mem), rfl, by decide, fun _ _ _ _ _ _ us ws h1 h2 => match us, ws, h1, h2 with | [_], [], _, _ => by kernel_rfl⟩
theorem k_12 : ∃ r ∈ Pr, r.d.name = "check_sayings" ∧ pmB 1 0 r.ps.length [] = true ∧ KBx r ("check_sayings", 1, [], []) := ⟨r_check_sayings, by unfold Pr; repeat (first | exact List.mem_cons_self | apply List.mem_cons_of_mem), rfl, by decide, fun _ _ _ _ _ _ us ws h1 h2 => match us, ws, h1, h2 with | [_], [], _, _ => by kernel_rfl⟩
theorem k_13 : ∃ r ∈ Pr, r.d.name = "looks_in" ∧ pmB 1 0 r.ps.length [] = true ∧ KBx r ("looks_in", 1, [], []) := ⟨r_looks_in, by unfold Pr; repeat (first | exact List.mem_cons_self | apply List.mem_cons_of_mem), rfl, by decide, fun _ _ _ _ _ _ us ws h1 h2 => match us, ws, h1, h2 with | [_], [], _, _ => by kernel_rfl⟩
theorem k_14 : ∃ r ∈ Pr, r.d.name = "_law_sip" ∧ pmB 2 0 r.ps.length [] = true ∧ KBx r ("_law_sip", 2, [], []) := ⟨r__law_sip, by unfold Pr; repeat (first | exact List.mem_cons_self | apply List.mem_cons_of_mem), rfl, by decide, fun _ _ _ _ _ _ us ws h1 h2 => match us, ws, h1, h2 with | [_, _], [], _, _ => by kernel_rfl⟩
theorem k_15 : ∃ r ∈ Pr, r.d.name = "_law_one" ∧ pmB 2 0 r.ps.length [] = true ∧ KBx r ("_law_one", 2, [], []) := ⟨r__law_one, by unfold Pr; repeat (first | exact List.mem_cons_self | apply List.mem_cons_of_mem), rfl, by decide, fun _ _ _ _ _ _ us ws h1 h2 => match us, ws, h1, h2 with | [_, _], [], _, _ => by kernel_rfl⟩
theorem k_16 : ∃ r ∈ Pr, r.d.name = "_law_saying" ∧ pmB 3 0 r.ps.length [] = true ∧ KBx r ("_law_saying", 3, [], []) := ⟨r__law_saying, by unfold Pr; repeat (first | exact List.mem_cons_self | apply List.mem_cons_of_mem), rfl, by decide, fun _ _ _ _ _ _ us ws h1 h2 => match us, ws, h1, h2 with | [_, _, _], [], _, _ => by kernel_rfl⟩
theorem k_17 : ∃ r ∈ Pr, r.d.name = "_law_deep" ∧ pmB 2 0 r.ps.length [] = true ∧ KBx r ("_law_deep", 2, [], []) := ⟨r__law_deep, by unfold Pr; repeat (first | exact List.mem_cons_self | apply List.mem_cons_of_mem), rfl, by decide, fun _ _ _ _ _ _ us ws h1 h2 => match us, ws, h1, h2 with | [_, _], [], _, _ => by kernel_rfl⟩
theorem k_18 : ∃ r ∈ Pr, r.d.name = "_law_looks" ∧ pmB 1 0 r.ps.length [] = true ∧ KBx r ("_law_looks", 1, [], []) := ⟨r__law_looks, by unfold Pr; repeat (first | exact List.mem_cons_self | apply List.mem_cons_of_mem), rfl, by decide, fun _ _ _ _ _ _ us ws h1 h2 => match us, ws, h1, h2 with | [_], [], _, _ => by kernel_rfl⟩
theorem k_19 : ∃ r ∈ Pr, r.d.name = "_law_words" ∧ pmB 1 0 r.ps.length [] = true ∧ KBx r ("_law_words", 1, [], []) := ⟨r__law_words, by unfold Pr; repeat (first | exact List.mem_cons_self | apply List.mem_cons_of_mem), rfl, by decide, fun _ _ _ _ _ _ us ws h1 h2 => match us, ws, h1, h2 with | [_], [], _, _ => by kernel_rfl⟩
theorem k_20 : ∃ r ∈ Pr, r.d.name = "_law_is" ∧ pmB 2 0 r.ps.length [] = true ∧ KBx r ("_law_is", 2, [], []) := ⟨r__law_is, by unfold Pr; repeat (first | exact List.mem_cons_self | apply List.mem_cons_of_mem), rfl, by decide, fun _ _ _ _ _ _ us ws h1 h2 => match us, ws, h1, h2 with | [_, _], [], _, _ => by kernel_rfl⟩
theorem k_21 : ∃ r ∈ Pr, r.d.name = "is_saying" ∧ pmB 1 0 r.ps.length [] = true ∧ KBx r ("is_saying", 1, [], []) := ⟨r_is_saying, by unfold Pr; repeat (first | exact List.mem_cons_self | apply List.mem_cons_of_mem), rfl, by decide, fun _ _ _ _ _ _ us ws h1 h2 => match us, ws, h1, h2 with | [_], [], _, _ => by kernel_rfl⟩
theorem k_22 : ∃ r ∈ Pr, r.d.name = "_law_is_saying" ∧ pmB 1 0 r.ps.length [] = true ∧ KBx r ("_law_is_saying", 1, [], []) := ⟨r__law_is_saying, by unfold Pr; repeat (first | exact List.mem_cons_self | apply List.mem_cons_of_mem), rfl, by decide, fun _ _ _ _ _ _ us ws h1 h2 => match us, ws, h1, h2 with | [_], [], _, _ => by kernel_rfl⟩
theorem k_23 : ∃ r ∈ Pr, r.d.name = "is_saying" ∧ pmB 0 1 r.ps.length [0] = true ∧ KBx r ("is_saying", 0, ["value"], [0]) := ⟨r_is_saying, by unfold Pr; repeat (first | exact List.mem_cons_self | apply List.mem_cons_of_mem), rfl, by decide, fun _ _ _ _ _ _ us ws h1 h2 => match us, ws, h1, h2 with | [], [_], _, _ => by kernel_rfl⟩
theorem k_24 : ∃ r ∈ Pr, r.d.name = "is_inner" ∧ pmB 1 0 r.ps.length [] = true ∧ KBx r ("is_inner", 1, [], []) := ⟨r_is_inner, by unfold Pr; repeat (first | exact List.mem_cons_self | apply List.mem_cons_of_mem), rfl, by decide, fun _ _ _ _ _ _ us ws h1 h2 => match us, ws, h1, h2 with | [_], [], _, _ => by kernel_rfl⟩
theorem k_25 : ∃ r ∈ Pr, r.d.name = "is_inner" ∧ pmB 0 1 r.ps.length [0] = true ∧ KBx r ("is_inner", 0, ["saying"], [0]) := ⟨r_is_inner, by unfold Pr; repeat (first | exact List.mem_cons_self | apply List.mem_cons_of_mem), rfl, by decide, fun _ _ _ _ _ _ us ws h1 h2 => match us, ws, h1, h2 with | [], [_], _, _ => by kernel_rfl⟩
theorem k_26 : ∃ r ∈ Pr, r.d.name = "_law_bent" ∧ pmB 2 0 r.ps.length [] = true ∧ KBx r ("_law_bent", 2, [], []) := ⟨r__law_bent, by unfold Pr; repeat (first | exact List.mem_cons_self | apply List.mem_cons_of_mem), rfl, by decide, fun _ _ _ _ _ _ us ws h1 h2 => match us, ws, h1, h2 with | [_, _], [], _, _ => by kernel_rfl⟩
theorem k_27 : ∃ r ∈ Pr, r.d.name = "looks_of" ∧ pmB 1 0 r.ps.length [] = true ∧ KBx r ("looks_of", 1, [], []) := ⟨r_looks_of, by unfold Pr; repeat (first | exact List.mem_cons_self | apply List.mem_cons_of_mem), rfl, by decide, fun _ _ _ _ _ _ us ws h1 h2 => match us, ws, h1, h2 with | [_], [], _, _ => by kernel_rfl⟩
theorem k_28 : ∃ r ∈ Pr, r.d.name = "looks_of" ∧ pmB 0 1 r.ps.length [0] = true ∧ KBx r ("looks_of", 0, ["sayings"], [0]) := ⟨r_looks_of, by unfold Pr; repeat (first | exact List.mem_cons_self | apply List.mem_cons_of_mem), rfl, by decide, fun _ _ _ _ _ _ us ws h1 h2 => match us, ws, h1, h2 with | [], [_], _, _ => by kernel_rfl⟩
theorem k_29 : ∃ r ∈ Pr, r.d.name = "_law_stands" ∧ pmB 1 0 r.ps.length [] = true ∧ KBx r ("_law_stands", 1, [], []) := ⟨r__law_stands, by unfold Pr; repeat (first | exact List.mem_cons_self | apply List.mem_cons_of_mem), rfl, by decide, fun _ _ _ _ _ _ us ws h1 h2 => match us, ws, h1, h2 with | [_], [], _, _ => by kernel_rfl⟩
theorem k_30 : ∃ r ∈ Pr, r.d.name = "_law_cup" ∧ pmB 2 0 r.ps.length [] = true ∧ KBx r ("_law_cup", 2, [], []) := ⟨r__law_cup, by unfold Pr; repeat (first | exact List.mem_cons_self | apply List.mem_cons_of_mem), rfl, by decide, fun _ _ _ _ _ _ us ws h1 h2 => match us, ws, h1, h2 with | [_, _], [], _, _ => by kernel_rfl⟩
theorem prOk : PrOk Pr ct kt := ⟨(allc c_mark_ok (allc c_word_of (allc c_words_told (allc c_words_of_parts (allc c_is_few (allc c_saying_ok (allc c_inner_ok (allc c_parts_of (allc c_looks_within (allc c_looks_in (allc c_text_of_saying (allc c_check_saying (allc c_check_some_sayings (allc c_check_sayings (allc c_is_saying (allc c_is_inner (allc c_looks_of (allc c__law_cup (allc c__law_sip (allc c__law_one (allc c__law_is (allc c__law_saying (allc c__law_deep (allc c__law_is_saying (allc c__law_looks (allc c__law_words (allc c__law_bent (allc c__law_stands (allc c_law alln))))))))))))))))))))))))))))),
  (allc m_mark_ok (allc m_word_of (allc m_words_told (allc m_words_of_parts (allc m_is_few (allc m_saying_ok (allc m_inner_ok (allc m_parts_of (allc m_looks_within (allc m_looks_in (allc m_text_of_saying (allc m_check_saying (allc m_check_some_sayings (allc m_check_sayings (allc m_is_saying (allc m_is_inner (allc m_looks_of (allc m__law_cup (allc m__law_sip (allc m__law_one (allc m__law_is (allc m__law_saying (allc m__law_deep (allc m__law_is_saying (allc m__law_looks (allc m__law_words (allc m__law_bent (allc m__law_stands (allc m_law alln))))))))))))))))))))))))))))),
  (allc ⟨rfl, rfl⟩ (allc ⟨rfl, rfl⟩ (allc ⟨rfl, rfl⟩ (allc ⟨rfl, rfl⟩ (allc ⟨rfl, rfl⟩ (allc ⟨rfl, rfl⟩ (allc ⟨rfl, rfl⟩ (allc ⟨rfl, rfl⟩ (allc ⟨rfl, rfl⟩ (allc ⟨rfl, rfl⟩ (allc ⟨rfl, rfl⟩ (allc ⟨rfl, rfl⟩ (allc ⟨rfl, rfl⟩ (allc ⟨rfl, rfl⟩ (allc ⟨rfl, rfl⟩ (allc ⟨rfl, rfl⟩ (allc ⟨rfl, rfl⟩ (allc ⟨rfl, rfl⟩ (allc ⟨rfl, rfl⟩ (allc ⟨rfl, rfl⟩ (allc ⟨rfl, rfl⟩ (allc ⟨rfl, rfl⟩ (allc ⟨rfl, rfl⟩ (allc ⟨rfl, rfl⟩ (allc ⟨rfl, rfl⟩ (allc ⟨rfl, rfl⟩ (allc ⟨rfl, rfl⟩ (allc ⟨rfl, rfl⟩ (allc ⟨rfl, rfl⟩ alln))))))))))))))))))))))))))))),
  (allc k_0 (allc k_1 (allc k_2 (allc k_3 (allc k_4 (allc k_5 (allc k_6 (allc k_7 (allc k_8 (allc k_9 (allc k_10 (allc k_11 (allc k_12 (allc k_13 (allc k_14 (allc k_15 (allc k_16 (allc k_17 (allc k_18 (allc k_19 (allc k_20 (allc k_21 (allc k_22 (allc k_23 (allc k_24 (allc k_25 (allc k_26 (allc k_27 (allc k_28 (allc k_29 (allc k_30 alln)))))))))))))))))))))))))))))))⟩
/-! ### the head -/
abbrev Rw : PySem.W.OpenRow := PySem.W.OpenLaw.row PySem.Challenge.rw_limbpages_k04_whole_sayings_and_their_lo
abbrev hk : PySem.W.Hook := hookP 4 (faOf Pr) (fnOfP Pr) gs kt
def ob (s : PySem.W.SharedT) : AlP := obsP 4 (faOf Pr) (fnOfP Pr) gs kt (HandSHeadRun.getT s)
theorem ob_eq (s : PySem.W.SharedT) : ob s = hk.obs s.abs := obsP_eq (HandSHeadRun.getT_eq s)
def loose0 : List Str := [("MARKS" : Str), ("mark_ok" : Str), ("LimbError" : Str), ("InvalidSaying" : Str), ("InvalidSayings" : Str), ("MARK" : Str), ("ANY" : Str), ("NOT" : Str), ("ALL" : Str), ("SOME" : Str), ("OF_PARTS" : Str), ("ABOVE" : Str), ("OUTER" : Str), ("WORDS" : Str), ("MOST_DEEP" : Str), ("MOST_WORDS" : Str), ("MOST_PARTS" : Str), ("OPEN" : Str), ("SHUT" : Str), ("BLANK" : Str), ("SIGNS" : Str), ("word_of" : Str), ("words_told" : Str), ("words_of_parts" : Str), ("is_few" : Str), ("saying_ok" : Str), ("inner_ok" : Str), ("parts_of" : Str), ("looks_within" : Str), ("looks_in" : Str), ("text_of_saying" : Str), ("MOST_SAYINGS" : Str), ("check_saying" : Str), ("check_some_sayings" : Str), ("check_sayings" : Str), ("is_saying" : Str)]
def loose1 : List Str := [("is_inner" : Str), ("looks_of" : Str), ("_law_cup" : Str), ("_law_sip" : Str), ("_law_one" : Str), ("_law_is" : Str), ("_law_saying" : Str), ("_law_deep" : Str), ("_law_is_saying" : Str), ("_law_looks" : Str), ("_law_words" : Str), ("_law_bent" : Str), ("_law_stands" : Str)]
abbrev loose : List Str := loose0 ++ loose1
set_option maxRecDepth 1000000 in
theorem runs_false (w : World) : HandSHeadRun.RunEq Rw (PySem.W.view Rw.prog [55]) hk ob 20000 loose (w.withFollow "special-get-raises" false) := by
  intro os
  kernel_rfl
set_option maxRecDepth 1000000 in
theorem runs_true (w : World) : HandSHeadRun.RunEq Rw (PySem.W.view Rw.prog [55]) hk ob 20000 loose (w.withFollow "special-get-raises" true) := by
  intro os
  kernel_rfl
set_option maxRecDepth 1000000 in
theorem runs (w : World) : HandSHeadRun.RunEq Rw (PySem.W.view Rw.prog [55]) hk ob 20000 loose w := PySem.W.byRow2 "special-get-raises" runs_false runs_true w
theorem hats : ∀ r ∈ Pr, r.d.at_ = (r.d.name, none) := (allc rfl (allc rfl (allc rfl (allc rfl (allc rfl (allc rfl (allc rfl (allc rfl (allc rfl (allc rfl (allc rfl (allc rfl (allc rfl (allc rfl (allc rfl (allc rfl (allc rfl (allc rfl (allc rfl (allc rfl (allc rfl (allc rfl (allc rfl (allc rfl (allc rfl (allc rfl (allc rfl (allc rfl (allc rfl alln)))))))))))))))))))))))))))))
theorem name_eq : (HandSHeadRun.topDef Rw.prog 55).name = ("law" : Str) := by kernel_rfl
theorem law_mem : r_law ∈ Pr := by unfold Pr; repeat (first | exact List.mem_cons_self | apply List.mem_cons_of_mem)
theorem law_kb : KBx r_law (r_law.d.name, 1, [], []) := fun _ _ _ _ _ _ us ws h1 h2 => match us, ws, h1, h2 with | [_], [], _, _ => by kernel_rfl
theorem holds_of (good : ∀ ns : List Int, ns.length ≤ 63 → ∃ h', R 60 "law" [.flst (ns.map D.int)] [] = some (.bl true, h')) : PySem.Challenge.rw_limbpages_k04_whole_sayings_and_their_lo.Holds := by
  open PySem PySem.W PySem.Calls PyProof.Rows in
  w_on; o_law
  refine HandSHeadRun.head_any (r := Rw) (q := PySem.W.view Rw.prog [55]) (H := hk) (ob := ob) (M := 20000) (loose := loose) (d := HandSHeadRun.topDef Rw.prog 55) (kwd := []) ob_eq
    (by kernel_rfl) (fun s => by kernel_rfl) runs (by kernel_rfl) (by kernel_rfl) (by kernel_rfl) (by rfl) (by first | assumption | decide +kernel) (by decide +kernel) ⟨rfl, rfl, rfl, rfl, rfl, by decide +kernel⟩ ?hw ?hc
  case hw => w_witness2
  case hc => exact law_of (l := PySem.Challenge.rw_limbpages_k04_whole_sayings_and_their_lo) (W := 1000000000) (k := 60) (n := 63) (x := "script") (rl := r_law) prOk hats rfl (by decide) (by kernel_rfl) ⟨rfl, by decide, by decide⟩ law_mem name_eq rfl law_kb (by rw [prP]; exact good)
end K04

theorem PySem.Challenge.cw_limbpages_k04_whole_sayings_and_their_lo_holds : PySem.Challenge.rw_limbpages_k04_whole_sayings_and_their_lo.Holds := by
  exact K04.holds_of K04.good
