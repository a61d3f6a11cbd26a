import PyProof.Rows.All
import Wide.All
import OpenK.AllK
import Wide.FinOn
import HandS.ForMost
import HandS.ForExc
import HandS.TryMany
import HandS.IsInst
import HandS.ExcIs
import HandS.Flow
import HandS.TupAny
import HandS.TupMul
import HandS.CallSlots
import HandS.Gcd
import HandS.Star
import KE.KMathGC
import PyProof.ListMulRoad
import PyProof.FactsAll.tuple_2
import HandS.MakeKwOnly
import HandS.Property
import HandS.Style
import HandS.Defaults
import KE.KAssignIn
import HandS.Conv
import HandS.SortInts
import PySem.Challenge.RW_promiseplay_k46_spec_and_dual
set_option Elab.async false
set_option linter.all false
set_option maxRecDepth 100000
set_option maxHeartbeats 1000000
/-! A layer over HandS: data as trees, owned by the slots of a frame; a def's body as a plain function of these. -/
namespace VL
open PySem PySem.Spec PyProof.Rows L2

/-! ### data -/
/-- a value with all that it leads to; the flag true: owned here, may be changed -/
inductive D where
  | non | bl (b : Bool) | int (i : Int) | str (x : Str)
  | tup (l : List D)
  | ktp (l : List D)
  | lst (m : Bool) (l : List D)
  | scr (l : List D)
  | ins (m : Bool) (c : Str) (ns : List Str) (l : List D)
  | dk (m : Bool) (ks : List Key) (l : List D)
  | dt (m : Bool) (ks : List (List Key)) (l : List D)
  | otp (l : List D)
  | cst (v : V)
instance : Inhabited D := ⟨.non⟩

mutual
/-- nothing in it is owned -/
def D.frozen : D → Bool
  | .tup l => D.frozens l
  | .ktp l => D.frozens l
  | .scr l => D.frozens l
  | .lst m l => !m && D.frozens l
  | .ins m _ _ l => !m && D.frozens l
  | .dk m _ l => !m && D.frozens l
  | .dt m _ l => !m && D.frozens l
  | .otp _ => false
  | _ => true
def D.frozens : List D → Bool
  | [] => true
  | d :: l => d.frozen && D.frozens l
end
mutual
/-- given up: from now on nobody changes it -/
def D.fz : D → D
  | .tup l => .tup (D.fzs l)
  | .ktp l => .ktp (D.fzs l)
  | .scr l => .scr (D.fzs l)
  | .lst _ l => .lst false (D.fzs l)
  | .ins _ c ns l => .ins false c ns (D.fzs l)
  | .dk _ ks l => .dk false ks (D.fzs l)
  | .dt _ ks l => .dt false ks (D.fzs l)
  | .otp l => .tup (D.fzs l)
  | d => d
def D.fzs : List D → List D
  | [] => []
  | d :: l => d.fz :: D.fzs l
end
theorem D.fzs_map (l : List D) : D.fzs l = l.map D.fz := by
  induction l with
  | nil => rfl
  | cons d l ih => simp [D.fzs, ih]

/-- the classes' addresses by their names -/
structure Gx where
  K : PySem.W.Frag
  cl : Str → Addr
  ev : Str → Value

section
variable (G : Gx)
mutual
/-- v stands for d, by frozen objects alone -/
def Rep (I : Hp) : V → D → Prop
  | v, .non => v = .non
  | v, .bl b => v = .bl b
  | v, .int i => v = .int i
  | v, .str x => v = .str x
  | v, .tup l => ∃ a ws, v = .ref a ∧ I a = some (.tup ws) ∧ Reps I ws l
  | v, .ktp l => ∃ a ws, v = .ref a ∧ SqT G.K I a ws ∧ Reps I ws l
  | v, .scr l => ∃ a ws, v = .ref a ∧ SqL G.K I a ws ∧ Reps I ws l
  | v, .lst m l => m = false ∧ ∃ a ws, v = .ref a ∧ I a = some (.lst ws) ∧ Reps I ws l
  | v, .ins m c ns l => m = false ∧ ∃ a dx ws, v = .ref a ∧ I a = some (.ins (G.cl c) dx (ns.zip ws)) ∧ ws.length = ns.length ∧ Reps I ws l
  | v, .dk m ks l => m = false ∧ ∃ a ws, v = .ref a ∧ I a = some (.dK (ks.zip ws)) ∧ ws.length = ks.length ∧ Reps I ws l
  | v, .dt m ks l => m = false ∧ ∃ a ws, v = .ref a ∧ I a = some (.dT (ks.zip ws)) ∧ ws.length = ks.length ∧ Reps I ws l
  | _, .otp _ => False
  | v, .cst w => v = w
def Reps (I : Hp) : List V → List D → Prop
  | [], [] => True
  | v :: vs, d :: ds => Rep I v d ∧ Reps I vs ds
  | [], _ :: _ => False
  | _ :: _, [] => False
end
mutual
/-- v stands for d: F, the objects that are owned by it -/
def Own (I H : Hp) : V → D → List Addr → Prop
  | v, .lst true l, F => ∃ a ws F', v = .ref a ∧ H a = some (.lst ws) ∧ I a = none ∧ Owns I H ws l F' ∧ F = a :: F'
  | v, .ins true c ns l, F => ∃ a dx ws F', v = .ref a ∧ H a = some (.ins (G.cl c) dx (ns.zip ws)) ∧ ws.length = ns.length ∧ I a = none ∧ Owns I H ws l F' ∧ F = a :: F'
  | v, .dk true ks l, F => ∃ a ws F', v = .ref a ∧ H a = some (.dK (ks.zip ws)) ∧ ws.length = ks.length ∧ I a = none ∧ Owns I H ws l F' ∧ F = a :: F'
  | v, .dt true ks l, F => ∃ a ws F', v = .ref a ∧ H a = some (.dT (ks.zip ws)) ∧ ws.length = ks.length ∧ I a = none ∧ Owns I H ws l F' ∧ F = a :: F'
  | v, .otp l, F => ∃ a ws F', v = .ref a ∧ H a = some (.tup ws) ∧ I a = none ∧ Owns I H ws l F' ∧ F = a :: F'
  | v, d, F => F = [] ∧ Rep G I v d
def Owns (I H : Hp) : List V → List D → List Addr → Prop
  | [], [], F => F = []
  | v :: vs, d :: ds, F => ∃ F1 F2, F = F1 ++ F2 ∧ Own I H v d F1 ∧ Owns I H vs ds F2
  | [], _ :: _, _ => False
  | _ :: _, [], _ => False
end
end

section
variable {G : Gx} {I I' H H' : Hp}
theorem SqT.same {K : PySem.W.Frag} {H H' : Hp} {a : Addr} {xs : List V} (e : Same H H') (h : SqT K H a xs) : SqT K H' a xs := by
  rcases h with (h | ⟨o, h⟩) | h
  · exact .inl (.inl (e _ _ h))
  · exact .inl (.inr ⟨o, e _ _ h⟩)
  · exact .inr h
mutual
theorem Rep.mono (s : Same I I') : ∀ (d : D) (v : V), Rep G I v d → Rep G I' v d
  | .non, _, h => h
  | .bl _, _, h => h
  | .int _, _, h => h
  | .str _, _, h => h
  | .cst _, _, h => h
  | .tup l, _, ⟨a, ws, e, h, r⟩ => ⟨a, ws, e, s _ _ h, Reps.mono s l ws r⟩
  | .ktp l, _, ⟨a, ws, e, h, r⟩ => ⟨a, ws, e, SqT.same s h, Reps.mono s l ws r⟩
  | .scr l, _, ⟨a, ws, e, h, r⟩ => ⟨a, ws, e, Same.seq s h, Reps.mono s l ws r⟩
  | .lst _ l, _, ⟨m, a, ws, e, h, r⟩ => ⟨m, a, ws, e, s _ _ h, Reps.mono s l ws r⟩
  | .ins _ _ _ l, _, ⟨m, a, dx, ws, e, h, n, r⟩ => ⟨m, a, dx, ws, e, s _ _ h, n, Reps.mono s l ws r⟩
  | .dk _ _ l, _, ⟨m, a, ws, e, h, n, r⟩ => ⟨m, a, ws, e, s _ _ h, n, Reps.mono s l ws r⟩
  | .dt _ _ l, _, ⟨m, a, ws, e, h, n, r⟩ => ⟨m, a, ws, e, s _ _ h, n, Reps.mono s l ws r⟩
  | .otp _, _, h => h.elim
theorem Reps.mono (s : Same I I') : ∀ (l : List D) (vs : List V), Reps G I vs l → Reps G I' vs l
  | [], [], h => h
  | d :: l, v :: vs, ⟨h, r⟩ => ⟨Rep.mono s d v h, Reps.mono s l vs r⟩
  | [], _ :: _, h => h.elim
  | _ :: _, [], h => h.elim
end
theorem Reps.len : ∀ {l : List D} {vs : List V}, Reps G I vs l → vs.length = l.length
  | [], [], _ => rfl
  | d :: l, v :: vs, h => by
    have := Reps.len (l := l) (vs := vs) h.2
    simp [this]
  | [], _ :: _, h => h.elim
  | _ :: _, [], h => h.elim
theorem Reps.get : ∀ {l : List D} {vs : List V} {i : Nat} {d : D}, Reps G I vs l → l[i]? = some d → ∃ v, vs[i]? = some v ∧ Rep G I v d
  | d :: l, v :: vs, 0, d', h, e => by
    simp at e; subst e
    exact ⟨v, rfl, h.1⟩
  | d :: l, v :: vs, i + 1, d', h, e => by
    obtain ⟨u, h1, h2⟩ := Reps.get (l := l) (vs := vs) (i := i) h.2 (by simpa using e)
    exact ⟨u, by simpa using h1, h2⟩
  | [], vs, _, _, _, e => by simp at e
  | _ :: _, [], _, _, h, _ => h.elim
theorem Reps.getv : ∀ {l : List D} {vs : List V} {i : Nat} {v : V}, Reps G I vs l → vs[i]? = some v → ∃ d, l[i]? = some d ∧ Rep G I v d
  | d :: l, v :: vs, 0, v', h, e => by
    simp at e; subst e
    exact ⟨d, rfl, h.1⟩
  | d :: l, v :: vs, i + 1, d', h, e => by
    obtain ⟨u, h1, h2⟩ := Reps.getv (l := l) (vs := vs) (i := i) h.2 (by simpa using e)
    exact ⟨u, by simpa using h1, h2⟩
  | _, [], _, _, _, e => by simp at e
  | [], _ :: _, _, _, h, _ => h.elim
theorem Reps.app : ∀ {l l' : List D} {vs vs' : List V}, Reps G I vs l → Reps G I vs' l' → Reps G I (vs ++ vs') (l ++ l')
  | [], _, [], _, _, r => r
  | d :: l, _, v :: vs, _, h, r => ⟨h.1, Reps.app h.2 r⟩
  | [], _, _ :: _, _, h, _ => h.elim
  | _ :: _, _, [], _, h, _ => h.elim
theorem Reps.take : ∀ {l : List D} {vs : List V} (n : Nat), Reps G I vs l → Reps G I (vs.take n) (l.take n)
  | [], [], n, _ => by simp; trivial
  | d :: l, v :: vs, 0, h => trivial
  | d :: l, v :: vs, n + 1, h => ⟨h.1, Reps.take n h.2⟩
  | [], _ :: _, _, h => h.elim
  | _ :: _, [], _, h => h.elim
theorem Reps.drop : ∀ {l : List D} {vs : List V} (n : Nat), Reps G I vs l → Reps G I (vs.drop n) (l.drop n)
  | [], [], n, _ => by simp; trivial
  | d :: l, v :: vs, 0, h => h
  | d :: l, v :: vs, n + 1, h => Reps.drop n h.2
  | [], _ :: _, _, h => h.elim
  | _ :: _, [], _, h => h.elim
theorem Reps.rev : ∀ {l : List D} {vs : List V}, Reps G I vs l → Reps G I vs.reverse l.reverse
  | [], [], _ => trivial
  | d :: l, v :: vs, h => by
    rw [List.reverse_cons, List.reverse_cons]
    exact Reps.app (Reps.rev h.2) ⟨h.1, trivial⟩
  | [], _ :: _, h => h.elim
  | _ :: _, [], h => h.elim

mutual
/-- what is owned of a frozen thing: nothing -/
theorem Rep.own : ∀ (d : D) (v : V), Rep G I v d → Own G I H v d []
  | .non, _, h => ⟨rfl, h⟩
  | .bl _, _, h => ⟨rfl, h⟩
  | .int _, _, h => ⟨rfl, h⟩
  | .str _, _, h => ⟨rfl, h⟩
  | .cst _, _, h => ⟨rfl, h⟩
  | .tup _, _, h => ⟨rfl, h⟩
  | .ktp _, _, h => ⟨rfl, h⟩
  | .scr _, _, h => ⟨rfl, h⟩
  | .lst false _, _, h => ⟨rfl, h⟩
  | .lst true _, _, h => by cases h.1
  | .ins false _ _ _, _, h => ⟨rfl, h⟩
  | .ins true _ _ _, _, h => by cases h.1
  | .dk false _ _, _, h => ⟨rfl, h⟩
  | .dk true _ _, _, h => by cases h.1
  | .otp _, _, h => h.elim
  | .dt false _ _, _, h => ⟨rfl, h⟩
  | .dt true _ _, _, h => by cases h.1
end
theorem Reps.owns : ∀ {l : List D} {vs : List V}, Reps G I vs l → Owns G I H vs l []
  | [], [], _ => rfl
  | d :: l, v :: vs, h => ⟨[], [], rfl, Rep.own d v h.1, Reps.owns h.2⟩
  | [], _ :: _, h => h.elim
  | _ :: _, [], h => h.elim
mutual
theorem Rep.frozen : ∀ (d : D) (v : V), Rep G I v d → d.frozen = true
  | .non, _, h => rfl
  | .bl _, _, h => rfl
  | .int _, _, h => rfl
  | .str _, _, h => rfl
  | .cst _, _, h => rfl
  | .tup l, _, ⟨a, ws, e, h, r⟩ => by simp [D.frozen, Reps.frozen l ws r]
  | .ktp l, _, ⟨a, ws, e, h, r⟩ => by simp [D.frozen, Reps.frozen l ws r]
  | .scr l, _, ⟨a, ws, e, h, r⟩ => by simp [D.frozen, Reps.frozen l ws r]
  | .lst _ l, _, ⟨m, a, ws, e, h, r⟩ => by simp [D.frozen, Reps.frozen l ws r, m]
  | .ins _ _ _ l, _, ⟨m, a, dx, ws, e, h, n, r⟩ => by simp [D.frozen, Reps.frozen l ws r, m]
  | .dk _ _ l, _, ⟨m, a, ws, e, h, n, r⟩ => by simp [D.frozen, Reps.frozen l ws r, m]
  | .dt _ _ l, _, ⟨m, a, ws, e, h, n, r⟩ => by simp [D.frozen, Reps.frozen l ws r, m]
  | .otp _, _, h => h.elim
theorem Reps.frozen : ∀ (l : List D) (vs : List V), Reps G I vs l → D.frozens l = true
  | [], [], _ => rfl
  | d :: l, v :: vs, h => by simp [D.frozens, Rep.frozen d v h.1, Reps.frozen l vs h.2]
  | [], _ :: _, h => h.elim
  | _ :: _, [], h => h.elim
end
mutual
/-- a thing without owned parts is frozen -/
theorem Own.rep : ∀ (d : D) (v : V) (F : List Addr), d.frozen = true → Own G I H v d F → F = [] ∧ Rep G I v d
  | .non, _, _, _, h => h
  | .bl _, _, _, _, h => h
  | .int _, _, _, _, h => h
  | .str _, _, _, _, h => h
  | .cst _, _, _, _, h => h
  | .tup _, _, _, _, h => h
  | .ktp _, _, _, _, h => h
  | .scr _, _, _, _, h => h
  | .lst false _, _, _, _, h => h
  | .lst true _, _, _, f, h => by simp [D.frozen] at f
  | .ins false _ _ _, _, _, _, h => h
  | .ins true _ _ _, _, _, f, h => by simp [D.frozen] at f
  | .dk false _ _, _, _, _, h => h
  | .dk true _ _, _, _, f, h => by simp [D.frozen] at f
  | .otp _, _, _, f, _ => by simp [D.frozen] at f
  | .dt false _ _, _, _, _, h => h
  | .dt true _ _, _, _, f, h => by simp [D.frozen] at f
end
theorem Owns.reps : ∀ {l : List D} {vs : List V} {F : List Addr}, D.frozens l = true → Owns G I H vs l F → F = [] ∧ Reps G I vs l
  | [], [], _, _, h => ⟨h, trivial⟩
  | d :: l, v :: vs, F, f, ⟨F1, F2, e, h, r⟩ => by
    simp [D.frozens] at f
    obtain ⟨e1, h1⟩ := Own.rep d v F1 f.1 h
    obtain ⟨e2, h2⟩ := Owns.reps (l := l) f.2 r
    exact ⟨by rw [e, e1, e2]; rfl, h1, h2⟩
  | [], _ :: _, _, _, h => h.elim
  | _ :: _, [], _, _, h => h.elim
mutual
/-- it stays owned where its own objects stay -/
theorem Own.up (s : Same I I') : ∀ (d : D) (v : V) (F : List Addr), (∀ b ∈ F, H' b = H b ∧ I' b = none) → Own G I H v d F → Own G I' H' v d F
  | .non, _, _, _, h => h
  | .bl _, _, _, _, h => h
  | .int _, _, _, _, h => h
  | .str _, _, _, _, h => h
  | .cst _, _, _, _, h => h
  | .tup _, _, _, _, ⟨e, h⟩ => ⟨e, Rep.mono s _ _ h⟩
  | .ktp _, _, _, _, ⟨e, h⟩ => ⟨e, Rep.mono s _ _ h⟩
  | .scr _, _, _, _, ⟨e, h⟩ => ⟨e, Rep.mono s _ _ h⟩
  | .lst false _, _, _, _, ⟨e, h⟩ => ⟨e, Rep.mono s _ _ h⟩
  | .ins false _ _ _, _, _, _, ⟨e, h⟩ => ⟨e, Rep.mono s _ _ h⟩
  | .dk false _ _, _, _, _, ⟨e, h⟩ => ⟨e, Rep.mono s _ _ h⟩
  | .dt false _ _, _, _, _, ⟨e, h⟩ => ⟨e, Rep.mono s _ _ h⟩
  | .lst true l, _, F, k, ⟨a, ws, F', ev, h, i, r, e⟩ => by
    subst e
    have ka := k a List.mem_cons_self
    exact ⟨a, ws, F', ev, ka.1.trans h, ka.2, Owns.up s l ws F' (fun b hb => k b (List.mem_cons_of_mem _ hb)) r, rfl⟩
  | .ins true c ns l, _, F, k, ⟨a, dx, ws, F', ev, h, n, i, r, e⟩ => by
    subst e
    have ka := k a List.mem_cons_self
    exact ⟨a, dx, ws, F', ev, ka.1.trans h, n, ka.2, Owns.up s l ws F' (fun b hb => k b (List.mem_cons_of_mem _ hb)) r, rfl⟩
  | .dk true ks l, _, F, k, ⟨a, ws, F', ev, h, n, i, r, e⟩ => by
    subst e
    have ka := k a List.mem_cons_self
    exact ⟨a, ws, F', ev, ka.1.trans h, n, ka.2, Owns.up s l ws F' (fun b hb => k b (List.mem_cons_of_mem _ hb)) r, rfl⟩
  | .dt true ks l, _, F, k, ⟨a, ws, F', ev, h, n, i, r, e⟩ => by
    subst e
    have ka := k a List.mem_cons_self
    exact ⟨a, ws, F', ev, ka.1.trans h, n, ka.2, Owns.up s l ws F' (fun b hb => k b (List.mem_cons_of_mem _ hb)) r, rfl⟩
  | .otp l, _, F, k, ⟨a, ws, F', ev, h, i, r, e⟩ => by
    subst e
    have ka := k a List.mem_cons_self
    exact ⟨a, ws, F', ev, ka.1.trans h, ka.2, Owns.up s l ws F' (fun b hb => k b (List.mem_cons_of_mem _ hb)) r, rfl⟩
theorem Owns.up (s : Same I I') : ∀ (l : List D) (vs : List V) (F : List Addr), (∀ b ∈ F, H' b = H b ∧ I' b = none) → Owns G I H vs l F → Owns G I' H' vs l F
  | [], [], _, _, h => h
  | d :: l, v :: vs, F, k, ⟨F1, F2, e, h, r⟩ => by
    subst e
    exact ⟨F1, F2, rfl, Own.up s d v F1 (fun b hb => k b (List.mem_append_left _ hb)) h, Owns.up s l vs F2 (fun b hb => k b (List.mem_append_right _ hb)) r⟩
  | [], _ :: _, _, _, h => h.elim
  | _ :: _, [], _, _, h => h.elim
end
mutual
/-- an owned object is tracked, and not frozen -/
theorem Own.dom : ∀ (d : D) (v : V) (F : List Addr), Own G I H v d F → ∀ b ∈ F, (∃ o, H b = some o) ∧ I b = none
  | .non, _, _, h, b, hb => by rw [h.1] at hb; cases hb
  | .bl _, _, _, h, b, hb => by rw [h.1] at hb; cases hb
  | .int _, _, _, h, b, hb => by rw [h.1] at hb; cases hb
  | .str _, _, _, h, b, hb => by rw [h.1] at hb; cases hb
  | .cst _, _, _, h, b, hb => by rw [h.1] at hb; cases hb
  | .tup _, _, _, h, b, hb => by rw [h.1] at hb; cases hb
  | .ktp _, _, _, h, b, hb => by rw [h.1] at hb; cases hb
  | .scr _, _, _, h, b, hb => by rw [h.1] at hb; cases hb
  | .lst false _, _, _, h, b, hb => by rw [h.1] at hb; cases hb
  | .ins false _ _ _, _, _, h, b, hb => by rw [h.1] at hb; cases hb
  | .dk false _ _, _, _, h, b, hb => by rw [h.1] at hb; cases hb
  | .dt false _ _, _, _, h, b, hb => by rw [h.1] at hb; cases hb
  | .lst true l, _, F, ⟨a, ws, F', ev, h, i, r, e⟩, b, hb => by
    subst e
    rcases List.mem_cons.mp hb with z | z
    · rw [z]; exact ⟨⟨_, h⟩, i⟩
    · exact Owns.dom l ws F' r b z
  | .ins true c ns l, _, F, ⟨a, dx, ws, F', ev, h, n, i, r, e⟩, b, hb => by
    subst e
    rcases List.mem_cons.mp hb with z | z
    · rw [z]; exact ⟨⟨_, h⟩, i⟩
    · exact Owns.dom l ws F' r b z
  | .dk true ks l, _, F, ⟨a, ws, F', ev, h, n, i, r, e⟩, b, hb => by
    subst e
    rcases List.mem_cons.mp hb with z | z
    · rw [z]; exact ⟨⟨_, h⟩, i⟩
    · exact Owns.dom l ws F' r b z
  | .dt true ks l, _, F, ⟨a, ws, F', ev, h, n, i, r, e⟩, b, hb => by
    subst e
    rcases List.mem_cons.mp hb with z | z
    · rw [z]; exact ⟨⟨_, h⟩, i⟩
    · exact Owns.dom l ws F' r b z
  | .otp l, _, F, ⟨a, ws, F', ev, h, i, r, e⟩, b, hb => by
    subst e
    rcases List.mem_cons.mp hb with z | z
    · rw [z]; exact ⟨⟨_, h⟩, i⟩
    · exact Owns.dom l ws F' r b z
theorem Owns.dom : ∀ (l : List D) (vs : List V) (F : List Addr), Owns G I H vs l F → ∀ b ∈ F, (∃ o, H b = some o) ∧ I b = none
  | [], [], F, h, b, hb => by
    have h : F = [] := h
    rw [h] at hb; cases hb
  | d :: l, v :: vs, F, ⟨F1, F2, e, h, r⟩, b, hb => by
    subst e
    rcases List.mem_append.mp hb with z | z
    · exact Own.dom d v F1 h b z
    · exact Owns.dom l vs F2 r b z
  | [], _ :: _, _, h, _, _ => h.elim
  | _ :: _, [], _, h, _, _ => h.elim
end
mutual
/-- given up: what was owned is frozen from now on -/
theorem Own.give (s : Same I I') : ∀ (d : D) (v : V) (F : List Addr), (∀ b ∈ F, I' b = H b) → Own G I H v d F → Rep G I' v d.fz
  | .non, _, _, _, h => h.2
  | .bl _, _, _, _, h => h.2
  | .int _, _, _, _, h => h.2
  | .str _, _, _, _, h => h.2
  | .cst _, _, _, _, h => h.2
  | .tup l, v, _, k, ⟨e, a, ws, ev, h, r⟩ => ⟨a, ws, ev, s _ _ h, by rw [Reps.fz l ws r]; exact Reps.mono s l ws r⟩
  | .ktp l, v, _, k, ⟨e, a, ws, ev, h, r⟩ => ⟨a, ws, ev, SqT.same s h, by rw [Reps.fz l ws r]; exact Reps.mono s l ws r⟩
  | .scr l, v, _, k, ⟨e, a, ws, ev, h, r⟩ => ⟨a, ws, ev, Same.seq s h, by rw [Reps.fz l ws r]; exact Reps.mono s l ws r⟩
  | .lst false l, v, _, k, ⟨e, m, a, ws, ev, h, r⟩ => ⟨rfl, a, ws, ev, s _ _ h, by rw [Reps.fz l ws r]; exact Reps.mono s l ws r⟩
  | .ins false c ns l, v, _, k, ⟨e, m, a, dx, ws, ev, h, n, r⟩ => ⟨rfl, a, dx, ws, ev, s _ _ h, n, by rw [Reps.fz l ws r]; exact Reps.mono s l ws r⟩
  | .dk false ks l, v, _, k, ⟨e, m, a, ws, ev, h, n, r⟩ => ⟨rfl, a, ws, ev, s _ _ h, n, by rw [Reps.fz l ws r]; exact Reps.mono s l ws r⟩
  | .dt false ks l, v, _, k, ⟨e, m, a, ws, ev, h, n, r⟩ => ⟨rfl, a, ws, ev, s _ _ h, n, by rw [Reps.fz l ws r]; exact Reps.mono s l ws r⟩
  | .lst true l, v, F, k, ⟨a, ws, F', ev, h, i, r, e⟩ => by
    subst e
    exact ⟨rfl, a, ws, ev, (k a List.mem_cons_self).trans h, Owns.give s l ws F' (fun b hb => k b (List.mem_cons_of_mem _ hb)) r⟩
  | .ins true c ns l, v, F, k, ⟨a, dx, ws, F', ev, h, n, i, r, e⟩ => by
    subst e
    exact ⟨rfl, a, dx, ws, ev, (k a List.mem_cons_self).trans h, n, Owns.give s l ws F' (fun b hb => k b (List.mem_cons_of_mem _ hb)) r⟩
  | .dk true ks l, v, F, k, ⟨a, ws, F', ev, h, n, i, r, e⟩ => by
    subst e
    exact ⟨rfl, a, ws, ev, (k a List.mem_cons_self).trans h, n, Owns.give s l ws F' (fun b hb => k b (List.mem_cons_of_mem _ hb)) r⟩
  | .dt true ks l, v, F, k, ⟨a, ws, F', ev, h, n, i, r, e⟩ => by
    subst e
    exact ⟨rfl, a, ws, ev, (k a List.mem_cons_self).trans h, n, Owns.give s l ws F' (fun b hb => k b (List.mem_cons_of_mem _ hb)) r⟩
  | .otp l, v, F, k, ⟨a, ws, F', ev, h, i, r, e⟩ => by
    subst e
    exact ⟨a, ws, ev, (k a List.mem_cons_self).trans h, Owns.give s l ws F' (fun b hb => k b (List.mem_cons_of_mem _ hb)) r⟩
theorem Owns.give (s : Same I I') : ∀ (l : List D) (vs : List V) (F : List Addr), (∀ b ∈ F, I' b = H b) → Owns G I H vs l F → Reps G I' vs (D.fzs l)
  | [], [], _, _, h => trivial
  | d :: l, v :: vs, F, k, ⟨F1, F2, e, h, r⟩ => by
    subst e
    exact ⟨Own.give s d v F1 (fun b hb => k b (List.mem_append_left _ hb)) h, Owns.give s l vs F2 (fun b hb => k b (List.mem_append_right _ hb)) r⟩
  | [], _ :: _, _, _, h => h.elim
  | _ :: _, [], _, _, h => h.elim
theorem Rep.fz : ∀ (d : D) (v : V), Rep G I v d → d.fz = d
  | .non, _, h => rfl
  | .bl _, _, h => rfl
  | .int _, _, h => rfl
  | .str _, _, h => rfl
  | .cst _, _, h => rfl
  | .tup l, _, ⟨a, ws, e, h, r⟩ => by simp [D.fz, Reps.fz l ws r]
  | .ktp l, _, ⟨a, ws, e, h, r⟩ => by simp [D.fz, Reps.fz l ws r]
  | .scr l, _, ⟨a, ws, e, h, r⟩ => by simp [D.fz, Reps.fz l ws r]
  | .lst _ l, _, ⟨m, a, ws, e, h, r⟩ => by simp [D.fz, Reps.fz l ws r, m]
  | .ins _ _ _ l, _, ⟨m, a, dx, ws, e, h, n, r⟩ => by simp [D.fz, Reps.fz l ws r, m]
  | .dk _ _ l, _, ⟨m, a, ws, e, h, n, r⟩ => by simp [D.fz, Reps.fz l ws r, m]
  | .dt _ _ l, _, ⟨m, a, ws, e, h, n, r⟩ => by simp [D.fz, Reps.fz l ws r, m]
  | .otp _, _, h => h.elim
theorem Reps.fz : ∀ (l : List D) (vs : List V), Reps G I vs l → D.fzs l = l
  | [], [], _ => rfl
  | d :: l, v :: vs, h => by simp [D.fzs, Rep.fz d v h.1, Reps.fz l vs h.2]
  | [], _ :: _, h => h.elim
  | _ :: _, [], h => h.elim
end
end
end VL
namespace VL
open PySem PySem.Spec L2
open PyProof.Rows hiding St
section
set_option Elab.async false
set_option linter.all false
set_option maxRecDepth 100000
set_option maxHeartbeats 1000000
/-! ### the state of a frame -/
/-- a def's entry: the heap, what is frozen, what is lent to it (its objects; the slots that hold them) -/
structure Zx where
  H0 : Hp
  I0 : Hp
  L : List Addr
  pv : List (Option V)
abbrev VEnv := List (Option D)
def Fresh (z : Zx) (F : List Addr) : Prop := ∀ b ∈ F, z.H0 b = none
def OwnT (G : Gx) (z : Zx) (I H : Hp) : List V → List D → List Addr → Prop
  | [], [], F => F = []
  | v :: vs, d :: ds, F => ∃ F1 F2, F = F1 ++ F2 ∧ Own G I H v d F1 ∧ Fresh z F1 ∧ OwnT G z I H vs ds F2
  | [], _ :: _, _ => False
  | _ :: _, [], _ => False
def SlotO (G : Gx) (z : Zx) (I H : Hp) (p x : Option V) (d : Option D) (F : List Addr) : Prop :=
  (∀ v, p = some v → x = some v) ∧ match d with
    | none => F = []
    | some d => ∃ v, x = some v ∧ Own G I H v d F ∧ (p = none → Fresh z F)
def OwnS (G : Gx) (z : Zx) (I H : Hp) : List (Option V) → List (Option V) → VEnv → List Addr → Prop
  | [], [], [], F => F = []
  | p :: ps, x :: xs, d :: ds, F => ∃ F1 F2, F = F1 ++ F2 ∧ SlotO G z I H p x d F1 ∧ OwnS G z I H ps xs ds F2
  | _, _, _, _ => False
structure Stt (G : Gx) (z : Zx) (I H : Hp) (ts : List V) (dts : List D) (σ : St) (env : VEnv) (FT FS : List Addr) : Prop where
  oT : OwnT G z I H ts dts FT
  oS : OwnS G z I H z.pv σ env FS
  nd : (FT ++ FS).Nodup
  sub : Same I H
  i0 : Same z.I0 I
  ifr : ∀ b o, I b = some o → z.I0 b = none → z.H0 b = none ∨ b ∈ z.L
  fS : ∀ b ∈ FS, z.H0 b = none ∨ b ∈ z.L
  frame : ∀ b o, z.H0 b = some o → b ∉ z.L → H b = some o
  dom : ∀ b o, z.H0 b = some o → ∃ o', H b = some o'

section
variable {G : Gx} {z : Zx} {I I' H H' : Hp} {ts : List V} {dts : List D} {σ : St} {env : VEnv} {FT FS F : List Addr}

theorem OwnT.len : ∀ {ts : List V} {dts : List D} {F}, OwnT G z I H ts dts F → ts.length = dts.length
  | [], [], _, _ => rfl
  | v :: vs, d :: ds, _, ⟨_, _, _, _, _, h⟩ => by simp [OwnT.len h]
  | [], _ :: _, _, h => h.elim
  | _ :: _, [], _, h => h.elim
theorem OwnS.len : ∀ {ps : List (Option V)} {σ : List (Option V)} {env : VEnv} {F}, OwnS G z I H ps σ env F → σ.length = ps.length ∧ env.length = ps.length
  | [], [], [], _, _ => ⟨rfl, rfl⟩
  | p :: ps, v :: vs, d :: ds, _, ⟨_, _, _, _, h⟩ => by simp [OwnS.len h]
  | [], [], _ :: _, _, h => h.elim
  | [], _ :: _, [], _, h => h.elim
  | [], _ :: _, _ :: _, _, h => h.elim
  | _ :: _, [], [], _, h => h.elim
  | _ :: _, [], _ :: _, _, h => h.elim
  | _ :: _, _ :: _, [], _, h => h.elim
theorem OwnT.up (s : Same I I') : ∀ {ts : List V} {dts : List D} {F : List Addr}, (∀ b ∈ F, H' b = H b ∧ I' b = none) → OwnT G z I H ts dts F → OwnT G z I' H' ts dts F
  | [], [], _, _, h => h
  | v :: vs, d :: ds, F, k, ⟨F1, F2, e, h, f, r⟩ => by
    subst e
    exact ⟨F1, F2, rfl, Own.up s d v F1 (fun b hb => k b (List.mem_append_left _ hb)) h, f, OwnT.up s (fun b hb => k b (List.mem_append_right _ hb)) r⟩
  | [], _ :: _, _, _, h => h.elim
  | _ :: _, [], _, _, h => h.elim
theorem SlotO.up (s : Same I I') {p x : Option V} {d : Option D} {F : List Addr} (k : ∀ b ∈ F, H' b = H b ∧ I' b = none) (h : SlotO G z I H p x d F) : SlotO G z I' H' p x d F := by
  refine ⟨h.1, ?_⟩
  have h2 := h.2
  cases d with
  | none => exact h2
  | some d =>
    obtain ⟨v, e, o, f⟩ := h2
    exact ⟨v, e, Own.up s d v F k o, f⟩
theorem OwnS.up (s : Same I I') : ∀ {ps : List (Option V)} {σ : List (Option V)} {env : VEnv} {F : List Addr}, (∀ b ∈ F, H' b = H b ∧ I' b = none) → OwnS G z I H ps σ env F → OwnS G z I' H' ps σ env F
  | [], [], [], _, _, h => h
  | p :: ps, v :: vs, d :: ds, F, k, ⟨F1, F2, e, h, r⟩ => by
    subst e
    exact ⟨F1, F2, rfl, h.up s (fun b hb => k b (List.mem_append_left _ hb)), OwnS.up s (fun b hb => k b (List.mem_append_right _ hb)) r⟩
  | [], [], _ :: _, _, _, h => h.elim
  | [], _ :: _, [], _, _, h => h.elim
  | [], _ :: _, _ :: _, _, _, h => h.elim
  | _ :: _, [], [], _, _, h => h.elim
  | _ :: _, [], _ :: _, _, _, h => h.elim
  | _ :: _, _ :: _, [], _, _, h => h.elim
theorem OwnT.dom : ∀ {ts : List V} {dts : List D} {F : List Addr}, OwnT G z I H ts dts F → ∀ b ∈ F, (∃ o, H b = some o) ∧ I b = none ∧ z.H0 b = none
  | [], [], F, h, b, hb => by
    have h : F = [] := h
    rw [h] at hb; cases hb
  | v :: vs, d :: ds, F, ⟨F1, F2, e, h, f, r⟩, b, hb => by
    subst e
    rcases List.mem_append.mp hb with q | q
    · exact ⟨(Own.dom d v F1 h b q).1, (Own.dom d v F1 h b q).2, f b q⟩
    · exact OwnT.dom r b q
  | [], _ :: _, _, h, _, _ => h.elim
  | _ :: _, [], _, h, _, _ => h.elim
theorem SlotO.dom {p x : Option V} {d : Option D} {F : List Addr} (h : SlotO G z I H p x d F) : ∀ b ∈ F, (∃ o, H b = some o) ∧ I b = none := by
  intro b hb
  have h2 := h.2
  cases d with
  | none =>
    have h2 : F = [] := h2
    rw [h2] at hb; cases hb
  | some d =>
    obtain ⟨v, e, o, f⟩ := h2
    exact Own.dom d v F o b hb
theorem OwnS.dom : ∀ {ps : List (Option V)} {σ : List (Option V)} {env : VEnv} {F : List Addr}, OwnS G z I H ps σ env F → ∀ b ∈ F, (∃ o, H b = some o) ∧ I b = none
  | [], [], [], F, h, b, hb => by
    have h : F = [] := h
    rw [h] at hb; cases hb
  | p :: ps, v :: vs, d :: ds, F, ⟨F1, F2, e, h, r⟩, b, hb => by
    subst e
    rcases List.mem_append.mp hb with q | q
    · exact h.dom b q
    · exact OwnS.dom r b q
  | [], [], _ :: _, _, h, _, _ => h.elim
  | [], _ :: _, [], _, h, _, _ => h.elim
  | [], _ :: _, _ :: _, _, h, _, _ => h.elim
  | _ :: _, [], [], _, h, _, _ => h.elim
  | _ :: _, [], _ :: _, _, h, _, _ => h.elim
  | _ :: _, _ :: _, [], _, h, _, _ => h.elim

/-- slot k taken out of the whole -/
theorem OwnS.hole : ∀ {ps : List (Option V)} {σ : List (Option V)} {env : VEnv} {F : List Addr} {k : Nat} {d : D}, OwnS G z I H ps σ env F → env[k]? = some (some d) →
    ∃ v p Fk Fr, ps[k]? = some p ∧ σ[k]? = some (some v) ∧ (∀ u, p = some u → v = u) ∧ Own G I H v d Fk ∧ (p = none → Fresh z Fk) ∧ F.Perm (Fk ++ Fr) ∧ OwnS G z I H ps σ (env.set k none) Fr
  | p :: ps, x :: xs, d' :: ds, F, 0, d, ⟨F1, F2, e, h, r⟩, hk => by
    simp at hk
    subst hk
    obtain ⟨h1, v, e1, o, f⟩ := h
    subst e1
    refine ⟨v, p, F1, F2, rfl, rfl, fun u hu => Option.some.inj (h1 u hu), o, f, by rw [e], [], F2, rfl, ⟨h1, rfl⟩, r⟩
  | p :: ps, x :: xs, d' :: ds, F, k + 1, d, ⟨F1, F2, e, h, r⟩, hk => by
    obtain ⟨v, p', Fk, Fr, a1, a2, a3, a4, a5, a6, a7⟩ := OwnS.hole (k := k) (d := d) r (by simpa using hk)
    refine ⟨v, p', Fk, F1 ++ Fr, by simpa using a1, by simpa using a2, a3, a4, a5, ?_, F1, Fr, rfl, h, a7⟩
    rw [e]
    calc F1 ++ F2 |>.Perm (F1 ++ (Fk ++ Fr)) := List.Perm.append_left _ a6
      _ |>.Perm (Fk ++ (F1 ++ Fr)) := by
        rw [← List.append_assoc, ← List.append_assoc]
        exact List.Perm.append_right _ List.perm_append_comm
  | [], [], [], _, _, _, _, hk => by simp at hk
  | [], [], _ :: _, _, _, _, h, _ => h.elim
  | [], _ :: _, [], _, _, _, h, _ => h.elim
  | [], _ :: _, _ :: _, _, _, _, h, _ => h.elim
  | _ :: _, [], [], _, _, _, h, _ => h.elim
  | _ :: _, [], _ :: _, _, _, _, h, _ => h.elim
  | _ :: _, _ :: _, [], _, _, _, h, _ => h.elim
/-- slot k filled, where nothing is told of it -/
theorem OwnS.fill : ∀ {ps : List (Option V)} {σ : List (Option V)} {env : VEnv} {F : List Addr} {k : Nat} {p x : Option V} {d : Option D} {Fk : List Addr}, OwnS G z I H ps σ env F → env[k]? = some none → ps[k]? = some p → SlotO G z I H p x d Fk →
    ∃ F', F'.Perm (Fk ++ F) ∧ OwnS G z I H ps (σ.set k x) (env.set k d) F'
  | p :: ps, x :: xs, d' :: ds, F, 0, p', x', d, Fk, ⟨F1, F2, e, h, r⟩, hk, hp, hs => by
    simp at hk hp
    subst hk hp
    have e1 : F1 = [] := h.2
    subst e1
    exact ⟨Fk ++ F2, by rw [e]; exact List.Perm.refl _, Fk, F2, rfl, hs, r⟩
  | p :: ps, x :: xs, d' :: ds, F, k + 1, p', x', d, Fk, ⟨F1, F2, e, h, r⟩, hk, hp, hs => by
    obtain ⟨F', pm, o⟩ := OwnS.fill (k := k) r (by simpa using hk) (by simpa using hp) hs
    refine ⟨F1 ++ F', ?_, F1, F', rfl, h, o⟩
    rw [e]
    calc F1 ++ F' |>.Perm (F1 ++ (Fk ++ F2)) := List.Perm.append_left _ pm
      _ |>.Perm (Fk ++ (F1 ++ F2)) := by
        rw [← List.append_assoc, ← List.append_assoc]
        exact List.Perm.append_right _ List.perm_append_comm
  | [], [], [], _, _, _, _, _, _, _, hk, _, _ => by simp at hk
  | [], [], _ :: _, _, _, _, _, _, _, h, _, _, _ => h.elim
  | [], _ :: _, [], _, _, _, _, _, _, h, _, _, _ => h.elim
  | [], _ :: _, _ :: _, _, _, _, _, _, _, h, _, _, _ => h.elim
  | _ :: _, [], [], _, _, _, _, _, _, h, _, _, _ => h.elim
  | _ :: _, [], _ :: _, _, _, _, _, _, _, h, _, _, _ => h.elim
  | _ :: _, _ :: _, [], _, _, _, _, _, _, h, _, _, _ => h.elim
theorem set_same_of {α : Type} {l : List α} {k : Nat} {a : α} (h : l[k]? = some a) : l.set k a = l := by
  apply List.ext_getElem?
  intro i
  rw [List.getElem?_set]
  by_cases e : k = i
  · subst e
    obtain ⟨h1, h2⟩ := List.getElem?_eq_some_iff.mp h
    simp [h1, h2]
  · simp [e]
/-- a slot is forgotten -/
theorem OwnS.drop : ∀ {ps : List (Option V)} {σ : List (Option V)} {env : VEnv} {F : List Addr} (k : Nat), OwnS G z I H ps σ env F → ∃ Fk Fr, F.Perm (Fk ++ Fr) ∧ OwnS G z I H ps σ (env.set k none) Fr := fun {ps σ env F} k h => by
  cases e : env[k]? with
  | none =>
    refine ⟨[], F, List.Perm.refl _, ?_⟩
    rw [List.set_eq_of_length_le (List.getElem?_eq_none_iff.mp e)]
    exact h
  | some d =>
    cases d with
    | none =>
      refine ⟨[], F, List.Perm.refl _, ?_⟩
      rw [set_same_of e]
      exact h
    | some d =>
      obtain ⟨v, p, Fk, Fr, _, _, _, _, _, a6, a7⟩ := OwnS.hole h e
      exact ⟨Fk, Fr, a6, a7⟩

/-- the whole goes on where only objects of A were changed, A being no one's here -/
theorem Stt.go (S : Stt G z I H ts dts σ env FT FS) (A : List Addr) (s : Same I I') (s' : Same I' H') (k : ∀ b ∈ FT ++ FS, H' b = H b ∧ I' b = none)
    (fr : ∀ b o, I' b = some o → I b = none → z.H0 b = none ∨ b ∈ z.L) (hA : ∀ b ∈ A, z.H0 b = none ∨ b ∈ z.L) (ke : ∀ b o, H b = some o → b ∉ A → H' b = some o) (dm : ∀ b o, H b = some o → ∃ o', H' b = some o') :
    Stt G z I' H' ts dts σ env FT FS where
  oT := S.oT.up s fun b hb => k b (List.mem_append_left _ hb)
  oS := S.oS.up s fun b hb => k b (List.mem_append_right _ hb)
  nd := S.nd
  sub := s'
  i0 := S.i0.trans s
  ifr := fun b o e n => by
    cases q : I b with
    | none => exact fr b o e q
    | some u => exact S.ifr b u q n
  fS := S.fS
  frame := fun b o e n => ke b o (S.frame b o e n) fun hb => (hA b hb).elim (fun q => by rw [q] at e; cases e) n
  dom := fun b o e => let ⟨o', q⟩ := S.dom b o e; dm b o' q
theorem Stt.new (S : Stt G z I H ts dts σ env FT FS) {p : Addr} (hp : H p = none) : z.H0 p = none ∧ I p = none ∧ p ∉ FT ++ FS := by
  refine ⟨?_, S.sub.free hp, fun hm => ?_⟩
  · cases q : z.H0 p with
    | none => rfl
    | some o =>
      obtain ⟨o', e⟩ := S.dom p o q
      rw [hp] at e; cases e
  · rcases List.mem_append.mp hm with q | q
    · obtain ⟨⟨o, e⟩, _⟩ := S.oT.dom p q
      rw [hp] at e; cases e
    · obtain ⟨⟨o, e⟩, _⟩ := S.oS.dom p q
      rw [hp] at e; cases e
theorem same_upd {H : Hp} {p : Addr} {o : HO} (h : H p = none) : Same H (upd H p o) := fun b x e => by
  rw [upd_ne (ne_of_none e h)]
  exact e
theorem same_upd2 {I H : Hp} {p : Addr} {o : HO} (s : Same I H) : Same (upd I p o) (upd H p o) := fun b x e => by
  by_cases q : b = p
  · subst q; rw [upd_same] at e ⊢; exact e
  · rw [upd_ne q] at e ⊢; exact s b x e
/-- a new object, frozen at once -/
theorem Stt.newI (S : Stt G z I H ts dts σ env FT FS) {p : Addr} (hp : H p = none) (o : HO) : Stt G z (upd I p o) (upd H p o) ts dts σ env FT FS := by
  obtain ⟨n0, nI, nF⟩ := S.new hp
  refine S.go [] (same_upd nI) (same_upd2 S.sub) (fun b hb => ?_) (fun b u e n => ?_) (fun b hb => nomatch hb) (fun b u e _ => same_upd hp b u e) fun b u e => ⟨u, same_upd hp b u e⟩
  · have ne : b ≠ p := fun e => nF (e ▸ hb)
    refine ⟨upd_ne ne, ?_⟩
    rw [upd_ne ne]
    rcases List.mem_append.mp hb with q | q
    · exact (S.oT.dom b q).2.1
    · exact (S.oS.dom b q).2
  · by_cases q : b = p
    · rw [q]; exact .inl n0
    · rw [upd_ne q] at e; rw [n] at e; cases e
/-- a new object, nobody's yet -/
theorem Stt.newH (S : Stt G z I H ts dts σ env FT FS) {p : Addr} (hp : H p = none) (o : HO) : Stt G z I (upd H p o) ts dts σ env FT FS := by
  obtain ⟨n0, nI, nF⟩ := S.new hp
  refine S.go [] (Same.refl _) (S.sub.trans (same_upd hp)) (fun b hb => ?_) (fun b u e n => ?_) (fun b hb => nomatch hb) (fun b u e _ => same_upd hp b u e) fun b u e => ⟨u, same_upd hp b u e⟩
  · have ne : b ≠ p := fun e => nF (e ▸ hb)
    refine ⟨upd_ne ne, ?_⟩
    rcases List.mem_append.mp hb with q | q
    · exact (S.oT.dom b q).2.1
    · exact (S.oS.dom b q).2
  · rw [n] at e; cases e
/-- a temporary value is laid on top -/
theorem Stt.push (S : Stt G z I H ts dts σ env FT FS) {v : V} {d : D} {F : List Addr} (h : Own G I H v d F) (f : Fresh z F) (nd : (F ++ (FT ++ FS)).Nodup) : Stt G z I H (v :: ts) (d :: dts) σ env (F ++ FT) FS :=
  ⟨⟨F, FT, rfl, h, f, S.oT⟩, S.oS, by rw [List.append_assoc]; exact nd, S.sub, S.i0, S.ifr, S.fS, S.frame, S.dom⟩
theorem Stt.pushR (S : Stt G z I H ts dts σ env FT FS) {v : V} {d : D} (h : Rep G I v d) : Stt G z I H (v :: ts) (d :: dts) σ env FT FS :=
  S.push (F := []) (Rep.own d v h) (fun b hb => nomatch hb) S.nd
theorem Stt.pop {v : V} {d : D} (S : Stt G z I H (v :: ts) (d :: dts) σ env FT FS) : ∃ F1 F2, FT = F1 ++ F2 ∧ Own G I H v d F1 ∧ Fresh z F1 ∧ Stt G z I H ts dts σ env F2 FS := by
  obtain ⟨F1, F2, e, h, f, r⟩ := S.oT
  subst e
  refine ⟨F1, F2, rfl, h, f, r, S.oS, ?_, S.sub, S.i0, S.ifr, S.fS, S.frame, S.dom⟩
  have nd := S.nd
  rw [List.append_assoc] at nd
  exact (List.nodup_append.mp nd).2.1
theorem Stt.popR {v : V} {d : D} (S : Stt G z I H (v :: ts) (d :: dts) σ env FT FS) (f : d.frozen = true) : Rep G I v d ∧ Stt G z I H ts dts σ env FT FS := by
  obtain ⟨F1, F2, e, h, _, r⟩ := S.pop
  obtain ⟨e1, h1⟩ := Own.rep d v F1 f h
  subst e1
  exact ⟨h1, by rw [e]; exact r⟩
/-- the objects of F are given up -/
def frz (F : List Addr) (I H : Hp) : Hp := fun b => if b ∈ F then H b else I b
theorem frz_in {F : List Addr} {b : Addr} (h : b ∈ F) : frz F I H b = H b := if_pos h
theorem frz_out {F : List Addr} {b : Addr} (h : b ∉ F) : frz F I H b = I b := if_neg h
theorem Stt.give (S : Stt G z I H ts dts σ env FT FS) {F : List Addr} (hI : ∀ b ∈ F, I b = none) (hf : Fresh z F) (hd : ∀ b ∈ F, b ∉ FT ++ FS) : Same I (frz F I H) ∧ Stt G z (frz F I H) H ts dts σ env FT FS := by
  have s : Same I (frz F I H) := fun b o e => by
    by_cases q : b ∈ F
    · rw [hI b q] at e; cases e
    · rw [frz_out q]; exact e
  refine ⟨s, S.go [] s (fun b o e => ?_) (fun b hb => ⟨rfl, ?_⟩) (fun b o e n => ?_) (fun b hb => nomatch hb) (fun b o e _ => e) fun b o e => ⟨o, e⟩⟩
  · by_cases q : b ∈ F
    · rw [frz_in q] at e; exact e
    · rw [frz_out q] at e; exact S.sub b o e
  · have q : b ∉ F := fun q => hd b q hb
    rw [frz_out q]
    rcases List.mem_append.mp hb with w | w
    · exact (S.oT.dom b w).2.1
    · exact (S.oS.dom b w).2
  · by_cases q : b ∈ F
    · exact .inl (hf b q)
    · rw [frz_out q, n] at e; cases e
theorem nodup_disj {F A : List Addr} (h : (F ++ A).Nodup) : ∀ b ∈ F, b ∉ A := fun b hb ha => by
  exact (List.nodup_append.mp h).2.2 b hb b ha rfl
/-- the value on top is given up -/
theorem Stt.giveTop {v : V} {d : D} (S : Stt G z I H (v :: ts) (d :: dts) σ env FT FS) : ∃ I' F2, Same I I' ∧ Rep G I' v d.fz ∧ Stt G z I' H ts dts σ env F2 FS := by
  have nd := S.nd
  obtain ⟨F1, F2, e, h, f, r⟩ := S.pop
  subst e
  rw [List.append_assoc] at nd
  obtain ⟨s, S'⟩ := r.give (F := F1) (fun b hb => (Own.dom d v F1 h b hb).2) f (nodup_disj nd)
  exact ⟨_, F2, s, Own.give s d v F1 (fun b hb => frz_in hb) h, S'⟩
/-- what slot k holds -/
theorem Stt.slot (S : Stt G z I H ts dts σ env FT FS) {k : Nat} {d : D} (hk : env[k]? = some (some d)) : ∃ v F, σ[k]? = some (some v) ∧ Own G I H v d F := by
  obtain ⟨v, p, Fk, Fr, _, a2, _, a4, _⟩ := OwnS.hole S.oS hk
  exact ⟨v, Fk, a2, a4⟩
/-- slot k taken out -/
theorem Stt.hole (S : Stt G z I H ts dts σ env FT FS) {k : Nat} {d : D} (hk : env[k]? = some (some d)) :
    ∃ v p Fk Fr, z.pv[k]? = some p ∧ σ[k]? = some (some v) ∧ (∀ u, p = some u → v = u) ∧ Own G I H v d Fk ∧ (p = none → Fresh z Fk) ∧ FS.Perm (Fk ++ Fr) ∧ (Fk ++ (FT ++ Fr)).Nodup ∧ (∀ b ∈ Fk, z.H0 b = none ∨ b ∈ z.L) ∧ Stt G z I H ts dts σ (env.set k none) FT Fr := by
  obtain ⟨v, p, Fk, Fr, a1, a2, a3, a4, a5, a6, a7⟩ := OwnS.hole S.oS hk
  have nd1 : (FT ++ (Fk ++ Fr)).Nodup := (List.Perm.nodup_iff (List.Perm.append_left _ a6)).mp S.nd
  have pm : (FT ++ (Fk ++ Fr)).Perm (Fk ++ (FT ++ Fr)) := by
    rw [← List.append_assoc, ← List.append_assoc]
    exact List.Perm.append_right _ List.perm_append_comm
  have nd2 : (Fk ++ (FT ++ Fr)).Nodup := (List.Perm.nodup_iff pm).mp nd1
  refine ⟨v, p, Fk, Fr, a1, a2, a3, a4, a5, a6, nd2, fun b hb => S.fS b (a6.mem_iff.mpr (List.mem_append_left _ hb)), S.oT, a7, (List.nodup_append.mp nd2).2.1, S.sub, S.i0, S.ifr, fun b hb => S.fS b (a6.mem_iff.mpr (List.mem_append_right _ hb)), S.frame, S.dom⟩
/-- slot k filled -/
theorem Stt.fill (S : Stt G z I H ts dts σ env FT FS) {k : Nat} {p x : Option V} {d : Option D} {Fk : List Addr} (hk : env[k]? = some none) (hp : z.pv[k]? = some p) (h : SlotO G z I H p x d Fk) (nd : (Fk ++ (FT ++ FS)).Nodup) (hf : ∀ b ∈ Fk, z.H0 b = none ∨ b ∈ z.L) :
    ∃ F', Stt G z I H ts dts (σ.set k x) (env.set k d) FT F' := by
  obtain ⟨F', pm, o⟩ := OwnS.fill S.oS hk hp h
  refine ⟨F', S.oT, o, ?_, S.sub, S.i0, S.ifr, fun b hb => ?_, S.frame, S.dom⟩
  · have pm2 : (FT ++ F').Perm (Fk ++ (FT ++ FS)) := by
      calc FT ++ F' |>.Perm (FT ++ (Fk ++ FS)) := List.Perm.append_left _ pm
        _ |>.Perm (Fk ++ (FT ++ FS)) := by
          rw [← List.append_assoc, ← List.append_assoc]
          exact List.Perm.append_right _ List.perm_append_comm
    exact (List.Perm.nodup_iff pm2).mpr nd
  · rcases List.mem_append.mp (pm.mem_iff.mp hb) with q | q
    · exact hf b q
    · exact S.fS b q
theorem Stt.lenS (S : Stt G z I H ts dts σ env FT FS) : σ.length = z.pv.length ∧ env.length = z.pv.length := S.oS.len
/-- slot k forgotten -/
theorem Stt.forget (S : Stt G z I H ts dts σ env FT FS) (k : Nat) : ∃ F', Stt G z I H ts dts σ (env.set k none) FT F' := by
  obtain ⟨Fk, Fr, pm, o⟩ := OwnS.drop k S.oS
  refine ⟨Fr, S.oT, o, ?_, S.sub, S.i0, S.ifr, fun b hb => S.fS b (pm.mem_iff.mpr (List.mem_append_right _ hb)), S.frame, S.dom⟩
  have nd1 : (FT ++ (Fk ++ Fr)).Nodup := (List.Perm.nodup_iff (List.Perm.append_left _ pm)).mp S.nd
  refine nd1.sublist (List.Sublist.append (List.Sublist.refl _) (List.sublist_append_right _ _))
/-- the value on top goes into slot k, which is not lent -/
theorem Stt.store {v : V} {d : D} (S : Stt G z I H (v :: ts) (d :: dts) σ env FT FS) {k : Nat} (hp : z.pv[k]? = some none) : ∃ FT' FS', Stt G z I H ts dts (σ.set k (some v)) (env.set k (some d)) FT' FS' := by
  obtain ⟨F0, S1⟩ := S.forget k
  have nd := S1.nd
  obtain ⟨F1, F2, e, h, f, r⟩ := S1.pop
  subst e
  rw [List.append_assoc] at nd
  have hk : (env.set k none)[k]? = some none := by
    have : k < env.length := by rw [S.lenS.2]; exact (List.getElem?_eq_some_iff.mp hp).1
    simp [this]
  obtain ⟨F', S2⟩ := r.fill (x := some v) (d := some d) hk hp ⟨fun u hu => (nomatch hu), v, rfl, h, fun _ => f⟩ nd fun b hb => .inl (f b hb)
  rw [List.set_set] at S2
  exact ⟨F2, F', S2⟩
/-- slot k, not lent, is given up where it stands -/
theorem Stt.giveSlot (S : Stt G z I H ts dts σ env FT FS) {k : Nat} {d : D} (hk : env[k]? = some (some d)) (hp : z.pv[k]? = some none) : ∃ v I' F', Same I I' ∧ σ[k]? = some (some v) ∧ Rep G I' v d.fz ∧ Stt G z I' H ts dts σ (env.set k (some d.fz)) FT F' := by
  obtain ⟨v, p, Fk, Fr, b1, b2, b3, b4, b5, b6, b7, b8, S1⟩ := S.hole hk
  rw [hp] at b1
  have ep : none = p := Option.some.inj b1
  subst ep
  obtain ⟨s, S2⟩ := S1.give (F := Fk) (fun b hb => (Own.dom d v Fk b4 b hb).2) (b5 rfl) (nodup_disj b7)
  have rv := Own.give s d v Fk (fun b hb => frz_in hb) b4
  have hk2 : (env.set k none)[k]? = some none := by
    have : k < env.length := (List.getElem?_eq_some_iff.mp hk).1
    simp [this]
  obtain ⟨F', S3⟩ := S2.fill (x := some v) (d := some d.fz) (Fk := []) hk2 hp ⟨fun u hu => (nomatch hu), v, rfl, Rep.own _ _ rv, fun _ b hb => nomatch hb⟩ S2.nd (fun b hb => nomatch hb)
  rw [List.set_set, set_same_of b2] at S3
  exact ⟨v, _, F', s, b2, rv, S3⟩
theorem Stt.cast (S : Stt G z I H ts dts σ env FT FS) {ts' dts' σ' env' FT' FS'} (h1 : ts = ts' := by rfl) (h2 : dts = dts' := by rfl) (h3 : σ = σ' := by rfl) (h4 : env = env' := by rfl) (h5 : FT = FT' := by rfl) (h6 : FS = FS' := by rfl) : Stt G z I H ts' dts' σ' env' FT' FS' := by
  subst h1 h2 h3 h4 h5 h6; exact S
end
end
section
set_option Elab.async false
set_option linter.all false
set_option maxRecDepth 100000
set_option maxHeartbeats 1000000
/-! ### readings -/
inductive Res (α : Type) where
  | ok (a : α) (e : VEnv)
  | exc (c : Str) (x : Option (Str × D)) (e : VEnv)
abbrev M (α : Type) := VEnv → Option (Res α)
def M.ret {α : Type} (a : α) : M α := fun e => some (.ok a e)
def M.bnd {α β : Type} (m : M α) (k : α → M β) : M β := fun e => match m e with
  | some (.ok a e') => k a e'
  | some (.exc c x e') => some (.exc c x e')
  | none => none
/-- the flow behind a statement -/
inductive Fl where
  | nx | bk | ct | rt (d : D)

/-- an exception's own field -/
def XRep (x : Option (Str × D)) (dx : Option Addr) (H : Hp) : Prop := match x with
  | none => dx = none
  | some (f, d) => ∃ dd v, dx = some dd ∧ H dd = some (.xd [(f, v)]) ∧ (∀ K cl ev, Rep ⟨K, cl, ev⟩ (fun _ => none) v d)

section
variable (G : Gx) (z : Zx)
/-- a pure expression: what it gives, whatever it is owned by -/
def RP (p : VEnv → Option D) : TE := fun σ H Q => ∃ I ts dts env FT FS d, Stt G z I H ts dts σ env FT FS ∧ p env = some d ∧ ∀ v F, Own G I H v d F → Q v H
def XP (W : WX) (I0 : Hp) (σ : L2.St) (c : Str) (x : Option (Str × D)) (env : VEnv) : Prop :=
  ∀ dx I H FS, Same I0 I → Stt G z I H [] [] σ env [] FS → XRep x dx H → W (G.ev c) dx σ H
/-- an expression -/
def RE (W : WX) (f : M D) : TE := fun σ H Q => ∃ I ts dts env FT FS, Stt G z I H ts dts σ env FT FS ∧ match f env with
  | none => False
  | some (.ok d env') => ∀ v I' H' FT' FS', Same I I' → Stt G z I' H' (v :: ts) (d :: dts) σ env' FT' FS' → Q v H'
  | some (.exc c x env') => XP G z W I σ c x env'
/-- a test -/
def RT (W : WX) (f : M Bool) : TT := fun σ H Q => ∃ I ts dts env FT FS, Stt G z I H ts dts σ env FT FS ∧ match f env with
  | none => False
  | some (.ok b env') => ∀ I' H' FT' FS', Same I I' → Stt G z I' H' ts dts σ env' FT' FS' → Q b H'
  | some (.exc c x env') => XP G z W I σ c x env'
/-- arguments -/
def RA (W : WX) (f : M (List D)) : TA := fun σ H Q => ∃ I ts dts env FT FS, Stt G z I H ts dts σ env FT FS ∧ match f env with
  | none => False
  | some (.ok ds env') => ∀ vs I' H' FT' FS', Same I I' → Stt G z I' H' (vs ++ ts) (ds ++ dts) σ env' FT' FS' → vs.length = ds.length → Q vs H'
  | some (.exc c x env') => XP G z W I σ c x env'
/-- a statement, a block -/
def RS (W : WX) (f : M Fl) : TS := fun D σ H => ∃ I env FS, Stt G z I H [] [] σ env [] FS ∧ match f env with
  | none => False
  | some (.ok .nx env') => ∀ σ' I' H' FS', Same I I' → Stt G z I' H' [] [] σ' env' [] FS' → D.nx σ' H'
  | some (.ok .bk env') => ∀ σ' I' H' FS', Same I I' → Stt G z I' H' [] [] σ' env' [] FS' → D.bk σ' H'
  | some (.ok .ct env') => ∀ σ' I' H' FS', Same I I' → Stt G z I' H' [] [] σ' env' [] FS' → D.ct σ' H'
  | some (.ok (.rt d) env') => ∀ v σ' I' H' FT' FS', Same I I' → Stt G z I' H' [v] [d] σ' env' FT' FS' → D.rt v H'
  | some (.exc c x env') => ∀ σ', XP G z W I σ' c x env'
end
theorem XP.weak {G : Gx} {z : Zx} {W : WX} {I0 I1 : Hp} {σ : L2.St} {c : Str} {x : Option (Str × D)} {env : VEnv} (h : XP G z W I0 σ c x env) (s : Same I0 I1) : XP G z W I1 σ c x env := fun dx I H FS s' S xr => h dx I H FS (s.trans s') S xr
theorem peImp {X : Cx} {e : Expr} {t t' : TE} (h : PE X e t) (w : ∀ σ H Q, t' σ H Q → t σ H Q) : PE X e t' := ⟨fun pins s σ H Q I hq => h.run pins s σ H Q I (w σ H Q hq)⟩
theorem ptImp {X : Cx} {e : Expr} {t t' : TT} (h : PT X e t) (w : ∀ σ H Q, t' σ H Q → t σ H Q) : PT X e t' := ⟨fun pins s σ H Q I hq => h.run pins s σ H Q I (w σ H Q hq)⟩
theorem pwImp {X : Cx} {e : Expr} {t t' : TT} (h : PW X e t) (w : ∀ σ H Q, t' σ H Q → t σ H Q) : PW X e t' := ⟨fun wh pins s σ H Q I hq => h.run wh pins s σ H Q I (w σ H Q hq)⟩
theorem paImp {X : Cx} {e : List Expr} {t t' : TA} (h : PA X e t) (w : ∀ σ H Q, t' σ H Q → t σ H Q) : PA X e t' := ⟨fun pos pins s σ H Q I hq => h.run pos pins s σ H Q I (w σ H Q hq)⟩
theorem psImp {X : Cx} {e : Stmt} {t t' : TS} (h : PS X e t) (w : ∀ D σ H, t' D σ H → t D σ H) : PS X e t' := ⟨fun pins s σ H D I hq => h.run pins s σ H D I (w D σ H hq)⟩
theorem pssImp {X : Cx} {e : List Stmt} {t t' : TS} (h : PSs X e t) (w : ∀ D σ H, t' D σ H → t D σ H) : PSs X e t' := ⟨fun pins s σ H D I hq => h.run pins s σ H D I (w D σ H hq)⟩
theorem peOr {X : Cx} {e : Expr} {t t' : TE} (h : PE X e t) (h' : PE X e t') : PE X e (fun σ H Q => t σ H Q ∨ t' σ H Q) := ⟨fun pins s σ H Q I hq => hq.elim (h.run pins s σ H Q I) (h'.run pins s σ H Q I)⟩
theorem CallR.or {X : Cx} {f : Value} {r r' : List V → Hp → VK → Prop} (h : CallR X f r) (h' : CallR X f r') : CallR X f (fun xs H Q => r xs H Q ∨ r' xs H Q) := by
  intro pins s σ H xs us Q I rs q
  rcases q with q | q
  · exact h pins s σ H xs us Q I rs q
  · exact h' pins s σ H xs us Q I rs q

/-! ### values by their kinds -/
def asInt : D → Option Int
  | .int i => some i
  | _ => none
def asStr : D → Option Str
  | .str x => some x
  | _ => none
def asBl : D → Option Bool
  | .bl b => some b
  | _ => none
def asSeq : D → Option (List D)
  | .tup l => some l
  | .ktp l => some l
  | .lst _ l => some l
  | .scr l => some l
  | _ => none
def asTup : D → Option (List D)
  | .tup l => some l
  | .ktp l => some l
  | _ => none
def asLst : D → Option (List D)
  | .lst _ l => some l
  | _ => none
theorem asInt_eq {d : D} {i : Int} (h : asInt d = some i) : d = .int i := by cases d <;> simp_all [asInt]
theorem asStr_eq {d : D} {i : Str} (h : asStr d = some i) : d = .str i := by cases d <;> simp_all [asStr]
theorem asBl_eq {d : D} {i : Bool} (h : asBl d = some i) : d = .bl i := by cases d <;> simp_all [asBl]
theorem asTup_eq {d : D} {i : List D} (h : asTup d = some i) : d = .tup i ∨ d = .ktp i := by cases d <;> simp_all [asTup]
theorem asLst_eq {d : D} {i : List D} (h : asLst d = some i) : ∃ m, d = .lst m i := by cases d <;> simp_all [asLst]

section
variable {G : Gx} {I H : Hp} {v : V} {d : D} {F : List Addr}
theorem own_int {i : Int} (h : Own G I H v (.int i) F) : v = .int i := h.2
theorem own_str {i : Str} (h : Own G I H v (.str i) F) : v = .str i := h.2
theorem own_bl {i : Bool} (h : Own G I H v (.bl i) F) : v = .bl i := h.2
theorem own_lst {m : Bool} {l : List D} (s : Same I H) (h : Own G I H v (.lst m l) F) : ∃ a ws F', v = .ref a ∧ H a = some (.lst ws) ∧ Owns G I H ws l F' ∧ (m = true → F = a :: F') := by
  cases m with
  | true =>
    obtain ⟨a, ws, F', e, h1, _, h2, e2⟩ := h
    exact ⟨a, ws, F', e, h1, h2, fun _ => e2⟩
  | false =>
    obtain ⟨e0, _, a, ws, e, h1, h2⟩ := h
    exact ⟨a, ws, [], e, s _ _ h1, Reps.owns h2, fun z => nomatch z⟩
theorem own_tup {l : List D} (s : Same I H) (h : Own G I H v (.tup l) F) : ∃ a ws, v = .ref a ∧ H a = some (.tup ws) ∧ Reps G I ws l := by
  obtain ⟨e0, a, ws, e, h1, h2⟩ := h
  exact ⟨a, ws, e, s _ _ h1, h2⟩
theorem own_tupk {d : D} {l : List D} (s : Same I H) (h : Own G I H v d F) (e : asTup d = some l) : ∃ a ws, v = .ref a ∧ SqT G.K H a ws ∧ Reps G I ws l := by
  rcases asTup_eq e with rfl | rfl
  · obtain ⟨a, ws, e, h1, h2⟩ := own_tup s h
    exact ⟨a, ws, e, .of h1, h2⟩
  · obtain ⟨e0, a, ws, e, h1, h2⟩ := h
    exact ⟨a, ws, e, SqT.same s h1, h2⟩
theorem own_seq {l : List D} (s : Same I H) (h : Own G I H v d F) (e : asSeq d = some l) : ∃ a ws F', v = .ref a ∧ (SqL G.K H a ws ∨ SqT G.K H a ws) ∧ Owns G I H ws l F' := by
  cases d with
  | tup l' =>
    cases e
    obtain ⟨a, ws, e1, h1, h2⟩ := own_tup s h
    exact ⟨a, ws, [], e1, .inr (.of h1), Reps.owns h2⟩
  | ktp l' =>
    cases e
    obtain ⟨_, a, ws, e1, h1, h2⟩ := h
    exact ⟨a, ws, [], e1, .inr (SqT.same s h1), Reps.owns h2⟩
  | lst m l' =>
    cases e
    obtain ⟨a, ws, F', e1, h1, h2, _⟩ := own_lst s h
    exact ⟨a, ws, F', e1, .inl (.of h1), h2⟩
  | scr l' =>
    cases e
    obtain ⟨_, a, ws, e1, h1, h2⟩ := h
    exact ⟨a, ws, [], e1, .inl (Same.seq s h1), Reps.owns h2⟩
  | _ => cases e
theorem Owns.len : ∀ {l : List D} {vs : List V} {F : List Addr}, Owns G I H vs l F → vs.length = l.length
  | [], [], _, _ => rfl
  | d :: l, v :: vs, _, ⟨_, _, _, _, h⟩ => by simp [Owns.len h]
  | [], _ :: _, _, h => h.elim
  | _ :: _, [], _, h => h.elim
theorem Owns.get : ∀ {l : List D} {vs : List V} {F : List Addr} {i : Nat} {d : D}, Owns G I H vs l F → l[i]? = some d → ∃ v F', vs[i]? = some v ∧ Own G I H v d F'
  | d :: l, v :: vs, F, 0, d', ⟨F1, F2, e1, h, r⟩, e => by
    simp at e; subst e
    exact ⟨v, F1, rfl, h⟩
  | d :: l, v :: vs, F, i + 1, d', ⟨F1, F2, e1, h, r⟩, e => by
    obtain ⟨u, F', h1, h2⟩ := Owns.get (i := i) r (by simpa using e)
    exact ⟨u, F', by simpa using h1, h2⟩
  | [], vs, _, _, _, _, e => by simp at e
  | _ :: _, [], _, _, _, h, _ => h.elim
end

/-! ### pure expressions -/
/-- a rule of two values goes by g -/
def G2 (G : Gx) (r : R2) (g : D → D → Option D) : Prop := ∀ (I H : Hp) (u v : V) (d1 d2 d : D) (F1 F2 : List Addr) (Q : VK), Same I H → Own G I H u d1 F1 → Own G I H v d2 F2 → g d1 d2 = some d → (∀ w F, Own G I H w d F → Q w H) → r u v H Q
def G1 (G : Gx) (r : List V → Hp → VK → Prop) (g : D → Option D) : Prop := ∀ (I H : Hp) (u : V) (d1 d : D) (F1 : List Addr) (Q : VK), Same I H → Own G I H u d1 F1 → g d1 = some d → (∀ w F, Own G I H w d F → Q w H) → r [u] H Q
def GL2 (G : Gx) (r : List V → Hp → VK → Prop) (g : D → D → Option D) : Prop := ∀ (I H : Hp) (u v : V) (d1 d2 d : D) (F1 F2 : List Addr) (Q : VK), Same I H → Own G I H u d1 F1 → Own G I H v d2 F2 → g d1 d2 = some d → (∀ w F, Own G I H w d F → Q w H) → r [u, v] H Q
def pVar (k : Nat) : VEnv → Option D := fun e => (e[k]?).join
def pC (d : D) : VEnv → Option D := fun _ => some d
def p2 (g : D → D → Option D) (a b : VEnv → Option D) : VEnv → Option D := fun e => (a e).bind fun x => (b e).bind fun y => g x y
def p1 (g : D → Option D) (a : VEnv → Option D) : VEnv → Option D := fun e => (a e).bind g
section
variable {X : Cx} {G : Gx} {z : Zx} {e a b : Expr} {pa pb : VEnv → Option D} {pos : Pos}
theorem vp_var (k : Nat) (h : PE X e (tVar k)) : PE X e (RP G z (pVar k)) := peImp h fun σ H Q ⟨I, ts, dts, env, FT, FS, d, S, e, q⟩ => by
  have e2 : env[k]? = some (some d) := by
    unfold pVar at e
    cases h : env[k]? with
    | none => rw [h] at e; cases e
    | some o => rw [h] at e; cases o with
      | none => cases e
      | some d' => exact congrArg _ e
  obtain ⟨v, F, h1, h2⟩ := S.slot e2
  exact ⟨v, h1, q v F h2⟩
/-- a constant that needs no heap -/
def Atom (v : V) (d : D) : Prop := ∀ (G : Gx) (I : Hp), Rep G I v d
theorem vp_c {v : V} {d : D} (h : PE X e (tC v)) (r : Atom v d) : PE X e (RP G z (pC d)) := peImp h fun σ H Q ⟨I, ts, dts, env, FT, FS, d', S, e, q⟩ => by
  cases e
  exact q v [] (Rep.own d v (r G I))
theorem vp_int {i j} : PE X (.Constant (.int i) j pos) (RP G z (pC (.int i))) := vp_c pe_int fun _ _ => rfl
theorem vp_bl {i j} : PE X (.Constant (.bool i) j pos) (RP G z (pC (.bl i))) := vp_c pe_bl fun _ _ => rfl
theorem vp_non {j} : PE X (.Constant .none j pos) (RP G z (pC .non)) := vp_c pe_non fun _ _ => rfl
theorem vp_str {i j} : PE X (.Constant (.str i) j pos) (RP G z (pC (.str i))) := vp_c pe_str fun _ _ => rfl
theorem rp2 {ta tb : TE} {pa pb : VEnv → Option D} {r : R2} {g : D → D → Option D} (hg : G2 G r g) {σ H Q} (h : RP G z (p2 g pa pb) σ H Q) : tOp r (RP G z pa) (RP G z pb) σ H Q := by
  obtain ⟨I, ts, dts, env, FT, FS, d, S, e, q⟩ := h
  unfold p2 at e
  obtain ⟨d1, e1, e⟩ := Option.bind_eq_some_iff.mp e
  obtain ⟨d2, e2, e⟩ := Option.bind_eq_some_iff.mp e
  refine ⟨I, ts, dts, env, FT, FS, d1, S, e1, fun u F1 o1 => ⟨I, ts, dts, env, FT, FS, d2, S, e2, fun v F2 o2 => ?_⟩⟩
  exact hg I H u v d1 d2 d F1 F2 Q S.sub o1 o2 e q
theorem vp_op {op : Operator} {r : R2} {g : D → D → Option D} (ho : OpR X (binaryOp op) r) (hg : G2 G r g) (ha : PE X a (RP G z pa)) (hb : PE X b (RP G z pb)) : PE X (.BinOp a op b pos) (RP G z (p2 g pa pb)) :=
  peImp (pe_op ho ha hb) fun _ _ _ h => rp2 (ta := fun _ _ _ => True) (tb := fun _ _ _ => True) hg h
theorem vp_cmp {op : CmpOp} {r : R2} {g : D → D → Option D} (ho : OpR X (compareOp op) r) (hg : G2 G r g) (ha : PE X a (RP G z pa)) (hb : PE X b (RP G z pb)) (hm : behindInMarks op b = false) : PE X (.Compare a [op] [b] pos) (RP G z (p2 g pa pb)) :=
  peImp (pe_cmpR ho ha hb hm) fun _ _ _ h => rp2 (ta := fun _ _ _ => True) (tb := fun _ _ _ => True) hg h
theorem rp1 {r : List V → Hp → VK → Prop} {g : D → Option D} (hg : G1 G r g) {σ H Q} (h : RP G z (p1 g pa) σ H Q) : tCB r (tCons (RP G z pa) tNil) σ H Q := by
  obtain ⟨I, ts, dts, env, FT, FS, d, S, e, q⟩ := h
  unfold p1 at e
  obtain ⟨d1, e1, e⟩ := Option.bind_eq_some_iff.mp e
  exact ⟨I, ts, dts, env, FT, FS, d1, S, e1, fun u F1 o1 => hg I H u d1 d F1 Q S.sub o1 e q⟩
theorem rpl2 {r : List V → Hp → VK → Prop} {g : D → D → Option D} (hg : GL2 G r g) {σ H Q} (h : RP G z (p2 g pa pb) σ H Q) : tCB r (tCons (RP G z pa) (tCons (RP G z pb) tNil)) σ H Q := by
  obtain ⟨I, ts, dts, env, FT, FS, d, S, e, q⟩ := h
  unfold p2 at e
  obtain ⟨d1, e1, e⟩ := Option.bind_eq_some_iff.mp e
  obtain ⟨d2, e2, e⟩ := Option.bind_eq_some_iff.mp e
  exact ⟨I, ts, dts, env, FT, FS, d1, S, e1, fun u F1 o1 => ⟨I, ts, dts, env, FT, FS, d2, S, e2, fun v F2 o2 => hg I H u v d1 d2 d F1 F2 Q S.sub o1 o2 e q⟩⟩

/-! arithmetic -/
def gI (f : Int → Int → Option Int) : D → D → Option D := fun a b => (asInt a).bind fun i => (asInt b).bind fun j => (f i j).map .int
def gIB (f : Int → Int → Bool) : D → D → Option D := fun a b => (asInt a).bind fun i => (asInt b).bind fun j => some (.bl (f i j))
theorem G2.ofI {r : R2} {f : Int → Int → Option Int} (h : ∀ i j k H Q, f i j = some k → Q (.int k) H → r (.int i) (.int j) H Q) : G2 G r (gI f) := by
  intro I H u v d1 d2 d F1 F2 Q s o1 o2 e q
  obtain ⟨i, e1, e4⟩ := Option.bind_eq_some_iff.mp e
  obtain ⟨j, e2, e5⟩ := Option.bind_eq_some_iff.mp e4
  obtain ⟨k, e3, e6⟩ := Option.map_eq_some_iff.mp e5
  cases asInt_eq e1; cases asInt_eq e2
  cases own_int o1; cases own_int o2
  subst e6
  exact h i j k H Q e3 (q _ [] ⟨rfl, rfl⟩)
theorem G2.ofIB {r : R2} {f : Int → Int → Bool} (h : ∀ i j H Q, Q (.bl (f i j)) H → r (.int i) (.int j) H Q) : G2 G r (gIB f) := by
  intro I H u v d1 d2 d F1 F2 Q s o1 o2 e q
  obtain ⟨i, e1, e4⟩ := Option.bind_eq_some_iff.mp e
  obtain ⟨j, e2, e5⟩ := Option.bind_eq_some_iff.mp e4
  cases asInt_eq e1; cases asInt_eq e2
  cases own_int o1; cases own_int o2
  cases e5
  exact h i j H Q (q _ [] ⟨rfl, rfl⟩)
theorem G2.or {r r' : R2} {g g' : D → D → Option D} (h : G2 G r g) (h' : G2 G r' g') : G2 G (fun x y H Q => r x y H Q ∨ r' x y H Q) (fun a b => (g a b).or (g' a b)) := by
  intro I H u v d1 d2 d F1 F2 Q s o1 o2 e q
  cases e1 : g d1 d2 with
  | some x =>
    have e' : (g d1 d2).or (g' d1 d2) = some d := e
    rw [e1] at e'
    cases e'
    exact .inl (h I H u v d1 d2 d F1 F2 Q s o1 o2 e1 q)
  | none =>
    have e' : (g d1 d2).or (g' d1 d2) = some d := e
    rw [e1] at e'
    exact .inr (h' I H u v d1 d2 d F1 F2 Q s o1 o2 e' q)
def fAdd (i j : Int) : Option Int := some (i + j)
def fSub (i j : Int) : Option Int := some (i - j)
def fMul (i j : Int) : Option Int := if (-(2 ^ 64) < i ∧ i < 2 ^ 64) ∨ (-(2 ^ 64) < j ∧ j < 2 ^ 64) then some (i * j) else none
def fDiv (i j : Int) : Option Int := if 0 < j ∧ j < 1073741824 then some (i / j) else none
def fMod (i j : Int) : Option Int := if 0 < j then some (i % j) else none
def fPow (i j : Int) : Option Int := if 0 ≤ j ∧ j ≤ 1000000 ∧ i.natAbs < 2 ^ 64 then some (i ^ j.toNat) else none
def fShl (i j : Int) : Option Int := if 0 ≤ j ∧ j ≤ 1000000 ∧ i.natAbs < 2 ^ 64 then some (i * 2 ^ j.toNat) else none
def fShr (i j : Int) : Option Int := if 0 ≤ j then some (i / 2 ^ j.toNat) else none
def fAnd (i j : Int) : Option Int := some (Builtin.bitAnd i j)
def fOr (i j : Int) : Option Int := some (Builtin.bitOr i j)
def fXor (i j : Int) : Option Int := some (Builtin.bitXor i j)
def gStrAdd : D → D → Option D := fun a b => (asStr a).bind fun x => (asStr b).bind fun y => if x.length + y.length ≤ sizeLine then some (.str (x ++ y)) else none
theorem G2.strAdd : G2 G (fun x y H Q => ∃ i j, x = .str i ∧ y = .str j ∧ i.length + j.length ≤ sizeLine ∧ Q (.str (i ++ j)) H) gStrAdd := by
  intro I H u v d1 d2 d F1 F2 Q s o1 o2 e q
  obtain ⟨i, e1, e4⟩ := Option.bind_eq_some_iff.mp e
  obtain ⟨j, e2, e5⟩ := Option.bind_eq_some_iff.mp e4
  cases asStr_eq e1; cases asStr_eq e2
  cases own_str o1; cases own_str o2
  split at e5
  · rename_i hl
    cases e5
    exact ⟨i, j, rfl, rfl, hl, q _ [] ⟨rfl, rfl⟩⟩
  · cases e5
def gAdd : D → D → Option D := fun a b => (gI fAdd a b).or (gStrAdd a b)
abbrev pAdd := p2 gAdd
abbrev pSub := p2 (gI fSub)
abbrev pMul := p2 (gI fMul)
abbrev pDiv := p2 (gI fDiv)
abbrev pMod := p2 (gI fMod)
abbrev pPow := p2 (gI fPow)
abbrev pShl := p2 (gI fShl)
abbrev pShr := p2 (gI fShr)
abbrev pAnd := p2 (gI fAnd)
abbrev pOr := p2 (gI fOr)
abbrev pXor := p2 (gI fXor)
theorem rI_of {C : Int → Int → Prop} {g : Int → Int → V} {i j : Int} {H : Hp} {Q : VK} (c : C i j) (q : Q (g i j) H) : rI C g (.int i) (.int j) H Q := ⟨i, j, rfl, rfl, c, q⟩
theorem g2_add : G2 G (fun x y H Q => rI0 (fun i j => .int (i + j)) x y H Q ∨ ∃ i j, x = .str i ∧ y = .str j ∧ i.length + j.length ≤ sizeLine ∧ Q (.str (i ++ j)) H) gAdd :=
  G2.or (G2.ofI fun i j k H Q e q => by cases e; exact ⟨i, j, rfl, rfl, q⟩) G2.strAdd
theorem g2_sub : G2 G (rI0 fun i j => .int (i - j)) (gI fSub) := G2.ofI fun i j k H Q e q => by cases e; exact ⟨i, j, rfl, rfl, q⟩
theorem g2_mul : G2 G (rI CMul fun i j => .int (i * j)) (gI fMul) := G2.ofI fun i j k H Q e q => by
  unfold fMul at e
  split at e
  · rename_i c; cases e; exact rI_of c q
  · cases e
theorem g2_div : G2 G (rI CDiv fun i j => .int (i / j)) (gI fDiv) := G2.ofI fun i j k H Q e q => by
  unfold fDiv at e
  split at e
  · rename_i c; cases e; exact rI_of c q
  · cases e
theorem g2_mod : G2 G (rI (fun _ j => 0 < j) fun i j => .int (i % j)) (gI fMod) := G2.ofI fun i j k H Q e q => by
  unfold fMod at e
  split at e
  · rename_i c; cases e; exact rI_of (C := fun _ j => 0 < j) c q
  · cases e
theorem g2_pow : G2 G (rI CPow fun i j => .int (i ^ j.toNat)) (gI fPow) := G2.ofI fun i j k H Q e q => by
  unfold fPow at e
  split at e
  · rename_i c; cases e; exact rI_of c q
  · cases e
theorem g2_shl : G2 G (rI CPow fun i j => .int (i * 2 ^ j.toNat)) (gI fShl) := G2.ofI fun i j k H Q e q => by
  unfold fShl at e
  split at e
  · rename_i c; cases e; exact rI_of c q
  · cases e
theorem g2_shr : G2 G (rI (fun _ j => 0 ≤ j) fun i j => .int (i / 2 ^ j.toNat)) (gI fShr) := G2.ofI fun i j k H Q e q => by
  unfold fShr at e
  split at e
  · rename_i c; cases e; exact rI_of (C := fun _ j => 0 ≤ j) c q
  · cases e
theorem g2_and : G2 G (rI0 fun i j => .int (Builtin.bitAnd i j)) (gI fAnd) := G2.ofI fun i j k H Q e q => by cases e; exact ⟨i, j, rfl, rfl, q⟩
theorem g2_or : G2 G (rI0 fun i j => .int (Builtin.bitOr i j)) (gI fOr) := G2.ofI fun i j k H Q e q => by cases e; exact ⟨i, j, rfl, rfl, q⟩
theorem g2_xor : G2 G (rI0 fun i j => .int (Builtin.bitXor i j)) (gI fXor) := G2.ofI fun i j k H Q e q => by cases e; exact ⟨i, j, rfl, rfl, q⟩
theorem vp_add (ha : PE X a (RP G z pa)) (hb : PE X b (RP G z pb)) : PE X (.BinOp a .Add b pos) (RP G z (pAdd pa pb)) := vp_op (OpR.or op_add op_add_str) g2_add ha hb
theorem vp_sub (ha : PE X a (RP G z pa)) (hb : PE X b (RP G z pb)) : PE X (.BinOp a .Sub b pos) (RP G z (pSub pa pb)) := vp_op op_sub g2_sub ha hb
theorem vp_mul (ha : PE X a (RP G z pa)) (hb : PE X b (RP G z pb)) : PE X (.BinOp a .Mult b pos) (RP G z (pMul pa pb)) := vp_op op_mul g2_mul ha hb
theorem vp_div (ha : PE X a (RP G z pa)) (hb : PE X b (RP G z pb)) : PE X (.BinOp a .FloorDiv b pos) (RP G z (pDiv pa pb)) := vp_op op_fdiv g2_div ha hb
theorem vp_mod (ha : PE X a (RP G z pa)) (hb : PE X b (RP G z pb)) : PE X (.BinOp a .Mod b pos) (RP G z (pMod pa pb)) := vp_op op_mod g2_mod ha hb
theorem vp_pow (ha : PE X a (RP G z pa)) (hb : PE X b (RP G z pb)) : PE X (.BinOp a .Pow b pos) (RP G z (pPow pa pb)) := vp_op op_pow g2_pow ha hb
theorem vp_shl (ha : PE X a (RP G z pa)) (hb : PE X b (RP G z pb)) : PE X (.BinOp a .LShift b pos) (RP G z (pShl pa pb)) := vp_op op_shl g2_shl ha hb
theorem vp_shr (ha : PE X a (RP G z pa)) (hb : PE X b (RP G z pb)) : PE X (.BinOp a .RShift b pos) (RP G z (pShr pa pb)) := vp_op op_shr g2_shr ha hb
theorem vp_and (ha : PE X a (RP G z pa)) (hb : PE X b (RP G z pb)) : PE X (.BinOp a .BitAnd b pos) (RP G z (pAnd pa pb)) := vp_op op_and g2_and ha hb
theorem vp_bor (ha : PE X a (RP G z pa)) (hb : PE X b (RP G z pb)) : PE X (.BinOp a .BitOr b pos) (RP G z (pOr pa pb)) := vp_op op_or g2_or ha hb
theorem vp_xor (ha : PE X a (RP G z pa)) (hb : PE X b (RP G z pb)) : PE X (.BinOp a .BitXor b pos) (RP G z (pXor pa pb)) := vp_op op_xor g2_xor ha hb
def gNeg : D → Option D := fun a => (asInt a).map fun i => .int (-i)
abbrev pNeg := p1 gNeg
theorem vp_neg (ha : PE X a (RP G z pa)) : PE X (.UnaryOp .USub a pos) (RP G z (pNeg pa)) := peImp (pe_un un_neg ha) fun σ H Q ⟨I, ts, dts, env, FT, FS, d, S, e, q⟩ => by
  obtain ⟨d1, e1, e⟩ := Option.bind_eq_some_iff.mp e
  obtain ⟨i, e2, e⟩ := Option.map_eq_some_iff.mp e
  subst e
  cases asInt_eq e2
  refine ⟨I, ts, dts, env, FT, FS, _, S, e1, fun u F1 o1 => ?_⟩
  cases own_int o1
  exact ⟨i, rfl, q _ [] ⟨rfl, rfl⟩⟩

/-! comparisons -/
mutual
def toPy : D → Option PyData
  | .non => some .none
  | .bl b => some (.bool b)
  | .int i => some (.int i)
  | .str x => some (.str x)
  | .tup l => (toPys l).map .tuple
  | .ktp l => (toPys l).map .tuple
  | .lst _ l => (toPys l).map .list
  | .scr l => (toPys l).map .list
  | .ins _ _ _ _ => none
  | .dk _ _ _ => none
  | .dt _ _ _ => none
  | .otp _ => none
  | .cst _ => none
def toPys : List D → Option (List PyData)
  | [] => some []
  | d :: l => (toPy d).bind fun x => (toPys l).map (x :: ·)
end
mutual
theorem dp_rep {I : Hp} : ∀ (d : D) (v : V) (p : PyData), Rep G I v d → toPy d = some p → Dp G.K I v p
  | .non, _, _, h, e => by cases h; cases e; exact .non
  | .bl b, _, _, h, e => by cases h; cases e; exact .bl b
  | .int i, _, _, h, e => by cases h; cases e; exact .int i
  | .str i, _, _, h, e => by cases h; cases e; exact .str i
  | .tup l, _, p, ⟨a, ws, ev, h, r⟩, e => by
    obtain ⟨ps, e1, e⟩ := Option.map_eq_some_iff.mp (show (toPys l).map .tuple = some p from e)
    subst e ev
    exact .tup (.of h) (dps_rep l ws ps r e1)
  | .ktp l, _, p, ⟨a, ws, ev, h, r⟩, e => by
    obtain ⟨ps, e1, e⟩ := Option.map_eq_some_iff.mp (show (toPys l).map .tuple = some p from e)
    subst e ev
    exact .tup h (dps_rep l ws ps r e1)
  | .lst _ l, _, p, ⟨_, a, ws, ev, h, r⟩, e => by
    obtain ⟨ps, e1, e⟩ := Option.map_eq_some_iff.mp (show (toPys l).map .list = some p from e)
    subst e ev
    exact .lst (.of h) (dps_rep l ws ps r e1)
  | .scr l, _, p, ⟨a, ws, ev, h, r⟩, e => by
    obtain ⟨ps, e1, e⟩ := Option.map_eq_some_iff.mp (show (toPys l).map .list = some p from e)
    subst e ev
    exact .lst h (dps_rep l ws ps r e1)
  | .ins _ _ _ _, _, _, _, e => by cases e
  | .dk _ _ _, _, _, _, e => by cases e
  | .otp _, _, _, _, e => by cases e
  | .dt _ _ _, _, _, _, e => by cases e
  | .cst _, _, _, _, e => by cases e
theorem dps_rep {I : Hp} : ∀ (l : List D) (vs : List V) (ps : List PyData), Reps G I vs l → toPys l = some ps → DpAll G.K I vs ps
  | [], [], _, _, e => by cases e; exact .nil
  | d :: l, v :: vs, p, h, e => by
    obtain ⟨x, e1, e⟩ := Option.bind_eq_some_iff.mp (show (toPy d).bind (fun x => (toPys l).map (x :: ·)) = some p from e)
    obtain ⟨xs, e2, e⟩ := Option.map_eq_some_iff.mp e
    subst e
    exact .cons (dp_rep d v x h.1 e1) (dps_rep l vs xs h.2 e2)
  | [], _ :: _, _, h, _ => h.elim
  | _ :: _, [], _, h, _ => h.elim
end
mutual
theorem dp_own {I H : Hp} (s : Same I H) : ∀ (d : D) (v : V) (p : PyData) (F : List Addr), Own G I H v d F → toPy d = some p → Dp G.K H v p
  | .non, _, _, _, h, e => dp_rep _ _ _ (Rep.mono s _ _ h.2) e
  | .bl b, _, _, _, h, e => dp_rep _ _ _ (Rep.mono s _ _ h.2) e
  | .int i, _, _, _, h, e => dp_rep _ _ _ (Rep.mono s _ _ h.2) e
  | .str i, _, _, _, h, e => dp_rep _ _ _ (Rep.mono s _ _ h.2) e
  | .tup l, _, _, _, h, e => dp_rep _ _ _ (Rep.mono s _ _ h.2) e
  | .ktp l, _, _, _, h, e => dp_rep _ _ _ (Rep.mono s _ _ h.2) e
  | .scr l, _, _, _, h, e => dp_rep _ _ _ (Rep.mono s _ _ h.2) e
  | .lst false l, _, _, _, h, e => dp_rep _ _ _ (Rep.mono s _ _ h.2) e
  | .lst true l, _, p, _, ⟨a, ws, F', ev, h, _, r, _⟩, e => by
    obtain ⟨ps, e1, e⟩ := Option.map_eq_some_iff.mp (show (toPys l).map .list = some p from e)
    subst e ev
    exact .lst (.of h) (dps_own s l ws ps F' r e1)
  | .ins _ _ _ _, _, _, _, _, e => by cases e
  | .dk _ _ _, _, _, _, _, e => by cases e
  | .otp _, _, _, _, _, e => by cases e
  | .dt _ _ _, _, _, _, _, e => by cases e
  | .cst _, _, _, _, _, e => by cases e
theorem dps_own {I H : Hp} (s : Same I H) : ∀ (l : List D) (vs : List V) (ps : List PyData) (F : List Addr), Owns G I H vs l F → toPys l = some ps → DpAll G.K H vs ps
  | [], [], _, _, _, e => by cases e; exact .nil
  | d :: l, v :: vs, p, F, ⟨F1, F2, _, h, r⟩, e => by
    obtain ⟨x, e1, e⟩ := Option.bind_eq_some_iff.mp (show (toPy d).bind (fun x => (toPys l).map (x :: ·)) = some p from e)
    obtain ⟨xs, e2, e⟩ := Option.map_eq_some_iff.mp e
    subst e
    exact .cons (dp_own s d v x F1 h e1) (dps_own s l vs xs F2 r e2)
  | [], _ :: _, _, _, h, _ => h.elim
  | _ :: _, [], _, _, h, _ => h.elim
end
/-- == of two data -/
def dEq (a b : D) : Option Bool := (toPy a).bind fun p => (toPy b).bind fun q => if SeqAt.shaped p && SeqAt.shaped q then some (PyData.eqv p q) else none
def gEq : D → D → Option D := fun a b => (dEq a b).map .bl
def gNe : D → D → Option D := fun a b => (dEq a b).map fun k => .bl (!k)
theorem dEq_of {a b : D} {k : Bool} (h : dEq a b = some k) : ∃ p q, toPy a = some p ∧ toPy b = some q ∧ SeqAt.shaped p = true ∧ SeqAt.shaped q = true ∧ PyData.eqv p q = k := by
  obtain ⟨p, e1, e⟩ := Option.bind_eq_some_iff.mp h
  obtain ⟨q, e2, e⟩ := Option.bind_eq_some_iff.mp e
  split at e
  · rename_i c
    rw [Bool.and_eq_true] at c
    cases e
    exact ⟨p, q, e1, e2, c.1, c.2, rfl⟩
  · cases e
theorem g2_eq : G2 G (rEqD G.K) gEq := by
  intro I H u v d1 d2 d F1 F2 Q s o1 o2 e q
  obtain ⟨k, e1, e⟩ := Option.map_eq_some_iff.mp e
  subst e
  obtain ⟨p, p', h1, h2, h3, h4, h5⟩ := dEq_of e1
  exact ⟨p, p', dp_own s d1 u p F1 o1 h1, dp_own s d2 v p' F2 o2 h2, h3, h4, by rw [h5]; exact q _ [] ⟨rfl, rfl⟩⟩
theorem g2_ne : G2 G (rNeD G.K) gNe := by
  intro I H u v d1 d2 d F1 F2 Q s o1 o2 e q
  obtain ⟨k, e1, e⟩ := Option.map_eq_some_iff.mp e
  subst e
  obtain ⟨p, p', h1, h2, h3, h4, h5⟩ := dEq_of e1
  exact ⟨p, p', dp_own s d1 u p F1 o1 h1, dp_own s d2 v p' F2 o2 h2, h3, h4, by rw [h5]; exact q _ [] ⟨rfl, rfl⟩⟩
abbrev pEq := p2 gEq
abbrev pNe := p2 gNe
abbrev pLt := p2 (gIB fun i j => decide (i < j))
abbrev pLe := p2 (gIB fun i j => decide (i ≤ j))
abbrev pGt := p2 (gIB fun i j => decide (j < i))
abbrev pGe := p2 (gIB fun i j => decide (j ≤ i))
theorem vp_eq (hu : X.A.units + 64 < cLine) (ha : PE X a (RP G z pa)) (hb : PE X b (RP G z pb)) (hK : X.K = G.K := by rfl) : PE X (.Compare a [.Eq] [b] pos) (RP G z (pEq pa pb)) := vp_cmp (op_eqD hu) (by rw [hK]; exact g2_eq) ha hb (nomark b)
theorem vp_ne (hu : X.A.units + 64 < cLine) (ha : PE X a (RP G z pa)) (hb : PE X b (RP G z pb)) (hK : X.K = G.K := by rfl) : PE X (.Compare a [.NotEq] [b] pos) (RP G z (pNe pa pb)) := vp_cmp (op_neD hu) (by rw [hK]; exact g2_ne) ha hb (nomark b)
theorem vp_lt (ha : PE X a (RP G z pa)) (hb : PE X b (RP G z pb)) : PE X (.Compare a [.Lt] [b] pos) (RP G z (pLt pa pb)) := vp_cmp op_lt (G2.ofIB fun i j H Q q => ⟨i, j, rfl, rfl, q⟩) ha hb (nomark b)
theorem vp_le (ha : PE X a (RP G z pa)) (hb : PE X b (RP G z pb)) : PE X (.Compare a [.LtE] [b] pos) (RP G z (pLe pa pb)) := vp_cmp op_le (G2.ofIB fun i j H Q q => ⟨i, j, rfl, rfl, q⟩) ha hb (nomark b)
theorem vp_gt (ha : PE X a (RP G z pa)) (hb : PE X b (RP G z pb)) : PE X (.Compare a [.Gt] [b] pos) (RP G z (pGt pa pb)) := vp_cmp op_gt (G2.ofIB fun i j H Q q => ⟨i, j, rfl, rfl, q⟩) ha hb (nomark b)
theorem vp_ge (ha : PE X a (RP G z pa)) (hb : PE X b (RP G z pb)) : PE X (.Compare a [.GtE] [b] pos) (RP G z (pGe pa pb)) := vp_cmp op_ge (G2.ofIB fun i j H Q q => ⟨i, j, rfl, rfl, q⟩) ha hb (nomark b)
end
end
section
set_option Elab.async false
set_option linter.all false
set_option maxRecDepth 100000
set_option maxHeartbeats 1000000
section
variable {X : Cx} {G : Gx} {z : Zx} {e a b : Expr} {pa pb : VEnv → Option D} {pos : Pos} {I H : Hp} {v : V} {d : D} {F : List Addr}
/-! ### is None -/
def isNon : D → Bool
  | .non => true
  | .cst v => decide (v = .non)
  | _ => false
theorem own_non (h : Own G I H v d F) : decide (v = .non) = isNon d := by
  cases d with
  | non => cases h.2; rfl
  | bl _ => cases h.2; rfl
  | int _ => cases h.2; rfl
  | str _ => cases h.2; rfl
  | cst w => cases h.2; rfl
  | tup _ => obtain ⟨_, a, ws, e, _⟩ := h; subst e; rfl
  | ktp _ => obtain ⟨_, a, ws, e, _⟩ := h; subst e; rfl
  | scr _ => obtain ⟨_, a, ws, e, _⟩ := h; subst e; rfl
  | otp _ => obtain ⟨a, ws, F', e, _⟩ := h; subst e; rfl
  | lst m _ => cases m with
    | true => obtain ⟨a, ws, F', e, _⟩ := h; subst e; rfl
    | false => obtain ⟨_, _, a, ws, e, _⟩ := h; subst e; rfl
  | ins m _ _ _ => cases m with
    | true => obtain ⟨a, dx, ws, F', e, _⟩ := h; subst e; rfl
    | false => obtain ⟨_, _, a, dx, ws, e, _⟩ := h; subst e; rfl
  | dk m _ _ => cases m with
    | true => obtain ⟨a, ws, F', e, _⟩ := h; subst e; rfl
    | false => obtain ⟨_, _, a, ws, e, _⟩ := h; subst e; rfl
  | dt m _ _ => cases m with
    | true => obtain ⟨a, ws, F', e, _⟩ := h; subst e; rfl
    | false => obtain ⟨_, _, a, ws, e, _⟩ := h; subst e; rfl
def pIsN (pa : VEnv → Option D) : VEnv → Option D := p1 (fun d => some (.bl (isNon d))) pa
def pNotN (pa : VEnv → Option D) : VEnv → Option D := p1 (fun d => some (.bl (!isNon d))) pa
theorem vp_isN {j pos'} (ha : PE X a (RP G z pa)) : PE X (.Compare a [.Is] [.Constant .none j pos'] pos) (RP G z (pIsN pa)) := peImp (pe_cmpR op_isN ha pe_non (nomark _)) fun σ H Q ⟨I, ts, dts, env, FT, FS, d, S, e, q⟩ => by
  obtain ⟨d1, e1, e⟩ := Option.bind_eq_some_iff.mp e
  cases e
  refine ⟨I, ts, dts, env, FT, FS, _, S, e1, fun u F1 o1 => ⟨rfl, ?_⟩⟩
  rw [own_non o1]
  exact q _ [] ⟨rfl, rfl⟩
theorem vp_notN {j pos'} (ha : PE X a (RP G z pa)) : PE X (.Compare a [.IsNot] [.Constant .none j pos'] pos) (RP G z (pNotN pa)) := peImp (pe_cmpR op_notN ha pe_non (nomark _)) fun σ H Q ⟨I, ts, dts, env, FT, FS, d, S, e, q⟩ => by
  obtain ⟨d1, e1, e⟩ := Option.bind_eq_some_iff.mp e
  cases e
  refine ⟨I, ts, dts, env, FT, FS, _, S, e1, fun u F1 o1 => ⟨rfl, ?_⟩⟩
  rw [own_non o1]
  exact q _ [] ⟨rfl, rfl⟩

/-! ### items -/
theorem Owns.atI {l : List D} {ws : List V} {F : List Addr} {i : Int} {d : D} (h : Owns G I H ws l F) (e : L2.atI l i = some d) : ∃ w F', L2.atI ws i = some w ∧ Own G I H w d F' := by
  unfold L2.atI at e ⊢
  obtain ⟨j, e1, e2⟩ := Option.bind_eq_some_iff.mp e
  obtain ⟨w, F', e3, o⟩ := h.get e2
  refine ⟨w, F', ?_, o⟩
  rw [h.len, e1]
  exact e3
/-- x[i] of a list, a tuple, a text -/
def gIx : D → D → Option D := fun a b => (asInt b).bind fun i => match asSeq a with
  | some l => L2.atI l i
  | none => (asStr a).bind fun x => if x.length ≤ sizeLine then (L2.atI x.cps.toList i).map fun c => .str ⟨#[c]⟩ else none
theorem g2_ix : G2 G (fun x y H Q => (rIxL G.K x y H Q ∨ rIxT G.K x y H Q) ∨ rIxS x y H Q) gIx := by
  intro I H u v d1 d2 d F1 F2 Q s o1 o2 e q
  obtain ⟨i, e1, e2⟩ := Option.bind_eq_some_iff.mp e
  cases asInt_eq e1
  cases own_int o2
  cases h : asSeq d1 with
  | some l =>
    rw [h] at e2
    obtain ⟨a, ws, F', ev, hs, ow⟩ := own_seq s o1 h
    obtain ⟨w, F'', e3, o3⟩ := ow.atI e2
    subst ev
    rcases hs with hs | hs
    · exact .inl (.inl ⟨a, ws, i, w, rfl, rfl, hs, e3, q _ _ o3⟩)
    · exact .inl (.inr ⟨a, ws, i, w, rfl, rfl, hs, e3, q _ _ o3⟩)
  | none =>
    rw [h] at e2
    obtain ⟨x, e3, e4⟩ := Option.bind_eq_some_iff.mp e2
    cases asStr_eq e3
    cases own_str o1
    split at e4
    · rename_i hl
      obtain ⟨c, e5, e6⟩ := Option.map_eq_some_iff.mp e4
      cases e6
      exact .inr ⟨x, i, c, rfl, rfl, hl, e5, q _ [] ⟨rfl, rfl⟩⟩
    · cases e4
abbrev pIx := p2 gIx
theorem vp_ix (ha : PE X a (RP G z pa)) (hb : PE X b (RP G z pb)) (hs : PlainIx b := by intro _ _; rfl) (hK : X.K = G.K := by rfl) : PE X (.Subscript a b pos) (RP G z (pIx pa pb)) :=
  peImp (pe_ix (IxR.or (IxR.or ix_list ix_tup) ix_str) ha hb hs) fun _ _ _ h => by
    rw [hK]
    exact rp2 (ta := fun _ _ _ => True) (tb := fun _ _ _ => True) g2_ix h

/-! ### dicts read -/
def asKey : D → Option Key
  | .int i => some (.inl i)
  | .str x => some (.inr x)
  | _ => none
theorem asKey_eq {d : D} {k : Key} (h : asKey d = some k) (o : Own G I H v d F) : v = kV k := by
  cases d with
  | int i => cases h; exact own_int o
  | str i => cases h; exact own_str o
  | _ => cases h
def asKeys : List D → Option (List Key)
  | [] => some []
  | d :: l => (asKey d).bind fun k => (asKeys l).map (k :: ·)
theorem asKeys_eq : ∀ {l : List D} {ws : List V} {ks : List Key}, asKeys l = some ks → Reps G I ws l → ws = ks.map kV
  | [], [], ks, h, _ => by cases h; rfl
  | d :: l, w :: ws, ks, h, r => by
    obtain ⟨k, e1, e2⟩ := Option.bind_eq_some_iff.mp (show (asKey d).bind (fun k => (asKeys l).map (k :: ·)) = some ks from h)
    obtain ⟨ks', e3, e4⟩ := Option.map_eq_some_iff.mp e2
    subst e4
    rw [List.map_cons, asKeys_eq e3 r.2, asKey_eq (H := I) e1 (Rep.own _ _ r.1)]
  | [], _ :: _, _, _, r => r.elim
  | _ :: _, [], _, _, r => r.elim
/-- the place of a key -/
def kIx {κ : Type} [DecidableEq κ] (ks : List κ) (k : κ) : Option Nat := ks.findIdx? fun x => decide (x = k)
def kAt {κ α : Type} [DecidableEq κ] (ks : List κ) (l : List α) (k : κ) : Option α := (kIx ks k).bind fun i => l[i]?
theorem valV_zip {κ : Type} [DecidableEq κ] {k : κ} : ∀ {ks : List κ} {ws : List V}, ws.length = ks.length → valV (ks.zip ws) k = kAt ks ws k
  | [], _, _ => rfl
  | x :: ks, [], h => by simp at h
  | x :: ks, w :: ws, h => by
    have ih := valV_zip (k := k) (ks := ks) (ws := ws) (by simpa using h)
    unfold kAt kIx at ih ⊢
    rw [List.zip_cons_cons, List.findIdx?_cons]
    by_cases e : x = k
    · rw [valV_pos (p := (x, w)) e]
      simp [e]
    · rw [valV_neg (p := (x, w)) e, ih]
      simp only [decide_eq_false e, Bool.false_eq_true, if_false]
      cases List.findIdx? (fun x => decide (x = k)) ks <;> simp
theorem kAt_owns {κ : Type} [DecidableEq κ] {ks : List κ} {k : κ} {l : List D} {ws : List V} (h : Owns G I H ws l F) (d : D) (e : kAt ks l k = some d) : ∃ w F', kAt ks ws k = some w ∧ Own G I H w d F' := by
  obtain ⟨i, e1, e2⟩ := Option.bind_eq_some_iff.mp e
  obtain ⟨w, F', e3, o⟩ := h.get e2
  exact ⟨w, F', by unfold kAt; rw [e1]; exact e3, o⟩
theorem kAt_none {κ : Type} [DecidableEq κ] {ks : List κ} {k : κ} {l : List D} {ws : List V} (h : ws.length = l.length) (e : kAt ks l k = none) : kAt ks ws k = none := by
  unfold kAt at e ⊢
  cases q : kIx ks k with
  | none => rfl
  | some i =>
    rw [q] at e
    have e' : l[i]? = none := e
    exact List.getElem?_eq_none_iff.mpr (by rw [h]; exact List.getElem?_eq_none_iff.mp e')
/-- what a dict holds at a key -/
def dGet : D → D → Option (Option D)
  | .dk _ ks l, b => (asKey b).map fun k => kAt ks l k
  | .dt _ ks l, .tup t => (asKeys t).map fun k => kAt ks l k
  | _, _ => none
theorem own_dk {m : Bool} {ks : List Key} {l : List D} (s : Same I H) (h : Own G I H v (.dk m ks l) F) : ∃ a ws F', v = .ref a ∧ H a = some (.dK (ks.zip ws)) ∧ ws.length = ks.length ∧ Owns G I H ws l F' ∧ (m = true → I a = none ∧ F = a :: F') := by
  cases m with
  | true => obtain ⟨a, ws, F', e, h1, n, i, h2, e2⟩ := h; exact ⟨a, ws, F', e, h1, n, h2, fun _ => ⟨i, e2⟩⟩
  | false => obtain ⟨_, _, a, ws, e, h1, n, h2⟩ := h; exact ⟨a, ws, [], e, s _ _ h1, n, Reps.owns h2, fun z => nomatch z⟩
theorem own_dt {m : Bool} {ks : List (List Key)} {l : List D} (s : Same I H) (h : Own G I H v (.dt m ks l) F) : ∃ a ws F', v = .ref a ∧ H a = some (.dT (ks.zip ws)) ∧ ws.length = ks.length ∧ Owns G I H ws l F' ∧ (m = true → I a = none ∧ F = a :: F') := by
  cases m with
  | true => obtain ⟨a, ws, F', e, h1, n, i, h2, e2⟩ := h; exact ⟨a, ws, F', e, h1, n, h2, fun _ => ⟨i, e2⟩⟩
  | false => obtain ⟨_, _, a, ws, e, h1, n, h2⟩ := h; exact ⟨a, ws, [], e, s _ _ h1, n, Reps.owns h2, fun z => nomatch z⟩
theorem dGet_ok {u : V} {d1 d2 : D} {F1 F2 : List Addr} {r : Option D} (s : Same I H) (o1 : Own G I H u d1 F1) (o2 : Own G I H v d2 F2) (e : dGet d1 d2 = some r) : ∃ a o, u = .ref a ∧ DGet H a v o ∧ match r with
    | none => o = none
    | some d => ∃ w F', o = some w ∧ Own G I H w d F' := by
  cases d1 with
  | dk m ks l =>
    obtain ⟨k, e1, e2⟩ := Option.map_eq_some_iff.mp (show (asKey d2).map (fun k => kAt ks l k) = some r from e)
    obtain ⟨a, ws, F', ev, h1, n, ow, _⟩ := own_dk s o1
    have ek := asKey_eq e1 o2
    subst ek ev
    refine ⟨a, _, rfl, DGet.k h1, ?_⟩
    rw [valV_zip n]
    cases r with
    | none => exact kAt_none ow.len e2
    | some d => exact kAt_owns ow d e2
  | dt m ks l =>
    cases d2 with
    | tup t =>
      obtain ⟨k, e1, e2⟩ := Option.map_eq_some_iff.mp (show (asKeys t).map (fun k => kAt ks l k) = some r from e)
      obtain ⟨a, ws, F', ev, h1, n, ow, _⟩ := own_dt s o1
      obtain ⟨b, us, eb, h2, r2⟩ := own_tup s o2
      have ek := asKeys_eq e1 r2
      subst ek eb ev
      refine ⟨a, _, rfl, DGet.t h1 h2, ?_⟩
      rw [valV_zip n]
      cases r with
      | none => exact kAt_none ow.len e2
      | some d => exact kAt_owns ow d e2
    | _ => cases e
  | _ => cases e
def gDix : D → D → Option D := fun a b => (dGet a b).join
abbrev pDix := p2 gDix
theorem vp_dix (hu : X.A.units + 1 < cLine) (ha : PE X a (RP G z pa)) (hb : PE X b (RP G z pb)) (hs : NoSl b := by intro _ _; rfl) : PE X (.Subscript a b pos) (RP G z (pDix pa pb)) :=
  peImp (pe_dget hu ha hb hs) fun σ H Q ⟨I, ts, dts, env, FT, FS, d, S, e, q⟩ => by
    obtain ⟨d1, e1, e⟩ := Option.bind_eq_some_iff.mp e
    obtain ⟨d2, e2, e⟩ := Option.bind_eq_some_iff.mp e
    refine ⟨I, ts, dts, env, FT, FS, d1, S, e1, fun u F1 o1 => ⟨I, ts, dts, env, FT, FS, d2, S, e2, fun v F2 o2 => ?_⟩⟩
    have e3 : dGet d1 d2 = some (some d) := by
      unfold gDix at e
      cases h : dGet d1 d2 with
      | none => rw [h] at e; cases e
      | some o => rw [h] at e; cases o with
        | none => cases e
        | some d' => exact congrArg _ e
    obtain ⟨a, o, ea, g, w, F', eo, ow⟩ := dGet_ok S.sub o1 o2 e3
    subst eo
    exact ⟨a, w, ea, g, q _ _ ow⟩
/-! ### in -/
def asFlat : D → Option V
  | .non => some .non
  | .bl b => some (.bl b)
  | .int i => some (.int i)
  | .str x => some (.str x)
  | _ => none
theorem asFlat_eq {w : V} (e : asFlat d = some w) (o : Own G I H v d F) : v = w ∧ flatV w = true := by
  cases d with
  | non => cases e; exact ⟨o.2, rfl⟩
  | bl _ => cases e; exact ⟨o.2, rfl⟩
  | int _ => cases e; exact ⟨o.2, rfl⟩
  | str _ => cases e; exact ⟨o.2, rfl⟩
  | _ => cases e
def asFlats : List D → Option (List V)
  | [] => some []
  | d :: l => (asFlat d).bind fun k => (asFlats l).map (k :: ·)
theorem asFlats_eq : ∀ {l : List D} {ws us : List V} {F : List Addr}, asFlats l = some us → Owns G I H ws l F → ws = us ∧ us.all flatV = true
  | [], [], us, _, h, _ => by cases h; exact ⟨rfl, rfl⟩
  | d :: l, w :: ws, us, _, h, ⟨F1, F2, _, r1, r2⟩ => by
    obtain ⟨k, e1, e2⟩ := Option.bind_eq_some_iff.mp (show (asFlat d).bind (fun k => (asFlats l).map (k :: ·)) = some us from h)
    obtain ⟨ks', e3, e4⟩ := Option.map_eq_some_iff.mp e2
    subst e4
    obtain ⟨h1, h2⟩ := asFlats_eq e3 r2
    obtain ⟨h3, h4⟩ := asFlat_eq e1 r1
    rw [h1, h3]
    exact ⟨rfl, by rw [List.all_cons, h4, h2]; rfl⟩
  | [], _ :: _, _, _, _, r => r.elim
  | _ :: _, [], _, _, _, r => r.elim
/-- x in a list or a tuple of flat things -/
def dIn : D → D → Option Bool := fun a b => (asFlat a).bind fun x => (asSeq b).bind fun l => (asFlats l).map fun xs => inV x xs
theorem g2_in (neg : Bool) : G2 G (rIn G.K neg) (fun a b => (dIn a b).map fun k => .bl (if neg then !k else k)) := by
  intro I H u v d1 d2 d F1 F2 Q s o1 o2 e q
  obtain ⟨k, e1, e2⟩ := Option.map_eq_some_iff.mp e
  obtain ⟨x, e3, e4⟩ := Option.bind_eq_some_iff.mp e1
  obtain ⟨l, e5, e6⟩ := Option.bind_eq_some_iff.mp e4
  obtain ⟨xs, e7, e8⟩ := Option.map_eq_some_iff.mp e6
  subst e2 e8
  obtain ⟨h1, h2⟩ := asFlat_eq e3 o1
  obtain ⟨a, ws, F', ev, hs, ow⟩ := own_seq s o2 e5
  obtain ⟨h3, h4⟩ := asFlats_eq e7 ow
  subst h1 h3 ev
  exact ⟨a, _, rfl, hs, h2, h4, by cases neg <;> exact q _ [] ⟨rfl, rfl⟩⟩
def pIn := p2 fun a b => (dIn a b).map .bl
def pNotIn := p2 fun a b => (dIn a b).map fun k => .bl (!k)
theorem vp_in (ha : PE X a (RP G z pa)) (hb : PE X b (RP G z pb)) (hm : behindInMarks .In b = false := by rfl) (hK : X.K = G.K := by rfl) : PE X (.Compare a [.In] [b] pos) (RP G z (pIn pa pb)) := vp_cmp op_in_seq (by rw [hK]; exact g2_in false) ha hb hm
theorem vp_notIn (ha : PE X a (RP G z pa)) (hb : PE X b (RP G z pb)) (hm : behindInMarks .NotIn b = false := by rfl) (hK : X.K = G.K := by rfl) : PE X (.Compare a [.NotIn] [b] pos) (RP G z (pNotIn pa pb)) := vp_cmp op_notIn_seq (by rw [hK]; exact g2_in true) ha hb hm
/-- k in a dict -/
def gDin : D → D → Option D := fun a b => (dGet b a).map fun o => .bl o.isSome
def gDnotin : D → D → Option D := fun a b => (dGet b a).map fun o => .bl (!o.isSome)
abbrev pDin := p2 gDin
abbrev pDnotin := p2 gDnotin
theorem din_ok {u : V} {d1 d2 : D} {F1 F2 : List Addr} {r : Option D} (s : Same I H) (o1 : Own G I H u d1 F1) (o2 : Own G I H v d2 F2) (e : dGet d1 d2 = some r) : ∃ a o, u = .ref a ∧ DGet H a v o ∧ o.isSome = r.isSome := by
  obtain ⟨a, o, h1, h2, h3⟩ := dGet_ok s o1 o2 e
  refine ⟨a, o, h1, h2, ?_⟩
  cases r with
  | none => rw [show o = none from h3]; rfl
  | some d => obtain ⟨w, F', e, _⟩ := h3; rw [e]; rfl
theorem vp_din (hu : X.A.units + 1 < cLine) (ha : PE X a (RP G z pa)) (hb : PE X b (RP G z pb)) (hm : behindInMarks .In b = false := by rfl) : PE X (.Compare a [.In] [b] pos) (RP G z (pDin pa pb)) :=
  peImp (pe_cmp (pc_din hu ha hb) hm) fun σ H Q ⟨I, ts, dts, env, FT, FS, d, S, e, q⟩ => by
    obtain ⟨d1, e1, e⟩ := Option.bind_eq_some_iff.mp e
    obtain ⟨d2, e2, e⟩ := Option.bind_eq_some_iff.mp e
    obtain ⟨o, e3, e4⟩ := Option.map_eq_some_iff.mp e
    subst e4
    refine ⟨I, ts, dts, env, FT, FS, d1, S, e1, fun u F1 o1 => ⟨I, ts, dts, env, FT, FS, d2, S, e2, fun v F2 o2 => ?_⟩⟩
    obtain ⟨a, o', ea, g, eo⟩ := din_ok S.sub o2 o1 e3
    exact ⟨a, o', ea, g, by rw [eo]; exact q _ [] ⟨rfl, rfl⟩⟩
theorem vp_dnotin (hu : X.A.units + 1 < cLine) (ha : PE X a (RP G z pa)) (hb : PE X b (RP G z pb)) (hm : behindInMarks .NotIn b = false := by rfl) : PE X (.Compare a [.NotIn] [b] pos) (RP G z (pDnotin pa pb)) :=
  peImp (pe_cmp (pc_dnotin hu ha hb) hm) fun σ H Q ⟨I, ts, dts, env, FT, FS, d, S, e, q⟩ => by
    obtain ⟨d1, e1, e⟩ := Option.bind_eq_some_iff.mp e
    obtain ⟨d2, e2, e⟩ := Option.bind_eq_some_iff.mp e
    obtain ⟨o, e3, e4⟩ := Option.map_eq_some_iff.mp e
    subst e4
    refine ⟨I, ts, dts, env, FT, FS, d1, S, e1, fun u F1 o1 => ⟨I, ts, dts, env, FT, FS, d2, S, e2, fun v F2 o2 => ?_⟩⟩
    obtain ⟨a, o', ea, g, eo⟩ := din_ok S.sub o2 o1 e3
    exact ⟨a, o', ea, g, by rw [eo]; exact q _ [] ⟨rfl, rfl⟩⟩

/-! ### built-in functions -/
def gLen : D → Option D := fun d => match asSeq d with
  | some l => some (.int l.length)
  | none => match d with
    | .str x => if x.length ≤ sizeLine then some (.int x.length) else none
    | .dk _ ks _ => some (.int ks.length)
    | _ => none
theorem g1_len : G1 G (fun xs H Q => (∃ x n, xs = [x] ∧ LenV G.K x H n ∧ Q (.int n) H) ∨ ∃ a kvs, xs = [.ref a] ∧ H a = some (.dK kvs) ∧ Q (.int kvs.length) H) gLen := by
  intro I H u d1 d F1 Q s o1 e q
  unfold gLen at e
  cases h : asSeq d1 with
  | some l =>
    rw [h] at e
    cases e
    obtain ⟨a, ws, F', ev, hs, ow⟩ := own_seq s o1 h
    subst ev
    refine .inl ⟨_, l.length, rfl, ?_, q _ [] ⟨rfl, rfl⟩⟩
    rcases hs with hs | hs
    · exact .inl ⟨ws, hs, ow.len.symm⟩
    · exact .inr ⟨ws, hs, ow.len.symm⟩
  | none =>
    rw [h] at e
    cases d1 with
    | str x =>
      cases own_str o1
      have e : (if x.length ≤ sizeLine then some (D.int x.length) else none) = some d := e
      split at e
      · rename_i hl
        cases e
        exact .inl ⟨_, x.length, rfl, ⟨hl, rfl⟩, q _ [] ⟨rfl, rfl⟩⟩
      · cases e
    | dk m ks l =>
      cases e
      obtain ⟨a, ws, F', ev, h1, n, ow, _⟩ := own_dk s o1
      subst ev
      refine .inr ⟨a, _, rfl, h1, ?_⟩
      rw [List.length_zip, n, Nat.min_self]
      exact q _ [] ⟨rfl, rfl⟩
    | _ => cases e
abbrev pLen := p1 gLen
theorem vp_call1 {id : String} {x : Str} {p : Pos} {r : List V → Hp → VK → Prop} {g : D → Option D} (hc : CallR X (.builtin id) r) (hg : G1 G r g) (hm : X.mg x = none) (hv : bootBuiltins x = some (.builtin id)) (ha : PE X a (RP G z pa)) (hgl : Gl X x)
    (hn : x ≠ "__name__" := by decide) (hdb : (x == ("__debug__" : Str)) = false := by decide)
    (hs : starEach [a] X.env = (false, eval a X.env) :: starEach [] X.env := by rfl) (hpl : (backTo pos (starEach [] X.env)).any (·.1) = false := by rfl) : PE X (.Call (.Name x p) [a] [] pos) (RP G z (p1 g pa)) :=
  peImp (pe_callB hc hgl hm hv (pa_cons ha pa_nil hs) hn hdb hs hpl) fun _ _ _ h => rp1 hg h
theorem vp_callT1 {id : String} {x : Str} {p : Pos} {r : List V → Hp → VK → Prop} {g : D → Option D} (hc : CallR X (.type id) r) (hg : G1 G r g) (hm : X.mg x = none) (hv : bootBuiltins x = some (.type id)) (ha : PE X a (RP G z pa)) (hgl : Gl X x)
    (hn : x ≠ "__name__" := by decide) (hdb : (x == ("__debug__" : Str)) = false := by decide)
    (hs : starEach [a] X.env = (false, eval a X.env) :: starEach [] X.env := by rfl) (hpl : (backTo pos (starEach [] X.env)).any (·.1) = false := by rfl) : PE X (.Call (.Name x p) [a] [] pos) (RP G z (p1 g pa)) :=
  peImp (pe_callTy hc hgl hm hv (pa_cons ha pa_nil hs) hn hdb hs hpl) fun _ _ _ h => rp1 hg h
theorem vp_call2 {id : String} {x : Str} {p : Pos} {r : List V → Hp → VK → Prop} {g : D → D → Option D} (hc : CallR X (.builtin id) r) (hg : GL2 G r g) (hm : X.mg x = none) (hv : bootBuiltins x = some (.builtin id)) (ha : PE X a (RP G z pa)) (hb : PE X b (RP G z pb)) (hgl : Gl X x)
    (hn : x ≠ "__name__" := by decide) (hdb : (x == ("__debug__" : Str)) = false := by decide)
    (hs : starEach [a, b] X.env = (false, eval a X.env) :: starEach [b] X.env := by rfl) (hs2 : starEach [b] X.env = (false, eval b X.env) :: starEach [] X.env := by rfl) (hpl : (backTo pos (starEach [b] X.env)).any (·.1) = false := by rfl) : PE X (.Call (.Name x p) [a, b] [] pos) (RP G z (p2 g pa pb)) :=
  peImp (pe_callB hc hgl hm hv (pa_cons ha (pa_cons hb pa_nil hs2) hs) hn hdb hs hpl) fun _ _ _ h => rpl2 hg h
theorem vp_len {p : Pos} (hm : X.mg "len" = none) (ha : PE X a (RP G z pa)) (hgl : Gl X "len" := by rfl) (hK : X.K = G.K := by rfl)
    (hs : starEach [a] X.env = (false, eval a X.env) :: starEach [] X.env := by rfl) (hpl : (backTo pos (starEach [] X.env)).any (·.1) = false := by rfl) : PE X (.Call (.Name "len" p) [a] [] pos) (RP G z (pLen pa)) :=
  vp_call1 (CallR.or call_len call_lenD) (by rw [hK]; exact g1_len) hm PySem.boot_len ha hgl (by decide) (by decide) hs hpl
def gI1 (f : Int → Option Int) : D → Option D := fun a => (asInt a).bind fun i => (f i).map .int
def gIL (f : Int → Int → Int) : D → D → Option D := fun a b => (asInt a).bind fun i => (asInt b).map fun j => .int (f i j)
theorem GL2.ofI {r : List V → Hp → VK → Prop} {f : Int → Int → Int} (h : ∀ i j H Q, Q (.int (f i j)) H → r [.int i, .int j] H Q) : GL2 G r (gIL f) := by
  intro I H u v d1 d2 d F1 F2 Q s o1 o2 e q
  obtain ⟨i, e1, e4⟩ := Option.bind_eq_some_iff.mp e
  obtain ⟨j, e2, e5⟩ := Option.map_eq_some_iff.mp e4
  cases asInt_eq e1; cases asInt_eq e2
  cases own_int o1; cases own_int o2
  subst e5
  exact h i j H Q (q _ [] ⟨rfl, rfl⟩)
abbrev pMax := p2 (gIL fun i j => if j > i then j else i)
abbrev pMin := p2 (gIL fun i j => if j < i then j else i)
theorem vp_max {p : Pos} (hc : X.calm = true) (hm : X.mg "max" = none) (ha : PE X a (RP G z pa)) (hb : PE X b (RP G z pb)) (hgl : Gl X "max" := by rfl)
    (hs : starEach [a, b] X.env = (false, eval a X.env) :: starEach [b] X.env := by rfl) (hs2 : starEach [b] X.env = (false, eval b X.env) :: starEach [] X.env := by rfl) (hpl : (backTo pos (starEach [b] X.env)).any (·.1) = false := by rfl) : PE X (.Call (.Name "max" p) [a, b] [] pos) (RP G z (pMax pa pb)) :=
  vp_call2 (call_max2 hc) (GL2.ofI fun i j H Q q => ⟨i, j, rfl, q⟩) hm (by decide +kernel) ha hb hgl (by decide) (by decide) hs hs2 hpl
theorem vp_min {p : Pos} (hc : X.calm = true) (hm : X.mg "min" = none) (ha : PE X a (RP G z pa)) (hb : PE X b (RP G z pb)) (hgl : Gl X "min" := by rfl)
    (hs : starEach [a, b] X.env = (false, eval a X.env) :: starEach [b] X.env := by rfl) (hs2 : starEach [b] X.env = (false, eval b X.env) :: starEach [] X.env := by rfl) (hpl : (backTo pos (starEach [b] X.env)).any (·.1) = false := by rfl) : PE X (.Call (.Name "min" p) [a, b] [] pos) (RP G z (pMin pa pb)) :=
  vp_call2 (call_min2 hc) (GL2.ofI fun i j H Q q => ⟨i, j, rfl, q⟩) hm (by decide +kernel) ha hb hgl (by decide) (by decide) hs hs2 hpl
def gAbs : D → Option D := fun a => (asInt a).map fun i => .int (if i < 0 then -i else i)
abbrev pAbs := p1 gAbs
theorem vp_abs {p : Pos} (hm : X.mg "abs" = none) (ha : PE X a (RP G z pa)) (hgl : Gl X "abs" := by rfl)
    (hs : starEach [a] X.env = (false, eval a X.env) :: starEach [] X.env := by rfl) (hpl : (backTo pos (starEach [] X.env)).any (·.1) = false := by rfl) : PE X (.Call (.Name "abs" p) [a] [] pos) (RP G z (pAbs pa)) :=
  vp_call1 call_abs (fun I H u d1 d F1 Q s o1 e q => by
    obtain ⟨i, e1, e2⟩ := Option.map_eq_some_iff.mp e
    cases asInt_eq e1; cases own_int o1; subst e2
    exact ⟨i, rfl, q _ [] ⟨rfl, rfl⟩⟩) hm (by decide +kernel) ha hgl (by decide) (by decide) hs hpl
def gInt : D → Option D := fun d => match d with
  | .int i => some (.int i)
  | .bl b => some (.int (if b then 1 else 0))
  | _ => none
abbrev pInt := p1 gInt
theorem vp_toInt {p : Pos} (hm : X.mg "int" = none) (ha : PE X a (RP G z pa)) (hgl : Gl X "int" := by rfl)
    (hs : starEach [a] X.env = (false, eval a X.env) :: starEach [] X.env := by rfl) (hpl : (backTo pos (starEach [] X.env)).any (·.1) = false := by rfl) : PE X (.Call (.Name "int" p) [a] [] pos) (RP G z (pInt pa)) :=
  vp_callT1 call_int1 (fun I H u d1 d F1 Q s o1 e q => by
    cases d1 with
    | int i => cases e; cases own_int o1; exact .inl ⟨i, rfl, q _ [] ⟨rfl, rfl⟩⟩
    | bl i => cases e; cases own_bl o1; exact .inr ⟨i, rfl, q _ [] ⟨rfl, rfl⟩⟩
    | _ => cases e) hm (by decide +kernel) ha hgl (by decide) (by decide) hs hpl

/-! ### isinstance with a built-in class -/
def tyName : D → Option String
  | .non => some "NoneType"
  | .bl _ => some "bool"
  | .int _ => some "int"
  | .str _ => some "str"
  | .tup _ => some "tuple"
  | .lst _ _ => some "list"
  | .dk _ _ _ => some "dict"
  | .dt _ _ _ => some "dict"
  | _ => none
theorem own_ty {n : String} (s : Same I H) (h : Own G I H v d F) (e : tyName d = some n) : TyX G.K H v (.type n) := by
  cases d with
  | non => cases e; cases h.2; exact .base .non
  | bl b => cases e; cases h.2; exact .base (.bl b)
  | int b => cases e; cases h.2; exact .base (.int b)
  | str b => cases e; cases h.2; exact .base (.str b)
  | tup l => cases e; obtain ⟨a, ws, ev, h1, _⟩ := own_tup s h; subst ev; exact .base (.tup h1)
  | lst m l => cases e; obtain ⟨a, ws, F', ev, h1, _⟩ := own_lst s h; subst ev; exact .base (.lst h1)
  | dk m ks l => cases e; obtain ⟨a, ws, F', ev, h1, _⟩ := own_dk s h; subst ev; exact .base (.dK h1)
  | dt m ks l => cases e; obtain ⟨a, ws, F', ev, h1, _⟩ := own_dt s h; subst ev; exact .base (.dT h1)
  | _ => cases e
def gIsi (T : String) : D → Option D := fun d => (tyName d).bind fun n => (kitB n T).map .bl
abbrev pIsi (T : String) := p1 (gIsi T)
/-- isinstance(x, T), T a built-in class by its name -/
theorem vp_isi (T : String) {p p2 : Pos} {y : Str} (hm : X.mg "isinstance" = none) (hm2 : X.mg y = none) (hv2 : bootBuiltins y = some (.type T)) (ha : PE X a (RP G z pa)) (hgl : Gl X "isinstance" := by rfl) (hgl2 : Gl X y := by rfl) (hK : X.K = G.K := by rfl)
    (hn : y ≠ "__name__" := by decide) (hdb : (y == ("__debug__" : Str)) = false := by decide)
    (hs : starEach [a, .Name y p2] X.env = (false, eval a X.env) :: starEach [.Name y p2] X.env := by rfl) (hs2 : starEach [.Name y p2] X.env = (false, eval (.Name y p2) X.env) :: starEach [] X.env := by rfl) (hpl : (backTo pos (starEach [.Name y p2] X.env)).any (·.1) = false := by rfl) :
    PE X (.Call (.Name "isinstance" p) [a, .Name y p2] [] pos) (RP G z (pIsi T pa)) :=
  peImp (pe_callB call_isi hgl hm (by decide +kernel) (pa_cons ha (pa_cons (pe_bltn (v := .ty T) hgl2 hm2 hv2 rfl hn hdb) pa_nil hs2) hs) (by decide) (by decide) hs hpl) fun σ H Q ⟨I, ts, dts, env, FT, FS, d, S, e, q⟩ => by
    obtain ⟨d1, e1, e⟩ := Option.bind_eq_some_iff.mp e
    obtain ⟨n, e2, e⟩ := Option.bind_eq_some_iff.mp e
    obtain ⟨k, e3, e4⟩ := Option.map_eq_some_iff.mp e
    subst e4
    refine ⟨I, ts, dts, env, FT, FS, d1, S, e1, fun u F1 o1 => ⟨u, .ty T, _, _, k, rfl, .ty T, ?_, kit_ty e3, q _ [] ⟨rfl, rfl⟩⟩⟩
    rw [hK]
    exact own_ty S.sub o1 e2

/-! ### attributes -/
theorem lookup_zip {f : Str} : ∀ {l : List D} {ws : List V} {F : List Addr} {ns : List Str} {d : D}, Owns G I H ws l F → (ns.zip l).lookup f = some d → ∃ w F', (ns.zip ws).lookup f = some w ∧ Own G I H w d F'
  | [], _, _, ns, d, _, e => by cases ns <;> simp at e
  | d' :: l, w :: ws, F, n :: ns, d, ⟨F1, F2, _, r1, r2⟩, e => by
    rw [List.zip_cons_cons, List.lookup_cons] at e
    rw [List.zip_cons_cons, List.lookup_cons]
    cases h : f == n with
    | true => rw [h] at e; cases e; exact ⟨w, F1, rfl, r1⟩
    | false =>
      rw [h] at e
      exact lookup_zip (ns := ns) r2 e
  | _ :: _, _ :: _, _, [], _, _, e => by simp at e
  | _ :: _, [], _, _, _, r, _ => r.elim
theorem own_ins {m : Bool} {c : Str} {ns : List Str} {l : List D} (s : Same I H) (h : Own G I H v (.ins m c ns l) F) : ∃ a dx ws F', v = .ref a ∧ H a = some (.ins (G.cl c) dx (ns.zip ws)) ∧ ws.length = ns.length ∧ Owns G I H ws l F' ∧ (m = true → I a = none ∧ F = a :: F') := by
  cases m with
  | true => obtain ⟨a, dx, ws, F', e, h1, n, i, h2, e2⟩ := h; exact ⟨a, dx, ws, F', e, h1, n, h2, fun _ => ⟨i, e2⟩⟩
  | false => obtain ⟨_, _, a, dx, ws, e, h1, n, h2⟩ := h; exact ⟨a, dx, ws, [], e, s _ _ h1, n, Reps.owns h2, fun z => nomatch z⟩
def gFld (c f : Str) : D → Option D
  | .ins _ c' ns l => if c' = c then (ns.zip l).lookup f else none
  | _ => none
abbrev pFld (c f : Str) := p1 (gFld c f)
theorem vp_fld (c : Str) {f : Str} (hc : Cls G.K (G.cl c)) (hn : NoAttr G.K (G.cl c) f) (ha : PE X a (RP G z pa)) (hb : attributeBase a f X.env (eval a X.env) = eval a X.env := by rfl) (hK : X.K = G.K := by rfl) : PE X (.Attribute a f pos) (RP G z (pFld c f pa)) :=
  peImp (pe_fld ha hb) fun σ H Q ⟨I, ts, dts, env, FT, FS, d, S, e, q⟩ => by
    obtain ⟨d1, e1, e⟩ := Option.bind_eq_some_iff.mp e
    refine ⟨I, ts, dts, env, FT, FS, d1, S, e1, fun u F1 o1 => ?_⟩
    cases d1 with
    | ins m c' ns l =>
      have e0 : (if c' = c then (ns.zip l).lookup f else none) = some d := e
      by_cases ec : c' = c
      · rw [if_pos ec] at e0
        subst ec
        obtain ⟨a, dx, ws, F', ev, h1, n, ow, _⟩ := own_ins S.sub o1
        obtain ⟨w, F'', e2, o2⟩ := lookup_zip (ns := ns) ow e0
        rw [hK]
        exact ⟨a, _, dx, _, w, ev, h1, hc, hn, e2, q _ _ o2⟩
      · rw [if_neg ec] at e0; cases e0
    | _ => cases e
end
end
section
set_option Elab.async false
set_option linter.all false
set_option maxRecDepth 100000
set_option maxHeartbeats 1000000
/-- which slots are lent (never stored, never given up) -/
def ZOk (z : Zx) (ms : List Bool) : Prop := (z.pv.length = ms.length ∧ ∀ k : Nat, ms[k]? = some true → ∃ v, z.pv[k]? = some (some v)) ∧ ∀ k : Nat, ms[k]? = some false → z.pv[k]? = some none

/-! ### functions of effects -/
def vP (p : VEnv → Option D) : M D := fun e => match p e with
  | some d => if d.frozen then some (.ok d e) else none
  | none => none
/-- a name's value handed on: from now on it is frozen -/
def vMv (k : Nat) : M D := fun e => match e[k]? with
  | some (some d) => some (.ok d.fz (e.set k (some d.fz)))
  | _ => none
/-- a name's value handed on for good: the slot holds it no longer -/
def vGv (k : Nat) : M D := fun e => match e[k]? with
  | some (some d) => some (.ok d (e.set k none))
  | _ => none
/-- a value given up: from now on nobody changes it -/
def vFz (f : M D) : M D := f.bnd fun d => M.ret d.fz
/-- by a partial function of values -/
def M.opt {α : Type} (o : Option α) : M α := fun e => o.map fun a => .ok a e
def vOp (g : D → D → Option D) (fa fb : M D) : M D := fa.bnd fun a => fb.bnd fun b => M.opt ((g a b).bind fun d => if d.frozen then some d else none)
def vOp1 (g : D → Option D) (fa : M D) : M D := fa.bnd fun a => M.opt ((g a).bind fun d => if d.frozen then some d else none)
def aNil : M (List D) := M.ret []
def aCons (f : M D) (r : M (List D)) : M (List D) := f.bnd fun d => r.bnd fun ds => M.ret (d :: ds)
def vTup (f : M (List D)) : M D := f.bnd fun ds => M.opt (if ds.length ≤ sizeLine then some (.tup (D.fzs ds)) else none)
def vLst (f : M (List D)) : M D := f.bnd fun ds => M.opt (if ds.length ≤ sizeLine then some (.lst true ds) else none)
def tP (p : VEnv → Option D) : M Bool := fun e => match p e with
  | some (.bl b) => some (.ok b e)
  | _ => none
def tE (f : M D) : M Bool := f.bnd fun d => M.opt (asBl d)
def tAnd (f g : M Bool) : M Bool := f.bnd fun b => if b = true then g else M.ret false
def tOr (f g : M Bool) : M Bool := f.bnd fun b => if b = true then M.ret true else g
def tNot (f : M Bool) : M Bool := f.bnd fun b => M.ret (!b)
def vIf (c : M Bool) (f g : M D) : M D := c.bnd fun b => if b = true then f else g
def vAnd (f g : M D) : M D := f.bnd fun d => (M.opt (asBl d)).bnd fun b => if b = true then g else M.ret (.bl false)
def vOr (f g : M D) : M D := f.bnd fun d => (M.opt (asBl d)).bnd fun b => if b = true then M.ret (.bl true) else g
def vNot (f : M D) : M D := f.bnd fun d => (M.opt (asBl d)).bnd fun b => M.ret (.bl (!b))

section
variable {G : Gx} {z : Zx} {W : WX} {I H : Hp} {ts : List V} {dts : List D} {σ : L2.St} {env : VEnv} {FT FS : List Addr}
/-- the goal of an expression's reading, from a state -/
def GE (G : Gx) (z : Zx) (W : WX) (I : Hp) (ts : List V) (dts : List D) (σ : L2.St) (Q : VK) : Option (Res D) → Prop
  | none => False
  | some (.ok d env') => ∀ v I' H' FT' FS', Same I I' → Stt G z I' H' (v :: ts) (d :: dts) σ env' FT' FS' → Q v H'
  | some (.exc c x env') => XP G z W I σ c x env'
theorem RE.of {f : M D} {Q : VK} (S : Stt G z I H ts dts σ env FT FS) (h : GE G z W I ts dts σ Q (f env)) : RE G z W f σ H Q := by
  refine ⟨I, ts, dts, env, FT, FS, S, ?_⟩
  unfold GE at h
  split at h
  · exact h.elim
  · rename_i e; first | (rw [e]; exact h) | exact h
  · rename_i e; first | (rw [e]; exact h) | exact h
theorem RE.to {f : M D} {Q : VK} (h : RE G z W f σ H Q) : ∃ I ts dts env FT FS, Stt G z I H ts dts σ env FT FS ∧ GE G z W I ts dts σ Q (f env) := by
  obtain ⟨I, ts, dts, env, FT, FS, S, h⟩ := h
  refine ⟨I, ts, dts, env, FT, FS, S, ?_⟩
  unfold GE
  split
  · rename_i e; rw [e] at h; exact h
  · rename_i e; rw [e] at h; exact h
  · rename_i e; rw [e] at h; exact h
def GT (G : Gx) (z : Zx) (W : WX) (I : Hp) (ts : List V) (dts : List D) (σ : L2.St) (Q : Bool → Hp → Prop) : Option (Res Bool) → Prop
  | none => False
  | some (.ok b env') => ∀ I' H' FT' FS', Same I I' → Stt G z I' H' ts dts σ env' FT' FS' → Q b H'
  | some (.exc c x env') => XP G z W I σ c x env'
theorem RT.of {f : M Bool} {Q : Bool → Hp → Prop} (S : Stt G z I H ts dts σ env FT FS) (h : GT G z W I ts dts σ Q (f env)) : RT G z W f σ H Q := by
  refine ⟨I, ts, dts, env, FT, FS, S, ?_⟩
  unfold GT at h
  split at h
  · exact h.elim
  · rename_i e; first | (rw [e]; exact h) | exact h
  · rename_i e; first | (rw [e]; exact h) | exact h
theorem RT.to {f : M Bool} {Q : Bool → Hp → Prop} (h : RT G z W f σ H Q) : ∃ I ts dts env FT FS, Stt G z I H ts dts σ env FT FS ∧ GT G z W I ts dts σ Q (f env) := by
  obtain ⟨I, ts, dts, env, FT, FS, S, h⟩ := h
  refine ⟨I, ts, dts, env, FT, FS, S, ?_⟩
  unfold GT
  split
  · rename_i e; rw [e] at h; exact h
  · rename_i e; rw [e] at h; exact h
  · rename_i e; rw [e] at h; exact h
def GA (G : Gx) (z : Zx) (W : WX) (I : Hp) (ts : List V) (dts : List D) (σ : L2.St) (Q : List V → Hp → Prop) : Option (Res (List D)) → Prop
  | none => False
  | some (.ok ds env') => ∀ vs I' H' FT' FS', Same I I' → Stt G z I' H' (vs ++ ts) (ds ++ dts) σ env' FT' FS' → vs.length = ds.length → Q vs H'
  | some (.exc c x env') => XP G z W I σ c x env'
theorem RA.of {f : M (List D)} {Q : List V → Hp → Prop} (S : Stt G z I H ts dts σ env FT FS) (h : GA G z W I ts dts σ Q (f env)) : RA G z W f σ H Q := by
  refine ⟨I, ts, dts, env, FT, FS, S, ?_⟩
  unfold GA at h
  split at h
  · exact h.elim
  · rename_i e; first | (rw [e]; exact h) | exact h
  · rename_i e; first | (rw [e]; exact h) | exact h
theorem RA.to {f : M (List D)} {Q : List V → Hp → Prop} (h : RA G z W f σ H Q) : ∃ I ts dts env FT FS, Stt G z I H ts dts σ env FT FS ∧ GA G z W I ts dts σ Q (f env) := by
  obtain ⟨I, ts, dts, env, FT, FS, S, h⟩ := h
  refine ⟨I, ts, dts, env, FT, FS, S, ?_⟩
  unfold GA
  split
  · rename_i e; rw [e] at h; exact h
  · rename_i e; rw [e] at h; exact h
  · rename_i e; rw [e] at h; exact h
/-- first f, then what follows: R is asked behind f's value on top -/
theorem GE.bnd {α : Type} {f : M D} {k : D → M α} {g : Option (Res α) → Prop} {I0 : Hp} {Q : VK} (hs : Same I0 I) (h : g (f.bnd k env)) (hx : ∀ c x e, g (some (.exc c x e)) → XP G z W I0 σ c x e) (h0 : ¬ g none)
    (hq : ∀ d e, g (k d e) → ∀ v I' H' FT' FS', Same I0 I' → Stt G z I' H' (v :: ts) (d :: dts) σ e FT' FS' → Q v H') : GE G z W I ts dts σ Q (f env) := by
  unfold M.bnd at h
  cases e : f env with
  | none => rw [e] at h; exact (h0 h).elim
  | some r =>
    rw [e] at h
    cases r with
    | ok d e' => exact fun v I' H' FT' FS' s S => hq d e' h v I' H' FT' FS' (hs.trans s) S
    | exc c x e' => exact (hx c x e' h).weak hs
theorem GT.bnd {α : Type} {f : M Bool} {k : Bool → M α} {g : Option (Res α) → Prop} {I0 : Hp} {Q : Bool → Hp → Prop} (hs : Same I0 I) (h : g (f.bnd k env)) (hx : ∀ c x e, g (some (.exc c x e)) → XP G z W I0 σ c x e) (h0 : ¬ g none)
    (hq : ∀ d e, g (k d e) → ∀ I' H' FT' FS', Same I0 I' → Stt G z I' H' ts dts σ e FT' FS' → Q d H') : GT G z W I ts dts σ Q (f env) := by
  unfold M.bnd at h
  cases e : f env with
  | none => rw [e] at h; exact (h0 h).elim
  | some r =>
    rw [e] at h
    cases r with
    | ok d e' => exact fun I' H' FT' FS' s S => hq d e' h I' H' FT' FS' (hs.trans s) S
    | exc c x e' => exact (hx c x e' h).weak hs
theorem GA.bnd {α : Type} {f : M (List D)} {k : List D → M α} {g : Option (Res α) → Prop} {I0 : Hp} {Q : List V → Hp → Prop} (hs : Same I0 I) (h : g (f.bnd k env)) (hx : ∀ c x e, g (some (.exc c x e)) → XP G z W I0 σ c x e) (h0 : ¬ g none)
    (hq : ∀ d e, g (k d e) → ∀ vs I' H' FT' FS', Same I0 I' → Stt G z I' H' (vs ++ ts) (d ++ dts) σ e FT' FS' → vs.length = d.length → Q vs H') : GA G z W I ts dts σ Q (f env) := by
  unfold M.bnd at h
  cases e : f env with
  | none => rw [e] at h; exact (h0 h).elim
  | some r =>
    rw [e] at h
    cases r with
    | ok d e' => exact fun vs I' H' FT' FS' s S n => hq d e' h vs I' H' FT' FS' (hs.trans s) S n
    | exc c x e' => exact (hx c x e' h).weak hs
/-- the end: Q is reached -/
theorem GE.ok {d : D} {Q : VK} {v : V} {FT' FS' : List Addr} {I0 H' : Hp} {e : VEnv} (h : GE G z W I0 ts dts σ Q (some (.ok d e))) (s : Same I0 I) (S : Stt G z I H' (v :: ts) (d :: dts) σ e FT' FS') : Q v H' := h v I H' FT' FS' s S
theorem M.opt_bnd {α β : Type} {o : Option α} {k : α → M β} {e : VEnv} {r : Option (Res β)} (h : (M.opt o).bnd k e = r) : (∃ a, o = some a ∧ k a e = r) ∨ (o = none ∧ r = none) := by
  unfold M.opt M.bnd at h
  cases o with
  | none => exact .inr ⟨rfl, h.symm⟩
  | some a => exact .inl ⟨a, rfl, h⟩
theorem GE.optGo {o : Option D} {Q : VK} {I0 : Hp} {e : VEnv} (h : GE G z W I0 ts dts σ Q (M.opt o e)) : ∃ d, o = some d ∧ ∀ v I' H' FT' FS', Same I0 I' → Stt G z I' H' (v :: ts) (d :: dts) σ e FT' FS' → Q v H' := by
  unfold M.opt at h
  cases o with
  | none => exact h.elim
  | some a => exact ⟨a, rfl, h⟩
end

section
variable {X : Cx} {G : Gx} {z : Zx} {W : WX} {e a b : Expr} {es : List Expr} {pa pb : VEnv → Option D} {fa fb : M D} {ta tb : M Bool} {fs : M (List D)} {pos : Pos} {ms : List Bool}
/-! ### expressions -/
theorem ve_p (h : PE X e (RP G z pa)) : PE X e (RE G z W (vP pa)) := peImp h fun σ H Q h => by
  obtain ⟨I, ts, dts, env, FT, FS, S, h⟩ := RE.to h
  unfold vP at h
  cases e1 : pa env with
  | none => rw [e1] at h; exact h.elim
  | some d =>
    rw [e1] at h
    replace h : GE G z W I ts dts σ Q (if d.frozen = true then some (Res.ok d env) else none) := h
    by_cases f : d.frozen = true
    · rw [if_pos f] at h
      refine ⟨I, ts, dts, env, FT, FS, d, S, e1, fun v F o => ?_⟩
      exact GE.ok h (Same.refl _) (S.pushR (Own.rep d v F f o).2)
    · rw [if_neg f] at h
      exact h.elim
theorem ve_mv (k : Nat) (hz : ZOk z ms) (h : PE X e (tVar k)) (hk : ms[k]? = some false := by rfl) : PE X e (RE G z W (vMv k)) := peImp h fun σ H Q h => by
  obtain ⟨I, ts, dts, env, FT, FS, S, h⟩ := RE.to h
  unfold vMv at h
  cases e1 : env[k]? with
  | none => rw [e1] at h; exact h.elim
  | some o =>
    rw [e1] at h
    cases o with
    | none => exact h.elim
    | some d =>
      obtain ⟨v, I', F', s, e2, r, S'⟩ := S.giveSlot e1 (hz.2 k hk)
      exact ⟨v, e2, GE.ok h s (S'.pushR r)⟩
theorem ve_gv (k : Nat) (hz : ZOk z ms) (h : PE X e (tVar k)) (hk : ms[k]? = some false := by rfl) : PE X e (RE G z W (vGv k)) := peImp h fun σ H Q h => by
  obtain ⟨I, ts, dts, env, FT, FS, S, h⟩ := RE.to h
  unfold vGv at h
  cases e1 : env[k]? with
  | none => rw [e1] at h; exact h.elim
  | some o =>
    rw [e1] at h
    cases o with
    | none => exact h.elim
    | some d =>
      obtain ⟨v, p, Fk, Fr, b1, b2, b3, b4, b5, b6, b7, b8, S1⟩ := S.hole e1
      rw [hz.2 k hk] at b1
      have ep : none = p := Option.some.inj b1
      exact ⟨v, b2, GE.ok h (Same.refl _) (S1.push b4 (b5 ep.symm) b7)⟩
theorem ve_fz (h : PE X e (RE G z W fa)) : PE X e (RE G z W (vFz fa)) := peImp h fun σ H Q h => by
  obtain ⟨I, ts, dts, env, FT, FS, S, h⟩ := RE.to h
  refine RE.of S (GE.bnd (g := GE G z W I ts dts σ Q) (Same.refl _) h (fun c x e h => h) (fun h => h) fun d1 e1 h1 u I1 H1 FT1 FS1 s1 S1 => ?_)
  obtain ⟨I2, F2, s2, r2, S2⟩ := S1.giveTop
  exact GE.ok h1 (s1.trans s2) (S2.pushR r2)
theorem ve_op {op : Operator} {r : R2} {g : D → D → Option D} (ho : OpR X (binaryOp op) r) (hg : G2 G r g) (ha : PE X a (RE G z W fa)) (hb : PE X b (RE G z W fb)) : PE X (.BinOp a op b pos) (RE G z W (vOp g fa fb)) :=
  peImp (pe_op ho ha hb) fun σ H Q h => by
    obtain ⟨I, ts, dts, env, FT, FS, S, h⟩ := RE.to h
    refine RE.of S (GE.bnd (g := GE G z W I ts dts σ Q) (Same.refl _) h (fun c x e h => h) (fun h => h) fun d1 e1 h1 u I1 H1 FT1 FS1 s1 S1 => ?_)
    refine RE.of S1 (GE.bnd (g := GE G z W I ts dts σ Q) s1 h1 (fun c x e h => h) (fun h => h) fun d2 e2 h2 v I2 H2 FT2 FS2 s2 S2 => ?_)
    obtain ⟨d, e3, hq⟩ := GE.optGo h2
    obtain ⟨d', e4, e5⟩ := Option.bind_eq_some_iff.mp e3
    split at e5
    · rename_i c
      cases e5
      obtain ⟨Fv, FT3, ev, ov, fv, S3⟩ := S2.pop
      obtain ⟨Fu, FT4, eu, ou, fu, S4⟩ := S3.pop
      exact hg I2 H2 u v d1 d2 d Fu Fv Q S4.sub ou ov e4 fun w F o => hq w I2 H2 FT4 FS2 s2 (S4.pushR (Own.rep d w F c o).2)
    · cases e5
theorem ve_cmp {op : CmpOp} {r : R2} {g : D → D → Option D} (ho : OpR X (compareOp op) r) (hg : G2 G r g) (ha : PE X a (RE G z W fa)) (hb : PE X b (RE G z W fb)) (hm : behindInMarks op b = false) : PE X (.Compare a [op] [b] pos) (RE G z W (vOp g fa fb)) :=
  peImp (pe_cmpR ho ha hb hm) fun σ H Q h => by
    obtain ⟨I, ts, dts, env, FT, FS, S, h⟩ := RE.to h
    refine RE.of S (GE.bnd (g := GE G z W I ts dts σ Q) (Same.refl _) h (fun c x e h => h) (fun h => h) fun d1 e1 h1 u I1 H1 FT1 FS1 s1 S1 => ?_)
    refine RE.of S1 (GE.bnd (g := GE G z W I ts dts σ Q) s1 h1 (fun c x e h => h) (fun h => h) fun d2 e2 h2 v I2 H2 FT2 FS2 s2 S2 => ?_)
    obtain ⟨d, e3, hq⟩ := GE.optGo h2
    obtain ⟨d', e4, e5⟩ := Option.bind_eq_some_iff.mp e3
    split at e5
    · rename_i c
      cases e5
      obtain ⟨Fv, FT3, ev, ov, fv, S3⟩ := S2.pop
      obtain ⟨Fu, FT4, eu, ou, fu, S4⟩ := S3.pop
      exact hg I2 H2 u v d1 d2 d Fu Fv Q S4.sub ou ov e4 fun w F o => hq w I2 H2 FT4 FS2 s2 (S4.pushR (Own.rep d w F c o).2)
    · cases e5
abbrev vAdd := vOp gAdd
abbrev vSub := vOp (gI fSub)
abbrev vMul := vOp (gI fMul)
abbrev vDiv := vOp (gI fDiv)
abbrev vMod := vOp (gI fMod)
theorem ve_add (ha : PE X a (RE G z W fa)) (hb : PE X b (RE G z W fb)) : PE X (.BinOp a .Add b pos) (RE G z W (vAdd fa fb)) := ve_op (OpR.or op_add op_add_str) g2_add ha hb
theorem ve_sub (ha : PE X a (RE G z W fa)) (hb : PE X b (RE G z W fb)) : PE X (.BinOp a .Sub b pos) (RE G z W (vSub fa fb)) := ve_op op_sub g2_sub ha hb
theorem ve_mul (ha : PE X a (RE G z W fa)) (hb : PE X b (RE G z W fb)) : PE X (.BinOp a .Mult b pos) (RE G z W (vMul fa fb)) := ve_op op_mul g2_mul ha hb
theorem ve_div (ha : PE X a (RE G z W fa)) (hb : PE X b (RE G z W fb)) : PE X (.BinOp a .FloorDiv b pos) (RE G z W (vDiv fa fb)) := ve_op op_fdiv g2_div ha hb
theorem ve_mod (ha : PE X a (RE G z W fa)) (hb : PE X b (RE G z W fb)) : PE X (.BinOp a .Mod b pos) (RE G z W (vMod fa fb)) := ve_op op_mod g2_mod ha hb
theorem ve_eq (hu : X.A.units + 64 < cLine) (ha : PE X a (RE G z W fa)) (hb : PE X b (RE G z W fb)) (hK : X.K = G.K := by rfl) : PE X (.Compare a [.Eq] [b] pos) (RE G z W (vOp gEq fa fb)) := ve_cmp (op_eqD hu) (by rw [hK]; exact g2_eq) ha hb (nomark b)
theorem ve_ne (hu : X.A.units + 64 < cLine) (ha : PE X a (RE G z W fa)) (hb : PE X b (RE G z W fb)) (hK : X.K = G.K := by rfl) : PE X (.Compare a [.NotEq] [b] pos) (RE G z W (vOp gNe fa fb)) := ve_cmp (op_neD hu) (by rw [hK]; exact g2_ne) ha hb (nomark b)
theorem ve_lt (ha : PE X a (RE G z W fa)) (hb : PE X b (RE G z W fb)) : PE X (.Compare a [.Lt] [b] pos) (RE G z W (vOp (gIB fun i j => decide (i < j)) fa fb)) := ve_cmp op_lt (G2.ofIB fun i j H Q q => ⟨i, j, rfl, rfl, q⟩) ha hb (nomark b)
theorem ve_le (ha : PE X a (RE G z W fa)) (hb : PE X b (RE G z W fb)) : PE X (.Compare a [.LtE] [b] pos) (RE G z W (vOp (gIB fun i j => decide (i ≤ j)) fa fb)) := ve_cmp op_le (G2.ofIB fun i j H Q q => ⟨i, j, rfl, rfl, q⟩) ha hb (nomark b)
theorem ve_gt (ha : PE X a (RE G z W fa)) (hb : PE X b (RE G z W fb)) : PE X (.Compare a [.Gt] [b] pos) (RE G z W (vOp (gIB fun i j => decide (j < i)) fa fb)) := ve_cmp op_gt (G2.ofIB fun i j H Q q => ⟨i, j, rfl, rfl, q⟩) ha hb (nomark b)
theorem ve_ge (ha : PE X a (RE G z W fa)) (hb : PE X b (RE G z W fb)) : PE X (.Compare a [.GtE] [b] pos) (RE G z W (vOp (gIB fun i j => decide (j ≤ i)) fa fb)) := ve_cmp op_ge (G2.ofIB fun i j H Q q => ⟨i, j, rfl, rfl, q⟩) ha hb (nomark b)
theorem ve_ix (ha : PE X a (RE G z W fa)) (hb : PE X b (RE G z W fb)) (hs : PlainIx b := by intro _ _; rfl) (hK : X.K = G.K := by rfl) : PE X (.Subscript a b pos) (RE G z W (vOp gIx fa fb)) :=
  peImp (pe_ix (IxR.or (IxR.or ix_list ix_tup) ix_str) ha hb hs) fun σ H Q h => by
    obtain ⟨I, ts, dts, env, FT, FS, S, h⟩ := RE.to h
    refine RE.of S (GE.bnd (g := GE G z W I ts dts σ Q) (Same.refl _) h (fun c x e h => h) (fun h => h) fun d1 e1 h1 u I1 H1 FT1 FS1 s1 S1 => ?_)
    refine RE.of S1 (GE.bnd (g := GE G z W I ts dts σ Q) s1 h1 (fun c x e h => h) (fun h => h) fun d2 e2 h2 v I2 H2 FT2 FS2 s2 S2 => ?_)
    obtain ⟨d, e3, hq⟩ := GE.optGo h2
    obtain ⟨d', e4, e5⟩ := Option.bind_eq_some_iff.mp e3
    split at e5
    · rename_i c
      cases e5
      obtain ⟨Fv, FT3, ev, ov, fv, S3⟩ := S2.pop
      obtain ⟨Fu, FT4, eu, ou, fu, S4⟩ := S3.pop
      rw [hK]
      exact g2_ix I2 H2 u v d1 d2 d Fu Fv Q S4.sub ou ov e4 fun w F o => hq w I2 H2 FT4 FS2 s2 (S4.pushR (Own.rep d w F c o).2)
    · cases e5

theorem ra1 {r : List V → Hp → VK → Prop} {g : D → Option D} (hg : G1 G r g) {σ H Q} (h : RE G z W (vOp1 g fa) σ H Q) : tCB r (tCons (RE G z W fa) tNil) σ H Q := by
  obtain ⟨I, ts, dts, env, FT, FS, S, h⟩ := RE.to h
  refine RE.of S (GE.bnd (g := GE G z W I ts dts σ Q) (Same.refl _) h (fun c x e h => h) (fun h => h) fun d1 e1 h1 u I1 H1 FT1 FS1 s1 S1 => ?_)
  obtain ⟨d, e3, hq⟩ := GE.optGo h1
  obtain ⟨d', e4, e5⟩ := Option.bind_eq_some_iff.mp e3
  split at e5
  · rename_i c
    cases e5
    obtain ⟨Fu, FT4, eu, ou, fu, S4⟩ := S1.pop
    exact hg I1 H1 u d1 d Fu Q S4.sub ou e4 fun w F o => hq w I1 H1 FT4 FS1 s1 (S4.pushR (Own.rep d w F c o).2)
  · cases e5
theorem ra2 {r : List V → Hp → VK → Prop} {g : D → D → Option D} (hg : GL2 G r g) {σ H Q} (h : RE G z W (vOp g fa fb) σ H Q) : tCB r (tCons (RE G z W fa) (tCons (RE G z W fb) tNil)) σ H Q := by
  obtain ⟨I, ts, dts, env, FT, FS, S, h⟩ := RE.to h
  refine RE.of S (GE.bnd (g := GE G z W I ts dts σ Q) (Same.refl _) h (fun c x e h => h) (fun h => h) fun d1 e1 h1 u I1 H1 FT1 FS1 s1 S1 => ?_)
  refine RE.of S1 (GE.bnd (g := GE G z W I ts dts σ Q) s1 h1 (fun c x e h => h) (fun h => h) fun d2 e2 h2 v I2 H2 FT2 FS2 s2 S2 => ?_)
  obtain ⟨d, e3, hq⟩ := GE.optGo h2
  obtain ⟨d', e4, e5⟩ := Option.bind_eq_some_iff.mp e3
  split at e5
  · rename_i c
    cases e5
    obtain ⟨Fv, FT3, ev, ov, fv, S3⟩ := S2.pop
    obtain ⟨Fu, FT4, eu, ou, fu, S4⟩ := S3.pop
    exact hg I2 H2 u v d1 d2 d Fu Fv Q S4.sub ou ov e4 fun w F o => hq w I2 H2 FT4 FS2 s2 (S4.pushR (Own.rep d w F c o).2)
  · cases e5
theorem ve_call1 {id : String} {x : Str} {p : Pos} {r : List V → Hp → VK → Prop} {g : D → Option D} (hc : CallR X (.builtin id) r) (hg : G1 G r g) (hm : X.mg x = none) (hv : bootBuiltins x = some (.builtin id)) (ha : PE X a (RE G z W fa)) (hgl : Gl X x)
    (hn : x ≠ "__name__" := by decide) (hdb : (x == ("__debug__" : Str)) = false := by decide)
    (hs : starEach [a] X.env = (false, eval a X.env) :: starEach [] X.env := by rfl) (hpl : (backTo pos (starEach [] X.env)).any (·.1) = false := by rfl) : PE X (.Call (.Name x p) [a] [] pos) (RE G z W (vOp1 g fa)) :=
  peImp (pe_callB hc hgl hm hv (pa_cons ha pa_nil hs) hn hdb hs hpl) fun _ _ _ h => ra1 hg h
theorem ve_callT1 {id : String} {x : Str} {p : Pos} {r : List V → Hp → VK → Prop} {g : D → Option D} (hc : CallR X (.type id) r) (hg : G1 G r g) (hm : X.mg x = none) (hv : bootBuiltins x = some (.type id)) (ha : PE X a (RE G z W fa)) (hgl : Gl X x)
    (hn : x ≠ "__name__" := by decide) (hdb : (x == ("__debug__" : Str)) = false := by decide)
    (hs : starEach [a] X.env = (false, eval a X.env) :: starEach [] X.env := by rfl) (hpl : (backTo pos (starEach [] X.env)).any (·.1) = false := by rfl) : PE X (.Call (.Name x p) [a] [] pos) (RE G z W (vOp1 g fa)) :=
  peImp (pe_callTy hc hgl hm hv (pa_cons ha pa_nil hs) hn hdb hs hpl) fun _ _ _ h => ra1 hg h
theorem ve_call2 {id : String} {x : Str} {p : Pos} {r : List V → Hp → VK → Prop} {g : D → D → Option D} (hc : CallR X (.builtin id) r) (hg : GL2 G r g) (hm : X.mg x = none) (hv : bootBuiltins x = some (.builtin id)) (ha : PE X a (RE G z W fa)) (hb : PE X b (RE G z W fb)) (hgl : Gl X x)
    (hn : x ≠ "__name__" := by decide) (hdb : (x == ("__debug__" : Str)) = false := by decide)
    (hs : starEach [a, b] X.env = (false, eval a X.env) :: starEach [b] X.env := by rfl) (hs2 : starEach [b] X.env = (false, eval b X.env) :: starEach [] X.env := by rfl) (hpl : (backTo pos (starEach [b] X.env)).any (·.1) = false := by rfl) : PE X (.Call (.Name x p) [a, b] [] pos) (RE G z W (vOp g fa fb)) :=
  peImp (pe_callB hc hgl hm hv (pa_cons ha (pa_cons hb pa_nil hs2) hs) hn hdb hs hpl) fun _ _ _ h => ra2 hg h
theorem ve_len {p : Pos} (hm : X.mg "len" = none) (ha : PE X a (RE G z W fa)) (hgl : Gl X "len" := by rfl) (hK : X.K = G.K := by rfl)
    (hs : starEach [a] X.env = (false, eval a X.env) :: starEach [] X.env := by rfl) (hpl : (backTo pos (starEach [] X.env)).any (·.1) = false := by rfl) : PE X (.Call (.Name "len" p) [a] [] pos) (RE G z W (vOp1 gLen fa)) :=
  ve_call1 (CallR.or call_len call_lenD) (by rw [hK]; exact g1_len) hm PySem.boot_len ha hgl (by decide) (by decide) hs hpl
theorem ve_abs {p : Pos} (hm : X.mg "abs" = none) (ha : PE X a (RE G z W fa)) (hgl : Gl X "abs" := by rfl)
    (hs : starEach [a] X.env = (false, eval a X.env) :: starEach [] X.env := by rfl) (hpl : (backTo pos (starEach [] X.env)).any (·.1) = false := by rfl) : PE X (.Call (.Name "abs" p) [a] [] pos) (RE G z W (vOp1 gAbs fa)) :=
  ve_call1 call_abs (fun I H u d1 d F1 Q s o1 e q => by
    obtain ⟨i, e1, e2⟩ := Option.map_eq_some_iff.mp e
    cases asInt_eq e1; cases own_int o1; subst e2
    exact ⟨i, rfl, q _ [] ⟨rfl, rfl⟩⟩) hm (by decide +kernel) ha hgl (by decide) (by decide) hs hpl
theorem ve_toInt {p : Pos} (hm : X.mg "int" = none) (ha : PE X a (RE G z W fa)) (hgl : Gl X "int" := by rfl)
    (hs : starEach [a] X.env = (false, eval a X.env) :: starEach [] X.env := by rfl) (hpl : (backTo pos (starEach [] X.env)).any (·.1) = false := by rfl) : PE X (.Call (.Name "int" p) [a] [] pos) (RE G z W (vOp1 gInt fa)) :=
  ve_callT1 call_int1 (fun I H u d1 d F1 Q s o1 e q => by
    cases d1 with
    | int i => cases e; cases own_int o1; exact .inl ⟨i, rfl, q _ [] ⟨rfl, rfl⟩⟩
    | bl i => cases e; cases own_bl o1; exact .inr ⟨i, rfl, q _ [] ⟨rfl, rfl⟩⟩
    | _ => cases e) hm (by decide +kernel) ha hgl (by decide) (by decide) hs hpl
theorem ve_max {p : Pos} (hc : X.calm = true) (hm : X.mg "max" = none) (ha : PE X a (RE G z W fa)) (hb : PE X b (RE G z W fb)) (hgl : Gl X "max" := by rfl)
    (hs : starEach [a, b] X.env = (false, eval a X.env) :: starEach [b] X.env := by rfl) (hs2 : starEach [b] X.env = (false, eval b X.env) :: starEach [] X.env := by rfl) (hpl : (backTo pos (starEach [b] X.env)).any (·.1) = false := by rfl) : PE X (.Call (.Name "max" p) [a, b] [] pos) (RE G z W (vOp (gIL fun i j => if j > i then j else i) fa fb)) :=
  ve_call2 (call_max2 hc) (GL2.ofI fun i j H Q q => ⟨i, j, rfl, q⟩) hm (by decide +kernel) ha hb hgl (by decide) (by decide) hs hs2 hpl
theorem ve_min {p : Pos} (hc : X.calm = true) (hm : X.mg "min" = none) (ha : PE X a (RE G z W fa)) (hb : PE X b (RE G z W fb)) (hgl : Gl X "min" := by rfl)
    (hs : starEach [a, b] X.env = (false, eval a X.env) :: starEach [b] X.env := by rfl) (hs2 : starEach [b] X.env = (false, eval b X.env) :: starEach [] X.env := by rfl) (hpl : (backTo pos (starEach [b] X.env)).any (·.1) = false := by rfl) : PE X (.Call (.Name "min" p) [a, b] [] pos) (RE G z W (vOp (gIL fun i j => if j < i then j else i) fa fb)) :=
  ve_call2 (call_min2 hc) (GL2.ofI fun i j H Q q => ⟨i, j, rfl, q⟩) hm (by decide +kernel) ha hb hgl (by decide) (by decide) hs hs2 hpl

/-! arguments -/
theorem va_nil : PA X [] (RA G z W aNil) := paImp pa_nil fun σ H Q h => by
  obtain ⟨I, ts, dts, env, FT, FS, S, h⟩ := RA.to h
  exact h [] I H FT FS (Same.refl _) S rfl
theorem OwnT.rot {I H : Hp} {v : V} {d : D} : ∀ {vs : List V} {ds : List D} {ts : List V} {dts : List D} {F : List Addr}, vs.length = ds.length → OwnT G z I H (vs ++ v :: ts) (ds ++ d :: dts) F → ∃ F', F'.Perm F ∧ OwnT G z I H (v :: (vs ++ ts)) (d :: (ds ++ dts)) F'
  | [], [], ts, dts, F, _, h => ⟨F, List.Perm.refl _, h⟩
  | w :: vs, c :: ds, ts, dts, F, n, ⟨F1, F2, e, h1, f1, r⟩ => by
    obtain ⟨F', pm, F3, F4, e', h3, f3, r'⟩ := OwnT.rot (vs := vs) (ds := ds) (by simpa using n) r
    subst e e'
    refine ⟨F3 ++ (F1 ++ F4), ?_, F3, F1 ++ F4, rfl, h3, f3, F1, F4, rfl, h1, f1, r'⟩
    calc F3 ++ (F1 ++ F4) |>.Perm (F1 ++ (F3 ++ F4)) := by
          rw [← List.append_assoc, ← List.append_assoc]
          exact List.Perm.append_right _ List.perm_append_comm
      _ |>.Perm (F1 ++ F2) := List.Perm.append_left _ pm
  | [], _ :: _, _, _, _, n, _ => by simp at n
  | _ :: _, [], _, _, _, n, _ => by simp at n
theorem Stt.rot {I H : Hp} {v : V} {d : D} {vs : List V} {ds : List D} {ts : List V} {dts : List D} {σ : L2.St} {env : VEnv} {FT FS : List Addr} (S : Stt G z I H (vs ++ v :: ts) (ds ++ d :: dts) σ env FT FS) (n : vs.length = ds.length) : ∃ FT', Stt G z I H (v :: (vs ++ ts)) (d :: (ds ++ dts)) σ env FT' FS := by
  obtain ⟨F', pm, o⟩ := OwnT.rot n S.oT
  exact ⟨F', o, S.oS, (List.Perm.nodup_iff (List.Perm.append_right _ pm)).mpr S.nd, S.sub, S.i0, S.ifr, S.fS, S.frame, S.dom⟩
theorem va_cons (ha : PE X a (RE G z W fa)) (hr : PA X es (RA G z W fs)) (hs : starEach (a :: es) X.env = (false, eval a X.env) :: starEach es X.env := by rfl) : PA X (a :: es) (RA G z W (aCons fa fs)) := paImp (pa_cons ha hr hs) fun σ H Q h => by
  obtain ⟨I, ts, dts, env, FT, FS, S, h⟩ := RA.to h
  refine RE.of S (GE.bnd (g := GA G z W I ts dts σ Q) (Same.refl _) h (fun c x e h => h) (fun h => h) fun d1 e1 h1 u I1 H1 FT1 FS1 s1 S1 => ?_)
  refine RA.of S1 (GA.bnd (g := GA G z W I ts dts σ Q) s1 h1 (fun c x e h => h) (fun h => h) fun d2 e2 h2 vs I2 H2 FT2 FS2 s2 S2 n => ?_)
  obtain ⟨FT3, S3⟩ := S2.rot n
  exact h2 (u :: vs) I2 H2 FT3 FS2 s2 S3 (by simp [n])
/-- all arguments given up -/
theorem Stt.giveAll {H : Hp} {σ : L2.St} {env : VEnv} {FS : List Addr} {ts : List V} {dts : List D} : ∀ {vs : List V} {ds : List D} {I : Hp} {FT : List Addr}, vs.length = ds.length → Stt G z I H (vs ++ ts) (ds ++ dts) σ env FT FS → ∃ I' FT', Same I I' ∧ Reps G I' vs (D.fzs ds) ∧ Stt G z I' H ts dts σ env FT' FS
  | [], [], I, FT, _, S => ⟨I, FT, Same.refl _, trivial, S⟩
  | v :: vs, d :: ds, I, FT, n, S => by
    obtain ⟨I1, F1, s1, r1, S1⟩ := Stt.giveTop (ts := vs ++ ts) (dts := ds ++ dts) S
    obtain ⟨I2, F2, s2, r2, S2⟩ := Stt.giveAll (vs := vs) (ds := ds) (by simpa using n) S1
    exact ⟨I2, F2, s1.trans s2, ⟨Rep.mono s2 _ _ r1, r2⟩, S2⟩
  | [], _ :: _, _, _, n, _ => by simp at n
  | _ :: _, [], _, _, n, _ => by simp at n
theorem Stt.popAll {I H : Hp} {σ : L2.St} {env : VEnv} {FS : List Addr} {ts : List V} {dts : List D} : ∀ {vs : List V} {ds : List D} {FT : List Addr}, vs.length = ds.length → Stt G z I H (vs ++ ts) (ds ++ dts) σ env FT FS → ∃ F1 F2, FT = F1 ++ F2 ∧ Owns G I H vs ds F1 ∧ Fresh z F1 ∧ Stt G z I H ts dts σ env F2 FS
  | [], [], FT, _, S => ⟨[], FT, rfl, rfl, (fun b hb => nomatch hb), S⟩
  | v :: vs, d :: ds, FT, n, S => by
    obtain ⟨F1, F2, e, h, f, S1⟩ := Stt.pop (ts := vs ++ ts) (dts := ds ++ dts) S
    obtain ⟨F3, F4, e', h', f', S2⟩ := Stt.popAll (vs := vs) (ds := ds) (by simpa using n) S1
    subst e e'
    exact ⟨F1 ++ F3, F4, by rw [List.append_assoc], ⟨F1, F3, rfl, h, h'⟩, (fun b hb => (List.mem_append.mp hb).elim (f b) (f' b)), S2⟩
  | [], _ :: _, _, n, _ => by simp at n
  | _ :: _, [], _, n, _ => by simp at n
theorem ve_tup {x1} (h : PA X es (RA G z W fs)) : PE X (.Tuple es x1 pos) (RE G z W (vTup fs)) := peImp (pe_tup h) fun σ H Q h => by
  obtain ⟨I, ts, dts, env, FT, FS, S, h⟩ := RE.to h
  refine RA.of S (GA.bnd (g := GE G z W I ts dts σ Q) (Same.refl _) h (fun c x e h => h) (fun h => h) fun ds e1 h1 vs I1 H1 FT1 FS1 s1 S1 n => ?_)
  obtain ⟨d, e3, hq⟩ := GE.optGo h1
  split at e3
  · rename_i c
    cases e3
    refine ⟨by rw [n]; exact c, fun p hp => ?_⟩
    obtain ⟨I2, FT2, s2, r, S2⟩ := Stt.giveAll n S1
    refine hq _ _ _ FT2 FS1 ((s1.trans s2).trans (same_upd (S2.new hp).2.1)) ((S2.newI hp (.tup vs)).pushR ⟨p, vs, rfl, upd_same, Reps.mono (same_upd (S2.new hp).2.1) _ _ r⟩)
  · cases e3
/-- an own list, just laid at p -/
theorem Stt.pushL {I H : Hp} {σ : L2.St} {env : VEnv} {ts : List V} {dts : List D} {vs : List V} {ds : List D} {FT FS : List Addr} (n : vs.length = ds.length) (S : Stt G z I H (vs ++ ts) (ds ++ dts) σ env FT FS) {p : Addr} (hp : H p = none) : ∃ FT', Stt G z I (upd H p (.lst vs)) (.ref p :: ts) (.lst true ds :: dts) σ env FT' FS := by
  obtain ⟨F1, F2, e, o, f, S1⟩ := Stt.popAll n S
  obtain ⟨n0, nI, nF⟩ := S.new hp
  have nd := S.nd
  subst e
  have o' : Owns G I (upd H p (.lst vs)) vs ds F1 := Owns.up (Same.refl _) ds vs F1 (fun b hb => ⟨upd_ne fun z => nF (by rw [← z]; simp [hb]), (Owns.dom ds vs F1 o b hb).2⟩) o
  refine ⟨(p :: F1) ++ F2, (S1.newH hp (.lst vs)).push (F := p :: F1) ⟨p, vs, F1, rfl, upd_same, nI, o', rfl⟩ (fun b hb => ?_) ?_⟩
  · rcases List.mem_cons.mp hb with q | q
    · rw [q]; exact n0
    · exact f b q
  · rw [List.append_assoc] at nd
    exact List.nodup_cons.mpr ⟨by simpa [List.append_assoc] using nF, by simpa [List.append_assoc] using nd⟩
theorem ve_lst (h : PA X es (RA G z W fs)) : PE X (.List es pos) (RE G z W (vLst fs)) := peImp (pe_lst h) fun σ H Q h => by
  obtain ⟨I, ts, dts, env, FT, FS, S, h⟩ := RE.to h
  refine RA.of S (GA.bnd (g := GE G z W I ts dts σ Q) (Same.refl _) h (fun c x e h => h) (fun h => h) fun ds e1 h1 vs I1 H1 FT1 FS1 s1 S1 n => ?_)
  obtain ⟨d, e3, hq⟩ := GE.optGo h1
  split at e3
  · rename_i c
    cases e3
    refine ⟨by rw [n]; exact c, fun p hp => ?_⟩
    obtain ⟨FT', S2⟩ := S1.pushL n hp
    exact hq _ _ _ _ _ s1 S2
  · cases e3
/-! ### tests -/
theorem vt_p (h : PE X e (RP G z pa)) (he : ∀ whole, isTrue e X.env whole = (do let v ← whole; standAt e.pos; holding [v] (truthy v)) := by intro _; rfl) : PT X e (RT G z W (tP pa)) := ptImp (pt_val h he) fun σ H Q h => by
  obtain ⟨I, ts, dts, env, FT, FS, S, h⟩ := RT.to h
  unfold tP at h
  cases e1 : pa env with
  | none => rw [e1] at h; exact h.elim
  | some d =>
    rw [e1] at h
    cases d with
    | bl b => exact ⟨I, ts, dts, env, FT, FS, _, S, e1, fun v F o => ⟨b, own_bl o, h I H FT FS (Same.refl _) S⟩⟩
    | _ => exact h.elim
/-- a comparison as a test -/
theorem isTrue_cmp {M : Model} {A : Around} {E : Value → Shared → Prop} {env : Env} {s : Shared} {l r : Expr} {op : CmpOp} {pos : Pos} {whole : Sem Value} {Q : Bool → Shared → Prop} (h : wpAny M A (eval (.Compare l [op] [r] pos) env) (fun c s3 => wpAny M A (truthy c) Q E s3) E s) (hm : behindInMarks op r = false) : wpAny M A (isTrue (.Compare l [op] [r] pos) env whole) Q E s := fun Γ p hΓ => by
  have h := h Γ p hΓ
  simp only [eval_Compare1, markedBehindIn_of_false hm, Sem.wp_bind', Sem.wp_holding, Sem.wp_cmd_standAt, Sem.wp_operate] at h
  simp only [isTrue_Compare1, markedBehindIn_of_false hm, Sem.wp_bind', Sem.wp_holding, Sem.wp_cmd_standAt, Sem.wp_operate]
  exact Sem.wp_mono M Γ _ (fun a p₁ s₁ h₁ => Sem.wp_mono M Γ _ (fun b _ s₂ h₂ => Sem.wp_mono M Γ _ (fun c p₃ s₃ h₃ => h₃ Γ p₃ hΓ)
    (fun _ _ _ h' => h') _ _ h₂) (fun _ _ _ h' => h') _ _ h₁) (fun _ _ _ h' => h') _ _ h
theorem pt_cmpE {op : CmpOp} {t : TE} (h : PE X (.Compare a [op] [b] pos) t) (hm : behindInMarks op b = false) : PT X (.Compare a [op] [b] pos) (tB t) := by
  refine ⟨fun pins s σ H Q I hw => ?_⟩
  refine isTrue_cmp (thn (h.run pins s σ H _ I hw) fun v s1 ⟨x, H1, I1, r1, q1⟩ => ?_) hm
  obtain ⟨d, rfl, q⟩ := q1
  cases r1
  exact wpAny_truthy_bool ⟨H1, I1, q⟩
theorem tB_p {σ H Q} (h : RT G z W (tP pa) σ H Q) : tB (RP G z pa) σ H Q := by
  obtain ⟨I, ts, dts, env, FT, FS, S, h⟩ := RT.to h
  unfold tP at h
  cases e1 : pa env with
  | none => rw [e1] at h; exact h.elim
  | some d =>
    rw [e1] at h
    cases d with
    | bl b => exact ⟨I, ts, dts, env, FT, FS, _, S, e1, fun v F o => ⟨b, own_bl o, h I H FT FS (Same.refl _) S⟩⟩
    | _ => exact h.elim
theorem tB_e {σ H Q} (h : RT G z W (tE fa) σ H Q) : tB (RE G z W fa) σ H Q := by
  obtain ⟨I, ts, dts, env, FT, FS, S, h⟩ := RT.to h
  refine RE.of S (GE.bnd (g := GT G z W I ts dts σ Q) (Same.refl _) h (fun c x e h => h) (fun h => h) fun d1 e1 h1 u I1 H1 FT1 FS1 s1 S1 => ?_)
  unfold M.opt at h1
  cases d1 with
  | bl k =>
    obtain ⟨r, S2⟩ := S1.popR rfl
    exact ⟨k, r, h1 I1 H1 FT1 FS1 s1 S2⟩
  | _ => exact h1.elim
theorem vt_pc {op : CmpOp} (h : PE X (.Compare a [op] [b] pos) (RP G z pa)) (hm : behindInMarks op b = false := by rfl) : PT X (.Compare a [op] [b] pos) (RT G z W (tP pa)) := ptImp (pt_cmpE h hm) fun σ H Q h => tB_p h
theorem vt_ec {op : CmpOp} (h : PE X (.Compare a [op] [b] pos) (RE G z W fa)) (hm : behindInMarks op b = false := by rfl) : PT X (.Compare a [op] [b] pos) (RT G z W (tE fa)) := ptImp (pt_cmpE h hm) fun σ H Q h => tB_e h
theorem vt_e (h : PE X e (RE G z W fa)) (he : ∀ whole, isTrue e X.env whole = (do let v ← whole; standAt e.pos; holding [v] (truthy v)) := by intro _; rfl) : PT X e (RT G z W (tE fa)) := ptImp (pt_val h he) fun σ H Q h => by
  obtain ⟨I, ts, dts, env, FT, FS, S, h⟩ := RT.to h
  refine RE.of S (GE.bnd (g := GT G z W I ts dts σ Q) (Same.refl _) h (fun c x e h => h) (fun h => h) fun d1 e1 h1 u I1 H1 FT1 FS1 s1 S1 => ?_)
  unfold M.opt at h1
  cases d1 with
  | bl k =>
    obtain ⟨r, S2⟩ := S1.popR rfl
    exact ⟨k, r, h1 I1 H1 FT1 FS1 s1 S2⟩
  | _ => exact h1.elim
theorem vt_not (ha : PT X a (RT G z W ta)) : PT X (.UnaryOp .Not a pos) (RT G z W (tNot ta)) := ptImp (pt_not ha) fun σ H Q h => by
  obtain ⟨I, ts, dts, env, FT, FS, S, h⟩ := RT.to h
  exact RT.of S (GT.bnd (g := GT G z W I ts dts σ Q) (Same.refl _) h (fun c x e h => h) (fun h => h) fun d1 e1 h1 I1 H1 FT1 FS1 s1 S1 => h1 I1 H1 FT1 FS1 s1 S1)
theorem vw_and1 (ha : PT X a (RT G z W ta)) : PW X (.BoolOp .And [a] pos) (RT G z W ta) := pw_and1 ha
theorem vw_or1 (ha : PT X a (RT G z W ta)) : PW X (.BoolOp .Or [a] pos) (RT G z W ta) := pw_or1 ha
variable {rest : List Expr}
theorem GT.weak {I0 I1 : Hp} {ts : List V} {dts : List D} {σ : L2.St} {Q : Bool → Hp → Prop} {r : Option (Res Bool)} (s : Same I0 I1) (h : GT G z W I0 ts dts σ Q r) : GT G z W I1 ts dts σ Q r := by
  cases r with
  | none => exact h
  | some r => cases r with
    | ok b e => exact fun I' H' FT' FS' s' S => h I' H' FT' FS' (s.trans s') S
    | exc c x e => exact XP.weak h s
theorem GE.weak {I0 I1 : Hp} {ts : List V} {dts : List D} {σ : L2.St} {Q : VK} {r : Option (Res D)} (s : Same I0 I1) (h : GE G z W I0 ts dts σ Q r) : GE G z W I1 ts dts σ Q r := by
  cases r with
  | none => exact h
  | some r => cases r with
    | ok b e => exact fun v I' H' FT' FS' s' S => h v I' H' FT' FS' (s.trans s') S
    | exc c x e => exact XP.weak h s
theorem vw_and (ha : PT X a (RT G z W ta)) (hb : PW X (.BoolOp .And (b :: rest) pos) (RT G z W tb)) : PW X (.BoolOp .And (a :: b :: rest) pos) (RT G z W (tAnd ta tb)) := pwImp (pw_and ha hb) fun σ H Q h => by
  obtain ⟨I, ts, dts, env, FT, FS, S, h⟩ := RT.to h
  refine RT.of S (GT.bnd (g := GT G z W I ts dts σ Q) (Same.refl _) h (fun c x e h => h) (fun h => h) fun d1 e1 h1 I1 H1 FT1 FS1 s1 S1 => ?_)
  cases d1 with
  | true => rw [if_pos rfl] at h1 ⊢; exact RT.of S1 (GT.weak s1 h1)
  | false => rw [if_neg Bool.false_ne_true] at h1 ⊢; exact h1 I1 H1 FT1 FS1 s1 S1
theorem vw_or (ha : PT X a (RT G z W ta)) (hb : PW X (.BoolOp .Or (b :: rest) pos) (RT G z W tb)) : PW X (.BoolOp .Or (a :: b :: rest) pos) (RT G z W (tOr ta tb)) := pwImp (pw_or ha hb) fun σ H Q h => by
  obtain ⟨I, ts, dts, env, FT, FS, S, h⟩ := RT.to h
  refine RT.of S (GT.bnd (g := GT G z W I ts dts σ Q) (Same.refl _) h (fun c x e h => h) (fun h => h) fun d1 e1 h1 I1 H1 FT1 FS1 s1 S1 => ?_)
  cases d1 with
  | true => rw [if_pos rfl] at h1 ⊢; exact h1 I1 H1 FT1 FS1 s1 S1
  | false => rw [if_neg Bool.false_ne_true] at h1 ⊢; exact RT.of S1 (GT.weak s1 h1)
theorem ve_if {c : Expr} (hc : PT X c (RT G z W ta)) (ha : PE X a (RE G z W fa)) (hb : PE X b (RE G z W fb)) : PE X (.IfExp c a b pos) (RE G z W (vIf ta fa fb)) := peImp (pe_ifExp hc ha hb) fun σ H Q h => by
  obtain ⟨I, ts, dts, env, FT, FS, S, h⟩ := RE.to h
  refine RT.of S (GT.bnd (g := GE G z W I ts dts σ Q) (Same.refl _) h (fun c x e h => h) (fun h => h) fun d1 e1 h1 I1 H1 FT1 FS1 s1 S1 => ?_)
  cases d1 with
  | true => rw [if_pos rfl] at h1 ⊢; exact RE.of S1 (GE.weak s1 h1)
  | false => rw [if_neg Bool.false_ne_true] at h1 ⊢; exact RE.of S1 (GE.weak s1 h1)
theorem ve_one {op} (h : PE X a (RE G z W fa)) : PE X (.BoolOp op [a] pos) (RE G z W fa) := pe_one h
theorem ve_and (ha : PE X a (RE G z W fa)) (hb : PE X (.BoolOp .And (b :: rest) pos) (RE G z W fb)) : PE X (.BoolOp .And (a :: b :: rest) pos) (RE G z W (vAnd fa fb)) := peImp (pe_and ha hb) fun σ H Q h => by
  obtain ⟨I, ts, dts, env, FT, FS, S, h⟩ := RE.to h
  refine RE.of S (GE.bnd (g := GE G z W I ts dts σ Q) (Same.refl _) h (fun c x e h => h) (fun h => h) fun d1 e1 h1 u I1 H1 FT1 FS1 s1 S1 => ?_)
  cases d1 with
  | bl k =>
    obtain ⟨r, S2⟩ := S1.popR rfl
    refine ⟨k, r, ?_⟩
    cases k with
    | true => exact RE.of S2 (GE.weak s1 h1)
    | false => exact GE.ok h1 s1 (S2.pushR (v := .bl false) rfl)
  | _ => exact h1.elim
theorem ve_or (ha : PE X a (RE G z W fa)) (hb : PE X (.BoolOp .Or (b :: rest) pos) (RE G z W fb)) : PE X (.BoolOp .Or (a :: b :: rest) pos) (RE G z W (vOr fa fb)) := peImp (pe_or ha hb) fun σ H Q h => by
  obtain ⟨I, ts, dts, env, FT, FS, S, h⟩ := RE.to h
  refine RE.of S (GE.bnd (g := GE G z W I ts dts σ Q) (Same.refl _) h (fun c x e h => h) (fun h => h) fun d1 e1 h1 u I1 H1 FT1 FS1 s1 S1 => ?_)
  cases d1 with
  | bl k =>
    obtain ⟨r, S2⟩ := S1.popR rfl
    refine ⟨k, r, ?_⟩
    cases k with
    | false => exact RE.of S2 (GE.weak s1 h1)
    | true => exact GE.ok h1 s1 (S2.pushR (v := .bl true) rfl)
  | _ => exact h1.elim
theorem ve_not (ha : PE X a (RE G z W fa)) : PE X (.UnaryOp .Not a pos) (RE G z W (vNot fa)) := peImp (pe_not ha) fun σ H Q h => by
  obtain ⟨I, ts, dts, env, FT, FS, S, h⟩ := RE.to h
  refine RE.of S (GE.bnd (g := GE G z W I ts dts σ Q) (Same.refl _) h (fun c x e h => h) (fun h => h) fun d1 e1 h1 u I1 H1 FT1 FS1 s1 S1 => ?_)
  cases d1 with
  | bl k =>
    obtain ⟨r, S2⟩ := S1.popR rfl
    exact ⟨k, r, GE.ok h1 s1 (S2.pushR (v := .bl (!k)) rfl)⟩
  | _ => exact h1.elim
end
end
section
set_option Elab.async false
set_option linter.all false
set_option maxRecDepth 100000
set_option maxHeartbeats 1000000
/-! ### new lists and tuples -/
def cutD (l : List D) (lo hi : Option Int) : List D := (l.drop (HT.sIx l.length 0 lo)).take (HT.sIx l.length l.length hi - HT.sIx l.length 0 lo)
def wholeD (l : List D) (lo hi : Option Int) : Bool := decide (HT.sIx l.length 0 lo = 0) && decide (HT.sIx l.length l.length hi = l.length)
/-- a slice -/
def gSl (d : D) (lo hi : Option Int) : Option D := match d with
  | .lst _ l => if D.frozens l then some (.lst true (cutD l lo hi)) else none
  | .scr l => some (.lst true (cutD l lo hi))
  | .tup l => some (if wholeD l lo hi then .tup l else .tup (cutD l lo hi))
  | .ktp l => some (if wholeD l lo hi then .ktp l else .tup (cutD l lo hi))
  | .str x => if x.length ≤ sizeLine then some (.str (cutS x lo hi)) else none
  | _ => none
def pBd (o : Option (VEnv → Option D)) (e : VEnv) : Option (Option Int) := match o with
  | none => some none
  | some p => ((p e).bind asInt).map some
def vSl (p : VEnv → Option D) (lo hi : Option (VEnv → Option D)) : M D := fun e => (p e).bind fun d => (pBd lo e).bind fun l => (pBd hi e).bind fun h => (gSl d l h).map fun d => .ok d e
def vList (f : M D) : M D := f.bnd fun d => M.opt ((asSeq d.fz).map fun l => .lst true l)
def vListP (p : VEnv → Option D) : M D := fun e => (p e).bind fun d => (asSeq d).bind fun l => if D.frozens l then some (.ok (.lst true l) e) else none
def gTuple : D → Option D
  | .tup l => some (.tup l)
  | .ktp l => some (.ktp l)
  | .lst _ l => some (.tup l)
  | .scr l => some (.tup l)
  | _ => none
def vTuple (f : M D) : M D := f.bnd fun d => M.opt (gTuple d.fz)
def vTupleP (p : VEnv → Option D) : M D := fun e => (p e).bind fun d => (gTuple d).bind fun t => if t.frozen then some (.ok t e) else none
def gCat (a b : D) : Option D := match asTup a, asTup b with
  | some l, some m => if l.length + m.length ≤ sizeLine then some (if l.isEmpty then b else if m.isEmpty then a else .tup (l ++ m)) else none
  | none, none => (asLst a).bind fun l => (asLst b).bind fun m => if l.length + m.length ≤ sizeLine then some (.lst true (l ++ m)) else none
  | _, _ => none
def vCat (fa fb : M D) : M D := fa.bnd fun a => fb.bnd fun b => M.opt (gCat a.fz b.fz)
def gRep (a b : D) : Option D := (asInt b).bind fun k => match asTup a with
  | some l => if !l.isEmpty && decide (2 ≤ k) && decide (k ≤ 1000) && decide (l.length ≤ 1000) then some (.tup (List.replicate k.toNat l).flatten) else none
  | none => (asLst a).bind fun l => if decide (-(2 ^ 63) ≤ k) && decide (k < 2 ^ 63) && decide (l.length * k.toNat ≤ sizeLine) then some (.lst true (List.replicate k.toNat l).flatten) else none
def vRep (fa fb : M D) : M D := fa.bnd fun a => fb.bnd fun b => M.opt (gRep a.fz b.fz)

section
variable {G : Gx} {z : Zx} {W : WX} {I H : Hp} {ts : List V} {dts : List D} {σ : L2.St} {env : VEnv} {FT FS : List Addr}
/-- an own list of frozen things, just laid at p -/
theorem Stt.pushN (S : Stt G z I H ts dts σ env FT FS) {ws : List V} {l : List D} (r : Reps G I ws l) {p : Addr} (hp : H p = none) : ∃ FT', Stt G z I (upd H p (.lst ws)) (.ref p :: ts) (.lst true l :: dts) σ env FT' FS := by
  obtain ⟨n0, nI, nF⟩ := S.new hp
  refine ⟨[p] ++ FT, (S.newH hp (.lst ws)).push (F := [p]) ⟨p, ws, [], rfl, upd_same, nI, Reps.owns r, rfl⟩ (fun b hb => ?_) ?_⟩
  · rw [show b = p by simpa using hb]; exact n0
  · exact List.nodup_cons.mpr ⟨nF, S.nd⟩
theorem Stt.pushTup (S : Stt G z I H ts dts σ env FT FS) {ws : List V} {l : List D} (r : Reps G I ws l) {p : Addr} (hp : H p = none) : Same I (upd I p (.tup ws)) ∧ Stt G z (upd I p (.tup ws)) (upd H p (.tup ws)) (.ref p :: ts) (.tup l :: dts) σ env FT FS :=
  ⟨same_upd (S.new hp).2.1, (S.newI hp (.tup ws)).pushR ⟨p, ws, rfl, upd_same, Reps.mono (same_upd (S.new hp).2.1) _ _ r⟩⟩
theorem Owns.repsOf {l : List D} {ws : List V} {F : List Addr} (h : Owns G I H ws l F) (f : D.frozens l = true) : Reps G I ws l := (Owns.reps f h).2
theorem Reps.flat {l : List D} {ws : List V} (h : Reps G I ws l) : ∀ n : Nat, Reps G I (List.replicate n ws).flatten (List.replicate n l).flatten
  | 0 => trivial
  | n + 1 => by rw [List.replicate_succ, List.replicate_succ, List.flatten_cons, List.flatten_cons]; exact h.app (Reps.flat h n)
theorem rep_tupk {d : D} {l : List D} {v : V} (h : Rep G I v d) (e : asTup d = some l) (s : Same I H) : ∃ a ws, v = .ref a ∧ SqT G.K H a ws ∧ Reps G I ws l := own_tupk s (Rep.own d v h) e
theorem rep_lst {m : Bool} {l : List D} {v : V} (h : Rep G I v (.lst m l)) (s : Same I H) : ∃ a ws, v = .ref a ∧ H a = some (.lst ws) ∧ Reps G I ws l := by
  obtain ⟨_, a, ws, e, h1, r⟩ := h
  exact ⟨a, ws, e, s _ _ h1, r⟩
theorem rep_seq {d : D} {l : List D} {v : V} (h : Rep G I v d) (e : asSeq d = some l) (s : Same I H) : ∃ a ws, v = .ref a ∧ (SqL G.K H a ws ∨ SqT G.K H a ws) ∧ Reps G I ws l := by
  cases d with
  | tup l' => cases e; obtain ⟨a, ws, e1, h1, r⟩ := h; exact ⟨a, ws, e1, .inr (.of (s _ _ h1)), r⟩
  | ktp l' => cases e; obtain ⟨a, ws, e1, h1, r⟩ := h; exact ⟨a, ws, e1, .inr (SqT.same s h1), r⟩
  | lst m l' => cases e; obtain ⟨_, a, ws, e1, h1, r⟩ := h; exact ⟨a, ws, e1, .inl (.of (s _ _ h1)), r⟩
  | scr l' => cases e; obtain ⟨a, ws, e1, h1, r⟩ := h; exact ⟨a, ws, e1, .inl (Same.seq s h1), r⟩
  | _ => cases e
theorem Reps.cut {l : List D} {ws : List V} (h : Reps G I ws l) (lo hi : Option Int) : Reps G I (cutV ws lo hi) (cutD l lo hi) := by
  unfold cutV cutD
  rw [h.len]
  exact (h.drop _).take _
end

section
variable {X : Cx} {G : Gx} {z : Zx} {W : WX} {e a b : Expr} {es : List Expr} {pa pb : VEnv → Option D} {fa fb : M D} {ta tb : M Bool} {fs : M (List D)} {pos : Pos} {ms : List Bool}
/-- slices -/
inductive PBd (X : Cx) (G : Gx) (z : Zx) : Option Expr → Option (VEnv → Option D) → Prop
  | none : PBd X G z none none
  | some {e : Expr} {p : VEnv → Option D} (h : PE X e (RP G z p)) : PBd X G z (some e) (some p)
def tBd (G : Gx) (z : Zx) : Option (VEnv → Option D) → TO
  | none => tNoPart
  | some p => tPart (RP G z p)
theorem PBd.po {o : Option Expr} {p : Option (VEnv → Option D)} (h : PBd X G z o p) : PO X o (tBd G z p) := by
  cases h with
  | none => exact po_none
  | some h => exact po_some h
theorem tBd_ok {G : Gx} {z : Zx} {I H : Hp} {ts : List V} {dts : List D} {σ : L2.St} {env : VEnv} {FT FS : List Addr} {o : Option (VEnv → Option D)} {r : Option Int} {Q : Option Int → Hp → Prop} (S : Stt G z I H ts dts σ env FT FS) (e : pBd o env = some r) (q : Q r H) : tBd G z o σ H Q := by
  cases o with
  | none => cases e; exact q
  | some p =>
    obtain ⟨i, e1, e2⟩ := Option.map_eq_some_iff.mp (show ((p env).bind asInt).map some = some r from e)
    subst e2
    obtain ⟨d, e3, e4⟩ := Option.bind_eq_some_iff.mp e1
    cases asInt_eq e4
    exact ⟨I, ts, dts, env, FT, FS, _, S, e3, fun v F o => ⟨i, own_int o, q⟩⟩
theorem ve_sl {lo hi : Option Expr} {plo phi : Option (VEnv → Option D)} {p2} (ha : PE X a (RP G z pa)) (hl : PBd X G z lo plo) (hh : PBd X G z hi phi) (hK : X.K = G.K := by rfl) : PE X (.Subscript a (.Slice lo hi none p2) pos) (RE G z W (vSl pa plo phi)) :=
  peImp (pe_slice (SlR.or (SlR.or sl_list sl_tupA) sl_str) ha hl.po hh.po) fun σ H Q h => by
    obtain ⟨I, ts, dts, env, FT, FS, S, h⟩ := RE.to h
    unfold vSl at h
    cases e1 : pa env with
    | none => rw [e1] at h; exact h.elim
    | some d =>
      rw [e1] at h
      replace h : GE G z W I ts dts σ Q ((pBd plo env).bind fun l => (pBd phi env).bind fun h => (gSl d l h).map fun d => .ok d env) := h
      cases e2 : pBd plo env with
      | none => rw [e2] at h; exact h.elim
      | some l =>
        rw [e2] at h
        replace h : GE G z W I ts dts σ Q ((pBd phi env).bind fun h => (gSl d l h).map fun d => .ok d env) := h
        cases e3 : pBd phi env with
        | none => rw [e3] at h; exact h.elim
        | some u =>
          rw [e3] at h
          replace h : GE G z W I ts dts σ Q ((gSl d l u).map fun d => .ok d env) := h
          cases e4 : gSl d l u with
          | none => rw [e4] at h; exact h.elim
          | some r =>
            rw [e4] at h
            refine ⟨I, ts, dts, env, FT, FS, d, S, e1, fun v F o => ?_⟩
            refine tBd_ok S e2 (tBd_ok S e3 ?_)
            rw [hK]
            cases d with
            | lst m c =>
              replace e4 : (if D.frozens c then some (D.lst true (cutD c l u)) else none) = some r := e4
              split at e4
              · rename_i f
                cases e4
                obtain ⟨p, ws, F', ev, h1, ow, _⟩ := own_lst S.sub o
                subst ev
                refine .inl (.inl ⟨p, ws, rfl, .of h1, fun q hq => ?_⟩)
                obtain ⟨FT', S'⟩ := S.pushN ((ow.repsOf f).cut l u) hq
                exact GE.ok h (Same.refl _) S'
              · cases e4
            | scr c =>
              cases e4
              obtain ⟨_, p, ws, ev, h1, r⟩ := o
              subst ev
              refine .inl (.inl ⟨p, ws, rfl, Same.seq S.sub h1, fun q hq => ?_⟩)
              obtain ⟨FT', S'⟩ := S.pushN (r.cut l u) hq
              exact GE.ok h (Same.refl _) S'
            | tup c =>
              cases e4
              obtain ⟨p, ws, ev, h1, r⟩ := own_tup S.sub o
              subst ev
              refine .inl (.inr ⟨p, ws, rfl, .of h1, fun c1 => ?_, fun c1 q hq => ?_⟩)
              · rw [r.len] at c1
                rw [if_pos (by unfold wholeD; rw [decide_eq_true c1.1, decide_eq_true c1.2]; rfl)] at h
                exact GE.ok h (Same.refl _) (S.pushR (Own.rep _ _ F (Rep.frozen _ _ o.2) o).2)
              · rw [r.len] at c1
                rw [if_neg (by unfold wholeD; rw [Bool.and_eq_true, decide_eq_true_eq, decide_eq_true_eq]; exact c1)] at h
                obtain ⟨s', S'⟩ := S.pushTup (r.cut l u) hq
                exact GE.ok h s' S'
            | ktp c =>
              cases e4
              obtain ⟨p, ws, ev, h1, r⟩ := own_tupk S.sub o rfl
              subst ev
              refine .inl (.inr ⟨p, ws, rfl, h1, fun c1 => ?_, fun c1 q hq => ?_⟩)
              · rw [r.len] at c1
                rw [if_pos (by unfold wholeD; rw [decide_eq_true c1.1, decide_eq_true c1.2]; rfl)] at h
                exact GE.ok h (Same.refl _) (S.pushR (Own.rep _ _ F (Rep.frozen _ _ o.2) o).2)
              · rw [r.len] at c1
                rw [if_neg (by unfold wholeD; rw [Bool.and_eq_true, decide_eq_true_eq, decide_eq_true_eq]; exact c1)] at h
                obtain ⟨s', S'⟩ := S.pushTup (r.cut l u) hq
                exact GE.ok h s' S'
            | str x =>
              replace e4 : (if x.length ≤ sizeLine then some (D.str (cutS x l u)) else none) = some r := e4
              split at e4
              · rename_i f
                cases e4
                exact .inr ⟨x, own_str o, f, GE.ok h (Same.refl _) (S.pushR (v := .str _) rfl)⟩
              · cases e4
            | _ => cases e4
theorem ve_list {p : Pos} (hm : X.mg "list" = none) (ha : PE X a (RE G z W fa)) (hgl : Gl X "list" := by rfl) (hK : X.K = G.K := by rfl)
    (hs : starEach [a] X.env = (false, eval a X.env) :: starEach [] X.env := by rfl) (hpl : (backTo pos (starEach [] X.env)).any (·.1) = false := by rfl) : PE X (.Call (.Name "list" p) [a] [] pos) (RE G z W (vList fa)) :=
  peImp (pe_callTy call_list_of hgl hm (by decide +kernel) (pa_cons ha pa_nil hs) (by decide) (by decide) hs hpl) fun σ H Q h => by
    obtain ⟨I, ts, dts, env, FT, FS, S, h⟩ := RE.to h
    refine RE.of S (GE.bnd (g := GE G z W I ts dts σ Q) (Same.refl _) h (fun c x e h => h) (fun h => h) fun d e1 h1 v I1 H1 FT1 FS1 s1 S1 => ?_)
    obtain ⟨r, e3, hq⟩ := GE.optGo h1
    obtain ⟨l, e4, e5⟩ := Option.map_eq_some_iff.mp e3
    subst e5
    obtain ⟨I2, F2, s2, rv, S2⟩ := S1.giveTop
    obtain ⟨p, ws, ev, h2, r2⟩ := rep_seq rv e4 S2.sub
    subst ev
    rw [hK]
    refine ⟨p, ws, rfl, h2, fun q hq2 => ?_⟩
    obtain ⟨FT', S3⟩ := S2.pushN r2 hq2
    exact hq _ _ _ _ _ (s1.trans s2) S3
theorem ve_listP {p : Pos} (hm : X.mg "list" = none) (ha : PE X a (RP G z pa)) (hgl : Gl X "list" := by rfl) (hK : X.K = G.K := by rfl)
    (hs : starEach [a] X.env = (false, eval a X.env) :: starEach [] X.env := by rfl) (hpl : (backTo pos (starEach [] X.env)).any (·.1) = false := by rfl) : PE X (.Call (.Name "list" p) [a] [] pos) (RE G z W (vListP pa)) :=
  peImp (pe_callTy call_list_of hgl hm (by decide +kernel) (pa_cons ha pa_nil hs) (by decide) (by decide) hs hpl) fun σ H Q h => by
    obtain ⟨I, ts, dts, env, FT, FS, S, h⟩ := RE.to h
    unfold vListP at h
    cases e1 : pa env with
    | none => rw [e1] at h; exact h.elim
    | some d =>
      rw [e1] at h
      replace h : GE G z W I ts dts σ Q ((asSeq d).bind fun l => if D.frozens l then some (.ok (.lst true l) env) else none) := h
      cases e2 : asSeq d with
      | none => rw [e2] at h; exact h.elim
      | some l =>
        rw [e2] at h
        replace h : GE G z W I ts dts σ Q (if D.frozens l then some (.ok (.lst true l) env) else none) := h
        split at h
        · rename_i f
          refine ⟨I, ts, dts, env, FT, FS, d, S, e1, fun v F o => ?_⟩
          obtain ⟨p, ws, F', ev, h2, ow⟩ := own_seq S.sub o e2
          subst ev
          rw [hK]
          refine ⟨p, ws, rfl, h2, fun q hq2 => ?_⟩
          obtain ⟨FT', S3⟩ := S.pushN (ow.repsOf f) hq2
          exact GE.ok h (Same.refl _) S3
        · exact h.elim
theorem ve_tuple {p : Pos} (hm : X.mg "tuple" = none) (ha : PE X a (RE G z W fa)) (hgl : Gl X "tuple" := by rfl) (hK : X.K = G.K := by rfl)
    (hs : starEach [a] X.env = (false, eval a X.env) :: starEach [] X.env := by rfl) (hpl : (backTo pos (starEach [] X.env)).any (·.1) = false := by rfl) : PE X (.Call (.Name "tuple" p) [a] [] pos) (RE G z W (vTuple fa)) :=
  peImp (pe_callTy call_tuple_of hgl hm (by decide +kernel) (pa_cons ha pa_nil hs) (by decide) (by decide) hs hpl) fun σ H Q h => by
    obtain ⟨I, ts, dts, env, FT, FS, S, h⟩ := RE.to h
    refine RE.of S (GE.bnd (g := GE G z W I ts dts σ Q) (Same.refl _) h (fun c x e h => h) (fun h => h) fun d e1 h1 v I1 H1 FT1 FS1 s1 S1 => ?_)
    obtain ⟨r, e3, hq⟩ := GE.optGo h1
    obtain ⟨I2, F2, s2, rv, S2⟩ := S1.giveTop
    rw [hK]
    generalize d.fz = d' at e3 rv
    cases d' with
    | tup l => cases e3; obtain ⟨p, ws, ev, h2, r2⟩ := id rv; subst ev; exact ⟨p, ws, rfl, .inr ⟨.of (S2.sub _ _ h2), hq _ _ _ _ _ (s1.trans s2) (S2.pushR rv)⟩⟩
    | ktp l => cases e3; obtain ⟨p, ws, ev, h2, r2⟩ := id rv; subst ev; exact ⟨p, ws, rfl, .inr ⟨SqT.same S2.sub h2, hq _ _ _ _ _ (s1.trans s2) (S2.pushR rv)⟩⟩
    | lst m l =>
      cases e3
      obtain ⟨p, ws, ev, h2, r2⟩ := rep_lst rv S2.sub
      subst ev
      refine ⟨p, ws, rfl, .inl ⟨.of h2, fun q hq2 => ?_⟩⟩
      obtain ⟨s3, S3⟩ := S2.pushTup r2 hq2
      exact hq _ _ _ _ _ ((s1.trans s2).trans s3) S3
    | scr l =>
      cases e3
      obtain ⟨p, ws, ev, h2, r2⟩ := id rv
      subst ev
      refine ⟨p, ws, rfl, .inl ⟨Same.seq S2.sub h2, fun q hq2 => ?_⟩⟩
      obtain ⟨s3, S3⟩ := S2.pushTup r2 hq2
      exact hq _ _ _ _ _ ((s1.trans s2).trans s3) S3
    | _ => cases e3
theorem ve_tupleP {p : Pos} (hm : X.mg "tuple" = none) (ha : PE X a (RP G z pa)) (hgl : Gl X "tuple" := by rfl) (hK : X.K = G.K := by rfl)
    (hs : starEach [a] X.env = (false, eval a X.env) :: starEach [] X.env := by rfl) (hpl : (backTo pos (starEach [] X.env)).any (·.1) = false := by rfl) : PE X (.Call (.Name "tuple" p) [a] [] pos) (RE G z W (vTupleP pa)) :=
  peImp (pe_callTy call_tuple_of hgl hm (by decide +kernel) (pa_cons ha pa_nil hs) (by decide) (by decide) hs hpl) fun σ H Q h => by
    obtain ⟨I, ts, dts, env, FT, FS, S, h⟩ := RE.to h
    unfold vTupleP at h
    cases e1 : pa env with
    | none => rw [e1] at h; exact h.elim
    | some d =>
      rw [e1] at h
      replace h : GE G z W I ts dts σ Q ((gTuple d).bind fun t => if t.frozen then some (.ok t env) else none) := h
      cases e2 : gTuple d with
      | none => rw [e2] at h; exact h.elim
      | some t =>
        rw [e2] at h
        replace h : GE G z W I ts dts σ Q (if t.frozen then some (.ok t env) else none) := h
        split at h
        · rename_i f
          refine ⟨I, ts, dts, env, FT, FS, d, S, e1, fun v F o => ?_⟩
          rw [hK]
          cases d with
          | tup l => cases e2; obtain ⟨p, ws, ev, h2, r2⟩ := own_tup S.sub o; subst ev; exact ⟨p, ws, rfl, .inr ⟨.of h2, GE.ok h (Same.refl _) (S.pushR o.2)⟩⟩
          | ktp l => cases e2; obtain ⟨p, ws, ev, h2, r2⟩ := own_tupk S.sub o rfl; subst ev; exact ⟨p, ws, rfl, .inr ⟨h2, GE.ok h (Same.refl _) (S.pushR o.2)⟩⟩
          | lst m l =>
            cases e2
            obtain ⟨p, ws, F', ev, h2, ow, _⟩ := own_lst S.sub o
            subst ev
            refine ⟨p, ws, rfl, .inl ⟨.of h2, fun q hq2 => ?_⟩⟩
            obtain ⟨s3, S3⟩ := S.pushTup (ow.repsOf f) hq2
            exact GE.ok h s3 S3
          | scr l =>
            cases e2
            obtain ⟨_, p, ws, ev, h2, r2⟩ := o
            subst ev
            refine ⟨p, ws, rfl, .inl ⟨Same.seq S.sub h2, fun q hq2 => ?_⟩⟩
            obtain ⟨s3, S3⟩ := S.pushTup r2 hq2
            exact GE.ok h s3 S3
          | _ => cases e2
        · exact h.elim
/-- two values given up, from the top -/
theorem Stt.give2 {G : Gx} {z : Zx} {I H : Hp} {u v : V} {d1 d2 : D} {ts : List V} {dts : List D} {σ : L2.St} {env : VEnv} {FT FS : List Addr} (S : Stt G z I H (v :: u :: ts) (d2 :: d1 :: dts) σ env FT FS) : ∃ I' FT', Same I I' ∧ Rep G I' u d1.fz ∧ Rep G I' v d2.fz ∧ Stt G z I' H ts dts σ env FT' FS := by
  obtain ⟨I1, F1, s1, r1, S1⟩ := S.giveTop
  obtain ⟨I2, F2, s2, r2, S2⟩ := S1.giveTop
  exact ⟨I2, F2, s1.trans s2, r2, Rep.mono s2 _ _ r1, S2⟩
theorem ve_cat (ha : PE X a (RE G z W fa)) (hb : PE X b (RE G z W fb)) (hK : X.K = G.K := by rfl) : PE X (.BinOp a .Add b pos) (RE G z W (vCat fa fb)) :=
  peImp (pe_op (OpR.or op_cat op_catA) ha hb) fun σ H Q h => by
    obtain ⟨I, ts, dts, env, FT, FS, S, h⟩ := RE.to h
    refine RE.of S (GE.bnd (g := GE G z W I ts dts σ Q) (Same.refl _) h (fun c x e h => h) (fun h => h) fun d1 e1 h1 u I1 H1 FT1 FS1 s1 S1 => ?_)
    refine RE.of S1 (GE.bnd (g := GE G z W I ts dts σ Q) s1 h1 (fun c x e h => h) (fun h => h) fun d2 e2 h2 v I2 H2 FT2 FS2 s2 S2 => ?_)
    obtain ⟨r, e3, hq⟩ := GE.optGo h2
    obtain ⟨I3, FT3, s3, ru, rv, S3⟩ := S2.give2
    rw [hK]
    unfold gCat at e3
    cases h1 : asTup d1.fz with
    | some l =>
      cases h2 : asTup d2.fz with
      | some m =>
        rw [h1, h2] at e3
        replace e3 : (if l.length + m.length ≤ sizeLine then some (if l.isEmpty then d2.fz else if m.isEmpty then d1.fz else .tup (l ++ m)) else none) = some r := e3
        split at e3
        · rename_i hz
          cases e3
          obtain ⟨p, ws, ev, k1, r1⟩ := rep_tupk ru h1 S3.sub
          obtain ⟨q, us, eu, k2, r2⟩ := rep_tupk rv h2 S3.sub
          subst ev eu
          refine .inr ⟨p, q, ws, us, rfl, rfl, k1, k2, by rw [r1.len, r2.len]; exact hz, fun c => ?_, fun c c' => ?_, fun c c' t ht => ?_⟩
          · have : l = [] := List.length_eq_zero_iff.mp (by rw [← r1.len, c]; rfl)
            subst this
            exact hq _ _ _ _ _ (s2.trans s3) (S3.pushR rv)
          · have c1 : l ≠ [] := fun z => c (List.length_eq_zero_iff.mp (by rw [r1.len, z]; rfl))
            have c2 : m = [] := List.length_eq_zero_iff.mp (by rw [← r2.len, c']; rfl)
            subst c2
            rw [if_neg (by simp [c1]), if_pos (show ([] : List D).isEmpty = true from rfl)] at hq
            exact hq _ _ _ _ _ (s2.trans s3) (S3.pushR ru)
          · have c1 : l ≠ [] := fun z => c (List.length_eq_zero_iff.mp (by rw [r1.len, z]; rfl))
            have c2 : m ≠ [] := fun z => c' (List.length_eq_zero_iff.mp (by rw [r2.len, z]; rfl))
            rw [if_neg (by simp [c1]), if_neg (by simp [c2])] at hq
            obtain ⟨s4, S4⟩ := S3.pushTup (r1.app r2) ht
            exact hq _ _ _ _ _ ((s2.trans s3).trans s4) S4
        · cases e3
      | none => rw [h1, h2] at e3; cases e3
    | none =>
      cases h2 : asTup d2.fz with
      | some m => rw [h1, h2] at e3; cases e3
      | none =>
        rw [h1, h2] at e3
        obtain ⟨l, e4, e5⟩ := Option.bind_eq_some_iff.mp e3
        obtain ⟨m, e6, e7⟩ := Option.bind_eq_some_iff.mp e5
        split at e7
        · rename_i hz
          cases e7
          obtain ⟨m1, q1⟩ := asLst_eq e4
          obtain ⟨m2, q2⟩ := asLst_eq e6
          rw [q1] at ru
          rw [q2] at rv
          obtain ⟨p, ws, ev, k1, r1⟩ := rep_lst ru S3.sub
          obtain ⟨q, us, eu, k2, r2⟩ := rep_lst rv S3.sub
          subst ev eu
          refine .inl ⟨p, q, ws, us, rfl, rfl, k1, k2, by rw [r1.len, r2.len]; exact hz, fun t ht => ?_⟩
          obtain ⟨FT', S4⟩ := S3.pushN (r1.app r2) ht
          exact hq _ _ _ _ _ (s2.trans s3) S4
        · cases e7
theorem ve_rep (ha : PE X a (RE G z W fa)) (hb : PE X b (RE G z W fb)) (hK : X.K = G.K := by rfl) : PE X (.BinOp a .Mult b pos) (RE G z W (vRep fa fb)) :=
  peImp (pe_op (OpR.or op_rep op_repT) ha hb) fun σ H Q h => by
    obtain ⟨I, ts, dts, env, FT, FS, S, h⟩ := RE.to h
    refine RE.of S (GE.bnd (g := GE G z W I ts dts σ Q) (Same.refl _) h (fun c x e h => h) (fun h => h) fun d1 e1 h1 u I1 H1 FT1 FS1 s1 S1 => ?_)
    refine RE.of S1 (GE.bnd (g := GE G z W I ts dts σ Q) s1 h1 (fun c x e h => h) (fun h => h) fun d2 e2 h2 v I2 H2 FT2 FS2 s2 S2 => ?_)
    obtain ⟨r, e3, hq⟩ := GE.optGo h2
    obtain ⟨I3, FT3, s3, ru, rv, S3⟩ := S2.give2
    rw [hK]
    obtain ⟨k, e4, e5⟩ := Option.bind_eq_some_iff.mp e3
    rw [asInt_eq e4] at rv
    replace rv : v = .int k := rv
    subst rv
    cases h1 : asTup d1.fz with
    | some l =>
      rw [h1] at e5
      replace e5 : (if !l.isEmpty && decide (2 ≤ k) && decide (k ≤ 1000) && decide (l.length ≤ 1000) then some (D.tup (List.replicate k.toNat l).flatten) else none) = some r := e5
      split at e5
      · rename_i c
        cases e5
        simp only [Bool.and_eq_true, decide_eq_true_eq, Bool.not_eq_true'] at c
        obtain ⟨p, ws, ev, k1, r1⟩ := rep_tupk ru h1 S3.sub
        subst ev
        refine .inr ⟨p, k, ws, rfl, rfl, k1, fun z => ?_, c.1.1.2, c.1.2, by rw [r1.len]; exact c.2, fun t ht => ?_⟩
        · have : l = [] := List.length_eq_zero_iff.mp (by rw [← r1.len, z]; rfl)
          rw [this] at c
          cases c.1.1.1
        · obtain ⟨s4, S4⟩ := S3.pushTup (r1.flat k.toNat) ht
          exact hq _ _ _ _ _ ((s2.trans s3).trans s4) S4
      · cases e5
    | none =>
      rw [h1] at e5
      obtain ⟨l, e6, e7⟩ := Option.bind_eq_some_iff.mp e5
      split at e7
      · rename_i c
        cases e7
        simp only [Bool.and_eq_true, decide_eq_true_eq] at c
        obtain ⟨m1, q1⟩ := asLst_eq e6
        rw [q1] at ru
        obtain ⟨p, ws, ev, k1, r1⟩ := rep_lst ru S3.sub
        subst ev
        refine .inl ⟨p, k, ws, rfl, rfl, k1, c.1.1, c.1.2, by rw [r1.len]; exact c.2, fun t ht => ?_⟩
        obtain ⟨FT', S4⟩ := S3.pushN (r1.flat k.toNat) ht
        exact hq _ _ _ _ _ (s2.trans s3) S4
      · cases e7
end
end
section
set_option Elab.async false
set_option linter.all false
set_option maxRecDepth 100000
set_option maxHeartbeats 1000000
/-! ### statements -/
def sNil : M Fl := M.ret .nx
def sSeq (f g : M Fl) : M Fl := f.bnd fun r => match r with
  | .nx => g
  | r => M.ret r
def sDrop (f : M D) : M Fl := f.bnd fun _ => M.ret .nx
def sRet (f : M D) : M Fl := f.bnd fun d => M.ret (.rt d)
def sRetN : M Fl := M.ret (.rt .non)
def sIf (c : M Bool) (f g : M Fl) : M Fl := c.bnd fun b => if b = true then f else g
def sBrk : M Fl := M.ret .bk
def sCnt : M Fl := M.ret .ct
def putS (k : Nat) (d : D) : M Fl := fun e => if k < e.length then some (.ok .nx (e.set k (some d))) else none
def sSet (k : Nat) (f : M D) : M Fl := f.bnd (putS k)
def sRaise (c : Str) : M Fl := fun e => some (.exc c none e)
/-- name op= value -/
def sAug (g : D → D → Option D) (k : Nat) (f : M D) : M Fl := fun e => match e[k]? with
  | some (some d0) => if d0.frozen then (f.bnd fun d => (M.opt ((g d0 d).bind fun r => if d.frozen && r.frozen then some r else none)).bnd (putS k)) e else none
  | _ => none
/-- targets -/
abbrev Tg := D → VEnv → Option VEnv
def tgName (k : Nat) : Tg := fun d e => if k < e.length then some (e.set k (some d)) else none
def tgAll : List Tg → List D → VEnv → Option VEnv
  | [], [], e => some e
  | t :: ts, d :: ds, e => (t d e).bind (tgAll ts ds)
  | _, _, _ => none
def tgTup (ts : List Tg) : Tg := fun d e => match asTup d with
  | some l => tgAll ts l e
  | none => none
def sTo (t : Tg) (f : M D) : M Fl := f.bnd fun d e => (t d e).map fun e' => .ok .nx e'
/-- what is walked -/
def iSeq (f : M D) : M (List D) := f.bnd fun d => M.opt (match d.fz with
  | .str x => some (x.cps.toList.map fun c => .str ⟨#[c]⟩)
  | d => asSeq d)
def dInts (lo : Int) (n : Nat) : List D := (List.range n).map fun (i : Nat) => .int (lo + i)
def iRange1 (f : M (List D)) : M (List D) := f.bnd fun l => M.opt (match l with
  | [.int j] => if -(2 ^ 62) ≤ j ∧ j < 2 ^ 62 then some (dInts 0 j.toNat) else none
  | _ => none)
def iRange2 (f : M (List D)) : M (List D) := f.bnd fun l => M.opt (match l with
  | [.int i, .int j] => if (-(2 ^ 62) ≤ i ∧ i < 2 ^ 62) ∧ -(2 ^ 62) ≤ j ∧ j < 2 ^ 62 then some (dInts i (j - i).toNat) else none
  | _ => none)
/-- the turns of a for -/
def forL (t : Tg) (b : M Fl) : List D → M Fl
  | [] => M.ret .nx
  | d :: l => fun e => match t d e with
    | none => none
    | some e1 => match b e1 with
      | some (.ok .nx e2) => forL t b l e2
      | some (.ok .ct e2) => forL t b l e2
      | some (.ok .bk e2) => some (.ok .nx e2)
      | r => r
def sFor (it : M (List D)) (t : Tg) (b : M Fl) : M Fl := it.bnd fun l => forL t b l
/-- n turns of a while at most -/
def whN (c : M Bool) (b : M Fl) : Nat → M Fl
  | 0 => fun _ => none
  | n + 1 => c.bnd fun k => if k = true then fun e => match b e with
      | some (.ok .nx e2) => whN c b n e2
      | some (.ok .ct e2) => whN c b n e2
      | some (.ok .bk e2) => some (.ok .nx e2)
      | r => r
    else M.ret .nx
open Classical in
noncomputable def sWh (c : M Bool) (b : M Fl) : M Fl := fun e => if h : ∃ n r, whN c b n e = some r then some h.choose_spec.choose else none
theorem whN_succ {c : M Bool} {b : M Fl} : ∀ {n : Nat} {e : VEnv} {r : Res Fl}, whN c b n e = some r → whN c b (n + 1) e = some r
  | 0, _, _, h => by cases h
  | n + 1, e, r, h => by
    unfold whN M.bnd at h ⊢
    cases h1 : c e with
    | none => rw [h1] at h; cases h
    | some x =>
      rw [h1] at h
      cases x with
      | exc => exact h
      | ok k e1 =>
        cases k with
        | false => exact h
        | true =>
          simp only [if_true] at h ⊢
          cases h2 : b e1 with
          | none => rw [h2] at h; cases h
          | some y =>
            rw [h2] at h
            cases y with
            | exc => exact h
            | ok fl e2 =>
              cases fl with
              | nx => exact whN_succ h
              | ct => exact whN_succ h
              | bk => exact h
              | rt d => exact h
theorem whN_le {c : M Bool} {b : M Fl} {n m : Nat} {e : VEnv} {r : Res Fl} (h : whN c b n e = some r) (l : n ≤ m) : whN c b m e = some r := by
  induction l with
  | refl => exact h
  | step _ ih => exact whN_succ ih
theorem sWh_of {c : M Bool} {b : M Fl} {n : Nat} {e : VEnv} {r : Res Fl} (h : whN c b n e = some r) : sWh c b e = some r := by
  have hx : ∃ n r, whN c b n e = some r := ⟨n, r, h⟩
  unfold sWh
  rw [dif_pos hx]
  obtain h2 := hx.choose_spec.choose_spec
  have a := whN_le h (Nat.le_max_left n hx.choose)
  have b := whN_le h2 (Nat.le_max_right n hx.choose)
  rw [a] at b
  exact b.symm
theorem sWh_to {c : M Bool} {b : M Fl} {e : VEnv} {r : Res Fl} (h : sWh c b e = some r) : ∃ n, whN c b n e = some r := by
  unfold sWh at h
  split at h
  · rename_i hx
    exact ⟨hx.choose, by rw [hx.choose_spec.choose_spec]; exact h⟩
  · cases h

section
variable {G : Gx} {z : Zx} {W : WX} {I H : Hp} {ts : List V} {dts : List D} {σ : L2.St} {env : VEnv} {FT FS : List Addr}
def GS (G : Gx) (z : Zx) (W : WX) (I : Hp) (D : Ends) : Option (Res Fl) → Prop
  | none => False
  | some (.ok .nx env') => ∀ σ' I' H' FS', Same I I' → Stt G z I' H' [] [] σ' env' [] FS' → D.nx σ' H'
  | some (.ok .bk env') => ∀ σ' I' H' FS', Same I I' → Stt G z I' H' [] [] σ' env' [] FS' → D.bk σ' H'
  | some (.ok .ct env') => ∀ σ' I' H' FS', Same I I' → Stt G z I' H' [] [] σ' env' [] FS' → D.ct σ' H'
  | some (.ok (.rt d) env') => ∀ v σ' I' H' FT' FS', Same I I' → Stt G z I' H' [v] [d] σ' env' FT' FS' → D.rt v H'
  | some (.exc c x env') => ∀ σ', XP G z W I σ' c x env'
theorem RS.of {f : M Fl} {D : Ends} (S : Stt G z I H [] [] σ env [] FS) (h : GS G z W I D (f env)) : RS G z W f D σ H := by
  refine ⟨I, env, FS, S, ?_⟩
  unfold GS at h
  split at h
  · exact h.elim
  all_goals (rename_i e; first | (rw [e]; exact h) | exact h)
theorem RS.to {f : M Fl} {D : Ends} (h : RS G z W f D σ H) : ∃ I env FS, Stt G z I H [] [] σ env [] FS ∧ GS G z W I D (f env) := by
  obtain ⟨I, env, FS, S, h⟩ := h
  refine ⟨I, env, FS, S, ?_⟩
  unfold GS
  split
  all_goals (rename_i e; rw [e] at h; exact h)
theorem GS.weak {I0 I1 : Hp} {D : Ends} {r : Option (Res Fl)} (s : Same I0 I1) (h : GS G z W I0 D r) : GS G z W I1 D r := by
  cases r with
  | none => exact h
  | some r => cases r with
    | exc c x e => exact fun σ' => (h σ').weak s
    | ok b e => cases b with
      | nx => exact fun σ' I' H' FS' s' S => h σ' I' H' FS' (s.trans s') S
      | bk => exact fun σ' I' H' FS' s' S => h σ' I' H' FS' (s.trans s') S
      | ct => exact fun σ' I' H' FS' s' S => h σ' I' H' FS' (s.trans s') S
      | rt d => exact fun v σ' I' H' FT' FS' s' S => h v σ' I' H' FT' FS' (s.trans s') S
theorem Stt.noT (S : Stt G z I H [] [] σ env FT FS) : FT = [] := S.oT
/-- bind for statements -/
theorem GE.bndS {f : M D} {k : D → M Fl} {D : Ends} {Q : VK} (h : GS G z W I D (f.bnd k env))
    (hq : ∀ d e, GS G z W I D (k d e) → ∀ v I' H' FT' FS', Same I I' → Stt G z I' H' (v :: ts) (d :: dts) σ e FT' FS' → Q v H') : GE G z W I ts dts σ Q (f env) :=
  GE.bnd (g := GS G z W I D) (Same.refl _) h (fun c x e h => h σ) (fun h => h) hq
end

section
variable {X : Cx} {G : Gx} {z : Zx} {W : WX} {e a b : Expr} {es : List Expr} {pa pb : VEnv → Option D} {f fa fb : M D} {ta tb : M Bool} {fs : M (List D)} {pos : Pos} {ms : List Bool} {st : Stmt} {sts sts2 : List Stmt} {g g2 : M Fl}
theorem vs_nil : PSs X [] (RS G z W sNil) := pssImp pss_nil fun D σ H h => by
  obtain ⟨I, env, FS, S, h⟩ := RS.to h
  exact h σ I H FS (Same.refl _) S
theorem vs_cons (h1 : PS X st (RS G z W g)) (h2 : PSs X sts (RS G z W g2)) : PSs X (st :: sts) (RS G z W (sSeq g g2)) := pssImp (pss_cons h1 h2) fun D σ H h => by
  obtain ⟨I, env, FS, S, h⟩ := RS.to h
  refine RS.of S ?_
  unfold sSeq M.bnd at h
  cases e : g env with
  | none => rw [e] at h; exact h
  | some r =>
    rw [e] at h
    cases r with
    | exc c x e => exact h
    | ok fl e => cases fl with
      | nx => exact fun σ' I' H' FS' s' S' => RS.of S' (GS.weak s' h)
      | bk => exact h
      | ct => exact h
      | rt d => exact h
theorem vs_one (h1 : PS X st (RS G z W g)) : PSs X [st] (RS G z W g) := pss_one h1
theorem vs_pass : PS X (.Pass pos) (RS G z W sNil) := psImp ps_pass fun D σ H h => by
  obtain ⟨I, env, FS, S, h⟩ := RS.to h
  exact h σ I H FS (Same.refl _) S
theorem vs_break : PS X (.Break pos) (RS G z W sBrk) := psImp ps_break fun D σ H h => by
  obtain ⟨I, env, FS, S, h⟩ := RS.to h
  exact h σ I H FS (Same.refl _) S
theorem vs_continue : PS X (.Continue pos) (RS G z W sCnt) := psImp ps_continue fun D σ H h => by
  obtain ⟨I, env, FS, S, h⟩ := RS.to h
  exact h σ I H FS (Same.refl _) S
theorem vs_drop (h : PE X e (RE G z W f)) (hs : swapsWith e none pos.line X.env = pure false := by rfl) : PS X (.Expr e pos) (RS G z W (sDrop f)) := psImp (ps_expr h hs) fun D σ H h => by
  obtain ⟨I, env, FS, S, h⟩ := RS.to h
  refine RE.of S (GE.bndS h fun d e h1 v I' H' FT' FS' s' S' => ?_)
  obtain ⟨F1, F2, _, _, _, S2⟩ := S'.pop
  have e2 := S2.noT
  subst e2
  exact h1 σ I' H' FS' s' S2
theorem vs_ret (h : PE X e (RE G z W f)) : PS X (.Return (some e) pos) (RS G z W (sRet f)) := psImp (ps_ret h) fun D σ H h => by
  obtain ⟨I, env, FS, S, h⟩ := RS.to h
  exact RE.of S (GE.bndS h fun d e h1 v I' H' FT' FS' s' S' => h1 v σ I' H' FT' FS' s' S')
theorem vs_retN : PS X (.Return none pos) (RS G z W sRetN) := psImp ps_retN fun D σ H h => by
  obtain ⟨I, env, FS, S, h⟩ := RS.to h
  exact h .non σ I H [] FS (Same.refl _) (S.pushR (v := .non) rfl)
theorem vs_if {c : Expr} (hc : PT X c (RT G z W ta)) (ha : PSs X sts (RS G z W g)) (hb : PSs X sts2 (RS G z W g2)) : PS X (.If c sts sts2 pos) (RS G z W (sIf ta g g2)) := psImp (ps_if hc ha hb) fun D σ H h => by
  obtain ⟨I, env, FS, S, h⟩ := RS.to h
  refine RT.of S (GT.bnd (g := GS G z W I D) (Same.refl _) h (fun c x e h => h σ) (fun h => h) fun d1 e1 h1 I1 H1 FT1 FS1 s1 S1 => ?_)
  have e2 := S1.noT
  subst e2
  cases d1 with
  | true => rw [if_pos rfl] at h1 ⊢; exact RS.of S1 (GS.weak s1 h1)
  | false => rw [if_neg Bool.false_ne_true] at h1 ⊢; exact RS.of S1 (GS.weak s1 h1)
theorem putS_ok {G : Gx} {z : Zx} {W : WX} {I0 I H : Hp} {d : D} {D : Ends} {σ : L2.St} {env : VEnv} {FT FS : List Addr} {v : V} {k : Nat} (hz : ZOk z ms) (hk : ms[k]? = some false) (s : Same I0 I) (S : Stt G z I H [v] [d] σ env FT FS) (h : GS G z W I0 D (putS k d env)) : D.nx (σ.set k (some v)) H := by
  obtain ⟨FT', FS', S2⟩ := S.store (hz.2 k hk)
  have e2 := S2.noT
  subst e2
  have hl : k < env.length := by
    rw [S.lenS.2, hz.1.1]
    exact (List.getElem?_eq_some_iff.mp hk).1
  unfold putS at h
  rw [if_pos hl] at h
  exact h _ I H FS' s S2
theorem vs_set (k : Nat) {x : Str} {p : Pos} (hz : ZOk z ms) (hN : X.N.Nodup) (h : PE X e (RE G z W f)) (hk : ms[k]? = some false := by rfl) (hi : X.N[k]? = some x := by rfl) (hx : Loc X.env.scope x := by first | exact .inl rfl | exact .inr rfl)
    (hs : swapsWith e (some (.Name x p)) pos.line X.env = pure false := by rfl) (hf : X.fn x = true ∨ X.env.scope.names.lookup x = some .local := by first | exact .inl rfl | exact .inr rfl) : PS X (.Assign [.Name x p] e pos) (RS G z W (sSet k f)) :=
  psImp (ps_set hN hi hx h hs hf) fun D σ H h => by
    obtain ⟨I, env, FS, S, h⟩ := RS.to h
    exact RE.of S (GE.bndS h fun d e h1 v I' H' FT' FS' s' S' => putS_ok hz hk s' S' h1)
theorem vs_aug {op : Operator} {r : R2} {gg : D → D → Option D} (k : Nat) {x : Str} {p : Pos} (hz : ZOk z ms) (hN : X.N.Nodup) (ho : OpR X (inplaceOp op) r) (hg : G2 G r gg) (h : PE X e (RE G z W f)) (hk : ms[k]? = some false := by rfl) (hi : X.N[k]? = some x := by rfl) (hx : Loc X.env.scope x := by first | exact .inl rfl | exact .inr rfl)
    (hf : X.fn x = true ∨ X.env.scope.names.lookup x = some .local := by first | exact .inl rfl | exact .inr rfl) : PS X (.AugAssign (.Name x p) op e pos) (RS G z W (sAug gg k f)) :=
  psImp (ps_aug hN hi hx h ho hf) fun D σ H h => by
    obtain ⟨I, env, FS, S, h⟩ := RS.to h
    unfold sAug at h
    cases e1 : env[k]? with
    | none => rw [e1] at h; exact h.elim
    | some o =>
      rw [e1] at h
      cases o with
      | none => exact h.elim
      | some d0 =>
        replace h : GS G z W I D (if d0.frozen then (f.bnd fun d => (M.opt ((gg d0 d).bind fun r => if d.frozen && r.frozen then some r else none)).bnd (putS k)) env else none) := h
        split at h
        · rename_i fr
          obtain ⟨v0, F0, e2, o0⟩ := S.slot e1
          obtain ⟨_, r0⟩ := Own.rep d0 v0 F0 fr o0
          refine ⟨v0, e2, RE.of S (GE.bndS h fun d e h1 v I' H' FT' FS' s' S' => ?_)⟩
          rcases M.opt_bnd (r := _) rfl with ⟨rr, h2, h3⟩ | ⟨_, h3⟩
          · rw [← h3] at h1
            obtain ⟨d2, h4, h5⟩ := Option.bind_eq_some_iff.mp h2
            split at h5
            · rename_i c
              cases h5
              rw [Bool.and_eq_true] at c
              obtain ⟨rv, S2⟩ := S'.popR c.1
              refine hg I' H' v0 v d0 d rr [] [] _ S2.sub (Rep.own _ _ (Rep.mono s' _ _ r0)) (Rep.own _ _ rv) h4 fun w F o => ?_
              exact putS_ok hz hk s' (S2.pushR (Own.rep rr w F c.2 o).2) h1
            · cases h5
          · rw [h3] at h1
            exact h1.elim
        · exact h.elim
abbrev sAugAdd := sAug gAdd
abbrev sAugSub := sAug (gI fSub)
abbrev sAugMul := sAug (gI fMul)
theorem vs_augAdd (k : Nat) {x : Str} {p : Pos} (hz : ZOk z ms) (hN : X.N.Nodup) (h : PE X e (RE G z W f)) (hk : ms[k]? = some false := by rfl) (hi : X.N[k]? = some x := by rfl) (hx : Loc X.env.scope x := by first | exact .inl rfl | exact .inr rfl)
    (hf : X.fn x = true ∨ X.env.scope.names.lookup x = some .local := by first | exact .inl rfl | exact .inr rfl) : PS X (.AugAssign (.Name x p) .Add e pos) (RS G z W (sAugAdd k f)) := vs_aug k hz hN (OpR.or iop_add iop_add_str) g2_add h hk hi hx hf
theorem vs_augSub (k : Nat) {x : Str} {p : Pos} (hz : ZOk z ms) (hN : X.N.Nodup) (h : PE X e (RE G z W f)) (hk : ms[k]? = some false := by rfl) (hi : X.N[k]? = some x := by rfl) (hx : Loc X.env.scope x := by first | exact .inl rfl | exact .inr rfl)
    (hf : X.fn x = true ∨ X.env.scope.names.lookup x = some .local := by first | exact .inl rfl | exact .inr rfl) : PS X (.AugAssign (.Name x p) .Sub e pos) (RS G z W (sAugSub k f)) := vs_aug k hz hN iop_sub g2_sub h hk hi hx hf
theorem vs_augMul (k : Nat) {x : Str} {p : Pos} (hz : ZOk z ms) (hN : X.N.Nodup) (h : PE X e (RE G z W f)) (hk : ms[k]? = some false := by rfl) (hi : X.N[k]? = some x := by rfl) (hx : Loc X.env.scope x := by first | exact .inl rfl | exact .inr rfl)
    (hf : X.fn x = true ∨ X.env.scope.names.lookup x = some .local := by first | exact .inl rfl | exact .inr rfl) : PS X (.AugAssign (.Name x p) .Mult e pos) (RS G z W (sAugMul k f)) := vs_aug k hz hN iop_mul g2_mul h hk hi hx hf

/-! targets -/
/-- slots apart from vs stay -/
def Out (vs : List Nat) (σ σ' : L2.St) : Prop := σ'.length = σ.length ∧ ∀ i : Nat, i ∉ vs → σ'[i]? = σ[i]?
theorem Out.refl (vs : List Nat) (σ : L2.St) : Out vs σ σ := ⟨rfl, fun _ _ => rfl⟩
theorem Out.set (k : Nat) (σ : L2.St) (x : Option V) : Out [k] σ (σ.set k x) := ⟨List.length_set, fun i hi => List.getElem?_set_ne (fun e => hi (by simp [e]))⟩
theorem Out.trans {vs us : List Nat} {σ σ1 σ2 : L2.St} (a : Out vs σ σ1) (b : Out us σ1 σ2) : Out (vs ++ us) σ σ2 := ⟨b.1.trans a.1, fun i hi => by
  rw [List.mem_append, not_or] at hi
  exact (b.2 i hi.2).trans (a.2 i hi.1)⟩
def RG (G : Gx) (z : Zx) (t : Tg) (vs : List Nat) : TG := fun v σ H Q => ∃ I ts dts env FT FS d, Stt G z I H (v :: ts) (d :: dts) σ env FT FS ∧ match t d env with
  | none => False
  | some env' => ∀ σ' I' H' FT' FS', Out vs σ σ' → Same I I' → Stt G z I' H' ts dts σ' env' FT' FS' → Q σ' H'
def RGs (G : Gx) (z : Zx) (tl : List Tg) (us : List Nat) : TGs := fun vs σ H Q => ∃ I ts dts env FT FS ds, Stt G z I H ts dts σ env FT FS ∧ Reps G I vs ds ∧ match tgAll tl ds env with
  | none => False
  | some env' => ∀ σ' I' H' FT' FS', Out us σ σ' → Same I I' → Stt G z I' H' ts dts σ' env' FT' FS' → Q σ' H'
theorem pgImp {X : Cx} {e : Expr} {t t' : TG} (h : PG X e t) (w : ∀ v σ H Q, t' v σ H Q → t v σ H Q) : PG X e t' := ⟨fun pins s σ H v u Q I r hq => h.run pins s σ H v u Q I r (w v σ H Q hq)⟩
theorem pgsImp {X : Cx} {e : List Expr} {t t' : TGs} (h : PGs X e t) (w : ∀ v σ H Q, t' v σ H Q → t v σ H Q) : PGs X e t' := ⟨fun pins s σ H v u Q I r hq => h.run pins s σ H v u Q I r (w v σ H Q hq)⟩
variable {t : Tg} {tl : List Tg} {vs us : List Nat}
theorem vg_name (k : Nat) {x : Str} (hz : ZOk z ms) (hN : X.N.Nodup) (hk : ms[k]? = some false := by rfl) (hi : X.N[k]? = some x := by rfl) (hx : Loc X.env.scope x := by first | exact .inl rfl | exact .inr rfl)
    (hf : X.fn x = true ∨ X.env.scope.names.lookup x = some .local := by first | exact .inl rfl | exact .inr rfl) : PG X (.Name x pos) (RG G z (tgName k) [k]) := pgImp (pg_name hN hi hx hf) fun v σ H Q ⟨I, ts, dts, env, FT, FS, d, S, h⟩ => by
  obtain ⟨FT', FS', S2⟩ := S.store (hz.2 k hk)
  have hl : k < env.length := by
    rw [S.lenS.2, hz.1.1]
    exact (List.getElem?_eq_some_iff.mp hk).1
  have e1 : tgName k d env = some (env.set k (some d)) := if_pos hl
  rw [e1] at h
  exact h _ I H FT' FS' (Out.set _ _ _) (Same.refl _) S2
theorem vgs_nil : PGs X [] (RGs G z [] []) := pgsImp pgs_nil fun vs σ H Q ⟨I, ts, dts, env, FT, FS, ds, S, r, h⟩ => by
  cases ds with
  | nil =>
    cases vs with
    | nil => exact ⟨rfl, h σ I H FT FS (Out.refl _ _) (Same.refl _) S⟩
    | cons v vs => exact r.elim
  | cons d ds => exact h.elim
theorem vgs_cons (h1 : PG X e (RG G z t vs)) (h2 : PGs X es (RGs G z tl us)) (hs : (assignEach (e :: es) X.env).map (·.2) = assign e X.env :: (assignEach es X.env).map (·.2) := by rfl) : PGs X (e :: es) (RGs G z (t :: tl) (vs ++ us)) := pgsImp (pgs_cons h1 h2 hs) fun vs σ H Q ⟨I, ts, dts, env, FT, FS, ds, S, r, h⟩ => by
  cases ds with
  | nil => exact h.elim
  | cons d ds =>
    cases vs with
    | nil => exact r.elim
    | cons v vs =>
      refine ⟨v, vs, rfl, I, ts, dts, env, FT, FS, d, S.pushR r.1, ?_⟩
      replace h : match (t d env).bind (tgAll tl ds) with
        | none => False
        | some env' => ∀ σ' I' H' FT' FS', Out _ σ σ' → Same I I' → Stt G z I' H' ts dts σ' env' FT' FS' → Q σ' H' := h
      cases e1 : t d env with
      | none => rw [e1] at h; exact h.elim
      | some e2 =>
        rw [e1] at h
        intro σ' I' H' FT' FS' o' s' S'
        refine ⟨I', ts, dts, e2, FT', FS', ds, S', Reps.mono s' _ _ r.2, ?_⟩
        replace h : match tgAll tl ds e2 with
          | none => False
          | some env' => ∀ σ' I' H' FT' FS', Out _ σ σ' → Same I I' → Stt G z I' H' ts dts σ' env' FT' FS' → Q σ' H' := h
        cases e3 : tgAll tl ds e2 with
        | none => rw [e3] at h; exact h.elim
        | some e4 =>
          rw [e3] at h
          exact fun σ2 I2 H2 FT2 FS2 o2 s2 S2 => h σ2 I2 H2 FT2 FS2 (o'.trans o2) (s'.trans s2) S2
theorem tgAll_len : ∀ {tl : List Tg} {ds : List D} {e e' : VEnv}, tgAll tl ds e = some e' → ds.length = tl.length
  | [], [], _, _, _ => rfl
  | t :: tl, d :: ds, e, e', h => by
    obtain ⟨e2, _, h2⟩ := Option.bind_eq_some_iff.mp (show (t d e).bind (tgAll tl ds) = some e' from h)
    simp [tgAll_len h2]
  | [], _ :: _, _, _, h => by cases h
  | _ :: _, [], _, _, h => by cases h
theorem vg_tup {k : Nat} (hc : X.calm = true) (h : PGs X es (RGs G z tl us)) (hK : X.K = G.K := by rfl) (hn : (assignEach es X.env).length = tl.length := by rfl) (hst : (assignEach es X.env).findIdx? (·.1) = none := by rfl) : PG X (.Tuple es k pos) (RG G z (tgTup tl) us) := pgImp (pg_tup hc h hn hst) fun v σ H Q ⟨I, ts, dts, env, FT, FS, d, S, h⟩ => by
  unfold tgTup at h
  cases e1 : asTup d with
  | none => rw [e1] at h; exact h.elim
  | some l =>
    rw [e1] at h
    have fz : d.frozen = true := by
      obtain ⟨F1, F2, _, o, _⟩ := S.pop
      rcases asTup_eq e1 with q | q <;> (subst q; exact Rep.frozen _ _ o.2)
    obtain ⟨rv, S2⟩ := S.popR fz
    obtain ⟨a, ws, ev, h2, r2⟩ := rep_tupk rv e1 S2.sub
    subst ev
    rw [hK]
    replace h : match tgAll tl l env with
      | none => False
      | some env' => ∀ σ' I' H' FT' FS', Out us σ σ' → Same I I' → Stt G z I' H' ts dts σ' env' FT' FS' → Q σ' H' := h
    cases e3 : tgAll tl l env with
    | none => rw [e3] at h; exact h.elim
    | some e4 =>
      refine ⟨a, ws, rfl, h2, by rw [r2.len]; exact tgAll_len e3, I, ts, dts, env, FT, FS, l, S2, r2, ?_⟩
      rw [e3] at h ⊢
      exact h
theorem vs_to {tg : Expr} (h : PE X e (RE G z W f)) (hg : PG X tg (RG G z t us)) (hs : swapsWithSole [tg] e pos.line X.env = pure false := by rfl) (hw : swappedStores [tg] e X.env = pure none := by rfl)
    (h1 : (assignEach [tg] X.env).map (·.2) = [assign tg X.env] := by rfl) : PS X (.Assign [tg] e pos) (RS G z W (sTo t f)) := psImp (ps_asg h hg hs hw h1) fun D σ H h => by
  obtain ⟨I, env, FS, S, h⟩ := RS.to h
  refine RE.of S (GE.bndS h fun d e h1 v I' H' FT' FS' s' S' => ?_)
  refine ⟨I', [], [], e, FT', FS', d, S', ?_⟩
  cases e1 : t d e with
  | none => rw [e1] at h1; exact h1.elim
  | some e2 =>
    rw [e1] at h1
    intro σ2 I2 H2 FT2 FS2 _ s2 S2
    have e3 := S2.noT
    subst e3
    exact h1 σ2 I2 H2 FS2 (s'.trans s2) S2
/-- a, b = x, y -/
def sPar (i j : Nat) (f : M (List D)) : M Fl := f.bnd fun ds e => match ds with
  | [d1, d2] => if i < e.length ∧ j < e.length then some (.ok .nx ((e.set i (some d1)).set j (some d2))) else none
  | _ => none
theorem vs_par (i j : Nat) {x y : Str} {px py pt : Pos} {kt k2 pt2} (hz : ZOk z ms) (hc : X.calm = true) (hN : X.N.Nodup) (ha : PA X [a, b] (RA G z W fs)) (hij : i ≠ j := by decide) (hki : ms[i]? = some false := by rfl) (hkj : ms[j]? = some false := by rfl) (hi : X.N[i]? = some x := by rfl) (hj : X.N[j]? = some y := by rfl)
    (hx : X.env.scope.names.lookup x = some .local := by rfl) (hy : X.env.scope.names.lookup y = some .local := by rfl)
    (hw : swappedStores [.Tuple [.Name x px, .Name y py] kt pt] (.Tuple [a, b] k2 pt2) X.env = pure (some [x, y]) := by rfl)
    (hs : swapsWithSole [.Tuple [.Name x px, .Name y py] kt pt] (.Tuple [a, b] k2 pt2) pos.line X.env = pure false := by rfl) : PS X (.Assign [.Tuple [.Name x px, .Name y py] kt pt] (.Tuple [a, b] k2 pt2) pos) (RS G z W (sPar i j fs)) :=
  psImp (ps_par hc hN hi hj hij hx hy ha hw hs) fun D σ H h => by
    obtain ⟨I, env, FS, S, h⟩ := RS.to h
    refine RA.of S (GA.bnd (g := GS G z W I D) (Same.refl _) h (fun c x e h => h σ) (fun h => h) fun ds e1 h1 vs I1 H1 FT1 FS1 s1 S1 n => ?_)
    match ds, vs, n with
    | [d1, d2], [v1, v2], _ =>
      replace h1 : GS G z W I D (if i < e1.length ∧ j < e1.length then some (.ok .nx ((e1.set i (some d1)).set j (some d2))) else none) := h1
      split at h1
      · refine ⟨v1, v2, rfl, ?_⟩
        obtain ⟨F1, F2, S2⟩ := Stt.store (ts := [v2]) (dts := [d2]) S1 (hz.2 i hki)
        obtain ⟨F3, F4, S3⟩ := S2.store (hz.2 j hkj)
        have e3 := S3.noT
        subst e3
        exact h1 _ I1 H1 F4 s1 S3
      · exact h1.elim
    | [], _, _ => exact h1.elim
    | [_], _, _ => exact h1.elim
    | _ :: _ :: _ :: _, _, _ => exact h1.elim
    | [_, _], [], n => simp at n
    | [_, _], [_], n => simp at n
    | [_, _], _ :: _ :: _ :: _, n => simp at n

/-! ### what is walked -/
def Walks (G : Gx) (z : Zx) (J : It) (I : Hp) (l : List D) : Prop := ∀ (i : Nat) (I2 H2 : Hp), Same I I2 → Same I2 H2 →
  (∀ d, l[i]? = some d → J.go i H2 ∧ ∀ x H3, J.yld i H2 x H3 → ∃ I3, Same I2 I3 ∧ Rep G I3 x d ∧ ∀ ts dts σ env FT FS, Stt G z I2 H2 ts dts σ env FT FS → Stt G z I3 H3 ts dts σ env FT FS) ∧ (l[i]? = none → J.stop i H2)
def RI (G : Gx) (z : Zx) (W : WX) (it : M (List D)) : TI := fun σ H R => ∃ I ts dts env FT FS, Stt G z I H ts dts σ env FT FS ∧ match it env with
  | none => False
  | some (.ok l env') => ∀ J I' H' FT' FS', Same I I' → Stt G z I' H' ts dts σ env' FT' FS' → Walks G z J I' l → R J H'
  | some (.exc c x env') => XP G z W I σ c x env'
theorem piImp {X : Cx} {tg iter : Expr} {t t' : TI} (h : PI X tg iter t) (w : ∀ σ H R, t' σ H R → t σ H R) : PI X tg iter t' := ⟨fun pins s σ H R I hq => h.run pins s σ H R I (w σ H R hq)⟩
theorem piOr {X : Cx} {tg iter : Expr} {t t' : TI} (h : PI X tg iter t) (h' : PI X tg iter t') : PI X tg iter (fun σ H R => t σ H R ∨ t' σ H R) := ⟨fun pins s σ H R I hq => hq.elim (h.run pins s σ H R I) (h'.run pins s σ H R I)⟩
theorem PI.or3 {X : Cx} {tg e : Expr} {t : TE} (h : PE X e t) : PI X tg e (fun σ H R => t σ H fun x H1 => (∃ a, x = .ref a ∧ (∃ xs, SqL X.K H1 a xs) ∧ R (Itl X.K a) H1) ∨ ∃ a, x = .ref a ∧ (∃ xs, SqT X.K H1 a xs) ∧ R (Itt X.K a) H1) := by
  refine ⟨fun pins s σ H R I hq => ?_⟩
  have base : PE X e (fun σ H Q => t σ H Q) := h
  refine thn (h.run pins s σ H _ I hq) fun v s1 ⟨x, H1, I1, r1, q1⟩ => ?_
  have k : ∀ {w : TI}, PI X tg e w → True := fun _ => trivial
  rcases q1 with ⟨a, ex, ⟨xs, hx⟩, q⟩ | ⟨a, ex, ⟨xs, hx⟩, q⟩
  · subst ex
    cases r1
    obtain ⟨its, rv, p, hz⟩ := I1.list hx
    refine wpAny_pyIter_list p.isList ⟨s1.heap.objs.size, [s1.heap.objs.size], _, _, H1, rfl, I1.kept (t' := s1.toks) (fun b o q => Heap.get?_push_of_some _ q), turn_list a _, ⟨_, Heap.get?_push_size _ rfl, rfl, rfl⟩, fun b hb => ?_, q⟩
    rw [show b = s1.heap.objs.size by simpa using hb]
    exact I1.fpOk (Nat.le_refl _) (I1.hok.fresh (Nat.le_refl _))
  · subst ex
    cases r1
    obtain ⟨its, rv, p, hz⟩ := I1.tuple hx
    refine wpAny_pyIter_tuple (show s1.heap.IsTuple a its.toArray from p) ⟨s1.heap.objs.size, [s1.heap.objs.size], _, _, H1, rfl, I1.kept (t' := s1.toks) (fun b o q => Heap.get?_push_of_some _ q), turn_tuple a _, ⟨_, Heap.get?_push_size _ rfl, rfl, rfl⟩, fun b hb => ?_, q⟩
    rw [show b = s1.heap.objs.size by simpa using hb]
    exact I1.fpOk (Nat.le_refl _) (I1.hok.fresh (Nat.le_refl _))
theorem walks_list {I H : Hp} {a : Addr} {ws : List V} {l : List D} (h : SqL G.K I a ws) (r : Reps G I ws l) : Walks G z (Itl G.K a) I l := by
  intro i I2 H2 s s2
  have h2 : SqL G.K H2 a ws := Same.seq s2 (Same.seq s h)
  refine ⟨fun d e => ?_, fun e => ⟨ws, h2, by rw [r.len]; exact List.getElem?_eq_none_iff.mp e⟩⟩
  obtain ⟨w, e2, rw'⟩ := r.get e
  refine ⟨⟨ws, w, h2, e2⟩, fun x H3 y => ?_⟩
  obtain ⟨eH, y⟩ := y
  subst eH
  have ex : x = w := Option.some.inj ((y ws h2).symm.trans e2)
  subst ex
  exact ⟨I2, Same.refl _, Rep.mono s _ _ rw', fun _ _ _ _ _ _ S => S⟩
theorem walks_tup {I H : Hp} {a : Addr} {ws : List V} {l : List D} (h : SqT G.K I a ws) (r : Reps G I ws l) : Walks G z (Itt G.K a) I l := by
  intro i I2 H2 s s2
  have h2 : SqT G.K H2 a ws := SqT.same s2 (SqT.same s h)
  refine ⟨fun d e => ?_, fun e => ⟨ws, h2, by rw [r.len]; exact List.getElem?_eq_none_iff.mp e⟩⟩
  obtain ⟨w, e2, rw'⟩ := r.get e
  refine ⟨⟨ws, w, h2, e2⟩, fun x H3 y => ?_⟩
  obtain ⟨eH, y⟩ := y
  subst eH
  have ex : x = w := Option.some.inj ((y ws h2).symm.trans e2)
  subst ex
  exact ⟨I2, Same.refl _, Rep.mono s _ _ rw', fun _ _ _ _ _ _ S => S⟩
theorem walks_ints {I : Hp} (lo : Int) (n : Nat) : Walks G z (Itr lo n) I (dInts lo n) := by
  intro i I2 H2 s s2
  refine ⟨fun d e => ?_, fun e => ?_⟩
  · unfold dInts at e
    rw [List.getElem?_map] at e
    obtain ⟨j, e1, e2⟩ := Option.map_eq_some_iff.mp e
    obtain ⟨hi, e3⟩ := List.getElem?_eq_some_iff.mp e1
    rw [List.getElem_range] at e3
    rw [List.length_range] at hi
    subst e3 e2
    refine ⟨hi, fun x H3 y => ?_⟩
    obtain ⟨eH, ex⟩ := y
    subst eH ex
    exact ⟨I2, Same.refl _, rfl, fun _ _ _ _ _ _ S => S⟩
  · have := List.getElem?_eq_none_iff.mp e
    unfold dInts at this
    show n ≤ i
    simpa using this
/-- walking a list or a tuple, given up -/
def iSq (f : M D) : M (List D) := f.bnd fun d => M.opt (asSeq d.fz)
theorem RI.bnd {G : Gx} {z : Zx} {W : WX} {I H : Hp} {ts : List V} {dts : List D} {σ : L2.St} {env : VEnv} {FT FS : List Addr} {f : M D} {k : D → Option (List D)} {R : It → Hp → Prop} (S : Stt G z I H ts dts σ env FT FS)
    (h : match (f.bnd fun d => M.opt (k d)) env with
      | none => False
      | some (.ok l env') => ∀ J I' H' FT' FS', Same I I' → Stt G z I' H' ts dts σ env' FT' FS' → Walks G z J I' l → R J H'
      | some (.exc c x env') => XP G z W I σ c x env') {Q : VK}
    (hq : ∀ d l e, k d = some l → (∀ J I' H' FT' FS', Same I I' → Stt G z I' H' ts dts σ e FT' FS' → Walks G z J I' l → R J H') → ∀ v I' H' FT' FS', Same I I' → Stt G z I' H' (v :: ts) (d :: dts) σ e FT' FS' → Q v H') : RE G z W f σ H Q := by
  refine RE.of S ?_
  unfold M.bnd at h
  cases e : f env with
  | none => rw [e] at h; exact h.elim
  | some r =>
    rw [e] at h
    cases r with
    | exc c x e' => exact h
    | ok d e' =>
      cases e2 : k d with
      | none => simp only [M.opt, e2] at h; exact h.elim
      | some l =>
        simp only [M.opt, e2] at h
        exact fun v I' H' FT' FS' s S' => hq d l e' e2 h v I' H' FT' FS' s S'
theorem vi_sq {tg : Expr} (h : PE X e (RE G z W f)) (hK : X.K = G.K := by rfl) : PI X tg e (RI G z W (iSq f)) := piImp (PI.or3 h) fun σ H R ⟨I, ts, dts, env, FT, FS, S, h⟩ => by
  refine RI.bnd (k := fun d => asSeq d.fz) S h fun d l e e1 h1 v I1 H1 FT1 FS1 s1 S1 => ?_
  obtain ⟨I2, F2, s2, rv, S2⟩ := S1.giveTop
  rw [hK]
  generalize d.fz = d' at e1 rv
  cases d' with
  | tup l' =>
    cases e1
    obtain ⟨a, ws, ev, h2, r2⟩ := rv
    exact .inr ⟨a, ev, ⟨ws, .of (S2.sub _ _ h2)⟩, h1 _ I2 H1 F2 FS1 (s1.trans s2) S2 (walks_tup (H := H1) (.of h2) r2)⟩
  | ktp l' =>
    cases e1
    obtain ⟨a, ws, ev, h2, r2⟩ := rv
    exact .inr ⟨a, ev, ⟨ws, SqT.same S2.sub h2⟩, h1 _ I2 H1 F2 FS1 (s1.trans s2) S2 (walks_tup (H := H1) h2 r2)⟩
  | lst m l' =>
    cases e1
    obtain ⟨_, a, ws, ev, h2, r2⟩ := rv
    exact .inl ⟨a, ev, ⟨ws, .of (S2.sub _ _ h2)⟩, h1 _ I2 H1 F2 FS1 (s1.trans s2) S2 (walks_list (H := H1) (.of h2) r2)⟩
  | scr l' =>
    cases e1
    obtain ⟨a, ws, ev, h2, r2⟩ := rv
    exact .inl ⟨a, ev, ⟨ws, Same.seq S2.sub h2⟩, h1 _ I2 H1 F2 FS1 (s1.trans s2) S2 (walks_list (H := H1) h2 r2)⟩
  | _ => cases e1
theorem RIA.bnd {G : Gx} {z : Zx} {W : WX} {I H : Hp} {ts : List V} {dts : List D} {σ : L2.St} {env : VEnv} {FT FS : List Addr} {f : M (List D)} {k : List D → Option (List D)} {R : It → Hp → Prop} (S : Stt G z I H ts dts σ env FT FS)
    (h : match (f.bnd fun d => M.opt (k d)) env with
      | none => False
      | some (.ok l env') => ∀ J I' H' FT' FS', Same I I' → Stt G z I' H' ts dts σ env' FT' FS' → Walks G z J I' l → R J H'
      | some (.exc c x env') => XP G z W I σ c x env') {Q : List V → Hp → Prop}
    (hq : ∀ d l e, k d = some l → (∀ J I' H' FT' FS', Same I I' → Stt G z I' H' ts dts σ e FT' FS' → Walks G z J I' l → R J H') → ∀ vs I' H' FT' FS', Same I I' → Stt G z I' H' (vs ++ ts) (d ++ dts) σ e FT' FS' → vs.length = d.length → Q vs H') : RA G z W f σ H Q := by
  refine RA.of S ?_
  unfold M.bnd at h
  cases e : f env with
  | none => rw [e] at h; exact h.elim
  | some r =>
    rw [e] at h
    cases r with
    | exc c x e' => exact h
    | ok d e' =>
      cases e2 : k d with
      | none => simp only [M.opt, e2] at h; exact h.elim
      | some l =>
        simp only [M.opt, e2] at h
        exact fun v I' H' FT' FS' s S' => hq d l e' e2 h v I' H' FT' FS' s S'
theorem vi_range1 {tg : Expr} {p : Pos} (hm : X.mg "range" = none) (ha : PA X [a] (RA G z W fs)) (hg : Gl X "range" := by rfl) (hs : starEach [a] X.env = [(false, eval a X.env)] := by rfl) : PI X tg (.Call (.Name "range" p) [a] [] pos) (RI G z W (iRange1 fs)) := piImp (pi_range1 hg hm ha hs) fun σ H R ⟨I, ts, dts, env, FT, FS, S, h⟩ => by
  refine RIA.bnd S h fun d l e e1 h1 vs I1 H1 FT1 FS1 s1 S1 n => ?_
  match d, vs, n, e1 with
  | [.int j], [v], _, e1 =>
    replace e1 : (if -(2 ^ 62) ≤ j ∧ j < 2 ^ 62 then some (dInts 0 j.toNat) else none) = some l := e1
    split at e1
    · rename_i c
      cases e1
      obtain ⟨rv, S2⟩ := Stt.popR (ts := ts) (dts := dts) S1 rfl
      exact ⟨j, by rw [show v = .int j from rv], c.1, c.2, h1 _ I1 H1 _ _ s1 S2 (walks_ints 0 j.toNat)⟩
    · cases e1
theorem vi_range2 {tg : Expr} {p : Pos} (hm : X.mg "range" = none) (ha : PA X [a, b] (RA G z W fs)) (hg : Gl X "range" := by rfl) (hs : starEach [a, b] X.env = [(false, eval a X.env), (false, eval b X.env)] := by rfl) (hs2 : starEach [b] X.env = [(false, eval b X.env)] := by rfl) : PI X tg (.Call (.Name "range" p) [a, b] [] pos) (RI G z W (iRange2 fs)) := piImp (pi_range2 hg hm ha hs hs2) fun σ H R ⟨I, ts, dts, env, FT, FS, S, h⟩ => by
  refine RIA.bnd S h fun d l e e1 h1 vs I1 H1 FT1 FS1 s1 S1 n => ?_
  match d, vs, n, e1 with
  | [.int i, .int j], [u, v], _, e1 =>
    replace e1 : (if (-(2 ^ 62) ≤ i ∧ i < 2 ^ 62) ∧ -(2 ^ 62) ≤ j ∧ j < 2 ^ 62 then some (dInts i (j - i).toNat) else none) = some l := e1
    split at e1
    · rename_i c
      cases e1
      obtain ⟨ru, S2⟩ := Stt.popR (ts := v :: ts) (dts := .int j :: dts) S1 rfl
      obtain ⟨rv, S3⟩ := S2.popR rfl
      exact ⟨i, j, by rw [show v = .int j from rv, show u = .int i from ru], ⟨c.1.1, c.1.2, c.2.1, c.2.2⟩, h1 _ I1 H1 _ _ s1 S3 (walks_ints i (j - i).toNat)⟩
    · cases e1

/-! ### loops -/
theorem for_ok {us : List Nat} {G : Gx} {z : Zx} {W : WX} {t : Tg} {g : M Fl} {D : Ends} {J : It} {I0 I1 H1 : Hp} {σ1 : L2.St} {env1 : VEnv} {FS1 : List Addr} {l : List VL.D} (s0 : Same I0 I1) (S1 : Stt G z I1 H1 [] [] σ1 env1 [] FS1) (w : Walks G z J I1 l) (h : GS G z W I0 D (forL t g l env1)) :
    ∃ Wd : Nat → Nat → L2.St → Hp → Prop, (∃ m, Wd 0 m σ1 H1) ∧ ∀ i m σ H, Wd i m σ H →
      (J.stop i H ∧ D.nx σ H) ∨ (J.go i H ∧ ∃ N : L2.St → Hp → Prop, (∀ σ' H', N σ' H' → ∃ m', m' < m ∧ Wd (i + 1) m' σ' H') ∧ ∀ x H', J.yld i H x H' → RG G z t us x σ H' fun σ2 H2 => RS G z W g { D with nx := N, ct := N, bk := D.nx } σ2 H2) := by
  refine ⟨fun i m σ H => m = l.length - i ∧ i ≤ l.length ∧ ∃ I env FS, Same I1 I ∧ Stt G z I H [] [] σ env [] FS ∧ GS G z W I0 D (forL t g (l.drop i) env), ⟨l.length, by simp, by simp, I1, env1, FS1, Same.refl _, S1, by simpa using h⟩, ?_⟩
  rintro i m σ H ⟨rfl, hi, I, env, FS, s, S, h⟩
  obtain ⟨w1, w2⟩ := w i I H s S.sub
  cases e : l[i]? with
  | none =>
    refine .inl ⟨w2 e, ?_⟩
    rw [List.drop_eq_nil_of_le (List.getElem?_eq_none_iff.mp e)] at h
    exact h σ I H FS (s0.trans s) S
  | some d =>
    have hlt := (List.getElem?_eq_some_iff.mp e).1
    obtain ⟨go, yl⟩ := w1 d e
    have ed : l.drop i = d :: l.drop (i + 1) := by
      rw [List.drop_eq_getElem_cons hlt]
      congr 1
      exact (List.getElem?_eq_some_iff.mp e).2
    rw [ed] at h
    refine .inr ⟨go, fun σ' H' => ∃ I env FS, Same I1 I ∧ Stt G z I H' [] [] σ' env [] FS ∧ GS G z W I0 D (forL t g (l.drop (i + 1)) env), fun σ' H' ⟨I', env', FS', s', S', h'⟩ => ⟨l.length - (i + 1), by omega, rfl, hlt, I', env', FS', s', S', h'⟩, fun x H3 y => ?_⟩
    obtain ⟨I3, s3, rx, tr⟩ := yl x H3 y
    have S3 := tr _ _ _ _ _ _ S
    refine ⟨I3, [], [], env, [], FS, d, S3.pushR rx, ?_⟩
    unfold forL at h
    cases e1 : t d env with
    | none => rw [e1] at h; exact h.elim
    | some e2 =>
      rw [e1] at h
      intro σ4 I4 H4 FT4 FS4 _ s4 S4
      have e3 := S4.noT
      subst e3
      refine RS.of S4 ?_
      replace h : GS G z W I0 D (match g e2 with
        | some (.ok .nx e2) => forL t g (l.drop (i + 1)) e2
        | some (.ok .ct e2) => forL t g (l.drop (i + 1)) e2
        | some (.ok .bk e2) => some (.ok .nx e2)
        | r => r) := h
      have sx : Same I1 I4 := (s.trans s3).trans s4
      cases e4 : g e2 with
      | none => rw [e4] at h; exact h
      | some r =>
        rw [e4] at h
        cases r with
        | exc c x e => exact fun σ' => (h σ').weak (s0.trans sx)
        | ok fl e5 =>
          cases fl with
          | nx => exact fun σ' I' H' FS' s' S' => ⟨I', e5, FS', sx.trans s', S', h⟩
          | ct => exact fun σ' I' H' FS' s' S' => ⟨I', e5, FS', sx.trans s', S', h⟩
          | bk => exact fun σ' I' H' FS' s' S' => h σ' I' H' FS' ((s0.trans sx).trans s') S'
          | rt d => exact fun v σ' I' H' FT' FS' s' S' => h v σ' I' H' FT' FS' ((s0.trans sx).trans s') S'
theorem vs_for {tg iter : Expr} {it : M (List D)} (hp : PassesOwn (model X.prog X.w) X.A X.env X.xe) (hc : X.calm = true) (hi : PI X tg iter (RI G z W it)) (hg : PG X tg (RG G z t us)) (hb : PSs X sts (RS G z W g)) (hs : ∀ x, foldedSetIterable iter X.env x = pure x := by intro _; rfl) : PS X (.For tg iter sts [] pos) (RS G z W (sFor it t g)) :=
  psImp (ps_for hp hc hi hg hb hs) fun D σ H h => by
    obtain ⟨I, env, FS, S, h⟩ := RS.to h
    refine ⟨I, [], [], env, [], FS, S, ?_⟩
    unfold sFor M.bnd at h
    cases e : it env with
    | none => rw [e] at h; exact h.elim
    | some r =>
      rw [e] at h
      cases r with
      | exc c x e' => exact h σ
      | ok l e' =>
        intro J I' H' FT' FS' s' S' w
        have e3 := S'.noT
        subst e3
        exact for_ok s' S' w h
theorem vs_while {c : Expr} (hp : PassesOwn (model X.prog X.w) X.A X.env X.xe) (hc : PT X c (RT G z W ta)) (hb : PSs X sts (RS G z W g)) : PS X (.While c sts [] pos) (RS G z W (sWh ta g)) :=
  psImp (ps_while hp hc hb) fun D σ H h => by
    obtain ⟨I, env, FS, S, h⟩ := RS.to h
    cases e : sWh ta g env with
    | none => rw [e] at h; exact h.elim
    | some r =>
      rw [e] at h
      obtain ⟨n, hn⟩ := sWh_to e
      refine ⟨fun m σ H => ∃ I1 env FS, Same I I1 ∧ Stt G z I1 H [] [] σ env [] FS ∧ GS G z W I D (whN ta g m env), ⟨n, I, env, FS, Same.refl _, S, by rw [hn]; exact h⟩, ?_⟩
      rintro m σ H ⟨I1, env, FS, s, S, h⟩
      cases m with
      | zero => exact h.elim
      | succ m =>
        refine RT.of S (GT.bnd (g := GS G z W I D) s h (fun c x e h => h σ) (fun h => h) fun k e1 h1 I2 H2 FT2 FS2 s2 S2 => ?_)
        have e3 := S2.noT
        subst e3
        cases k with
        | false =>
          rw [if_neg Bool.false_ne_true] at h1 ⊢
          exact h1 σ I2 H2 FS2 s2 S2
        | true =>
          rw [if_pos rfl] at h1 ⊢
          refine ⟨fun σ' H' => ∃ I1 env FS, Same I I1 ∧ Stt G z I1 H' [] [] σ' env [] FS ∧ GS G z W I D (whN ta g m env), fun σ' H' q => ⟨m, Nat.lt_succ_self _, q⟩, RS.of S2 ?_⟩
          cases e4 : g e1 with
          | none => simp only [e4] at h1; exact h1
          | some r =>
            simp only [e4] at h1
            cases r with
            | exc c x e => exact fun σ' => (h1 σ').weak s2
            | ok fl e5 =>
              cases fl with
              | nx => exact fun σ' I' H' FS' s' S' => ⟨I', e5, FS', s2.trans s', S', h1⟩
              | ct => exact fun σ' I' H' FS' s' S' => ⟨I', e5, FS', s2.trans s', S', h1⟩
              | bk => exact fun σ' I' H' FS' s' S' => h1 σ' I' H' FS' (s2.trans s') S'
              | rt d => exact fun v σ' I' H' FT' FS' s' S' => h1 v σ' I' H' FT' FS' (s2.trans s') S'
/-- raise C('..') -/
theorem vs_raise (c : Str) {t0 : L2.St → Hp → XK → Prop} (hc : X.calm = true) (tk : Takes X W) (he : PMk X e t0) (ht : ∀ σ H Q, Q (G.ev c) none H → t0 σ H Q) : PS X (.Raise (some e) none pos) (RS G z W (sRaise c)) := psImp (ps_raise hc tk he) fun D σ H h => by
  obtain ⟨I, env, FS, S, h⟩ := RS.to h
  exact ht σ H _ (h σ none I H FS (Same.refl _) S rfl)
end
end
section
set_option Elab.async false
set_option linter.all false
set_option maxRecDepth 100000
set_option maxHeartbeats 1000000
/-! ### what a slot owns is changed -/
/-- an owned thing with its root -/
def D.own : D → Bool
  | .lst m _ => m
  | .ins m _ _ _ => m
  | .dk m _ _ => m
  | .dt m _ _ => m
  | _ => false
section
variable {G : Gx} {z : Zx} {W : WX} {I H : Hp} {ts : List V} {dts : List D} {σ : L2.St} {env : VEnv} {FT FS : List Addr}
theorem Own.root {d : D} {v : V} {F : List Addr} (h : Own G I H v d F) (o : d.own = true) : ∃ a F', v = .ref a ∧ F = a :: F' ∧ I a = none := by
  cases d with
  | lst m l => cases o; obtain ⟨a, ws, F', e, _, i, _, e2⟩ := h; exact ⟨a, F', e, e2, i⟩
  | ins m c ns l => cases o; obtain ⟨a, dx, ws, F', e, _, _, i, _, e2⟩ := h; exact ⟨a, F', e, e2, i⟩
  | dk m ks l => cases o; obtain ⟨a, ws, F', e, _, _, i, _, e2⟩ := h; exact ⟨a, F', e, e2, i⟩
  | dt m ks l => cases o; obtain ⟨a, ws, F', e, _, _, i, _, e2⟩ := h; exact ⟨a, F', e, e2, i⟩
  | _ => cases o
/-- the object at a slot's root gets the content o'; Fx: what came from elsewhere -/
theorem Stt.setO (S : Stt G z I H ts dts σ env FT FS) {k : Nat} {d : D} (hk : env[k]? = some (some d)) (ho : d.own = true) {Fx : List Addr} (nx : (Fx ++ (FT ++ FS)).Nodup) (fx : Fresh z Fx) :
    ∃ a F', σ[k]? = some (some (.ref a)) ∧ Own G I H (.ref a) d (a :: F') ∧ I a = none ∧ (a :: F').Nodup ∧ (∀ b ∈ a :: F', b ∈ FS) ∧ ∀ (o' : HO) (d' : D) (F'' : List Addr), (∀ H', H' a = some o' → (∀ b ∈ F' ++ Fx, H' b = H b) → Own G I H' (.ref a) d' (a :: F'')) → F''.Nodup → (∀ b ∈ F'', b ∈ F' ++ Fx) →
      ∃ FS', Stt G z I (upd H a o') ts dts (σ) (env.set k (some d')) FT FS' := by
  obtain ⟨v, p, Fk, Fr, a1, a2, a3, a4, a5, a6, a7, a8, S1⟩ := S.hole hk
  obtain ⟨a, F', ev, eF, iA⟩ := a4.root ho
  subst ev eF
  refine ⟨a, F', a2, a4, iA, (List.nodup_append.mp a7).1, fun b hb => a6.mem_iff.mpr (List.mem_append_left _ hb), fun o' d' F'' hw nd' sb => ?_⟩
  have hFS : ∀ b, b ∈ FS ↔ b ∈ (a :: F') ++ Fr := fun b => a6.mem_iff
  have nda := List.nodup_append.mp a7
  have nF' : (a :: F').Nodup := nda.1
  have nxd := nodup_disj nx
  have aFx : a ∉ Fx := fun hm => nxd a hm (List.mem_append_right _ ((hFS a).mpr (by simp)))
  have aF' : a ∉ F' := (List.nodup_cons.mp nF').1
  have dis : ∀ b ∈ a :: F', b ∉ FT ++ Fr := nodup_disj a7
  have aR : a ∉ FT ++ Fr := dis a List.mem_cons_self
  have S2 : Stt G z I (upd H a o') ts dts σ (env.set k none) FT Fr := by
    refine S1.go [a] (Same.refl _) (fun b o e => ?_) (fun b hb => ⟨upd_ne fun e => aR (e ▸ hb), ?_⟩) (fun b o e n => by rw [n] at e; cases e) (fun b hb => ?_) (fun b o e hb => ?_) (fun b o e => ?_)
    · rw [upd_ne (fun q => by rw [q, iA] at e; cases e)]
      exact S1.sub b o e
    · rcases List.mem_append.mp hb with q | q
      · exact (S1.oT.dom b q).2.1
      · exact (S1.oS.dom b q).2
    · rw [show b = a by simpa using hb]
      exact a8 a List.mem_cons_self
    · rw [upd_ne (fun q => hb (by simp [q]))]; exact e
    · by_cases q : b = a
      · exact ⟨o', by rw [q, upd_same]⟩
      · exact ⟨o, by rw [upd_ne q]; exact e⟩
  have ow := hw (upd H a o') upd_same (fun b hb => upd_ne fun q => by
    rcases List.mem_append.mp hb with w | w
    · exact aF' (q ▸ w)
    · exact aFx (q ▸ w))
  have hk2 : (env.set k none)[k]? = some none := by
    have : k < env.length := (List.getElem?_eq_some_iff.mp hk).1
    simp [this]
  have frF : ∀ b ∈ a :: F'', z.H0 b = none ∨ b ∈ z.L := fun b hb => by
    rcases List.mem_cons.mp hb with q | q
    · rw [q]; exact a8 a List.mem_cons_self
    · rcases List.mem_append.mp (sb b q) with w | w
      · exact a8 b (List.mem_cons_of_mem _ w)
      · exact .inl (fx b w)
  obtain ⟨FS', S3⟩ := S2.fill (x := some (.ref a)) (d := some d') (Fk := a :: F'') hk2 a1 ⟨fun u hu => by rw [a3 u hu], _, rfl, ow, fun hp b hb => by
    rcases List.mem_cons.mp hb with q | q
    · rw [q]; exact a5 hp a List.mem_cons_self
    · rcases List.mem_append.mp (sb b q) with w | w
      · exact a5 hp b (List.mem_cons_of_mem _ w)
      · exact fx b w⟩ (by
    refine List.nodup_append.mpr ⟨List.nodup_cons.mpr ⟨fun hm => ?_, nd'⟩, nda.2.1, fun b hb c hc e => ?_⟩
    · rcases List.mem_append.mp (sb a hm) with w | w
      · exact aF' w
      · exact aFx w
    · subst e
      rcases List.mem_cons.mp hb with q | q
      · exact aR (q ▸ hc)
      · rcases List.mem_append.mp (sb b q) with w | w
        · exact dis b (List.mem_cons_of_mem _ w) hc
        · rcases List.mem_append.mp hc with u | u
          · exact nxd b w (List.mem_append_left _ u)
          · exact nxd b w (List.mem_append_right _ ((hFS b).mpr (List.mem_append_right _ u)))) frF
  rw [List.set_set, set_same_of a2] at S3
  exact ⟨FS', S3⟩
theorem Owns.cast {H' : Hp} {l : List D} {ws : List V} {F : List Addr} (h : Owns G I H ws l F) (k : ∀ b ∈ F, H' b = H b) : Owns G I H' ws l F :=
  Owns.up (Same.refl _) l ws F (fun b hb => ⟨k b hb, (Owns.dom l ws F h b hb).2⟩) h
theorem Own.cast {H' : Hp} {d : D} {w : V} {F : List Addr} (h : Own G I H w d F) (k : ∀ b ∈ F, H' b = H b) : Own G I H' w d F :=
  Own.up (Same.refl _) d w F (fun b hb => ⟨k b hb, (Own.dom d w F h b hb).2⟩) h
theorem Owns.app : ∀ {l l' : List D} {ws ws' : List V} {F F' : List Addr}, Owns G I H ws l F → Owns G I H ws' l' F' → Owns G I H (ws ++ ws') (l ++ l') (F ++ F')
  | [], _, [], _, F, _, h, r => by
    have h : F = [] := h
    subst h
    exact r
  | d :: l, _, w :: ws, _, F, F', ⟨F1, F2, e, h1, h2⟩, r => by
    subst e
    exact ⟨F1, F2 ++ F', by rw [List.append_assoc], h1, Owns.app h2 r⟩
  | [], _, _ :: _, _, _, _, h, _ => h.elim
  | _ :: _, _, [], _, _, _, h, _ => h.elim
/-- a list at a slot: its content changed to ws', l' -/
theorem Stt.setL (S : Stt G z I H ts dts σ env FT FS) {k : Nat} {l : List D} (hk : env[k]? = some (some (.lst true l))) {Fx : List Addr} (nx : (Fx ++ (FT ++ FS)).Nodup) (fx : Fresh z Fx) :
    ∃ a ws F', σ[k]? = some (some (.ref a)) ∧ H a = some (.lst ws) ∧ Owns G I H ws l F' ∧ F'.Nodup ∧ (F' ++ Fx).Nodup ∧ ∀ (ws' : List V) (l' : List D) (F'' : List Addr), Owns G I H ws' l' F'' → F''.Nodup → (∀ b ∈ F'', b ∈ F' ++ Fx) →
      ∃ FS', Stt G z I (upd H a (.lst ws')) ts dts σ (env.set k (some (.lst true l'))) FT FS' := by
  obtain ⟨a, F', h1, h2, iA, nda, inFS, h3⟩ := S.setO hk rfl nx fx
  obtain ⟨a', ws, F1, e1, e2, _, ow, e3⟩ := h2
  cases e1
  cases e3
  have nF := (List.nodup_cons.mp nda).2
  refine ⟨a, ws, F', h1, e2, ow, nF, ?_, fun ws' l' F'' o' nd' sb => ?_⟩
  · refine List.nodup_append.mpr ⟨nF, (List.nodup_append.mp nx).1, fun b hb c hc e => ?_⟩
    subst e
    exact nodup_disj nx b hc (List.mem_append_right _ (inFS b (List.mem_cons_of_mem _ hb)))
  · exact h3 (.lst ws') (.lst true l') F'' (fun H' hH kk => ⟨a, ws', F'', rfl, hH, iA, o'.cast fun b hb => kk b (sb b hb), rfl⟩) nd' sb
end
/-- the slot's list -/
def lstAt (k : Nat) (e : VEnv) : Option (List D) := match e[k]? with
  | some (some (.lst true l)) => some l
  | _ => none
theorem lstAt_eq {k : Nat} {e : VEnv} {l : List D} (h : lstAt k e = some l) : e[k]? = some (some (.lst true l)) := by
  unfold lstAt at h
  split at h
  · rename_i l' e1
    cases h
    exact e1
  · cases h
def sApp (k : Nat) (f : M D) : M Fl := fun e => (lstAt k e).bind fun _ => (f.bnd fun d e => (lstAt k e).bind fun l => if l.length < sizeLine then some (.ok .nx (e.set k (some (.lst true (l ++ [d]))))) else none) e
def vPop (k : Nat) : M D := fun e => (lstAt k e).bind fun l => match l.getLast? with
  | some d => if d.frozen then some (.ok d (e.set k (some (.lst true l.dropLast)))) else none
  | none => none
def sRev (k : Nat) : M Fl := fun e => (lstAt k e).bind fun l => if D.frozens l then some (.ok .nx (e.set k (some (.lst true l.reverse)))) else none
def sExt (k : Nat) (f : M D) : M Fl := fun e => (lstAt k e).bind fun _ => (f.bnd fun d e => (lstAt k e).bind fun l => (asLst d.fz).bind fun m => if l.length + m.length ≤ sizeLine then some (.ok .nx (e.set k (some (.lst true (l ++ m))))) else none) e
def ixSet (l : List D) (i : Int) (d : D) : Option (List D) := (L2.ixN l.length i).map fun j => l.set j d
def sPut (k : Nat) (p : VEnv → Option D) (f : M D) : M Fl := f.bnd fun d e => (lstAt k e).bind fun l => ((p e).bind asInt).bind fun i => (ixSet l i d).map fun l' => .ok .nx (e.set k (some (.lst true l')))
section
variable {G : Gx} {z : Zx} {W : WX} {I H : Hp} {ts : List V} {dts : List D} {σ : L2.St} {env : VEnv} {FT FS : List Addr}
theorem nd_nil {FT FS : List Addr} (S : Stt G z I H ts dts σ env FT FS) : (([] : List Addr) ++ (FT ++ FS)).Nodup := S.nd
theorem fr_nil : Fresh z [] := fun b hb => nomatch hb
/-- the value on top is appended to a slot's list -/
theorem Stt.append {v : V} {d : D} (S : Stt G z I H (v :: ts) (d :: dts) σ env FT FS) {k : Nat} {l : List D} (hk : env[k]? = some (some (.lst true l))) : ∃ a ws, σ[k]? = some (some (.ref a)) ∧ H a = some (.lst ws) ∧ ws.length = l.length ∧ ∃ FT' FS', Stt G z I (upd H a (.lst (ws ++ [v]))) ts dts σ (env.set k (some (.lst true (l ++ [d])))) FT' FS' := by
  have nd := S.nd
  obtain ⟨F1, F2, e, o, f, S1⟩ := S.pop
  subst e
  rw [List.append_assoc] at nd
  obtain ⟨a, ws, F', h1, h2, ow, nF, nFx, h3⟩ := S1.setL hk nd f
  refine ⟨a, ws, h1, h2, ow.len, F2, ?_⟩
  exact h3 (ws ++ [v]) (l ++ [d]) (F' ++ F1) (ow.app ⟨F1, [], by simp, o, rfl⟩) nFx (fun b hb => hb)
theorem Owns.setAt : ∀ {l : List D} {ws : List V} {F : List Addr} {j : Nat} {v : V} {d : D} {F1 : List Addr}, Owns G I H ws l F → j < l.length → Own G I H v d F1 → (F ++ F1).Nodup → ∃ F', Owns G I H (ws.set j v) (l.set j d) F' ∧ F'.Nodup ∧ ∀ b ∈ F', b ∈ F ++ F1
  | c :: l, w :: ws, F, 0, v, d, F1, ⟨Fa, Fb, e, h1, h2⟩, hj, o, nd => by
    subst e
    refine ⟨F1 ++ Fb, ⟨F1, Fb, rfl, o, h2⟩, ?_, fun b hb => ?_⟩
    · have h := List.nodup_append.mp nd
      refine List.nodup_append.mpr ⟨h.2.1, (List.nodup_append.mp h.1).2.1, fun b hb c hc e => ?_⟩
      exact h.2.2 c (List.mem_append_right _ hc) b hb e.symm
    · rcases List.mem_append.mp hb with q | q
      · exact List.mem_append_right _ q
      · exact List.mem_append_left _ (List.mem_append_right _ q)
  | c :: l, w :: ws, F, j + 1, v, d, F1, ⟨Fa, Fb, e, h1, h2⟩, hj, o, nd => by
    subst e
    rw [List.append_assoc] at nd
    have h := List.nodup_append.mp nd
    obtain ⟨F', r, nd', sb⟩ := Owns.setAt (j := j) h2 (by simpa using hj) o h.2.1
    refine ⟨Fa ++ F', ⟨Fa, F', rfl, h1, r⟩, List.nodup_append.mpr ⟨h.1, nd', fun b hb c hc e => h.2.2 b hb c (sb c hc) e⟩, fun b hb => ?_⟩
    rcases List.mem_append.mp hb with q | q
    · rw [List.append_assoc]; exact List.mem_append_left _ q
    · rw [List.append_assoc]; exact List.mem_append_right _ (sb b q)
  | [], _, _, _, _, _, _, _, hj, _, _ => by simp at hj
  | _ :: _, [], _, _, _, _, _, h, _, _, _ => h.elim
theorem Stt.putAt {v : V} {d : D} (S : Stt G z I H (v :: ts) (d :: dts) σ env FT FS) {k : Nat} {l : List D} (hk : env[k]? = some (some (.lst true l))) {j : Nat} (hj : j < l.length) : ∃ a ws, σ[k]? = some (some (.ref a)) ∧ H a = some (.lst ws) ∧ ws.length = l.length ∧ ∃ FT' FS', Stt G z I (upd H a (.lst (ws.set j v))) ts dts σ (env.set k (some (.lst true (l.set j d)))) FT' FS' := by
  have nd := S.nd
  obtain ⟨F1, F2, e, o, f, S1⟩ := S.pop
  subst e
  rw [List.append_assoc] at nd
  obtain ⟨a, ws, F', h1, h2, ow, nF, nFx, h3⟩ := S1.setL hk nd f
  obtain ⟨F3, r, nd3, sb⟩ := ow.setAt hj o nFx
  exact ⟨a, ws, h1, h2, ow.len, F2, h3 _ _ F3 r nd3 sb⟩
theorem Owns.dropLast : ∀ {l : List D} {ws : List V} {F : List Addr}, Owns G I H ws l F → F.Nodup → ∃ F', Owns G I H ws.dropLast l.dropLast F' ∧ F'.Nodup ∧ ∀ b ∈ F', b ∈ F
  | [], [], F, h, nd => ⟨F, h, nd, fun b hb => hb⟩
  | [d], [w], F, h, nd => ⟨[], rfl, List.nodup_nil, fun b hb => nomatch hb⟩
  | d :: d2 :: l, w :: w2 :: ws, F, ⟨F1, F2, e, h1, h2⟩, nd => by
    subst e
    have h := List.nodup_append.mp nd
    obtain ⟨F', r, nd', sb⟩ := Owns.dropLast (l := d2 :: l) (ws := w2 :: ws) h2 h.2.1
    exact ⟨F1 ++ F', ⟨F1, F', rfl, h1, r⟩, List.nodup_append.mpr ⟨h.1, nd', fun b hb c hc => h.2.2 b hb c (sb c hc)⟩, fun b hb => (List.mem_append.mp hb).elim (List.mem_append_left _) fun q => List.mem_append_right _ (sb b q)⟩
  | [d], w :: w2 :: ws, F, ⟨F1, F2, e, h1, h2⟩, nd => h2.elim
  | d :: d2 :: l, [w], F, ⟨F1, F2, e, h1, h2⟩, nd => h2.elim
  | [], _ :: _, _, h, _ => h.elim
  | _ :: _, [], _, h, _ => h.elim
theorem Stt.popAt (S : Stt G z I H ts dts σ env FT FS) {k : Nat} {l : List D} {d : D} (hk : env[k]? = some (some (.lst true l))) (hd : l.getLast? = some d) (f : d.frozen = true) : ∃ a ws v, σ[k]? = some (some (.ref a)) ∧ H a = some (.lst ws) ∧ ws[ws.length - 1]? = some v ∧ ∃ FS', Stt G z I (upd H a (.lst ws.dropLast)) (v :: ts) (d :: dts) σ (env.set k (some (.lst true l.dropLast))) FT FS' := by
  obtain ⟨a, ws, F', h1, h2, ow, nF, _, h3⟩ := S.setL hk (nd_nil S) fr_nil
  obtain ⟨F2, r, nd2, sb⟩ := ow.dropLast nF
  rw [List.getLast?_eq_getElem?] at hd
  obtain ⟨v, Fv, e1, o⟩ := ow.get hd
  obtain ⟨FS', S2⟩ := h3 ws.dropLast l.dropLast F2 r nd2 (fun b hb => by simpa using sb b hb)
  exact ⟨a, ws, v, h1, h2, by rw [ow.len]; exact e1, FS', S2.pushR (Own.rep d v Fv f o).2⟩
end
section
variable {X : Cx} {G : Gx} {z : Zx} {W : WX} {e a b o : Expr} {es : List Expr} {pa pb : VEnv → Option D} {f fa fb : M D} {ta tb : M Bool} {fs : M (List D)} {pos apos cpos : Pos} {ms : List Bool}
theorem tyL {K : PySem.W.Frag} {a : Addr} {H : Hp} {ws : List V} (h : H a = some (.lst ws)) : tyV K "list" (.ref a) H := .inl ⟨rfl, ws, .of h⟩
theorem vs_append (k : Nat) (ho : PE X o (tVar k)) (ha : PE X a (RE G z W f)) (hbase : attributeBase o "append" X.env (eval o X.env) = eval o X.env := by rfl)
    (hfew : ((backTo cpos (starEach [a] X.env)).all (fun x => !x.1) && (backToKw cpos (keywordEach [] X.env)).all (fun x => x.1.isSome)
      && decide ([a].length + ([] : List Keyword).length + (if ([] : List Keyword).isEmpty then 0 else 1) < 30)) = true := by rfl)
    (hline : (apos.endLine == cpos.line) = true := by rfl) (hs : starEach [a] X.env = (false, eval a X.env) :: starEach [] X.env := by rfl) (hplain : (backTo cpos (starEach [] X.env)).any (·.1) = false := by rfl)
    (hsw : swapsWith (.Call (.Attribute o "append" apos) [a] [] cpos) none pos.line X.env = pure false := by rfl) : PS X (.Expr (.Call (.Attribute o "append" apos) [a] [] cpos) pos) (RS G z W (sApp k f)) :=
  psImp (ps_expr (pe_bm PySem.F.plainAttrs_list PySem.F.slot_list_append PySem.F.type_list_append mt_append ho (pa_cons ha pa_nil hs) hbase hfew hline hs hplain) hsw) fun D σ H h => by
    obtain ⟨I, env, FS, S, h⟩ := RS.to h
    unfold sApp at h
    cases e1 : lstAt k env with
    | none => rw [e1] at h; exact h.elim
    | some l0 =>
      rw [e1] at h
      obtain ⟨v0, F0, q1, o0⟩ := S.slot (lstAt_eq e1)
      obtain ⟨a0, ws0, F', q2, q3, _⟩ := own_lst S.sub o0
      subst q2
      refine ⟨.ref a0, q1, tyL q3, RE.of S (GE.bndS h fun d e h1 v I' H' FT' FS' s' S' => ?_)⟩
      cases e2 : lstAt k e with
      | none => rw [e2] at h1; exact h1.elim
      | some l =>
        rw [e2] at h1
        replace h1 : GS G z W I D (if l.length < sizeLine then some (.ok .nx (e.set k (some (.lst true (l ++ [d]))))) else none) := h1
        split at h1
        · rename_i hz
          obtain ⟨a1, ws, q4, q5, q6, FT2, FS2, S2⟩ := S'.append (lstAt_eq e2)
          rw [q1] at q4
          cases q4
          have e3 := S2.noT
          subst e3
          exact ⟨a0, ws, v, rfl, rfl, q5, by rw [q6]; exact hz, h1 σ I' _ FS2 s' S2⟩
        · exact h1.elim
theorem ve_pop (k : Nat) (ho : PE X o (tVar k)) (hbase : attributeBase o "pop" X.env (eval o X.env) = eval o X.env := by rfl) (hline : (apos.endLine == cpos.line) = true := by rfl) : PE X (.Call (.Attribute o "pop" apos) [] [] cpos) (RE G z W (vPop k)) :=
  peImp (pe_bm0 PySem.F.plainAttrs_list PySem.F.slot_list_pop PySem.F.type_list_pop mt_pop ho hbase hline) fun σ H Q h => by
    obtain ⟨I, ts, dts, env, FT, FS, S, h⟩ := RE.to h
    unfold vPop at h
    cases e1 : lstAt k env with
    | none => rw [e1] at h; exact h.elim
    | some l =>
      rw [e1] at h
      replace h : GE G z W I ts dts σ Q (match l.getLast? with
        | some d => if d.frozen then some (.ok d (env.set k (some (.lst true l.dropLast)))) else none
        | none => none) := h
      cases e2 : l.getLast? with
      | none => rw [e2] at h; exact h.elim
      | some d =>
        rw [e2] at h
        replace h : GE G z W I ts dts σ Q (if d.frozen then some (.ok d (env.set k (some (.lst true l.dropLast)))) else none) := h
        split at h
        · rename_i fz
          obtain ⟨a, ws, v, q1, q2, q3, FS', S2⟩ := S.popAt (lstAt_eq e1) e2 fz
          exact ⟨.ref a, q1, tyL q2, a, ws, v, rfl, rfl, q2, q3, h v I _ FT FS' (Same.refl _) S2⟩
        · exact h.elim
theorem vs_reverse (k : Nat) (ho : PE X o (tVar k)) (hbase : attributeBase o "reverse" X.env (eval o X.env) = eval o X.env := by rfl) (hline : (apos.endLine == cpos.line) = true := by rfl)
    (hsw : swapsWith (.Call (.Attribute o "reverse" apos) [] [] cpos) none pos.line X.env = pure false := by rfl) : PS X (.Expr (.Call (.Attribute o "reverse" apos) [] [] cpos) pos) (RS G z W (sRev k)) :=
  psImp (ps_expr (pe_bm0 PySem.F.plainAttrs_list PySem.F.slot_list_reverse PySem.F.type_list_reverse mt_reverse ho hbase hline) hsw) fun E σ H h => by
    obtain ⟨I, env, FS, S, h⟩ := RS.to h
    unfold sRev at h
    cases e1 : lstAt k env with
    | none => rw [e1] at h; exact h.elim
    | some l =>
      rw [e1] at h
      replace h : GS G z W I E (if D.frozens l then some (.ok .nx (env.set k (some (.lst true l.reverse)))) else none) := h
      split at h
      · rename_i fz
        obtain ⟨a, ws, F', h1, h2, ow, nF, _, h3⟩ := S.setL (lstAt_eq e1) (nd_nil S) fr_nil
        obtain ⟨FS', S2⟩ := h3 ws.reverse l.reverse [] (Reps.owns (ow.repsOf fz).rev) List.nodup_nil (fun b hb => nomatch hb)
        exact ⟨.ref a, h1, tyL h2, a, ws, rfl, rfl, h2, h σ I _ FS' (Same.refl _) S2⟩
      · exact h.elim
theorem vs_extend (k : Nat) (ho : PE X o (tVar k)) (ha : PE X a (RE G z W f)) (hbase : attributeBase o "extend" X.env (eval o X.env) = eval o X.env := by rfl)
    (hfew : ((backTo cpos (starEach [a] X.env)).all (fun x => !x.1) && (backToKw cpos (keywordEach [] X.env)).all (fun x => x.1.isSome)
      && decide ([a].length + ([] : List Keyword).length + (if ([] : List Keyword).isEmpty then 0 else 1) < 30)) = true := by rfl)
    (hline : (apos.endLine == cpos.line) = true := by rfl) (hs : starEach [a] X.env = (false, eval a X.env) :: starEach [] X.env := by rfl) (hplain : (backTo cpos (starEach [] X.env)).any (·.1) = false := by rfl)
    (hsw : swapsWith (.Call (.Attribute o "extend" apos) [a] [] cpos) none pos.line X.env = pure false := by rfl) : PS X (.Expr (.Call (.Attribute o "extend" apos) [a] [] cpos) pos) (RS G z W (sExt k f)) :=
  psImp (ps_expr (pe_bm PySem.F.plainAttrs_list PySem.F.slot_list_extend PySem.F.type_list_extend mt_extend ho (pa_cons ha pa_nil hs) hbase hfew hline hs hplain) hsw) fun D σ H h => by
    obtain ⟨I, env, FS, S, h⟩ := RS.to h
    unfold sExt at h
    cases e1 : lstAt k env with
    | none => rw [e1] at h; exact h.elim
    | some l0 =>
      rw [e1] at h
      obtain ⟨v0, F0, q1, o0⟩ := S.slot (lstAt_eq e1)
      obtain ⟨a0, ws0, F', q2, q3, _⟩ := own_lst S.sub o0
      subst q2
      refine ⟨.ref a0, q1, tyL q3, RE.of S (GE.bndS h fun d e h1 v I' H' FT' FS' s' S' => ?_)⟩
      cases e2 : lstAt k e with
      | none => rw [e2] at h1; exact h1.elim
      | some l =>
        rw [e2] at h1
        replace h1 : GS G z W I D ((asLst d.fz).bind fun m => if l.length + m.length ≤ sizeLine then some (.ok .nx (e.set k (some (.lst true (l ++ m))))) else none) := h1
        cases e3 : asLst d.fz with
        | none => rw [e3] at h1; exact h1.elim
        | some m =>
          rw [e3] at h1
          replace h1 : GS G z W I D (if l.length + m.length ≤ sizeLine then some (.ok .nx (e.set k (some (.lst true (l ++ m))))) else none) := h1
          split at h1
          · rename_i hz
            obtain ⟨I2, F2, s2, rv, S2⟩ := S'.giveTop
            obtain ⟨m1, q4⟩ := asLst_eq e3
            rw [q4] at rv
            obtain ⟨b, us, eb, hb, rb⟩ := rep_lst rv S2.sub
            subst eb
            obtain ⟨a1, ws, F1, h4, h5, ow, nF, _, h6⟩ := S2.setL (lstAt_eq e2) (nd_nil S2) fr_nil
            rw [q1] at h4
            cases h4
            obtain ⟨FS', S3⟩ := h6 (ws ++ us) (l ++ m) F1 (by simpa using ow.app (Reps.owns rb)) nF (fun b hb => by simpa using hb)
            have e4 := S3.noT
            subst e4
            exact ⟨a0, b, ws, us, rfl, rfl, h5, hb, by rw [ow.len, rb.len]; exact hz, h1 σ I2 _ FS' (s'.trans s2) S3⟩
          · exact h1.elim
theorem vs_put (k : Nat) (ho : PE X o (tVar k)) (hi : PE X b (RP G z pb)) (hv : PE X a (RE G z W f))
    (ha : ∀ v, assign (.Subscript o b apos) X.env v = (do
      let ov ← holding [v] (eval o X.env)
      let iv ← holding [v, ov] (eval b X.env)
      standAt apos
      holding [v, ov, iv] (setItem ov iv v)
      release [v, ov, iv] []) := by intro _; rfl)
    (hs : swapsWithSole [.Subscript o b apos] a pos.line X.env = pure false := by rfl) (hw : swappedStores [.Subscript o b apos] a X.env = pure none := by rfl)
    (h1 : (assignEach [.Subscript o b apos] X.env).map (·.2) = [assign (.Subscript o b apos) X.env] := by rfl) : PS X (.Assign [.Subscript o b apos] a pos) (RS G z W (sPut k pb f)) :=
  psImp (ps_asg hv (pg_sub ho hi set_list ha) hs hw h1) fun D σ H h => by
    obtain ⟨I, env, FS, S, h⟩ := RS.to h
    refine RE.of S (GE.bndS h fun d e h1 v I' H' FT' FS' s' S' => ?_)
    cases e2 : lstAt k e with
    | none => rw [e2] at h1; exact h1.elim
    | some l =>
      rw [e2] at h1
      replace h1 : GS G z W I D (((pb e).bind asInt).bind fun i => (ixSet l i d).map fun l' => .ok .nx (e.set k (some (.lst true l')))) := h1
      cases e3 : (pb e).bind asInt with
      | none => rw [e3] at h1; exact h1.elim
      | some i =>
        rw [e3] at h1
        replace h1 : GS G z W I D ((ixSet l i d).map fun l' => .ok .nx (e.set k (some (.lst true l')))) := h1
        unfold ixSet at h1
        cases e4 : L2.ixN l.length i with
        | none => rw [e4] at h1; exact h1.elim
        | some j =>
          rw [e4] at h1
          obtain ⟨d1, e5, e6⟩ := Option.bind_eq_some_iff.mp e3
          cases asInt_eq e6
          have hj := (ixN_seq e4).2.1
          obtain ⟨a1, ws, q4, q5, q6, FT2, FS2, S2⟩ := S'.putAt (lstAt_eq e2) hj
          have e7 := S2.noT
          subst e7
          refine ⟨.ref a1, q4, I', [v], [d], e, FT', FS', _, S', e5, fun w F ow => ?_⟩
          cases own_int ow
          exact ⟨a1, ws, i, j, rfl, rfl, q5, by rw [q6]; exact e4, h1 σ I' _ FS2 s' S2⟩
end

/-! ### comprehensions -/
def wipeE (e : VEnv) : List Nat → VEnv
  | [] => e
  | v :: vs => (wipeE e vs).set v none
/-- the turns of a comprehension -/
def lcL (t : Tg) (c : M Bool) (el : M D) (vs : List Nat) : List D → List D → M (List D)
  | [], acc => M.ret acc
  | d :: l, acc => fun e => match t d (wipeE e vs) with
    | none => none
    | some e1 => match c e1 with
      | some (.ok false e2) => lcL t c el vs l acc (wipeE e2 vs)
      | some (.ok true e2) => match el e2 with
        | some (.ok y e3) => if acc.length < sizeLine then lcL t c el vs l (acc ++ [y]) (wipeE e3 vs) else none
        | _ => none
      | _ => none
def vLc (it : M (List D)) (t : Tg) (c : M Bool) (el : M D) (vs : List Nat) : M D := it.bnd fun l => (fun e => (lcL t c el vs l []).bnd (fun acc => M.ret (.lst true acc)) (wipeE e vs))
def tYesM : M Bool := M.ret true
section
variable {G : Gx} {z : Zx} {W : WX} {I H : Hp} {ts : List V} {dts : List D} {σ : L2.St} {env : VEnv} {FT FS : List Addr}
theorem Stt.wipe (S : Stt G z I H ts dts σ env FT FS) : ∀ vs : List Nat, ∃ FS', Stt G z I H ts dts σ (wipeE env vs) FT FS'
  | [] => ⟨FS, S⟩
  | v :: vs => by
    obtain ⟨F1, S1⟩ := Stt.wipe S vs
    exact S1.forget v
theorem SlotO.any {p x x' : Option V} {F : List Addr} (h : SlotO G z I H p x none F) (hp : p = none) : SlotO G z I H p x' none F := ⟨fun v e => (by rw [hp] at e; cases e), h.2⟩
theorem OwnS.any : ∀ {ps : List (Option V)} {σ : List (Option V)} {env : VEnv} {F : List Addr} {k : Nat} (x : Option V), OwnS G z I H ps σ env F → ps[k]? = some none → (env[k]? = some none) → OwnS G z I H ps (σ.set k x) env F
  | p :: ps, y :: ys, d :: ds, F, 0, x, ⟨F1, F2, e, h, r⟩, hp, hk => by
    simp at hp hk
    subst hp hk
    exact ⟨F1, F2, e, h.any rfl, r⟩
  | p :: ps, y :: ys, d :: ds, F, k + 1, x, ⟨F1, F2, e, h, r⟩, hp, hk => ⟨F1, F2, e, h, OwnS.any x r (by simpa using hp) (by simpa using hk)⟩
  | [], [], [], _, _, _, _, _, hk => by simp at hk
  | [], [], _ :: _, _, _, _, h, _, _ => h.elim
  | [], _ :: _, [], _, _, _, h, _, _ => h.elim
  | [], _ :: _, _ :: _, _, _, _, h, _, _ => h.elim
  | _ :: _, [], [], _, _, _, h, _, _ => h.elim
  | _ :: _, [], _ :: _, _, _, _, h, _, _ => h.elim
  | _ :: _, _ :: _, [], _, _, _, h, _, _ => h.elim
theorem Stt.any (S : Stt G z I H ts dts σ env FT FS) {k : Nat} (x : Option V) (hp : z.pv[k]? = some none) (hk : env[k]? = some none) : Stt G z I H ts dts (σ.set k x) env FT FS :=
  ⟨S.oT, OwnS.any x S.oS hp hk, S.nd, S.sub, S.i0, S.ifr, S.fS, S.frame, S.dom⟩
theorem wipeE_len (e : VEnv) : ∀ vs : List Nat, (wipeE e vs).length = e.length
  | [] => rfl
  | v :: vs => by unfold wipeE; rw [List.length_set, wipeE_len e vs]
theorem wipeE_at {e : VEnv} {k : Nat} : ∀ {vs : List Nat}, k ∈ vs → k < e.length → (wipeE e vs)[k]? = some none
  | v :: vs, h, hl => by
    unfold wipeE
    by_cases q : v = k
    · subst q
      simp [wipeE_len, hl]
    · rw [List.getElem?_set_ne q]
      exact wipeE_at ((List.mem_cons.mp h).resolve_left fun z => q z.symm) hl
/-- the slots of vs hold anything, where nothing is told of them -/
theorem Stt.outs {us : List Nat} (S : Stt G z I H ts dts σ env FT FS) : ∀ (vs : List Nat) {σ' : L2.St}, Out vs σ σ' → (∀ k ∈ vs, z.pv[k]? = some none) → (∀ k ∈ vs, env[k]? = some none) → Stt G z I H ts dts σ' env FT FS
  | [], σ', o, _, _ => by
    have e : σ' = σ := List.ext_getElem? fun i => o.2 i (by simp)
    rw [e]; exact S
  | v :: vs, σ', o, h1, h2 => by
    have S1 := Stt.outs (us := us) S vs (σ' := σ'.set v (σ[v]?.getD none)) ⟨by rw [List.length_set]; exact o.1, fun i hi => by
      by_cases q : v = i
      · subst q
        have hv : v < σ'.length := by rw [o.1, S.lenS.1]; exact (List.getElem?_eq_some_iff.mp (h1 v List.mem_cons_self)).1
        rw [List.getElem?_set_self hv]
        have hv2 : v < σ.length := by rw [← o.1]; exact hv
        simp [hv2]
      · rw [List.getElem?_set_ne q]
        exact o.2 i (by simp [hi]; exact fun z => q z.symm)⟩ (fun k hk => h1 k (List.mem_cons_of_mem _ hk)) (fun k hk => h2 k (List.mem_cons_of_mem _ hk))
    have S2 := S1.any (σ'[v]?.getD none) (h1 v List.mem_cons_self) (h2 v List.mem_cons_self)
    rw [List.set_set] at S2
    have e : σ'.set v (σ'[v]?.getD none) = σ' := by
      apply List.ext_getElem?
      intro i
      by_cases q : v = i
      · subst q
        cases hv : σ'[v]? with
        | none => rw [List.set_eq_of_length_le (List.getElem?_eq_none_iff.mp hv), hv]
        | some x => rw [List.getElem?_set_self (List.getElem?_eq_some_iff.mp hv).1]; rfl
      · rw [List.getElem?_set_ne q]
    rw [e] at S2
    exact S2
theorem wipe_out' (σ : L2.St) : ∀ vs : List Nat, Out vs σ (L2.wipe σ vs)
  | [] => Out.refl _ _
  | v :: vs => ⟨by unfold L2.wipe; rw [List.length_set]; exact (wipe_out' σ vs).1, fun i hi => by
    simp only [List.mem_cons, not_or] at hi
    unfold L2.wipe
    rw [List.getElem?_set_ne (fun e => hi.1 e.symm)]
    exact (wipe_out' σ vs).2 i hi.2⟩
theorem Out.wipe {vs : List Nat} {σ σ' : L2.St} (o : Out vs σ σ') : L2.wipe σ' vs = L2.wipe σ vs := by
  have h : ∀ (us : List Nat) (i : Nat), (L2.wipe σ' us)[i]? = if i ∈ us ∧ i < σ.length then some none else σ'[i]? := by
    intro us
    induction us with
    | nil => intro i; simp [L2.wipe]
    | cons v us ih =>
      intro i
      unfold L2.wipe
      by_cases q : v = i
      · subst q
        by_cases hv : v < σ.length
        · rw [List.getElem?_set_self (by rw [L2.wipe_length, o.1]; exact hv)]; simp [hv]
        · rw [List.set_eq_of_length_le (by rw [L2.wipe_length, o.1]; omega), ih]
          simp [hv]
      · rw [List.getElem?_set_ne q, ih]
        have : i ≠ v := fun z => q z.symm
        simp [this]
  have h2 : ∀ (us : List Nat) (i : Nat), (L2.wipe σ us)[i]? = if i ∈ us ∧ i < σ.length then some none else σ[i]? := by
    intro us
    induction us with
    | nil => intro i; simp [L2.wipe]
    | cons v us ih =>
      intro i
      unfold L2.wipe
      by_cases q : v = i
      · subst q
        by_cases hv : v < σ.length
        · rw [List.getElem?_set_self (by rw [L2.wipe_length]; exact hv)]; simp [hv]
        · rw [List.set_eq_of_length_le (by rw [L2.wipe_length]; omega), ih]
          simp [hv]
      · rw [List.getElem?_set_ne q, ih]
        have : i ≠ v := fun z => q z.symm
        simp [this]
  apply List.ext_getElem?
  intro i
  rw [h, h2]
  by_cases c : i ∈ vs ∧ i < σ.length
  · rw [if_pos c, if_pos c]
  · rw [if_neg c, if_neg c]
    by_cases q : i ∈ vs
    · have hl : ¬ i < σ.length := fun z => c ⟨q, z⟩
      rw [List.getElem?_eq_none (by rw [o.1]; omega), List.getElem?_eq_none (by omega)]
    · exact o.2 i q
/-- the value on top is appended to the list below it -/
theorem Stt.appTop {v : V} {d : D} {a : Addr} {acc : List D} (S : Stt G z I H (v :: .ref a :: ts) (d :: .lst true acc :: dts) σ env FT FS) : ∃ ws, H a = some (.lst ws) ∧ ws.length = acc.length ∧ ∃ FT', Stt G z I (upd H a (.lst (ws ++ [v]))) (.ref a :: ts) (.lst true (acc ++ [d]) :: dts) σ env FT' FS := by
  have nd := S.nd
  obtain ⟨F1, F2, e, o, f, S1⟩ := S.pop
  obtain ⟨F3, F4, e2, o2, f2, S2⟩ := S1.pop
  subst e2 e
  obtain ⟨a', ws, F', e1, h1, iA, ow, e3⟩ := o2
  cases e1
  subst e3
  have nd' : (F1 ++ (a :: (F' ++ (F4 ++ FS)))).Nodup := by simpa [List.append_assoc] using nd
  have n1 := List.nodup_append.mp nd'
  have n2 := List.nodup_cons.mp n1.2.1
  have n3 := List.nodup_append.mp n2.2
  have aR : a ∉ F4 ++ FS := fun hm => n2.1 (List.mem_append_right _ hm)
  have aF1 : a ∉ F1 := fun hm => n1.2.2 a hm a List.mem_cons_self rfl
  have aF' : a ∉ F' := fun hm => n2.1 (List.mem_append_left _ hm)
  refine ⟨ws, h1, ow.len, ?_⟩
  have S3 : Stt G z I (upd H a (.lst (ws ++ [v]))) ts dts σ env F4 FS := by
    refine S2.go [a] (Same.refl _) (fun b o e => ?_) (fun b hb => ⟨upd_ne fun e => aR (e ▸ hb), ?_⟩) (fun b o e n => by rw [n] at e; cases e) (fun b hb => ?_) (fun b o e hb => ?_) (fun b o e => ?_)
    · rw [upd_ne (fun q => by rw [q, iA] at e; cases e)]
      exact S2.sub b o e
    · rcases List.mem_append.mp hb with q | q
      · exact (S2.oT.dom b q).2.1
      · exact (S2.oS.dom b q).2
    · rw [show b = a by simpa using hb]
      exact .inl (f2 a List.mem_cons_self)
    · rw [upd_ne (fun q => hb (by simp [q]))]; exact e
    · by_cases q : b = a
      · exact ⟨_, by rw [q, upd_same]⟩
      · exact ⟨o, by rw [upd_ne q]; exact e⟩
  refine ⟨(a :: (F' ++ F1)) ++ F4, S3.push (F := a :: (F' ++ F1)) ⟨a, ws ++ [v], F' ++ F1, rfl, upd_same, iA, ?_, rfl⟩ (fun b hb => ?_) ?_⟩
  · refine Owns.cast (H := H) (ow.app ⟨F1, [], by simp, o, rfl⟩) fun b hb => upd_ne fun q => ?_
    rcases List.mem_append.mp hb with w | w
    · exact aF' (q ▸ w)
    · exact aF1 (q ▸ w)
  · rcases List.mem_cons.mp hb with q | q
    · rw [q]; exact f2 a List.mem_cons_self
    · rcases List.mem_append.mp q with w | w
      · exact f2 b (List.mem_cons_of_mem _ w)
      · exact f b w
  · have pm : (F1 ++ (a :: (F' ++ (F4 ++ FS)))).Perm (a :: (F' ++ F1) ++ (F4 ++ FS)) := by
      refine List.perm_middle.trans (List.Perm.cons a ?_)
      rw [← List.append_assoc F1 F' (F4 ++ FS)]
      exact List.Perm.append_right _ List.perm_append_comm
    exact (List.Perm.nodup_iff pm).mp nd'
end
abbrev WF : WX := fun _ _ _ _ => False
section
variable {G : Gx} {z : Zx} {W : WX} {ms : List Bool}
/-- a comprehension's reading -/
theorem lc_ok {us : List Nat} {wi : TI} {it : M (List D)} {t : Tg} {c : M Bool} {el : M D} (hz : ZOk z ms) (hu : ∀ k ∈ us, ms[k]? = some false) (hw : ∀ σ H R, RI G z W it σ H R → wi σ H R) {σ : L2.St} {H : Hp} {Q : VK} (h : RE G z W (vLc it t c el us) σ H Q) : tLc wi (RG G z t us) (RT G z WF c) (RE G z WF el) us σ H Q := by
  obtain ⟨I, ts, dts, env, FT, FS, S, h⟩ := RE.to h
  refine hw σ H _ ⟨I, ts, dts, env, FT, FS, S, ?_⟩
  unfold vLc M.bnd at h
  cases e : it env with
  | none => rw [e] at h; exact h
  | some r =>
    rw [e] at h
    cases r with
    | exc c x e' => exact h
    | ok l e' =>
      intro J I1 H1 FT1 FS1 s1 S1 w p hp
      obtain ⟨FSw, Sw⟩ := S1.wipe us
      obtain ⟨FT2, S2⟩ := Stt.pushL (vs := []) (ds := []) rfl Sw hp
      have pvu : ∀ k ∈ us, z.pv[k]? = some none := fun k hk => hz.2 k (hu k hk)
      have len : ∀ {env : VEnv} {σ : L2.St} {I H : Hp} {ts dts FT FS}, Stt G z I H ts dts σ env FT FS → ∀ k ∈ us, k < env.length := fun S k hk => by
        rw [S.lenS.2, hz.1.1]; exact (List.getElem?_eq_some_iff.mp (hu k hk)).1
      refine ⟨fun i m H => m = l.length - i ∧ i ≤ l.length ∧ ∃ I2 acc env FT FS, Same I1 I2 ∧ Stt G z I2 H (.ref p :: ts) (.lst true acc :: dts) σ env FT FS ∧ (∀ k ∈ us, env[k]? = some none) ∧ GE G z W I ts dts σ Q ((lcL t c el us (l.drop i) acc).bnd (fun acc => M.ret (.lst true acc)) env), ⟨l.length, by simp, by simp, I1, [], wipeE e' us, FT2, FSw, Same.refl _, S2, fun k hk => wipeE_at hk (len S1 k hk), by rw [List.drop_zero]; exact h⟩, ?_⟩
      rintro i m H ⟨rfl, hi, I2, acc, env2, FT3, FS3, s2, S3, wp, h3⟩
      obtain ⟨w1, w2⟩ := w i I2 H s2 S3.sub
      cases e1 : l[i]? with
      | none =>
        refine .inl ⟨w2 e1, ?_⟩
        rw [List.drop_eq_nil_of_le (List.getElem?_eq_none_iff.mp e1)] at h3
        exact h3 _ I2 H FT3 FS3 (s1.trans s2) S3
      | some d =>
        have hlt := (List.getElem?_eq_some_iff.mp e1).1
        obtain ⟨go, yl⟩ := w1 d e1
        have ed : l.drop i = d :: l.drop (i + 1) := by
          rw [List.drop_eq_getElem_cons hlt]
          congr 1
          exact (List.getElem?_eq_some_iff.mp e1).2
        rw [ed] at h3
        refine .inr ⟨go, fun H' => ∃ I2 acc env FT FS, Same I1 I2 ∧ Stt G z I2 H' (.ref p :: ts) (.lst true acc :: dts) σ env FT FS ∧ (∀ k ∈ us, env[k]? = some none) ∧ GE G z W I ts dts σ Q ((lcL t c el us (l.drop (i + 1)) acc).bnd (fun acc => M.ret (.lst true acc)) env), fun H' q => ⟨l.length - (i + 1), by omega, rfl, hlt, q⟩, fun x H3 y => ?_⟩
        obtain ⟨I3, s3, rx, tr⟩ := yl x H3 y
        have S4 := tr _ _ _ _ _ _ S3
        obtain ⟨FSa, Sa⟩ := S4.wipe us
        have S5 : Stt G z I3 H3 (.ref p :: ts) (.lst true acc :: dts) (L2.wipe σ us) (wipeE env2 us) FT3 FSa := Sa.outs (us := us) us (wipe_out' σ us) pvu (fun k hk => wipeE_at hk (len S4 k hk))
        refine ⟨I3, .ref p :: ts, .lst true acc :: dts, wipeE env2 us, FT3, FSa, d, S5.pushR rx, ?_⟩
        unfold M.bnd lcL at h3
        cases e2 : t d (wipeE env2 us) with
        | none => simp only [e2] at h3; exact h3
        | some e3 =>
          simp only [e2] at h3
          intro σ4 I4 H4 FT4 FS4 o4 s4 S6
          refine ⟨by rw [o4.wipe]; exact (wipe_out' σ us).wipe, ?_⟩
          have back : ∀ {I5 H5 : Hp} {acc' : List D} {env5 : VEnv} {FT5 FS5}, Same I4 I5 → Stt G z I5 H5 (.ref p :: ts) (.lst true acc' :: dts) σ4 env5 FT5 FS5 → GE G z W I ts dts σ Q ((lcL t c el us (l.drop (i + 1)) acc').bnd (fun acc => M.ret (.lst true acc)) (wipeE env5 us)) →
              ∃ I2 acc env FT FS, Same I1 I2 ∧ Stt G z I2 H5 (.ref p :: ts) (.lst true acc :: dts) σ env FT FS ∧ (∀ k ∈ us, env[k]? = some none) ∧ GE G z W I ts dts σ Q ((lcL t c el us (l.drop (i + 1)) acc).bnd (fun acc => M.ret (.lst true acc)) env) := fun {I5 H5 acc' env5 FT5 FS5} s5 S hh => by
            obtain ⟨FSb, Sb⟩ := S.wipe us
            have wb : ∀ k ∈ us, (wipeE env5 us)[k]? = some none := fun k hk => wipeE_at hk (len S k hk)
            refine ⟨I5, acc', _, FT5, FSb, ((s2.trans s3).trans s4).trans s5, Sb.outs (us := us) us ?_ pvu wb, wb, hh⟩
            refine ⟨?_, fun k hk => ?_⟩
            · rw [o4.1, (wipe_out' σ us).1]
            · rw [o4.2 k hk, (wipe_out' σ us).2 k hk]
          refine RT.of S6 ?_
          cases e4 : c e3 with
          | none => simp only [e4] at h3; exact h3
          | some r =>
            simp only [e4] at h3
            cases r with
            | exc c' x' e' => exact (show False from h3).elim
            | ok b e5 =>
              intro I5 H5 FT5 FS5 s5 S7
              cases b with
              | false =>
                rw [if_neg Bool.false_ne_true]
                exact back s5 S7 h3
              | true =>
                rw [if_pos rfl]
                refine RE.of S7 ?_
                cases e6 : el e5 with
                | none => simp only [e6] at h3; exact h3
                | some r =>
                  simp only [e6] at h3
                  cases r with
                  | exc c' x' e' => exact (show False from h3).elim
                  | ok y e7 =>
                    intro v I6 H6 FT6 FS6 s6 S8
                    obtain ⟨ws, q1, q2, FT7, S9⟩ := S8.appTop
                    by_cases hl : acc.length < sizeLine
                    · simp only [if_pos hl] at h3
                      exact ⟨ws, q1, by rw [q2]; exact hl, back (s5.trans s6) S9 h3⟩
                    · simp only [if_neg hl] at h3
                      exact (show False from h3).elim
variable {X : Cx} {us : List Nat} {it : M (List D)} {t : Tg} {c : M Bool} {el : M D} {pos : Pos}
theorem vts_nil : PTs X [] (RT G z W tYesM) := ⟨fun pins s σ H Q I h => pts_nil.run pins s σ H Q I (by
  obtain ⟨I', ts, dts, env, FT, FS, S, h⟩ := RT.to h
  exact h I' H FT FS (Same.refl _) S)⟩
theorem vts_one {e : Expr} (h : PT X e (RT G z W c)) : PTs X [e] (RT G z W c) := pts_one h
theorem ve_lc {elt tg iter : Expr} {ifs : List Expr} {scope : Scope} (own : List (Str × Nat)) (hz : ZOk z ms) (hc : X.calm = true) (hN : X.N.Nodup) (hi : PI X tg iter (RI G z W it)) (ok : BlkOk X.N X.env.scope scope own)
    (hg : ∀ (s : Shared) (H : Hp) (C : Addr) (cl : List (Str × Addr)) (fp : List Addr), PG (X.blk s H scope (compEnvC scope cl C X.env) fp) tg (RG G z t (own.map (·.2)))) (ht : ∀ (s : Shared) (H : Hp) (C : Addr) (cl : List (Str × Addr)) (fp : List Addr), PTs (X.blk s H scope (compEnvC scope cl C X.env) fp) ifs (RT G z WF c))
    (he : ∀ (s : Shared) (H : Hp) (C : Addr) (cl : List (Str × Addr)) (fp : List Addr), PE (X.blk s H scope (compEnvC scope cl C X.env) fp) elt (RE G z WF el)) (hu : ∀ k ∈ own.map (·.2), ms[k]? = some false := by decide) (hs : ∀ x, foldedSetIterable iter X.env x = pure x := by intro _; rfl) :
    PE X (.ListComp elt [⟨tg, iter, ifs, 0⟩] scope pos) (RE G z W (vLc it t c el (own.map (·.2)))) := peImp (pe_lc hc hN hi ok hg ht he hs) fun _ _ _ h => lc_ok hz hu (fun _ _ _ h => h) h
/-- y = [..] -/
theorem vs_setLc (k : Nat) {y : Str} {py : Pos} {elt tg iter : Expr} {ifs : List Expr} {scope : Scope} {spos : Pos} (own : List (Str × Nat)) (hz : ZOk z ms) (hc : X.calm = true) (hN : X.N.Nodup) (hi : PI X tg iter (RI G z W it)) (ok : BlkOk X.N X.env.scope scope own)
    (hg : ∀ (s : Shared) (H : Hp) (C : Addr) (cl : List (Str × Addr)) (fp : List Addr), PG (X.blk s H scope (compEnvC scope cl C X.env) fp) tg (RG G z t (own.map (·.2)))) (ht : ∀ (s : Shared) (H : Hp) (C : Addr) (cl : List (Str × Addr)) (fp : List Addr), PTs (X.blk s H scope (compEnvC scope cl C X.env) fp) ifs (RT G z WF c))
    (he : ∀ (s : Shared) (H : Hp) (C : Addr) (cl : List (Str × Addr)) (fp : List Addr), PE (X.blk s H scope (compEnvC scope cl C X.env) fp) elt (RE G z WF el)) (hsw : swapsWith (.ListComp elt [⟨tg, iter, ifs, 0⟩] scope pos) (some (.Name y py)) spos.line X.env = pure true) (hu : ∀ k ∈ own.map (·.2), ms[k]? = some false := by decide)
    (hk : ms[k]? = some false := by rfl) (hy : X.N[k]? = some y := by rfl) (hyl : X.env.scope.names.lookup y = some .local := by rfl) (hs : ∀ x, foldedSetIterable iter X.env x = pure x := by intro _; rfl) :
    PS X (.Assign [.Name y py] (.ListComp elt [⟨tg, iter, ifs, 0⟩] scope pos) spos) (RS G z W (sSet k (vLc it t c el (own.map (·.2))))) :=
  psImp (ps_setLc hc hN hy hyl hsw hi ok hg ht he hs) fun D σ H h => by
    obtain ⟨I, env, FS, S, h⟩ := RS.to h
    exact lc_ok hz hu (fun _ _ _ h => h) (RE.of S (GE.bndS h fun d e h1 v I' H' FT' FS' s' S' => putS_ok hz hk s' S' h1))
end
end
section
set_option Elab.async false
set_option linter.all false
set_option maxRecDepth 100000
set_option maxHeartbeats 1000000
/-! ### defs as functions of data -/
inductive FR where
  | ret (d : D) (outs : List D)
  | exc (c : Str) (x : Option (Str × D)) (outs : List D)
abbrev FN := List D → Option FR
def pvOf : List Bool → List V → List (Option V)
  | m :: ms, v :: vs => (if m then some v else none) :: pvOf ms vs
  | _, _ => []
def outE : List Bool → List D → Option VEnv
  | [], [] => some []
  | true :: ms, d :: ds => (outE ms ds).map (some d :: ·)
  | false :: ms, ds => (outE ms ds).map (none :: ·)
  | _, _ => none
def outsOf : List Bool → VEnv → Option (List D)
  | [], _ => some []
  | true :: ms, some d :: e => (outsOf ms e).map (d :: ·)
  | false :: ms, _ :: e => outsOf ms e
  | _, _ => none
/-- a def's promise: it does what F says -/
def spOf (G : Gx) (F : FN) (pm : List Bool) : Sp := fun vs H Q E => ∃ I ds FL, ds.length = pm.length ∧ Stt G ⟨H, I, FL, pvOf pm vs⟩ I H [] [] (vs.map some) (ds.map some) [] FL ∧ match F ds with
  | none => False
  | some (.ret d outs) => ∃ oe, outE pm outs = some oe ∧ ∀ v I' H' FT' FS', Same I I' → Stt G ⟨H, I, FL, pvOf pm vs⟩ I' H' [v] [d] (vs.map some) oe FT' FS' → Q v H'
  | some (.exc c x outs) => ∃ oe, outE pm outs = some oe ∧ ∀ dx I' H' FS', Same I I' → Stt G ⟨H, I, FL, pvOf pm vs⟩ I' H' [] [] (vs.map some) oe [] FS' → XRep x dx H' → E (G.ev c) dx H'
/-- what a body does from the arguments: n slots -/
def runD (n : Nat) (pm : List Bool) (f : M Fl) : FN := fun ds => if ds.length = pm.length then
    match f (ds.map some ++ List.replicate (n - ds.length) none) with
    | some (.ok .nx e) => (outsOf pm e).map (.ret .non)
    | some (.ok (.rt d) e) => (outsOf pm e).map (.ret d)
    | some (.exc c x e) => (outsOf pm e).map (.exc c x)
    | _ => none
  else none

section
variable {G : Gx} {z z' : Zx} {W : WX} {I I' H H' : Hp} {ts : List V} {dts : List D} {σ : L2.St} {env : VEnv} {FT FS : List Addr}
theorem SlotO.zc (e : z.H0 = z'.H0) {p x : Option V} {d : Option D} {F : List Addr} (h : SlotO G z I H p x d F) : SlotO G z' I H p x d F := by
  refine ⟨h.1, ?_⟩
  have h2 := h.2
  cases d with
  | none => exact h2
  | some d =>
    obtain ⟨v, e1, o, f⟩ := h2
    exact ⟨v, e1, o, fun hp b hb => by rw [← e]; exact f hp b hb⟩
theorem OwnS.zc : ∀ {ps : List (Option V)} {σ : List (Option V)} {env : VEnv} {F : List Addr}, OwnS G z I H ps σ env F → z.H0 = z'.H0 → OwnS G z' I H ps σ env F
  | [], [], [], _, h, _ => h
  | p :: ps, v :: vs, d :: ds, F, ⟨F1, F2, q, h, r⟩, e => ⟨F1, F2, q, h.zc e, OwnS.zc r e⟩
  | [], [], _ :: _, _, h, _ => h.elim
  | [], _ :: _, [], _, h, _ => h.elim
  | [], _ :: _, _ :: _, _, h, _ => h.elim
  | _ :: _, [], [], _, h, _ => h.elim
  | _ :: _, [], _ :: _, _, h, _ => h.elim
  | _ :: _, _ :: _, [], _, h, _ => h.elim
theorem OwnT.zc : ∀ {ts : List V} {dts : List D} {F : List Addr}, OwnT G z I H ts dts F → z.H0 = z'.H0 → OwnT G z' I H ts dts F
  | [], [], _, h, _ => h
  | v :: vs, d :: ds, F, ⟨F1, F2, q, h, f, r⟩, e => ⟨F1, F2, q, h, fun b hb => by rw [← e]; exact f b hb, OwnT.zc r e⟩
  | [], _ :: _, _, h, _ => h.elim
  | _ :: _, [], _, h, _ => h.elim
/-- slots of which nothing is told are added -/
theorem OwnS.ext (m : Nat) : ∀ {ps : List (Option V)} {σ : List (Option V)} {env : VEnv} {F : List Addr}, OwnS G z I H ps σ env F → OwnS G z I H (ps ++ List.replicate m none) (σ ++ List.replicate m none) (env ++ List.replicate m none) F
  | [], [], [], F, h => by
    have h : F = [] := h
    subst h
    show OwnS G z I H (List.replicate m none) (List.replicate m none) (List.replicate m none) []
    induction m with
    | zero => rfl
    | succ m ih => exact ⟨[], [], rfl, ⟨fun v e => (nomatch e), rfl⟩, ih⟩
  | p :: ps, v :: vs, d :: ds, F, ⟨F1, F2, q, h, r⟩ => ⟨F1, F2, q, h, OwnS.ext m r⟩
  | [], [], _ :: _, _, h => h.elim
  | [], _ :: _, [], _, h => h.elim
  | [], _ :: _, _ :: _, _, h => h.elim
  | _ :: _, [], [], _, h => h.elim
  | _ :: _, [], _ :: _, _, h => h.elim
  | _ :: _, _ :: _, [], _, h => h.elim
/-- a def's end: the lent slots alone -/
theorem OwnS.exit {rest : List (Option V)} : ∀ {pm : List Bool} {vs : List V} {σ : List (Option V)} {env : VEnv} {F : List Addr} {outs : List D}, pm.length = vs.length → OwnS G z I H (pvOf pm vs ++ rest) σ env F → outsOf pm env = some outs →
    ∃ oe F', outE pm outs = some oe ∧ OwnS G z I H (pvOf pm vs) (vs.map some) oe F' ∧ F'.Sublist F
  | [], [], σ, env, F, outs, _, h, e => by
    cases e
    exact ⟨[], [], rfl, rfl, List.nil_sublist _⟩
  | true :: pm, v :: vs, x :: σ, d :: env, F, outs, n, ⟨F1, F2, q, h, r⟩, e => by
    cases d with
    | none => cases e
    | some d =>
      obtain ⟨os, e1, e2⟩ := Option.map_eq_some_iff.mp (show (outsOf pm env).map (d :: ·) = some outs from e)
      obtain ⟨oe, F', h1, h2, h3⟩ := OwnS.exit (pm := pm) (vs := vs) (by simpa using n) r e1
      subst e2 q
      refine ⟨some d :: oe, F1 ++ F', by simp [outE, h1], ⟨F1, F', rfl, ?_, h2⟩, List.Sublist.append (List.Sublist.refl _) h3⟩
      have ex : x = some v := h.1 v rfl
      subst ex
      exact h
  | false :: pm, v :: vs, x :: σ, d :: env, F, outs, n, ⟨F1, F2, q, h, r⟩, e => by
    obtain ⟨oe, F', h1, h2, h3⟩ := OwnS.exit (pm := pm) (vs := vs) (outs := outs) (by simpa using n) r e
    subst q
    exact ⟨none :: oe, F', by simp [outE, h1], ⟨[], F', rfl, ⟨fun u hu => (nomatch hu), rfl⟩, h2⟩, h3.trans (List.sublist_append_right _ _)⟩
  | true :: _, _ :: _, [], _, _, _, _, h, _ => h.elim
  | false :: _, _ :: _, [], _, _, _, _, h, _ => h.elim
  | true :: _, _ :: _, _ :: _, [], _, _, _, h, _ => h.elim
  | false :: _, _ :: _, _ :: _, [], _, _, _, h, _ => h.elim
  | [], _ :: _, _, _, _, _, n, _, _ => by simp at n
  | _ :: _, [], _, _, _, _, n, _, _ => by simp at n
theorem pvOf_len : ∀ {pm : List Bool} {vs : List V}, pm.length = vs.length → (pvOf pm vs).length = pm.length
  | [], [], _ => rfl
  | m :: pm, v :: vs, h => by simp [pvOf, pvOf_len (pm := pm) (vs := vs) (by simpa using h)]
  | [], _ :: _, h => by simp at h
  | _ :: _, [], h => by simp at h
theorem pvOf_getT : ∀ {pm : List Bool} {vs : List V} {k : Nat}, pm.length = vs.length → pm[k]? = some true → ∃ v, (pvOf pm vs)[k]? = some (some v)
  | m :: pm, v :: vs, 0, _, e => by
    simp at e; subst e; exact ⟨v, rfl⟩
  | m :: pm, v :: vs, k + 1, h, e => by
    show ∃ u, (pvOf pm vs)[k]? = some (some u)
    exact pvOf_getT (by simpa using h) (by simpa using e)
  | [], [], _, _, e => by simp at e
  | [], _ :: _, _, h, _ => by simp at h
  | _ :: _, [], _, h, _ => by simp at h
theorem pvOf_get : ∀ {pm : List Bool} {vs : List V} {k : Nat}, pm.length = vs.length → pm[k]? = some false → (pvOf pm vs)[k]? = some none
  | m :: pm, v :: vs, 0, _, e => by
    simp at e; subst e; rfl
  | m :: pm, v :: vs, k + 1, h, e => by
    show (pvOf pm vs)[k]? = some none
    exact pvOf_get (by simpa using h) (by simpa using e)
  | [], [], _, _, e => by simp at e
  | [], _ :: _, _, h, _ => by simp at h
  | _ :: _, [], _, h, _ => by simp at h
theorem pvOf_min : ∀ {pm : List Bool} {vs : List V}, (pvOf pm vs).length = vs.length → (pvOf pm vs).length = pm.length → pm.length = vs.length := fun h1 h2 => h2.symm.trans h1
end

section
variable {P : Program} {w : World} {G : Gx} {mg : Str → Option Value} {base : Heap}
/-- THE RULE for a def -/
theorem vfn {x qual : Str} {st : Stmt} {f : Addr} {fd : FuncData} {N ps : List Str} {k : Nat} {pm ms : List Bool} {body : M Fl} (F : Fun G.K x qual st f fd) (S : FnScope N ps (defScope st)) (hp : pm.length = ps.length) (hn : ps.length ≤ N.length) (hms : ms = pm ++ List.replicate (N.length - pm.length) false)
    (hbody : ∀ (cdv : Value) (A : Around) (outer : List Env) (s : Shared) (H : Hp) (E : XK) (z : Zx), Room k (A.deeper (envOfC qual (defScope st) s.heap.objs.size f cdv)) → ZOk z ms →
      PSs (cxOf (L2.CX P w) P w G.K mg base N qual (defScope st) f cdv A outer s H E) (defBody st) (RS G z (fun cls d _ H => E cls d H) body)) : FnOk P w G.K mg base (L2.CX P w) (k + 1) f fd ps (spOf G (runD N.length pm body) pm) := by
  have len : ∀ vs H Q E, spOf G (runD N.length pm body) pm vs H Q E → vs.length = ps.length := by
    intro vs H Q E h
    obtain ⟨I, ds, FL, n, S0, _⟩ := h
    have h1 := S0.lenS
    simp only [List.length_map] at h1
    rw [← hp, ← n, h1.1, h1.2]
  refine F.okX S len (fun cdv A outer s H vs Q E hr h => ?_)
  have hl := len vs H Q E h
  obtain ⟨I, ds, FL, n, S0, h⟩ := h
  have hpv : pm.length = vs.length := by rw [hl, hp]
  have hz : ZOk ⟨H, I, FL, pvOf pm vs ++ List.replicate (N.length - pm.length) none⟩ ms := by
    subst hms
    refine ⟨⟨by simp [pvOf_len hpv], fun k e => ?_⟩, fun k e => ?_⟩
    · by_cases hk : k < pm.length
      · rw [List.getElem?_append_left (by rw [pvOf_len hpv]; exact hk)]
        exact pvOf_getT hpv (by rw [List.getElem?_append_left hk] at e; exact e)
      · rw [List.getElem?_append_right (by omega), List.getElem?_replicate] at e
        split at e <;> cases e
    by_cases hk : k < pm.length
    · rw [List.getElem?_append_left (by rw [pvOf_len hpv]; exact hk)]
      exact pvOf_get hpv (by rw [List.getElem?_append_left hk] at e; exact e)
    · rw [List.getElem?_append_right (by rw [pvOf_len hpv]; omega), pvOf_len hpv, List.getElem?_replicate]
      rw [List.getElem?_append_right (by omega), List.getElem?_replicate] at e
      split at e
      · rename_i c; rw [if_pos c]
      · cases e
  refine ⟨_, hbody cdv A outer s H E ⟨H, I, FL, pvOf pm vs ++ List.replicate (N.length - pm.length) none⟩ hr hz, ?_⟩
  have hstart : L2.start N vs = vs.map some ++ List.replicate (N.length - pm.length) none := by
    unfold L2.start
    rw [hpv]
  have S1 : Stt G ⟨H, I, FL, pvOf pm vs ++ List.replicate (N.length - pm.length) none⟩ I H [] [] (L2.start N vs) (ds.map some ++ List.replicate (N.length - ds.length) none) [] FL := by
    rw [hstart, n]
    exact ⟨rfl, (S0.oS.ext (N.length - pm.length)).zc rfl, S0.nd, S0.sub, S0.i0, S0.ifr, S0.fS, S0.frame, S0.dom⟩
  have back : ∀ {I' H' : Hp} {ts : List V} {dts : List D} {σ' : L2.St} {e : VEnv} {FT' FS' : List Addr} {outs : List D}, Stt G ⟨H, I, FL, pvOf pm vs ++ List.replicate (N.length - pm.length) none⟩ I' H' ts dts σ' e FT' FS' → outsOf pm e = some outs →
      ∃ oe FS2, outE pm outs = some oe ∧ Stt G ⟨H, I, FL, pvOf pm vs⟩ I' H' ts dts (vs.map some) oe FT' FS2 := fun {I' H' ts dts σ' e FT' FS' outs} S' eo => by
    obtain ⟨oe, F2, h1, h2, h3⟩ := OwnS.exit hpv S'.oS eo
    exact ⟨oe, F2, h1, S'.oT.zc rfl, h2.zc rfl, S'.nd.sublist (List.Sublist.append (List.Sublist.refl _) h3), S'.sub, S'.i0, S'.ifr, fun b hb => S'.fS b (h3.subset hb), S'.frame, S'.dom⟩
  refine RS.of S1 ?_
  unfold runD at h
  rw [if_pos n] at h
  cases e : body (ds.map some ++ List.replicate (N.length - ds.length) none) with
  | none => rw [e] at h; exact h
  | some r =>
    rw [e] at h
    cases r with
    | exc c xx e1 =>
      dsimp only at h
      cases eo : outsOf pm e1 with
      | none => rw [eo] at h; exact h.elim
      | some outs =>
        rw [eo] at h
        obtain ⟨oe, h1, h2⟩ := h
        intro σ' dx I' H' FS' s' S' xr
        obtain ⟨oe2, FS2, h3, S2⟩ := back S' eo
        rw [h1] at h3
        cases h3
        exact h2 dx I' H' FS2 s' S2 xr
    | ok fl e1 =>
      cases fl with
      | bk => exact h.elim
      | ct => exact h.elim
      | nx =>
        cases eo : outsOf pm e1 with
        | none => simp only [eo] at h; exact h.elim
        | some outs =>
          simp only [eo] at h
          obtain ⟨oe, h1, h2⟩ := h
          intro σ' I' H' FS' s' S'
          obtain ⟨oe2, FS2, h3, S2⟩ := back S' eo
          rw [h1] at h3
          cases h3
          exact h2 .non I' H' [] FS2 s' (S2.pushR (v := .non) rfl)
      | rt d =>
        cases eo : outsOf pm e1 with
        | none => simp only [eo] at h; exact h.elim
        | some outs =>
          simp only [eo] at h
          obtain ⟨oe, h1, h2⟩ := h
          intro v σ' I' H' FT' FS' s' S'
          obtain ⟨oe2, FS2, h3, S2⟩ := back S' eo
          rw [h1] at h3
          cases h3
          exact h2 v I' H' FT' FS2 s' S2
end

/-! ### calls -/
/-- an argument: a value, or a slot that is lent -/
abbrev Ag := Sum (M D) Nat
def agM : List Ag → M (List D)
  | [] => M.ret []
  | .inl f :: r => aCons f (agM r)
  | .inr k :: r => fun e => match e[k]? with
    | some (some _) => agM r e
    | _ => none
def agV (σ : L2.St) : List Ag → List V → List V
  | [], _ => []
  | .inl _ :: r, v :: vs => v :: agV σ r vs
  | .inl _ :: r, [] => .non :: agV σ r []
  | .inr k :: r, vs => ((σ[k]?).join.getD .non) :: agV σ r vs
def agD (e : VEnv) : List Ag → List D → Option (List D)
  | [], [] => some []
  | .inl _ :: r, d :: ds => (agD e r ds).map (d.fz :: ·)
  | .inr k :: r, ds => (e[k]?).join.bind fun d => (agD e r ds).map (d :: ·)
  | _, _ => none
def agL : List Ag → List Nat
  | [] => []
  | .inl _ :: r => agL r
  | .inr k :: r => k :: agL r
def agP : List Ag → List Bool
  | [] => []
  | .inl _ :: r => false :: agP r
  | .inr _ :: r => true :: agP r
def agOut (e : VEnv) : List Nat → List D → VEnv
  | k :: ks, d :: ds => agOut (e.set k (some d)) ks ds
  | _, _ => e
/-- the call itself, behind the arguments -/
def callK (F : FN) (ags : List Ag) (e : VEnv) (ds : List D) : Option (Res D) := match (agD e ags ds).bind F with
  | none => none
  | some (.ret d outs) => if outs.length = (agL ags).length then some (.ok d (agOut e (agL ags) outs)) else none
  | some (.exc c x outs) => if outs.length = (agL ags).length then some (.exc c x (agOut e (agL ags) outs)) else none
def vCall (F : FN) (ags : List Ag) : M D := (agM ags).bnd fun ds e => callK F ags e ds
section
variable {G : Gx} {z : Zx} {W : WX} {I I' H H' : Hp} {ts : List V} {dts : List D} {σ : L2.St} {env : VEnv} {FT FS : List Addr}
def RAg (G : Gx) (z : Zx) (W : WX) (ags : List Ag) : TA := fun σ H Q => ∃ I ts dts env FT FS, Stt G z I H ts dts σ env FT FS ∧ match agM ags env with
  | none => False
  | some (.ok ds env') => ∀ vs I' H' FT' FS', Same I I' → Stt G z I' H' (vs ++ ts) (ds ++ dts) σ env' FT' FS' → vs.length = ds.length → Q (agV σ ags vs) H'
  | some (.exc c x env') => XP G z W I σ c x env'
theorem Stt.noTemps (S : Stt G z I H ts dts σ env FT FS) : Stt G z I H [] [] σ env [] FS :=
  ⟨rfl, S.oS, (List.nodup_append.mp S.nd).2.1, S.sub, S.i0, S.ifr, S.fS, S.frame, S.dom⟩
/-- behind a call that was lent slot k's object (or nothing: F0 = []) -/
structure After (G : Gx) (I I' H H' : Hp) (F0 : List Addr) : Prop where
  s : Same I I'
  sub : Same I' H'
  ifr : ∀ b o, I' b = some o → I b = none → H b = none ∨ b ∈ F0
  frame : ∀ b o, H b = some o → b ∉ F0 → H' b = some o
  dom : ∀ b o, H b = some o → ∃ o', H' b = some o'
theorem Stt.after (S : Stt G z I H ts dts σ env FT FS) {F0 : List Addr} (A : After G I I' H H' F0) (h0 : ∀ b ∈ F0, b ∉ FT ++ FS) (hL : ∀ b ∈ F0, z.H0 b = none ∨ b ∈ z.L) : Stt G z I' H' ts dts σ env FT FS := by
  have there : ∀ b ∈ FT ++ FS, ∃ o, H b = some o ∧ I b = none := fun b hb => by
    rcases List.mem_append.mp hb with q | q
    · obtain ⟨⟨o, e⟩, i, _⟩ := S.oT.dom b q; exact ⟨o, e, i⟩
    · obtain ⟨⟨o, e⟩, i⟩ := S.oS.dom b q; exact ⟨o, e, i⟩
  refine S.go F0 A.s A.sub (fun b hb => ?_) (fun b o e n => ?_) hL (fun b o e n => A.frame b o e n) A.dom
  · obtain ⟨o, e, i⟩ := there b hb
    refine ⟨(A.frame b o e fun h => h0 b h hb).trans e.symm, ?_⟩
    cases q : I' b with
    | none => rfl
    | some o' =>
      rcases A.ifr b o' q i with w | w
      · rw [e] at w; cases w
      · exact (h0 b w hb).elim
  · rcases A.ifr b o e n with h1 | h1
    · cases q : z.H0 b with
      | none => exact .inl rfl
      | some o' =>
        obtain ⟨o2, e2⟩ := S.dom b o' q
        rw [h1] at e2; cases e2
    · exact hL b h1
theorem fresh_of (S : Stt G z I H ts dts σ env FT FS) {b : Addr} (h : H b = none) : z.H0 b = none ∧ b ∉ FT ++ FS := ⟨(S.new h).1, (S.new h).2.2⟩
theorem Stt.ret0 (S : Stt G z I H ts dts σ env FT FS) (A : After G I I' H H' []) {v : V} {d : D} {Fv : List Addr} (o : Own G I' H' v d Fv) (fv : ∀ b ∈ Fv, H b = none) (nd : Fv.Nodup) : Stt G z I' H' (v :: ts) (d :: dts) σ env (Fv ++ FT) FS := by
  refine (S.after A (fun b hb => nomatch hb) fun b hb => nomatch hb).push o (fun b hb => (fresh_of S (fv b hb)).1) ?_
  refine List.nodup_append.mpr ⟨nd, S.nd, fun b hb c hc e => ?_⟩
  subst e
  exact (fresh_of S (fv b hb)).2 hc
/-- slot k lent: what the callee gets, and the way back -/
theorem Stt.lend (S : Stt G z I H ts dts σ env FT FS) {k : Nat} {d0 : D} (hk : env[k]? = some (some d0)) : ∃ v0 F0, σ[k]? = some (some v0) ∧ Own G I H v0 d0 F0 ∧ F0.Nodup ∧
    ∀ (I' H' : Hp) (d1 : D) (F1 Fv : List Addr), After G I I' H H' F0 → Own G I' H' v0 d1 F1 → (∀ b ∈ F1, H b = none ∨ b ∈ F0) → (∀ b ∈ Fv, H b = none) → (Fv ++ F1).Nodup →
      ∃ FS', Stt G z I' H' ts dts σ (env.set k (some d1)) FT FS' ∧ (∀ b ∈ Fv, z.H0 b = none) ∧ (Fv ++ (FT ++ FS')).Nodup := by
  obtain ⟨v, p, Fk, Fr, a1, a2, a3, a4, a5, a6, a7, a8, S1⟩ := S.hole hk
  refine ⟨v, Fk, a2, a4, (List.nodup_append.mp a7).1, fun I' H' d1 F1 Fv A o1 f1 fv nd => ?_⟩
  have S2 := S1.after A (nodup_disj a7) a8
  have hk2 : (env.set k none)[k]? = some none := by
    have : k < env.length := (List.getElem?_eq_some_iff.mp hk).1
    simp [this]
  have dis : ∀ b, (H b = none ∨ b ∈ Fk) → b ∉ FT ++ Fr := fun b h => h.elim (fun q => (fresh_of S1 q).2) (nodup_disj a7 b)
  have n2 := List.nodup_append.mp nd
  have nall : ((Fv ++ F1) ++ (FT ++ Fr)).Nodup := List.nodup_append.mpr ⟨nd, (List.nodup_append.mp a7).2.1, fun b hb c hc e => by
    subst e
    rcases List.mem_append.mp hb with q | q
    · exact dis b (.inl (fv b q)) hc
    · exact dis b (f1 b q) hc⟩
  have nall2 : (F1 ++ (FT ++ Fr)).Nodup := by
    rw [List.append_assoc] at nall
    exact (List.nodup_append.mp nall).2.1
  have frk : ∀ b, (H b = none ∨ b ∈ Fk) → z.H0 b = none ∨ b ∈ z.L := fun b h => h.elim (fun q => .inl (fresh_of S1 q).1) (a8 b)
  have oF := OwnS.fill (k := k) (p := p) (x := some v) (d := some d1) (Fk := F1) S2.oS hk2 a1 ⟨fun u hu => by rw [a3 u hu], v, rfl, o1, fun hp b hb => (f1 b hb).elim (fun q => (fresh_of S1 q).1) (a5 hp b)⟩
  obtain ⟨FS', pm, oS⟩ := oF
  rw [List.set_set, set_same_of a2] at oS
  have pmT : (FT ++ FS').Perm (F1 ++ (FT ++ Fr)) := by
    refine (List.Perm.append_left FT pm).trans ?_
    rw [← List.append_assoc, ← List.append_assoc]
    exact List.Perm.append_right _ List.perm_append_comm
  refine ⟨FS', ⟨S2.oT, oS, (List.Perm.nodup_iff pmT).mpr nall2, S2.sub, S2.i0, S2.ifr, fun b hb => ?_, S2.frame, S2.dom⟩, fun b hb => (fresh_of S1 (fv b hb)).1, ?_⟩
  · rcases List.mem_append.mp (pm.mem_iff.mp hb) with q | q
    · exact frk b (f1 b q)
    · exact S2.fS b q
  · rw [List.append_assoc] at nall
    exact (List.Perm.nodup_iff (List.Perm.append_left Fv pmT)).mpr nall
/-- the arguments as the callee's slots: none lent -/
theorem entry0 : ∀ {ags : List Ag} {vs : List V} {ds args : List D}, agL ags = [] → vs.length = ds.length → Reps G I vs (D.fzs ds) → agD env ags ds = some args → OwnS G z I H (pvOf (agP ags) (agV σ ags vs)) ((agV σ ags vs).map some) (args.map some) [] ∧ args.length = (agP ags).length ∧ agP ags = List.replicate ags.length false
  | [], [], [], args, _, _, _, e => by cases e; exact ⟨rfl, rfl, rfl⟩
  | .inl f :: r, v :: vs, d :: ds, args, hl, n, rp, e => by
    obtain ⟨as, e1, e2⟩ := Option.map_eq_some_iff.mp (show (agD env r ds).map (d.fz :: ·) = some args from e)
    subst e2
    obtain ⟨h1, h2, h3⟩ := entry0 (ags := r) (vs := vs) (ds := ds) hl (by simpa using n) rp.2 e1
    exact ⟨⟨[], [], rfl, ⟨fun u hu => (nomatch hu), v, rfl, Rep.own _ _ rp.1, fun _ b hb => nomatch hb⟩, h1⟩, by simp [agP, h2], by simp [agP, h3, List.replicate_succ]⟩
  | .inr k :: r, _, _, _, hl, _, _, _ => by cases hl
  | [], _ :: _, _ :: _, _, _, _, _, e => by cases e
  | [], [], _ :: _, _, _, n, _, _ => by simp at n
  | [], _ :: _, [], _, _, n, _, _ => by simp at n
  | .inl f :: r, [], [], _, _, _, _, e => by cases e
  | .inl f :: r, [], _ :: _, _, _, n, _, _ => by simp at n
  | .inl f :: r, _ :: _, [], _, _, n, _, _ => by simp at n
/-- .. slot k's lent -/
theorem entry1 {k : Nat} {v0 : V} {d0 : D} {F0 : List Addr} (hv : σ[k]? = some (some v0)) (hd : env[k]? = some (some d0)) (o0 : Own G I H v0 d0 F0) : ∀ {ags : List Ag} {vs : List V} {ds args : List D}, agL ags = [k] → vs.length = ds.length → Reps G I vs (D.fzs ds) → agD env ags ds = some args →
    OwnS G z I H (pvOf (agP ags) (agV σ ags vs)) ((agV σ ags vs).map some) (args.map some) F0 ∧ args.length = (agP ags).length
  | .inl f :: r, v :: vs, d :: ds, args, hl, n, rp, e => by
    obtain ⟨as, e1, e2⟩ := Option.map_eq_some_iff.mp (show (agD env r ds).map (d.fz :: ·) = some args from e)
    subst e2
    obtain ⟨h1, h2⟩ := entry1 hv hd o0 (ags := r) (vs := vs) (ds := ds) hl (by simpa using n) rp.2 e1
    exact ⟨⟨[], F0, rfl, ⟨fun u hu => (nomatch hu), v, rfl, Rep.own _ _ rp.1, fun _ b hb => nomatch hb⟩, h1⟩, by simp [agP, h2]⟩
  | .inr j :: r, vs, ds, args, hl, n, rp, e => by
    have hl : j :: agL r = [k] := hl
    injection hl with hj hr
    subst hj
    have e : ((env[j]?).join.bind fun d => (agD env r ds).map (d :: ·)) = some args := e
    rw [hd] at e
    obtain ⟨as, e1, e2⟩ := Option.map_eq_some_iff.mp (show (agD env r ds).map (d0 :: ·) = some args from e)
    subst e2
    obtain ⟨h1, h2, _⟩ := entry0 (G := G) (z := z) (I := I) (H := H) (σ := σ) (ags := r) hr n rp e1
    have ev : agV σ (.inr j :: r) vs = v0 :: agV σ r vs := by
      show ((σ[j]?).join.getD .non) :: agV σ r vs = _
      rw [hv]; rfl
    rw [ev]
    exact ⟨⟨F0, [], by simp, ⟨fun u hu => by
      have : some v0 = some u := hu
      exact this, v0, rfl, o0, fun hp => by
      have : some v0 = none := hp
      cases this⟩, h1⟩, by simp [agP, h2]⟩
  | [], _, _, _, hl, _, _, _ => by cases hl
  | .inl f :: r, [], [], _, _, _, _, e => by cases e
  | .inl f :: r, [], _ :: _, _, _, n, _, _ => by simp at n
  | .inl f :: r, _ :: _, [], _, _, n, _, _ => by simp at n
theorem exit1 {k : Nat} {v0 : V} (hv : σ[k]? = some (some v0)) : ∀ {ags : List Ag} {vs : List V} {outs : List D} {oe : VEnv} {F : List Addr}, agL ags = [k] → outE (agP ags) outs = some oe → OwnS G z I H (pvOf (agP ags) (agV σ ags vs)) ((agV σ ags vs).map some) oe F →
    ∃ d1 F1, outs = [d1] ∧ Own G I H v0 d1 F1 ∧ F1.Sublist F
  | .inl f :: r, v :: vs, outs, oe, F, hl, e, o => by
    obtain ⟨oe', e1, e2⟩ := Option.map_eq_some_iff.mp (show (outE (agP r) outs).map (none :: ·) = some oe from e)
    subst e2
    obtain ⟨F1, F2, q, _, o2⟩ := o
    obtain ⟨d1, F3, h1, h2, h3⟩ := exit1 hv (ags := r) (vs := vs) hl e1 o2
    exact ⟨d1, F3, h1, h2, h3.trans (by rw [q]; exact List.sublist_append_right _ _)⟩
  | .inl f :: r, [], outs, oe, F, hl, e, o => by
    obtain ⟨oe', e1, e2⟩ := Option.map_eq_some_iff.mp (show (outE (agP r) outs).map (none :: ·) = some oe from e)
    subst e2
    obtain ⟨F1, F2, q, _, o2⟩ := o
    obtain ⟨d1, F3, h1, h2, h3⟩ := exit1 hv (ags := r) (vs := []) hl e1 o2
    exact ⟨d1, F3, h1, h2, h3.trans (by rw [q]; exact List.sublist_append_right _ _)⟩
  | .inr j :: r, vs, outs, oe, F, hl, e, o => by
    have hl : j :: agL r = [k] := hl
    injection hl with hj hr
    subst hj
    have nol : ∀ {r : List Ag} {os : List D} {oe : VEnv}, agL r = [] → outE (agP r) os = some oe → os = [] := by
      intro r
      induction r with
      | nil =>
        intro os oe _ e
        cases os with
        | nil => rfl
        | cons => cases e
      | cons a r ih =>
        intro os oe h e
        cases a with
        | inl f =>
          obtain ⟨oe', e1, _⟩ := Option.map_eq_some_iff.mp (show (outE (agP r) os).map (none :: ·) = some oe from e)
          exact ih h e1
        | inr k => cases h
    cases outs with
    | nil => cases e
    | cons d1 os =>
      obtain ⟨oe', e1, e2⟩ := Option.map_eq_some_iff.mp (show (outE (agP r) os).map (some d1 :: ·) = some oe from e)
      subst e2
      have eo := nol hr e1
      subst eo
      obtain ⟨F1, F2, q, h, _⟩ := o
      obtain ⟨h1, v, h2, h3, _⟩ := h
      have ev : some v0 = some v := by
        have q2 : some ((σ[j]?).join.getD .non) = some v := h2
        rw [hv] at q2
        exact q2
      cases ev
      exact ⟨d1, F1, rfl, h3, by rw [q]; exact List.sublist_append_left _ _⟩
  | [], _, _, _, _, hl, _, _ => by cases hl
theorem exit0 : ∀ {ags : List Ag} {outs : List D} {oe : VEnv}, agL ags = [] → outE (agP ags) outs = some oe → outs = []
  | [], [], _, _, _ => rfl
  | [], _ :: _, _, _, e => by cases e
  | .inl f :: r, os, oe, h, e => by
    obtain ⟨oe', e1, _⟩ := Option.map_eq_some_iff.mp (show (outE (agP r) os).map (none :: ·) = some oe from e)
    exact exit0 (ags := r) h e1
  | .inr k :: r, _, _, h, _ => by cases h
theorem After.of {v : List V} {d : List D} {F0 : List Addr} {pv : List (Option V)} {σ' : L2.St} {e' : VEnv} {FT' FS' : List Addr} (s : Same I I') (S : Stt G ⟨H, I, F0, pv⟩ I' H' v d σ' e' FT' FS') : After G I I' H H' F0 := ⟨s, S.sub, S.ifr, S.frame, S.dom⟩
theorem outE_ok : ∀ {ags : List Ag} {outs : List D}, outs.length = (agL ags).length → ∃ oe, outE (agP ags) outs = some oe
  | [], [], _ => ⟨[], rfl⟩
  | .inl f :: r, os, h => by
    obtain ⟨oe, e⟩ := outE_ok (ags := r) (outs := os) h
    exact ⟨none :: oe, by simp [agP, outE, e]⟩
  | .inr k :: r, d :: os, h => by
    obtain ⟨oe, e⟩ := outE_ok (ags := r) (outs := os) (by simpa [agL] using h)
    exact ⟨some d :: oe, by simp [agP, outE, e]⟩
  | [], _ :: _, h => by simp [agL] at h
  | .inr k :: r, [], h => by simp [agL] at h
/-- a call goes by the promise -/
theorem call_ok {F : FN} {ags : List Ag} {ds : List D} {vs : List V} {Q : VK} {I0 : Hp} (hl : agL ags = [] ∨ ∃ k, agL ags = [k]) (s0 : Same I0 I) (S : Stt G z I H (vs ++ ts) (ds ++ dts) σ env FT FS) (n : vs.length = ds.length)
    (h : GE G z W I0 ts dts σ Q (callK F ags env ds)) : spOf G F (agP ags) (agV σ ags vs) H Q (WE W σ) := by
  obtain ⟨I1, FT1, s1, rp, S1⟩ := Stt.giveAll n S
  unfold callK at h
  cases ea : agD env ags ds with
  | none => rw [ea] at h; exact h.elim
  | some args =>
    rw [ea] at h
    replace h : GE G z W I0 ts dts σ Q (match F args with
      | none => none
      | some (.ret d outs) => if outs.length = (agL ags).length then some (.ok d (agOut env (agL ags) outs)) else none
      | some (.exc c x outs) => if outs.length = (agL ags).length then some (.exc c x (agOut env (agL ags) outs)) else none) := h
    rcases hl with hl | ⟨k, hl⟩
    · obtain ⟨h1, h2, _⟩ := entry0 (G := G) (z := ⟨H, I1, [], pvOf (agP ags) (agV σ ags vs)⟩) (I := I1) (H := H) (σ := σ) hl n rp ea
      have hent : Stt G ⟨H, I1, [], pvOf (agP ags) (agV σ ags vs)⟩ I1 H [] [] ((agV σ ags vs).map some) (args.map some) [] [] := ⟨rfl, h1, List.nodup_nil, S1.sub, Same.refl _, (fun b o e n => by have n' : I1 b = none := n; rw [n'] at e; cases e), (fun b hb => nomatch hb), fun b o e _ => e, fun b o e => ⟨o, e⟩⟩
      refine ⟨I1, args, [], h2, hent, ?_⟩
      cases ef : F args with
      | none => rw [ef] at h; exact h
      | some r =>
        rw [ef] at h
        cases r with
        | ret d outs =>
          dsimp only at h ⊢
          by_cases c : outs.length = (agL ags).length
          · rw [if_pos c] at h
            obtain ⟨oe, eo⟩ := outE_ok c
            refine ⟨oe, eo, fun v I' H' FT' FS' s' S' => ?_⟩
            have eos := exit0 hl eo
            rw [hl, eos] at h
            obtain ⟨F1, F2, eF, o, f, S2⟩ := S'.pop
            have e2 := S2.noT
            subst e2 eF
            have nd := S'.nd
            rw [List.append_nil] at nd
            exact h v I' H' _ _ ((s0.trans s1).trans s') (S1.ret0 (.of s' S') o f (List.nodup_append.mp nd).1)
          · rw [if_neg c] at h; exact h.elim
        | exc c x outs =>
          dsimp only at h ⊢
          by_cases c : outs.length = (agL ags).length
          · rw [if_pos c] at h
            obtain ⟨oe, eo⟩ := outE_ok c
            refine ⟨oe, eo, fun dx I' H' FS' s' S' xr => ?_⟩
            have eos := exit0 hl eo
            rw [hl, eos] at h
            exact h dx I' H' _ ((s0.trans s1).trans s') (S1.noTemps.after (.of (show Same I1 I' from S'.i0) S') (fun b hb => nomatch hb) fun b hb => nomatch hb) xr
          · rw [if_neg c] at h; exact h.elim
    · -- slot k is lent
      have hk : ∃ d0, env[k]? = some (some d0) := by
        have hgo : ∀ {ags : List Ag} {ds args : List D}, agL ags = [k] → agD env ags ds = some args → ∃ d0, env[k]? = some (some d0) := by
          intro ags
          induction ags with
          | nil => intro _ _ h; cases h
          | cons a r ih =>
            intro ds args hl e
            cases a with
            | inl f =>
              cases ds with
              | nil => cases e
              | cons d ds =>
                obtain ⟨as, e1, _⟩ := Option.map_eq_some_iff.mp (show (agD env r ds).map (d.fz :: ·) = some args from e)
                exact ih hl e1
            | inr j =>
              have hl : j :: agL r = [k] := hl
              injection hl with hj _
              subst hj
              obtain ⟨d0, e1, _⟩ := Option.bind_eq_some_iff.mp (show ((env[j]?).join.bind fun d => (agD env r ds).map (d :: ·)) = some args from e)
              cases q : env[j]? with
              | none => rw [q] at e1; cases e1
              | some o => cases o with
                | none => rw [q] at e1; cases e1
                | some d => exact ⟨d, rfl⟩
        exact hgo hl ea
      obtain ⟨d0, hk⟩ := hk
      obtain ⟨v0, F0, hv, o0, nd0, back⟩ := S1.lend hk
      obtain ⟨h1, h2⟩ := entry1 (G := G) (z := ⟨H, I1, F0, pvOf (agP ags) (agV σ ags vs)⟩) hv hk o0 hl n rp ea
      have hent : Stt G ⟨H, I1, F0, pvOf (agP ags) (agV σ ags vs)⟩ I1 H [] [] ((agV σ ags vs).map some) (args.map some) [] F0 := ⟨rfl, h1, nd0, S1.sub, Same.refl _, (fun b o e n => by have n' : I1 b = none := n; rw [n'] at e; cases e), (fun b hb => .inr hb), fun b o e _ => e, fun b o e => ⟨o, e⟩⟩
      refine ⟨I1, args, F0, h2, hent, ?_⟩
      cases ef : F args with
      | none => rw [ef] at h; exact h
      | some r =>
        rw [ef] at h
        cases r with
        | ret d outs =>
          dsimp only at h ⊢
          by_cases c : outs.length = (agL ags).length
          · rw [if_pos c] at h
            obtain ⟨oe, eo⟩ := outE_ok c
            refine ⟨oe, eo, fun v I' H' FT' FS' s' S' => ?_⟩
            obtain ⟨d1, F1, eos, o1, sb⟩ := exit1 hv hl eo S'.oS
            rw [hl, eos] at h
            obtain ⟨Fv, F2, eF, o, f, S2⟩ := S'.pop
            have e2 := S2.noT
            subst e2 eF
            have nd := S'.nd
            rw [List.append_nil] at nd
            obtain ⟨FSn, S3, fz, nd3⟩ := back I' H' d1 F1 Fv (.of s' S') o1 (fun b hb => S'.fS b (sb.subset hb)) f (nd.sublist (List.Sublist.append (List.Sublist.refl _) sb))
            exact h v I' H' _ FSn ((s0.trans s1).trans s') (S3.push o fz nd3)
          · rw [if_neg c] at h; exact h.elim
        | exc c x outs =>
          dsimp only at h ⊢
          by_cases c : outs.length = (agL ags).length
          · rw [if_pos c] at h
            obtain ⟨oe, eo⟩ := outE_ok c
            refine ⟨oe, eo, fun dx I' H' FS' s' S' xr => ?_⟩
            obtain ⟨d1, F1, eos, o1, sb⟩ := exit1 hv hl eo S'.oS
            rw [hl, eos] at h
            obtain ⟨FSn, S3, _, _⟩ := back I' H' d1 F1 [] (.of (show Same I1 I' from S'.i0) S') o1 (fun b hb => S'.fS b (sb.subset hb)) (fun b hb => nomatch hb) ((show FS'.Nodup from S'.nd).sublist sb)
            exact h dx I' H' FSn ((s0.trans s1).trans s') S3.noTemps xr
          · rw [if_neg c] at h; exact h.elim
end
section
variable {X : Cx} {G : Gx} {z : Zx} {W : WX} {e a b : Expr} {es : List Expr} {f : M D} {ags : List Ag} {pos : Pos} {ms : List Bool}
theorem vag_nil : PA X [] (RAg G z W []) := paImp pa_nil fun σ H Q ⟨I, ts, dts, env, FT, FS, S, h⟩ => h [] I H FT FS (Same.refl _) S rfl
theorem vag_v (ha : PE X a (RE G z W f)) (hr : PA X es (RAg G z W ags)) (hs : starEach (a :: es) X.env = (false, eval a X.env) :: starEach es X.env := by rfl) : PA X (a :: es) (RAg G z W (.inl f :: ags)) := paImp (pa_cons ha hr hs) fun σ H Q ⟨I, ts, dts, env, FT, FS, S, h⟩ => by
  refine RE.of S ?_
  replace h : match (aCons f (agM ags)) env with
    | none => False
    | some (.ok ds env') => ∀ vs I' H' FT' FS', Same I I' → Stt G z I' H' (vs ++ ts) (ds ++ dts) σ env' FT' FS' → vs.length = ds.length → Q (agV σ (.inl f :: ags) vs) H'
    | some (.exc c x env') => XP G z W I σ c x env' := h
  unfold aCons M.bnd at h
  cases e1 : f env with
  | none => rw [e1] at h; exact h
  | some r =>
    rw [e1] at h
    cases r with
    | exc c x e' => exact h
    | ok d e' =>
      intro u I1 H1 FT1 FS1 s1 S1
      refine ⟨I1, u :: ts, d :: dts, e', FT1, FS1, S1, ?_⟩
      cases e2 : agM ags e' with
      | none => simp only [e2] at h
      | some r =>
        simp only [e2] at h
        cases r with
        | exc c x e'' => exact XP.weak h s1
        | ok ds e'' =>
          intro vs I2 H2 FT2 FS2 s2 S2 n
          obtain ⟨FT3, S3⟩ := S2.rot n
          exact h (u :: vs) I2 H2 FT3 FS2 (s1.trans s2) S3 (by simp [n])
theorem vag_l (k : Nat) (ha : PE X a (tVar k)) (hr : PA X es (RAg G z W ags)) (hs : starEach (a :: es) X.env = (false, eval a X.env) :: starEach es X.env := by rfl) : PA X (a :: es) (RAg G z W (.inr k :: ags)) := paImp (pa_cons ha hr hs) fun σ H Q ⟨I, ts, dts, env, FT, FS, S, h⟩ => by
  replace h : match (match env[k]? with
      | some (some _) => agM ags env
      | _ => none) with
    | none => False
    | some (.ok ds env') => ∀ vs I' H' FT' FS', Same I I' → Stt G z I' H' (vs ++ ts) (ds ++ dts) σ env' FT' FS' → vs.length = ds.length → Q (agV σ (.inr k :: ags) vs) H'
    | some (.exc c x env') => XP G z W I σ c x env' := h
  cases e1 : env[k]? with
  | none => rw [e1] at h; exact h.elim
  | some o => cases o with
    | none => rw [e1] at h; exact h.elim
    | some d =>
      rw [e1] at h
      obtain ⟨v, F, h1, h2⟩ := S.slot e1
      refine ⟨v, h1, I, ts, dts, env, FT, FS, S, ?_⟩
      cases e2 : agM ags env with
      | none => simp only [e2] at h
      | some r =>
        simp only [e2] at h
        cases r with
        | exc c x e'' => exact h
        | ok ds e'' =>
          intro vs I2 H2 FT2 FS2 s2 S2 n
          have := h vs I2 H2 FT2 FS2 s2 S2 n
          unfold agV at this
          rw [h1] at this
          exact this
/-- f(e, ..) -/
theorem ve_call {F : FN} {fa : Addr} {fd : FuncData} {ps : List Str} {k : Nat} {x : Str} {p : Pos} (FO : FnOk X.prog X.w X.K X.mg X.base (L2.CX X.prog X.w) k fa fd ps (spOf G F (agP ags))) (hr : Room k X.A) (hm : X.mg x = some (.ref fa)) (hk : PySem.W.keepIn X.K (.ref fa) = true) (hb : Binds X.K fd ps []) (tk : Takes X W)
    (ha : PA X (e :: es) (RAg G z W ags)) (hl : agL ags = [] ∨ ∃ k, agL ags = [k] := by first | exact .inl rfl | exact .inr ⟨_, rfl⟩) (hg : Gl X x := by rfl) (hdb : (x == ("__debug__" : Str)) = false := by decide) (he : starEach (e :: es) X.env = (false, eval e X.env) :: starEach es X.env := by rfl) (hpl : (backTo pos (starEach es X.env)).any (·.1) = false := by rfl) :
    PE X (.Call (.Name x p) (e :: es) [] pos) (RE G z W (vCall F ags)) := peImp (pe_callS FO hr hg hm hk hb (fun σ => passAt tk σ) ha hdb he hpl) fun σ H Q h => by
  obtain ⟨I, ts, dts, env, FT, FS, S, h⟩ := RE.to h
  refine ⟨I, ts, dts, env, FT, FS, S, ?_⟩
  unfold vCall M.bnd at h
  cases e1 : agM ags env with
  | none => rw [e1] at h; exact h
  | some r =>
    rw [e1] at h
    cases r with
    | exc c x e' => exact h
    | ok ds e' => exact fun vs I' H' FT' FS' s S' n => call_ok hl s S' n h
end
end
section
set_option Elab.async false
set_option linter.all false
set_option maxRecDepth 100000
set_option maxHeartbeats 1000000
/-! ### try with several clauses, each with a name or without one -/
/-- a clause: its class, the slot of its name, its suite's reading -/
abbrev Cl := Value × Option Nat × (Addr → Value → Option Addr → TS)
/-- the ends of a suite whose name stands in slot i -/
def offEnds (D : Ends) : Option Nat → Ends
  | none => D
  | some i => { nx := fun σ H => D.nx (σ.set i none) H, rt := D.rt, bk := fun σ H => D.bk (σ.set i none) H, ct := fun σ H => D.ct (σ.set i none) H }
def inSlot (σ : L2.St) (a : Addr) : Option Nat → L2.St
  | none => σ
  | some i => σ.set i (some (.ref a))
def wCls (K : PySem.W.Frag) (Wout : WX) (D : Ends) : List Cl → WX
  | [] => Wout
  | c :: r => fun cls d σ H => ∃ b, PySem.W.exmOne K cls c.1 = some b ∧ (b = true → ∀ a, H a = none → c.2.2 a cls d (offEnds D c.2.1) (inSlot σ a c.2.1) H) ∧ (b = false → wCls K Wout D r cls d σ H)
/-- the slot of a clause's name -/
def NmOk (X : Cx) : Option Str → Option Nat → Prop
  | none, none => True
  | some n, some i => X.N[i]? = some n ∧ X.env.kindOf n = some .local
  | _, _ => False
abbrev SuiteOk (X : Cx) (b0 : Stmt) (suite : List Stmt) (ts : Addr → Value → Option Addr → TS) : Prop :=
  ∀ (a : Addr) (oe : Obj) (cls : Value) (d : Option Addr) (pn : List (Addr × Obj)), Zc cls d oe → (∃ vs, oe.data = .fields vs) → PSs (X.suite a ((a, oe) :: pn)) (b0 :: suite) (ts a cls d)
inductive ClsOk (X : Cx) : List ExceptHandler → List Cl → Prop
  | nil : ClsOk X [] []
  | cons {x : Str} {c : Value} {o : Option Nat} {nm : Option Str} {ts : Addr → Value → Option Addr → TS} {b0 : Stmt} {suite : List Stmt} {np pos' : Pos} {hds : List ExceptHandler} {l : List Cl}
      (hc : Names X x c) (hn : NmOk X nm o) (hs : SuiteOk X b0 suite ts) (r : ClsOk X hds l) : ClsOk X (.ExceptHandler (some (.Name x np)) nm (b0 :: suite) pos' :: hds) ((c, o, ts) :: l)
section
variable {X : Cx} {body : List Stmt} {h0 : ExceptHandler} {hds : List ExceptHandler} {l : List Cl} {pos : Pos} {tb : WX → TS} {Wout : WX}
theorem ps_try_cls (hs : X.stack = X.env :: X.outer) (hf : X.env.frame = some X.env.locals) (hN : X.N.Nodup) (tk : Takes X Wout)
    (hb : ∀ (W : WX) (pn : List (Addr × Obj)) (xe : Value → Shared → Prop), Takes (X.tr pn xe) W → PassesOwn (model X.prog X.w) X.A X.env xe → PSs (X.tr pn xe) body (tb W))
    (hh : ClsOk X (h0 :: hds) l) : PS X (.Try body (h0 :: hds) [] [] pos) (fun D σ H => tb (wCls X.K Wout D l) D σ H) := by
  refine ⟨fun pins s σ H D I0 hq => ?_⟩
  have ok := I0.ok
  have frames : X.A.frames = some (X.env :: X.outer) := ok.frames.trans (by rw [hs])
  refine wpAny_Try_except ?_
  have go1 := hb (wCls X.K Wout D l) (X.pn ++ pins)
    (fun e s1 => wpAny (model X.prog X.w) X.A (noteFrame e X.env)
      (fun _ s2 => wpAny (model X.prog X.w) X.A (setFlight e none)
        (fun _ s3 => wpAny (model X.prog X.w) X.A (handleBy e X.env (h0 :: hds)) (SP X pins D) X.xe s3) X.xe s2) X.xe s1)
  refine wpAny_mono ((go1 (fun u s' xx => ?_) PassesOwn.looking).run [] s σ H D (I0.toTry _) hq) (fun f s1 hsp => ?_) fun _ _ q => q
  · obtain ⟨a, B, sI, pins', σ1, H1, cls, d, eu, J', nb, up, sky, na, os, ag, w⟩ := xx
    subst eu
    have J : Inv X pins σ1 H1 sI := J'.ofTry ok
    have sky1 : Sky B (X.env :: X.outer) a (Zc cls d) X.env.locals s'.heap := hs ▸ sky
    show wpAny (model X.prog X.w) X.A (noteFrame (.ref a) X.env) _ _ _
    refine Sky.land Zc.steady frames hf sky1 fun g fl upg => ?_
    have J3 := J.landed (s' := { s' with heap := g }) nb fl.1 (up.trans upg) os ag
    obtain ⟨oe, vs, he, hz, hd⟩ := fl.there
    have nfr : a ∉ frs (X.env :: X.outer) := fun hm => by
      obtain ⟨_, o2, e2, hnf⟩ := fl.2.2.1.mem hm
      rw [he] at e2; cases e2
      exact hnf _ hd
    have nL : a ≠ X.env.locals := fun q => nfr (List.mem_filterMap.mpr ⟨X.env, List.mem_cons_self, by rw [hf, q]⟩)
    have nF : a ∉ X.fs := fun hm => nfr (by
      obtain ⟨e, he, q⟩ := List.mem_filterMap.mp hm
      exact List.mem_filterMap.mpr ⟨e, List.mem_cons_of_mem _ he, q⟩)
    have S3 := J3.suite he hd na nL nF
    have go : ∀ {hds' : List ExceptHandler} {l' : List Cl}, ClsOk X hds' l' → wCls X.K Wout D l' cls d σ1 H1 → wpAny (model X.prog X.w) X.A (handleBy (.ref a) X.env hds') (SP X pins D) X.xe { s' with heap := g } := by
      intro hds' l' hk
      induction hk with
      | nil =>
        intro w
        refine wpAny_handleBy_nil ?_
        obtain ⟨k1, k2, k3, oe5, vs5, T, oT, ts', he5, _, hd5, hT, _⟩ := id fl
        unfold PySem.passOn
        refine wpAny_bind (wpAny_field he5 hd5 hT ?_)
        rw [if_neg (show ¬ ((Value.ref T == Value.none) = true) by simp)]
        have fin : wpAny (model X.prog X.w) X.A (setFlight (.ref a) X.env.frame) (fun _ s4 => wpAny (model X.prog X.w) X.A (throw (.ref a) : Sem Flow) (SP X pins D) X.xe s4) X.xe { s' with heap := g } := by
          rw [hf]
          exact HandSPX.setFlight_upZ fl fun g4 hh4 up4 => wpAny_throw (tk _ _ ⟨a, B, sI, pins, σ1, H1, cls, d, rfl, J, nb, (up.trans upg).trans up4, .inr (.inr (by rw [hs]; exact hh4)), na, os, ag, w⟩)
        first
          | exact wpAny_bind (wpAny_pure (wpAny_bind fin))
          | exact wpAny_bind fin
      | @cons x c o nm ts b0 suite np pos' hds2 l2 hc hn hsu r ih =>
        intro w
        obtain ⟨b, hb1, hyes, hno⟩ := w
        refine wpAny_handleBy_cons (codeAny_handlers_test ?_) (by intro q; cases q)
        have tyA : PySem.W.Looks (model X.prog X.w) g (typeOf (.ref a)) cls := fun A Q E s k q => wpAny_typeOf_ref (k _ _ he) (by rw [hz.1]; exact q)
        have LM := PySem.W.exm_one (M := model X.prog X.w) (J3.kIn) tyA hb1
        have test : ∀ {Q : Value → Shared → Prop} {E : Value → Shared → Prop}, Q c { s' with heap := g } → wpAny (model X.prog X.w) (X.A.mark (some (.ref a))) (eval (.Name x np) X.env) Q E { s' with heap := g } := fun {Q E} q => by
          obtain ⟨hg, hdbg, hm | ⟨hm, hv, hnn⟩⟩ := hc
          · exact ld_glob (X := X.suite a ((a, oe) :: (X.pn ++ pins))) S3 hg hm q hdbg
          · exact ld_blt (X := X.suite a ((a, oe) :: (X.pn ++ pins))) S3 hg hm hv q hnn hdbg
        refine test (LM.here ?_)
        cases b with
        | false =>
          show wpAny _ X.A (handleBy (.ref a) X.env hds2) _ _ _
          exact ih (hno rfl)
        | true =>
          have land : ∀ g4, HandSPX.FlyingZ B (X.env :: X.outer) a (Zc cls d) g4 → Heap.UpToSlots g g4 → ∃ oe4, Inv (X.suite a ((a, oe4) :: (X.pn ++ pins))) [] σ1 H1 { s' with heap := g4 } ∧ Zc cls d oe4 ∧ ∃ vs, oe4.data = .fields vs := fun g4 fl4 up4 => by
            have J4 := J.landed (s' := { s' with heap := g4 }) nb fl4.1 ((up.trans upg).trans up4) os ag
            obtain ⟨oe4, vs4, he4, hz4, hd4⟩ := fl4.there
            exact ⟨oe4, J4.suite he4 hd4 na nL nF, hz4, vs4, hd4⟩
          cases nm with
          | none =>
            cases o with
            | some i => exact hn.elim
            | none =>
              refine codeAny_handlers_suite ?_
              refine HandSPX.lands_againZ fl fun g4 fl4 up4 => ?_
              obtain ⟨oe4, S4, hz4, hd4⟩ := land g4 fl4 up4
              refine wpAny_mono ((hsu a oe4 cls d (X.pn ++ pins) hz4 hd4).run [] _ _ H1 _ S4 (hyes rfl a na)) (fun f s6 q6 => ?_) (fun _ _ q => False.elim q)
              cases f with
              | ret u =>
                obtain ⟨v6, σ6, H6, S6, r6, q6⟩ := q6
                exact ⟨v6, σ6, H6, S6.unsuite ok, r6, q6⟩
              | _ =>
                obtain ⟨σ6, H6, S6, q6⟩ := q6
                exact ⟨σ6, H6, S6.unsuite ok, q6⟩
          | some n =>
            cases o with
            | none => exact hn.elim
            | some i =>
              obtain ⟨hi, hln⟩ := hn
              refine codeAny_handlers_suite_as ?_
              refine HandSPX.lands_againZ fl fun g4 fl4 up4 => ?_
              obtain ⟨oe4, S4, hz4, hd4⟩ := land g4 fl4 up4
              refine store_ok (X := X.suite a ((a, oe4) :: (X.pn ++ pins))) (v := .ref a) S4 hN hi (.inl hln) rfl (fun s5 S5 => ?_) (.inr hln)
              refine wpAny_mono ((hsu a oe4 cls d (X.pn ++ pins) hz4 hd4).run [] s5 _ H1 _ S5 (hyes rfl a na)) (fun f s6 q6 => ?_) (fun _ _ q => False.elim q)
              have off : ∀ {σ6 : L2.St} {H6 : Hp} {Q : Shared → Prop}, Inv (X.suite a ((a, oe4) :: (X.pn ++ pins))) [] σ6 H6 s6 → (∀ s7, Inv X pins (σ6.set i none) H6 s7 → Q s7) → wpAny (model X.prog X.w) X.A (do bindName X.env n .none; unbindBehindTheSuite X.env n pos') (fun _ s7 => Q s7) X.xe s6 := fun {σ6 H6 Q} S6 hq => gone_ok (S6.unsuite ok) hN hi hln hq
              cases f with
              | ret u =>
                obtain ⟨v6, σ6, H6, S6, r6, q6⟩ := q6
                exact off S6 fun s7 J7 => ⟨_, _, _, J7, r6, q6⟩
              | next =>
                obtain ⟨σ6, H6, S6, q6⟩ := q6
                exact off S6 fun s7 J7 => ⟨_, _, J7, q6⟩
              | brk =>
                obtain ⟨σ6, H6, S6, q6⟩ := q6
                exact off S6 fun s7 J7 => ⟨_, _, J7, q6⟩
              | cont =>
                obtain ⟨σ6, H6, S6, q6⟩ := q6
                exact off S6 fun s7 J7 => ⟨_, _, J7, q6⟩
    exact go hh w
  · cases f with
    | ret u =>
      obtain ⟨v, σ1, H1, J', r, q⟩ := hsp
      exact ⟨v, σ1, H1, J'.ofTry ok, r, q⟩
    | next =>
      obtain ⟨σ1, H1, J', q⟩ := hsp
      exact wpAny_execs_nil ⟨σ1, H1, J'.ofTry ok, q⟩
    | brk =>
      obtain ⟨σ1, H1, J', q⟩ := hsp
      exact ⟨σ1, H1, J'.ofTry ok, q⟩
    | cont =>
      obtain ⟨σ1, H1, J', q⟩ := hsp
      exact ⟨σ1, H1, J'.ofTry ok, q⟩
end

/-! ### try as a function -/
/-- a clause as a function: does an error of class c fall under it (mt), the name's slot, the suite by the class and the field -/
structure Hd where
  mt : Str → Option Bool
  sl : Option Nat
  su : Str → Option (Str × D) → M Fl
def hdEnv (e : VEnv) : Option Nat → VEnv
  | none => e
  | some i => e.set i none
def tryL : List Hd → Str → Option (Str × D) → M Fl
  | [], c, x => fun e => some (.exc c x e)
  | h :: r, c, x => fun e => match h.mt c with
    | none => none
    | some false => tryL r c x e
    | some true => match h.su c x (hdEnv e h.sl) with
      | some (.ok f e2) => some (.ok f (hdEnv e2 h.sl))
      | _ => none
def sTry (b : M Fl) (hs : List Hd) : M Fl := fun e => match b e with
  | some (.exc c x e2) => tryL hs c x e2
  | r => r
/-- within a suite: the name's slot is known -/
def zAt (z : Zx) (a : Addr) : Option Nat → Zx
  | none => z
  | some i => { z with pv := z.pv.set i (some (.ref a)) }
section
variable {G : Gx} {z : Zx} {W : WX} {I H : Hp} {ts : List V} {dts : List D} {σ : L2.St} {env : VEnv} {FT FS : List Addr} {ms : List Bool}
theorem OwnS.pin {v : V} : ∀ {ps : List (Option V)} {σ : List (Option V)} {env : VEnv} {F : List Addr} {k : Nat}, OwnS G z I H ps σ env F → env[k]? = some none → OwnS G z I H (ps.set k (some v)) (σ.set k (some v)) env F
  | p :: ps, y :: ys, d :: ds, F, 0, ⟨F1, F2, e, h, r⟩, hk => by
    simp at hk
    subst hk
    exact ⟨F1, F2, e, ⟨fun u hu => by exact hu, h.2⟩, r⟩
  | p :: ps, y :: ys, d :: ds, F, k + 1, ⟨F1, F2, e, h, r⟩, hk => ⟨F1, F2, e, h, OwnS.pin r (by simpa using hk)⟩
  | [], [], [], _, _, _, hk => by simp at hk
  | [], [], _ :: _, _, _, h, _ => h.elim
  | [], _ :: _, [], _, _, h, _ => h.elim
  | [], _ :: _, _ :: _, _, _, h, _ => h.elim
  | _ :: _, [], [], _, _, h, _ => h.elim
  | _ :: _, [], _ :: _, _, _, h, _ => h.elim
  | _ :: _, _ :: _, [], _, _, h, _ => h.elim
theorem OwnS.unpin : ∀ {ps : List (Option V)} {σ : List (Option V)} {env : VEnv} {F : List Addr} {k : Nat} {q : Option V}, OwnS G z I H (ps.set k q) σ env F → env[k]? = some none → OwnS G z I H (ps.set k none) (σ.set k none) env F
  | p :: ps, y :: ys, d :: ds, F, 0, q, ⟨F1, F2, e, h, r⟩, hk => by
    simp at hk
    subst hk
    exact ⟨F1, F2, e, ⟨fun u hu => (nomatch hu), h.2⟩, r⟩
  | p :: ps, y :: ys, d :: ds, F, k + 1, q, ⟨F1, F2, e, h, r⟩, hk => ⟨F1, F2, e, h, OwnS.unpin (k := k) (q := q) r (by simpa using hk)⟩
  | [], [], [], _, _, _, _, hk => by simp at hk
  | [], [], _ :: _, _, _, _, h, _ => h.elim
  | [], _ :: _, [], _, _, _, h, _ => h.elim
  | [], _ :: _, _ :: _, _, _, _, h, _ => h.elim
  | _ :: _, [], [], _, _, _, h, _ => by simp [OwnS] at h
  | _ :: _, [], _ :: _, _, k, _, h, _ => by cases k <;> exact h.elim
  | _ :: _, _ :: _, [], _, k, _, h, _ => by cases k <;> exact h.elim
/-- into a suite -/
theorem Stt.toSuite (S : Stt G z I H [] [] σ env [] FS) (a : Addr) (o : Option Nat) (hl : ∀ i, o = some i → i < env.length) : ∃ FS', Stt G (zAt z a o) I H [] [] (inSlot σ a o) (hdEnv env o) [] FS' := by
  cases o with
  | none => exact ⟨FS, S⟩
  | some i =>
    obtain ⟨F', S1⟩ := S.forget i
    have hk : (env.set i none)[i]? = some none := by simp [hl i rfl]
    exact ⟨F', rfl, (OwnS.pin (v := .ref a) S1.oS hk).zc rfl, S1.nd, S1.sub, S1.i0, S1.ifr, S1.fS, S1.frame, S1.dom⟩
/-- out of it -/
theorem Stt.ofSuite {a : Addr} {o : Option Nat} (hp : ∀ i, o = some i → z.pv[i]? = some none) (S : Stt G (zAt z a o) I H [] [] σ env [] FS) : ∃ FS', Stt G z I H [] [] (match o with | none => σ | some i => σ.set i none) (hdEnv env o) [] FS' := by
  cases o with
  | none => exact ⟨FS, S⟩
  | some i =>
    obtain ⟨F', S1⟩ := S.forget i
    have hl : i < env.length := by
      rw [S.lenS.2]
      show i < (z.pv.set i (some (.ref a))).length
      rw [List.length_set]
      exact (List.getElem?_eq_some_iff.mp (hp i rfl)).1
    have hk : (env.set i none)[i]? = some none := by simp [hl]
    have o1 := OwnS.unpin (ps := z.pv) (k := i) (q := some (.ref a)) S1.oS hk
    rw [set_same_of (hp i rfl)] at o1
    exact ⟨F', rfl, o1.zc rfl, S1.nd, S1.sub, S1.i0, S1.ifr, S1.fS, S1.frame, S1.dom⟩
end
/-- the reading of a suite: by the error's class and field -/
def suTS (G : Gx) (z : Zx) (h : Hd) : Addr → Value → Option Addr → TS := fun a cls dx D σ H => ∃ c x, cls = G.ev c ∧ XRep x dx H ∧ RS G (zAt z a h.sl) WF (h.su c x) D σ H
theorem XRep.mono {x : Option (Str × D)} {dx : Option Addr} {H H' : Hp} (h : XRep x dx H) (s : ∀ b o, H b = some o → H' b = some o) : XRep x dx H' := by
  cases x with
  | none => exact h
  | some x =>
    obtain ⟨f, d⟩ := x
    obtain ⟨dd, v, e, h1, h2⟩ := h
    exact ⟨dd, v, e, s _ _ h1, h2⟩
section
variable {X : Cx} {G : Gx} {z : Zx} {W : WX} {pos : Pos} {ms : List Bool}
theorem pssIf {sts : List Stmt} {α : Sort _} {P : α → Prop} {t : α → TS} (h : ∀ x, P x → PSs X sts (t x)) : PSs X sts (fun D σ H => ∃ x, P x ∧ t x D σ H) := ⟨fun pins s σ H D I ⟨x, p, q⟩ => (h x p).run pins s σ H D I q⟩
/-- a clause keeps its word -/
structure HdOk (X : Cx) (G : Gx) (z : Zx) (h : Hd) (eh : ExceptHandler) (cl : Cl) : Prop where
  mt : ∀ c b, h.mt c = some b → PySem.W.exmOne X.K (G.ev c) cl.1 = some b
  sl : cl.2.1 = h.sl
  pv : ∀ i, h.sl = some i → z.pv[i]? = some none
  ts : cl.2.2 = suTS G z h
theorem try_ok {l : List Cl} : ∀ {hs : List Hd} {l : List Cl} {D : Ends} {c : Str} {x : Option (Str × VL.D)} {dx : Option Addr} {I0 I H : Hp} {σ : L2.St} {env : VEnv} {FS : List Addr}, Paired (fun h cl => ∃ eh, HdOk X G z h eh cl) hs l → Same I0 I → Stt G z I H [] [] σ env [] FS → XRep x dx H → GS G z W I0 D (tryL hs c x env) → wCls X.K W D l (G.ev c) dx σ H
  | [], [], D, c, x, dx, I0, I, H, σ, env, FS, _, s, S, xr, h => h σ dx I H FS s S xr
  | h :: hs, cl :: l, D, c, x, dx, I0, I, H, σ, env, FS, .cons hc hr, s, S, xr, q => by
    obtain ⟨eh, ok⟩ := hc
    unfold tryL at q
    cases e1 : h.mt c with
    | none => rw [e1] at q; exact q.elim
    | some b =>
      rw [e1] at q
      refine ⟨b, ok.mt c b e1, fun hb a ha => ?_, fun hb => ?_⟩
      · subst hb
        rw [ok.ts, ok.sl]
        dsimp only at q
        have hl : ∀ i, h.sl = some i → i < env.length := fun i hi => by
          rw [S.lenS.2]; exact (List.getElem?_eq_some_iff.mp (ok.pv i hi)).1
        obtain ⟨F', S1⟩ := S.toSuite a h.sl hl
        refine ⟨c, x, rfl, xr, RS.of S1 ?_⟩
        cases e2 : h.su c x (hdEnv env h.sl) with
        | none => rw [e2] at q; exact q.elim
        | some r =>
          rw [e2] at q
          cases r with
          | exc c' x' e' => exact q.elim
          | ok f e3 =>
            dsimp only at q
            have off : ∀ {σ' : L2.St} {I' H' : Hp} {FS'}, Stt G (zAt z a h.sl) I' H' [] [] σ' e3 [] FS' → ∃ FS2, Stt G z I' H' [] [] (match h.sl with | none => σ' | some i => σ'.set i none) (hdEnv e3 h.sl) [] FS2 := fun S' => S'.ofSuite ok.pv
            cases f with
            | nx =>
              intro σ' I' H' FS' s' S'
              obtain ⟨F2, S2⟩ := off S'
              have := q _ I' H' F2 (s.trans s') S2
              cases hsl : h.sl <;> rw [hsl] at this <;> exact this
            | bk =>
              intro σ' I' H' FS' s' S'
              obtain ⟨F2, S2⟩ := off S'
              have := q _ I' H' F2 (s.trans s') S2
              cases hsl : h.sl <;> rw [hsl] at this <;> exact this
            | ct =>
              intro σ' I' H' FS' s' S'
              obtain ⟨F2, S2⟩ := off S'
              have := q _ I' H' F2 (s.trans s') S2
              cases hsl : h.sl <;> rw [hsl] at this <;> exact this
            | rt d =>
              intro v σ' I' H' FT' FS' s' S'
              have key : ∃ σ2 FT2 FS2, Stt G z I' H' [v] [d] σ2 (hdEnv e3 h.sl) FT2 FS2 := by
                cases hsl : h.sl with
                | none => rw [hsl] at S'; exact ⟨σ', FT', FS', S'⟩
                | some i =>
                  rw [hsl] at S'
                  obtain ⟨F', S1⟩ := S'.forget i
                  have hl : i < e3.length := by
                    rw [S'.lenS.2]
                    show i < (z.pv.set i (some (.ref a))).length
                    rw [List.length_set]
                    exact (List.getElem?_eq_some_iff.mp (ok.pv i hsl)).1
                  have hk : (e3.set i none)[i]? = some none := by simp [hl]
                  have o1 := OwnS.unpin (ps := z.pv) (k := i) (q := some (.ref a)) S1.oS hk
                  rw [set_same_of (ok.pv i hsl)] at o1
                  exact ⟨_, FT', F', S1.oT.zc rfl, o1.zc rfl, S1.nd, S1.sub, S1.i0, S1.ifr, S1.fS, S1.frame, S1.dom⟩
              obtain ⟨σ2, FT2, FS2, S2⟩ := key
              have := q v σ2 I' H' FT2 FS2 (s.trans s') S2
              cases hsl : h.sl <;> exact this
      · subst hb
        exact try_ok (l := l) hr s S xr q
  | [], _ :: _, _, _, _, _, _, _, _, _, _, _, h, _, _, _, _ => by cases h
  | _ :: _, [], _, _, _, _, _, _, _, _, _, _, h, _, _, _, _ => by cases h
end
end
section
set_option Elab.async false
set_option linter.all false
set_option maxRecDepth 100000
set_option maxHeartbeats 1000000
section
variable {X : Cx} {G : Gx} {z : Zx} {W : WX} {pos : Pos} {ms : List Bool} {e a : Expr}
/-- the clauses of a try, each by its function -/
inductive TryOk (X : Cx) (G : Gx) (z : Zx) : List ExceptHandler → List Hd → Prop
  | nil : TryOk X G z [] []
  | cons {x : Str} {cv : Value} {nm : Option Str} {b0 : Stmt} {suite : List Stmt} {np pos' : Pos} {hds : List ExceptHandler} {h : Hd} {hs : List Hd} (hc : Names X x cv) (hmt : ∀ c b, h.mt c = some b → PySem.W.exmOne X.K (G.ev c) cv = some b) (hn : NmOk X nm h.sl) (hpv : ∀ i, h.sl = some i → z.pv[i]? = some none)
      (hsu : ∀ (ad : Addr) (oe : Obj) (cls : Value) (d : Option Addr) (pn : List (Addr × Obj)) (c : Str) (xx : Option (Str × D)), Zc cls d oe → (∃ vs, oe.data = .fields vs) → cls = G.ev c → (xx = none → d = none) → PSs (X.suite ad ((ad, oe) :: pn)) (b0 :: suite) (RS G (zAt z ad h.sl) WF (h.su c xx)))
      (r : TryOk X G z hds hs) : TryOk X G z (.ExceptHandler (some (.Name x np)) nm (b0 :: suite) pos' :: hds) (h :: hs)
theorem TryOk.cls {hds : List ExceptHandler} {hs : List Hd} (t : TryOk X G z hds hs) : ∃ l, ClsOk X hds l ∧ Paired (fun h cl => ∃ eh, HdOk X G z h eh cl) hs l := by
  induction t with
  | nil => exact ⟨[], .nil, .nil⟩
  | @cons x cv nm b0 suite np pos' hds h hs hc hmt hn hpv hsu r ih =>
    obtain ⟨l, h1, h2⟩ := ih
    refine ⟨(cv, h.sl, suTS G z h) :: l, .cons hc hn (fun ad oe cls d pn hz hf => ⟨fun pins s σ H D I ⟨c, xx, ec, xr, q⟩ => (hsu ad oe cls d pn c xx hz hf ec (fun q => by subst q; exact xr)).run pins s σ H D I q⟩) h1, .cons ⟨.ExceptHandler (some (.Name x np)) nm (b0 :: suite) pos', hmt, rfl, hpv, rfl⟩ h2⟩
theorem vs_try {body : List Stmt} {h0 : ExceptHandler} {hds : List ExceptHandler} {b : M Fl} {hs : List Hd} (hN : X.N.Nodup) (tk : Takes X W) (hb : ∀ (W : WX) (pn : List (Addr × Obj)) (xe : Value → Shared → Prop), Takes (X.tr pn xe) W → PassesOwn (model X.prog X.w) X.A X.env xe → PSs (X.tr pn xe) body (RS G z W b))
    (ht : TryOk X G z (h0 :: hds) hs) (h1 : X.stack = X.env :: X.outer := by rfl) (h2 : X.env.frame = some X.env.locals := by rfl) : PS X (.Try body (h0 :: hds) [] [] pos) (RS G z W (sTry b hs)) := by
  obtain ⟨l, hc, hp⟩ := ht.cls
  refine psImp (ps_try_cls (tb := fun W => RS G z W b) h1 h2 hN tk hb hc) fun D σ H h => ?_
  obtain ⟨I, env, FS, S, h⟩ := RS.to h
  refine RS.of S ?_
  unfold sTry at h
  cases e1 : b env with
  | none => rw [e1] at h; exact h
  | some r =>
    rw [e1] at h
    cases r with
    | ok f e2 => cases f <;> exact h
    | exc c x e2 => exact fun σ' dx I' H' FS' s' S' xr => try_ok (l := l) hp s' S' xr h
theorem OwnS.pinned {I H : Hp} {v : V} : ∀ {ps : List (Option V)} {σ : List (Option V)} {env : VEnv} {F : List Addr} {k : Nat}, OwnS G z I H ps σ env F → ps[k]? = some (some v) → σ[k]? = some (some v)
  | p :: ps, y :: ys, d :: ds, F, 0, ⟨F1, F2, e, h, r⟩, hk => by
    simp at hk
    subst hk
    have := h.1 v rfl
    simp [this]
  | p :: ps, y :: ys, d :: ds, F, k + 1, ⟨F1, F2, e, h, r⟩, hk => by
    have := OwnS.pinned (k := k) r (by simpa using hk)
    simpa using this
  | [], [], [], _, _, _, hk => by simp at hk
  | [], [], _ :: _, _, _, h, _ => h.elim
  | [], _ :: _, [], _, _, h, _ => h.elim
  | [], _ :: _, _ :: _, _, _, h, _ => h.elim
  | _ :: _, [], [], _, _, h, _ => h.elim
  | _ :: _, [], _ :: _, _, _, h, _ => h.elim
  | _ :: _, _ :: _, [], _, _, h, _ => h.elim
/-- isinstance(e, C) in a suite that holds e -/
def pIsE (tb : Str → Option Bool) (c : Str) (x : Option (Str × D)) : VEnv → Option D := fun _ => match x with
  | none => (tb c).map .bl
  | some _ => none
theorem vp_isE {ad : Addr} {oe : Obj} {cls : Value} {d : Option Addr} {pn : List (Addr × Obj)} {c : Str} {xx : Option (Str × D)} {tb : Str → Option Bool} {i : Nat} {cv : Value} {v : V} {n y : Str} {p p1 p2 : Pos} {z' : Zx} (hm : X.mg "isinstance" = none) (hv : RelV v cv) (hvv : ∀ u, RelV v u → u = cv) (hy : PE (X.suite ad ((ad, oe) :: pn)) (.Name y p2) (tC v))
    (hz : Zc cls d oe) (hd : xx = none → d = none) (hf : ∃ vs, oe.data = .fields vs) (hc : cls = G.ev c) (ht : ∀ b, tb c = some b → ∃ D, G.ev c = .ref D ∧ ExcC X.K D ∧ PySem.W.kitOne X.K (.ref D) cv = some b)
    (hn : PE (X.suite ad ((ad, oe) :: pn)) (.Name n p1) (tVar i)) (hpv : z'.pv[i]? = some (some (.ref ad))) (hgl : Gl X "isinstance" := by rfl)
    (hs : starEach [.Name n p1, .Name y p2] X.env = (false, eval (.Name n p1) X.env) :: starEach [.Name y p2] X.env := by rfl) (hs2 : starEach [.Name y p2] X.env = (false, eval (.Name y p2) X.env) :: starEach [] X.env := by rfl) (hpl : (backTo pos (starEach [.Name y p2] X.env)).any (·.1) = false := by rfl) :
    PE (X.suite ad ((ad, oe) :: pn)) (.Call (.Name "isinstance" p) [.Name n p1, .Name y p2] [] pos) (RP G z' (pIsE tb c xx)) := by
  refine ⟨fun pins s σ H Q I h => ?_⟩
  obtain ⟨I0, ts, dts, env, FT, FS, d0, S, e, q⟩ := h
  cases xx with
  | some _ => cases e
  | none =>
  obtain ⟨b, e1, e2⟩ := Option.map_eq_some_iff.mp e
  subst e2
  obtain ⟨D, hD, hE, hk⟩ := ht b e1
  have hd := hd rfl
  subst hd
  rw [hc, hD] at hz
  have pe := pe_callB (X := X.suite ad ((ad, oe) :: pn)) (call_isE hE hz hf) hgl hm (by decide +kernel) (pa_cons hn (pa_cons hy pa_nil hs2) hs) (by decide) (by decide) hs hpl (pos := pos) (p := p)
  refine pe.run pins s σ H Q I ?_
  have hσ : σ[i]? = some (some (.ref ad)) := by
    have := OwnS.pinned S.oS hpv
    exact this
  exact ⟨.ref ad, hσ, v, cv, b, rfl, hvv, hk, q _ [] ⟨rfl, rfl⟩⟩
end
/-- an own exception class without fields -/
structure ExK (G : Gx) (mg : Str → Option Value) (x : Str) (C : Addr) : Prop where
  ev : G.ev x = .ref C
  mg : mg x = some (.ref C)
  ex : PySem.W.excIn G.K C [.type "ValueError", .type "Exception", .type "BaseException", .type "object"] "ValueError.__new__" = true
  kp : PySem.W.keepIn G.K (.ref C) = true
  sb : PySem.W.subIn G.K (.ref C) (.type "BaseException") = some true
  ty : PySem.W.typeIn G.K (.ref C) = some (.type "type")
section
variable {X : Cx} {G : Gx} {z : Zx} {W : WX}
theorem vs_raiseC {x m : Str} {C : Addr} {j : Nat} {p p2 pos pos2 : Pos} (E : ExK G X.mg x C) (hc : X.calm = true) (tk : Takes X W) (hg : Gl X x := by rfl) (hK : X.K = G.K := by rfl) (hdb : (x == ("__debug__" : Str)) = false := by decide) :
    PS X (.Raise (some (.Call (.Name x p) [.Constant (.str m) j p2] [] pos)) none pos2) (RS G z W (sRaise x)) :=
  vs_raise x hc tk (pmk_own PySem.F.excBase_ValueError (by rw [hK]; exact E.ex) E.mg (by rw [hK]; exact E.kp) (raises_own (by rw [hK]; exact E.sb) (by rw [hK]; exact E.ty)) hg hdb) fun σ H Q h => by rw [← E.ev]; exact h
end
/-! tables of classes -/
theorem lk_nil {P : Str → Bool → Prop} : ∀ c b, List.lookup c ([] : List (Str × Bool)) = some b → P c b := fun c b h => by cases h
theorem lk_cons {P : Str → Bool → Prop} {k : Str} {v : Bool} {l : List (Str × Bool)} (h : P k v) (r : ∀ c b, List.lookup c l = some b → P c b) : ∀ c b, List.lookup c ((k, v) :: l) = some b → P c b := fun c b e => by
  rw [List.lookup_cons] at e
  by_cases q : c = k
  · subst q
    rw [beq_self_eq_true] at e
    cases e
    exact h
  · have q' : (c == k) = false := by simpa using q
    rw [q'] at e
    exact r c b e
/-- a def of the text, where the top has put it -/
structure DK (G : Gx) (mg : Str → Option Value) (x qual : Str) (st : Stmt) (ps : List Str) (f : Addr) (fd : FuncData) : Prop where
  fn : Fun G.K x qual st f fd
  mg : mg x = some (.ref f)
  bd : Binds G.K fd ps []
/-! ### the end: a law -/
def spLaw (K : PySem.W.Frag) : Sp := fun vs H Q _ => ∃ (a : Addr) (ns : List Int), vs = [.ref a] ∧ SqL K H a (ns.map V.int) ∧ ns.length ≤ 63 ∧ ∀ H', Q (.bl true) H'
def LawTrue (F : FN) : Prop := ∀ ns : List Int, ns.length ≤ 63 → F [.scr (ns.map .int)] = some (.ret (.bl true) [])
theorem reps_ints {G : Gx} {I : Hp} : ∀ ns : List Int, Reps G I (ns.map V.int) (ns.map D.int)
  | [] => trivial
  | n :: ns => ⟨rfl, reps_ints ns⟩
theorem lawOk {P : Program} {w : World} {G : Gx} {mg : Str → Option Value} {base : Heap} {k : Nat} {f : Addr} {fd : FuncData} {ps : List Str} {F : FN} (h : FnOk P w G.K mg base (L2.CX P w) k f fd ps (spOf G F [false])) (t : LawTrue F) : FnOk P w G.K mg base (L2.CX P w) k f fd ps (spLaw G.K) :=
  h.imp fun vs H Q E ⟨a, ns, ev, hs, hl, q⟩ => by
    subst ev
    refine ⟨H, [.scr (ns.map .int)], [], rfl, ⟨rfl, ⟨[], [], rfl, ⟨fun v e => (nomatch e), .ref a, rfl, ⟨rfl, a, ns.map V.int, rfl, hs, reps_ints ns⟩, fun _ b hb => nomatch hb⟩, rfl⟩, List.nodup_nil, Same.refl _, Same.refl _, (fun b o e n => by have n' : H b = none := n; rw [n'] at e; cases e), (fun b hb => nomatch hb), fun b o e _ => e, fun b o e => ⟨o, e⟩⟩, ?_⟩
    rw [t ns hl]
    refine ⟨[none], rfl, fun v I' H' FT' FS' s S => ?_⟩
    obtain ⟨F1, F2, _, o, _, _⟩ := S.pop
    rw [own_bl o]
    exact q H'
theorem walkLaw {l : PySem.W.OpenLaw} {q : Program} {loose : List Str} {XP : (Str → Option Value) → Heap → Prop} {YP : World → Heap → Prop} {d : DefRec} {K : Params → PySem.W.Frag} {k : Nat} (hn : l.most = some 63) (hdf : d.params.defaults = []) (hr : Room k callerA)
    (hY : ∀ (w : World) (h : Heap), YP w h → (K w.params).In h)
    (F : ∀ (w : World) (mg : Str → Option Value) (fa : Addr) (h : Heap), (K w.params).In h → h.Ns mainGlobals mg → mg d.name = some (.ref fa) →
      ∃ fd : FuncData, (∀ (s : Shared) (u : Value), BindsTo s fd ⟨[u], []⟩ [("script", u)]) ∧ ∀ base : Heap, (K w.params).In base → base.Ns mainGlobals mg → FnOk l.prog w (K w.params) mg base (L2.CX l.prog w) k fa fd ["script"] (spLaw (K w.params))) :
    PySem.W.WalkO q loose XP YP l.row.toRowW d [] (fun f vs => PySem.call f vs) :=
  L2.walk_of (n := 63) (k := k) (x := "script") (CX := fun w => L2.CX l.prog w) (sp := fun w => spLaw (K w.params)) hn (by decide) hdf hr hY F (fun _ _ a ns hl _ hS => ⟨a, ns, rfl, hS, hl, fun _ => rfl⟩) fun w H s e s' h => by
    obtain ⟨_, _, _, _, _, _, _, _, _, _, _, _, q⟩ := h
    exact q
end
section
set_option Elab.async false
set_option linter.all false
set_option maxRecDepth 100000
set_option maxHeartbeats 1000000
/-! ### fields stored: self.f = e -/
def putN (f : Str) (d : D) : List Str → List D → List Str × List D
  | n :: ns, x :: l => if n = f then (n :: ns, d :: l) else (n :: (putN f d ns l).1, x :: (putN f d ns l).2)
  | _, _ => ([f], [d])
def insAt (c : Str) (k : Nat) (e : VEnv) : Option (List Str × List D) := match e[k]? with
  | some (some (.ins true c' ns l)) => if c' = c ∧ ns.length = l.length then some (ns, l) else none
  | _ => none
theorem insAt_eq {c : Str} {k : Nat} {e : VEnv} {r : List Str × List D} (h : insAt c k e = some r) : e[k]? = some (some (.ins true c r.1 r.2)) ∧ r.1.length = r.2.length := by
  unfold insAt at h
  split at h
  · rename_i c' ns l e1
    split at h
    · rename_i q
      cases h
      obtain ⟨rfl, q⟩ := q
      exact ⟨e1, q⟩
    · cases h
  · cases h
def sFld (c f : Str) (k : Nat) (fe : M D) : M Fl := fe.bnd fun d e => (insAt c k e).bind fun r => if r.1.length < 1000 then some (.ok .nx (e.set k (some (.ins true c (putN f d r.1 r.2).1 (putN f d r.1 r.2).2)))) else none
section
variable {G : Gx} {z : Zx} {W : WX} {I H : Hp} {ts : List V} {dts : List D} {σ : L2.St} {env : VEnv} {FT FS : List Addr}
theorem putN_own {f : Str} {v : V} {d : D} {Fx : List Addr} (hx : Own G I H v d Fx) : ∀ {ns : List Str} {l : List D} {ws : List V} {F : List Addr}, ns.length = l.length → Owns G I H ws l F → (F ++ Fx).Nodup →
    ∃ ws' F', Owns G I H ws' (putN f d ns l).2 F' ∧ (putN f d ns l).1.zip ws' = putF f v (ns.zip ws) ∧ ws'.length = (putN f d ns l).1.length ∧ F'.Nodup ∧ ∀ b ∈ F', b ∈ F ++ Fx
  | [], [], [], F, _, h, nd => by
    have h : F = [] := h
    subst h
    exact ⟨[v], Fx, ⟨Fx, [], by simp, hx, rfl⟩, rfl, rfl, nd, fun b hb => hb⟩
  | n :: ns, x :: l, w :: ws, F, hn, ⟨F1, F2, e, h1, h2⟩, nd => by
    subst e
    have n1 := List.nodup_append.mp nd
    have n2 := List.nodup_append.mp n1.1
    by_cases hf : n = f
    · have e1 : putN f d (n :: ns) (x :: l) = (n :: ns, d :: l) := if_pos hf
      have hl := h2.len
      refine ⟨v :: ws, Fx ++ F2, ?_, ?_, ?_, ?_, fun b hb => ?_⟩
      · rw [e1]; exact ⟨Fx, F2, rfl, hx, h2⟩
      · rw [e1]
        show (n, v) :: ns.zip ws = if n = f then (n, v) :: ns.zip ws else _
        rw [if_pos hf]
      · rw [e1]
        simp only [List.length_cons] at hn ⊢
        omega
      · exact List.nodup_append.mpr ⟨n1.2.1, n2.2.1, fun b hb c hc e => n1.2.2 c (List.mem_append_right _ hc) b hb e.symm⟩
      · rcases List.mem_append.mp hb with q | q
        · exact List.mem_append_right _ q
        · exact List.mem_append_left _ (List.mem_append_right _ q)
    · have nd2 : (F2 ++ Fx).Nodup := by
        rw [List.append_assoc] at nd
        exact (List.nodup_append.mp nd).2.1
      obtain ⟨ws', F', o, ez, el, nF, sb⟩ := putN_own (f := f) hx (ns := ns) (l := l) (by simpa using hn) h2 nd2
      have e1 : putN f d (n :: ns) (x :: l) = (n :: (putN f d ns l).1, x :: (putN f d ns l).2) := if_neg hf
      refine ⟨w :: ws', F1 ++ F', ?_, ?_, ?_, ?_, fun b hb => ?_⟩
      · rw [e1]; exact ⟨F1, F', rfl, h1, o⟩
      · rw [e1]
        show (n, w) :: (putN f d ns l).1.zip ws' = if n = f then _ else (n, w) :: putF f v (ns.zip ws)
        rw [if_neg hf, ez]
      · rw [e1]
        simp only [List.length_cons, el]
      · refine List.nodup_append.mpr ⟨n2.1, nF, fun b hb c hc e => ?_⟩
        subst e
        rcases List.mem_append.mp (sb b hc) with q | q
        · exact n2.2.2 b hb b q rfl
        · exact n1.2.2 b (List.mem_append_left _ hb) b q rfl
      · rcases List.mem_append.mp hb with q | q
        · exact List.mem_append_left _ (List.mem_append_left _ q)
        · rcases List.mem_append.mp (sb b q) with u | u
          · exact List.mem_append_left _ (List.mem_append_right _ u)
          · exact List.mem_append_right _ u
  | [], _ :: _, _, _, hn, _, _ => by simp at hn
  | _ :: _, [], _, _, hn, _, _ => by simp at hn
  | [], [], _ :: _, _, _, h, _ => h.elim
  | _ :: _, _ :: _, [], _, _, h, _ => h.elim
theorem Stt.putFld {v : V} {d : D} {c f : Str} {ns : List Str} {l : List D} (S : Stt G z I H (v :: ts) (d :: dts) σ env FT FS) {k : Nat} (hk : env[k]? = some (some (.ins true c ns l))) (hn : ns.length = l.length) : ∃ a dx ws, σ[k]? = some (some (.ref a)) ∧ H a = some (.ins (G.cl c) dx (ns.zip ws)) ∧ ws.length = ns.length ∧ ∃ FT' FS', Stt G z I (upd H a (.ins (G.cl c) dx (putF f v (ns.zip ws)))) ts dts σ (env.set k (some (.ins true c (putN f d ns l).1 (putN f d ns l).2))) FT' FS' := by
  have nd := S.nd
  obtain ⟨F1, F2, e, o, f1, S1⟩ := S.pop
  subst e
  rw [List.append_assoc] at nd
  obtain ⟨a, F', h1, h2, iA, nda, inFS, h3⟩ := S1.setO hk rfl nd f1
  obtain ⟨a', dx, ws, F3, e1, e2, el, _, ow, e3⟩ := h2
  cases e1
  cases e3
  have nF := (List.nodup_cons.mp nda).2
  have nFx : (F' ++ F1).Nodup := List.nodup_append.mpr ⟨nF, (List.nodup_append.mp nd).1, fun b hb c hc e => by
    subst e
    exact nodup_disj nd b hc (List.mem_append_right _ (inFS b (List.mem_cons_of_mem _ hb)))⟩
  obtain ⟨ws', F'', ow', ez, el', nF'', sb⟩ := putN_own (f := f) o hn ow nFx
  refine ⟨a, dx, ws, h1, e2, el, F2, ?_⟩
  rw [← ez]
  exact h3 (.ins (G.cl c) dx ((putN f d ns l).1.zip ws')) (.ins true c (putN f d ns l).1 (putN f d ns l).2) F'' (fun H' hH kk => ⟨a, dx, ws', F'', rfl, hH, el', iA, ow'.cast fun b hb => kk b (sb b hb), rfl⟩) nF'' sb
end
section
variable {X : Cx} {G : Gx} {z : Zx} {W : WX} {e a o : Expr} {es : List Expr} {f : M D} {pos pos' : Pos} {ms : List Bool}
theorem vs_fld (c : Str) (k : Nat) {fn : Str} (hc : Cls G.K (G.cl c)) (hn : NoAttr G.K (G.cl c) fn) (ho : PE X o (tVar k)) (hv : PE X a (RE G z W f)) (hs : swapsWith a (some (.Attribute o fn pos')) pos.line X.env = pure false := by rfl) (hK : X.K = G.K := by rfl) : PS X (.Assign [.Attribute o fn pos'] a pos) (RS G z W (sFld c fn k f)) :=
  psImp (ps_fld ho hv hs) fun D σ H h => by
    obtain ⟨I, env, FS, S, h⟩ := RS.to h
    refine RE.of S (GE.bndS h fun d e h1 v I' H' FT' FS' s' S' => ?_)
    cases e1 : insAt c k e with
    | none => rw [e1] at h1; exact h1.elim
    | some r =>
      rw [e1] at h1
      replace h1 : GS G z W I D (if r.1.length < 1000 then some (.ok .nx (e.set k (some (.ins true c (putN fn d r.1 r.2).1 (putN fn d r.1 r.2).2)))) else none) := h1
      split at h1
      · rename_i hz
        obtain ⟨ek, el⟩ := insAt_eq e1
        obtain ⟨a0, dx, ws, q1, q2, q3, FT2, FS2, S2⟩ := S'.putFld (f := fn) ek el
        have e2 := S2.noT
        subst e2
        refine ⟨.ref a0, q1, a0, _, dx, _, rfl, q2, by rw [hK]; exact hc, by rw [hK]; exact hn, ?_, h1 σ I' _ FS2 s' S2⟩
        rw [List.length_zip]
        omega
      · exact h1.elim
end

/-! ### an instance made: C(e, ..) -/
def makeK (F : FN) (c : Str) (pm : List Bool) (e : VEnv) (ds : List D) : Option (Res D) := if pm = true :: List.replicate ds.length false then
    match F (.ins true c [] [] :: D.fzs ds) with
    | some (.ret .non [d]) => some (.ok d e)
    | some (.exc c' x [_]) => some (.exc c' x e)
    | _ => none
  else none
def vMake (F : FN) (c : Str) (pm : List Bool) (fs : M (List D)) : M D := fs.bnd fun ds e => makeK F c pm e ds
section
variable {G : Gx} {z : Zx} {W : WX} {I I' H H' : Hp} {ts : List V} {dts : List D} {σ : L2.St} {env : VEnv} {FT FS : List Addr}
theorem entryR : ∀ {vs : List V} {ds : List D}, Reps G I vs ds → OwnS G z I H (pvOf (List.replicate ds.length false) vs) (vs.map some) (ds.map some) []
  | [], [], _ => rfl
  | v :: vs, d :: ds, ⟨h, r⟩ => ⟨[], [], rfl, ⟨fun u hu => (nomatch hu), v, rfl, Rep.own _ _ h, fun _ b hb => nomatch hb⟩, entryR r⟩
  | [], _ :: _, h => h.elim
  | _ :: _, [], h => h.elim
theorem outE_rep : ∀ (n : Nat), outE (List.replicate n false) [] = some (List.replicate n none)
  | 0 => rfl
  | n + 1 => by
    show (outE (List.replicate n false) []).map (none :: ·) = _
    rw [outE_rep n]; rfl
theorem make_ok {F : FN} {ds : List D} {vs : List V} {Q : VK} {I0 : Hp} {c : Str} {pm : List Bool} {x dx : Addr} (s0 : Same I0 I) (S : Stt G z I H (vs ++ ts) (ds ++ dts) σ env FT FS) (n : vs.length = ds.length)
    (h : GE G z W I0 ts dts σ Q (makeK F c pm env ds)) (hx : H x = none) (hdx : H dx = none) (ne : dx ≠ x) :
    spOf G F pm (.ref x :: vs) (upd (upd H dx (.own x)) x (.ins (G.cl c) dx [])) (fun v H2 => v = .non ∧ Q (.ref x) H2) (WE W σ) := by
  obtain ⟨I1, FT1, s1, rp, S1⟩ := Stt.giveAll n S
  have hx2 : (upd H dx (.own x)) x = none := by rw [upd_ne (fun e => ne e.symm)]; exact hx
  have S2 := S1.newH hdx (.own x)
  obtain ⟨n0, nI, nF⟩ := S2.new hx2
  have S3 := S2.newH hx2 (.ins (G.cl c) dx [])
  unfold makeK at h
  split at h
  · rename_i hpm
    subst hpm
    have o0 : Own G I1 (upd (upd H dx (.own x)) x (.ins (G.cl c) dx [])) (.ref x) (.ins true c [] []) [x] := ⟨x, dx, [], [], rfl, upd_same, rfl, nI, rfl, rfl⟩
    have hent : Stt G ⟨upd (upd H dx (.own x)) x (.ins (G.cl c) dx []), I1, [x], pvOf (true :: List.replicate ds.length false) (.ref x :: vs)⟩ I1 (upd (upd H dx (.own x)) x (.ins (G.cl c) dx [])) [] [] ((V.ref x :: vs).map some) ((D.ins true c [] [] :: D.fzs ds).map some) [] [x] := by
      refine ⟨rfl, ⟨[x], [], rfl, ⟨fun u hu => by
        have : some (V.ref x) = some u := hu
        exact this, .ref x, rfl, o0, fun hp => by
        have : some (V.ref x) = none := hp
        cases this⟩, ?_⟩, by simp, S3.sub, Same.refl _, (fun b o e n => by have n' : I1 b = none := n; rw [n'] at e; cases e), (fun b hb => .inr hb), fun b o e _ => e, fun b o e => ⟨o, e⟩⟩
      have := entryR (z := ⟨upd (upd H dx (.own x)) x (.ins (G.cl c) dx []), I1, [x], pvOf (true :: List.replicate ds.length false) (.ref x :: vs)⟩) (H := upd (upd H dx (.own x)) x (.ins (G.cl c) dx [])) rp
      rw [show (D.fzs ds).length = ds.length by rw [D.fzs_map, List.length_map]] at this
      exact this
    refine ⟨I1, D.ins true c [] [] :: D.fzs ds, [x], by simp [D.fzs_map], hent, ?_⟩
    have hxN : ∀ b, b ∈ [x] → b ∉ FT1 ++ FS := fun b hb => by rw [List.mem_singleton.mp hb]; exact nF
    have hxL : ∀ b, b ∈ [x] → z.H0 b = none ∨ b ∈ z.L := fun b hb => by rw [List.mem_singleton.mp hb]; exact .inl n0
    cases ef : F (D.ins true c [] [] :: D.fzs ds) with
    | none => rw [ef] at h; exact h.elim
    | some r =>
      rw [ef] at h
      cases r with
      | ret d outs =>
        cases d with
        | non =>
          match outs, h with
          | [d1], h =>
            refine ⟨some d1 :: List.replicate ds.length none, ?_, fun v I' H' FT' FS' s' S' => ?_⟩
            · show (outE (List.replicate ds.length false) []).map (some d1 :: ·) = _
              rw [outE_rep]; rfl
            · obtain ⟨Fv, F2, eF, ov, fv, S4⟩ := S'.pop
              refine ⟨ov.2, ?_⟩
              obtain ⟨F3, F4, q, hh, _⟩ := S4.oS
              obtain ⟨hp1, v1, hv1, o1, _⟩ := hh
              have ev : v1 = .ref x := by
                have : some (V.ref x) = some v1 := hv1
                exact (Option.some.inj this).symm
              subst ev
              have nd4 : F3.Nodup := by
                have := (List.nodup_append.mp S4.nd).2.1
                rw [q] at this
                exact (List.nodup_append.mp this).1
              have fs3 : ∀ b ∈ F3, (upd (upd H dx (.own x)) x (.ins (G.cl c) dx [])) b = none ∨ b ∈ [x] := fun b hb => S4.fS b (by rw [q]; exact List.mem_append_left _ hb)
              have S5 := S3.after (.of s' S') hxN hxL
              have S6 := S5.push (F := F3) o1 (fun b hb => (fs3 b hb).elim (fun u => (fresh_of S3 u).1) (fun u => by rw [List.mem_singleton.mp u]; exact n0)) (List.nodup_append.mpr ⟨nd4, S3.nd, fun b hb c hc e => by
                subst e
                rcases fs3 b hb with u | u
                · exact (fresh_of S3 u).2 hc
                · exact hxN b u hc⟩)
              exact h (.ref x) I' H' _ _ ((s0.trans s1).trans s') S6
          | [], h => exact h.elim
          | _ :: _ :: _, h => exact h.elim
        | _ => exact h.elim
      | exc c' xx outs =>
        match outs, h with
        | [d1], h =>
          refine ⟨some d1 :: List.replicate ds.length none, ?_, fun dx' I' H' FS' s' S' xr => ?_⟩
          · show (outE (List.replicate ds.length false) []).map (some d1 :: ·) = _
            rw [outE_rep]; rfl
          · exact h dx' I' H' _ ((s0.trans s1).trans s') (S3.noTemps.after (.of (show Same I1 I' from S'.i0) S') (fun b hb => fun m => hxN b hb (List.mem_append_right _ (by simpa using m))) hxL) xr
        | [], h => exact h.elim
        | _ :: _ :: _, h => exact h.elim
  · exact h.elim
end
section
variable {X : Cx} {k : Nat} {f C : Addr} {fd : FuncData} {ps : List Str} {sp : Sp} {E : L2.St → XK} {x : Str} {p pos : Pos} {e : Expr} {es : List Expr} {t : TA}
def tMakeS (C : Addr) (sp : Sp) (E : L2.St → XK) (t : TA) : TE := fun σ H Q => t σ H fun vs H1 => ∀ x dx, H1 x = none → H1 dx = none → dx ≠ x → sp (.ref x :: vs) (upd (upd H1 dx (.own x)) x (.ins C dx [])) (fun v H2 => v = .non ∧ Q (.ref x) H2) (E σ)
theorem pe_makeS (M : Mk X.K C f) (F : FnOk X.prog X.w X.K X.mg X.base (L2.CX X.prog X.w) k f fd ps sp) (hr : Room (k + 1) X.A) (hg : Gl X x) (hm : X.mg x = some (.ref C)) (hb : Binds X.K fd ps []) (hx : ∀ σ, PassesAt (L2.CX X.prog X.w) X σ (E σ))
    (ha : PA X (e :: es) t) (hdb : (x == ("__debug__" : Str)) = false := by decide) (he : starEach (e :: es) X.env = (false, eval e X.env) :: starEach es X.env := by rfl) (hpl : (backTo pos (starEach es X.env)).any (·.1) = false := by rfl) :
    PE X (.Call (.Name x p) (e :: es) [] pos) (tMakeS C sp E t) := by
  refine ⟨fun pins s σ H Q I h => ?_⟩
  refine wpAny_Call_Name_kw (ld_glob I hg hm ?_ hdb)
  refine PySem.W.callWith_K (h₀ := X.base) I.ok.mod.kin M.kp (thn (ha.run pos pins s σ H _ I h) fun us s1 ⟨vs, H1, I1, r, q⟩ => ⟨I1.kIn, ?_⟩) he hpl
  have hq := q (s1.heap.objs.size + 1) s1.heap.objs.size (I1.hok.fresh (Nat.le_succ _)) (I1.hok.fresh (Nat.le_refl _)) (Nat.ne_of_lt (Nat.lt_succ_self _))
  have I2 := Inv.made (C := C) I1
  have r2 : Vals (V.ref (s1.heap.objs.size + 1) :: vs) (Value.ref (s1.heap.objs.size + 1) :: us) := .cons rfl r
  have hl : (Value.ref (s1.heap.objs.size + 1) :: us).length = ps.length := r2.length.symm.trans (F.len _ _ _ _ hq)
  have hb2 := hb { s1 with heap := (s1.heap.push PySem.W.emptyDict).push (PySem.W.instObj C s1.heap.objs.size) } (Value.ref (s1.heap.objs.size + 1) :: us) I2.kIn (by rw [List.append_nil]; exact hl)
  rw [List.append_nil] at hb2
  refine wpAny_call (make_map (f := f) I1.kIn M.makes M.init (beq_iff_eq.mp M.fn) (codeAny_mono (F.run _ X.stack _ _ ⟨Value.ref (s1.heap.objs.size + 1) :: us, []⟩ _ _ _ (E σ) (hr.make C us []) (I2.env0.make C us []) hb2 r2 hq) fun r s' hq' => ?_))
  cases r with
  | error e => exact hx σ pins _ _ e s' I2 hq'
  | ok fl =>
    cases fl with
    | ret u =>
      obtain ⟨v, H', I3, rv, ev, q3⟩ := I2.after hq'
      subst ev
      exact ⟨rv, ⟨V.ref (s1.heap.objs.size + 1), H', I3, rfl, q3⟩⟩
    | next => exact hq'.elim
    | brk => exact hq'.elim
    | cont => exact hq'.elim
end
section
variable {X : Cx} {G : Gx} {z : Zx} {W : WX} {e : Expr} {es : List Expr} {pos : Pos} {fs : M (List D)} {ms : List Bool}
theorem ve_make {F : FN} {fa : Addr} {fd : FuncData} {ps : List Str} {k : Nat} {x c : Str} {p : Pos} {pm : List Bool} (M : Mk X.K (G.cl c) fa) (FO : FnOk X.prog X.w X.K X.mg X.base (L2.CX X.prog X.w) k fa fd ps (spOf G F pm)) (hr : Room (k + 1) X.A) (hm : X.mg x = some (.ref (G.cl c))) (hb : Binds X.K fd ps []) (tk : Takes X W)
    (ha : PA X (e :: es) (RA G z W fs)) (hg : Gl X x := by rfl) (hdb : (x == ("__debug__" : Str)) = false := by decide) (he : starEach (e :: es) X.env = (false, eval e X.env) :: starEach es X.env := by rfl) (hpl : (backTo pos (starEach es X.env)).any (·.1) = false := by rfl) :
    PE X (.Call (.Name x p) (e :: es) [] pos) (RE G z W (vMake F c pm fs)) := peImp (pe_makeS M FO hr hg hm hb (fun σ => passAt tk σ) ha hdb he hpl) fun σ H Q h => by
  obtain ⟨I, ts, dts, env, FT, FS, S, h⟩ := RE.to h
  refine RA.of S (GA.bnd (g := GE G z W I ts dts σ Q) (Same.refl _) h (fun c x e h => h) (fun h => h) fun ds e1 h1 vs I1 H1 FT1 FS1 s1 S1 n => ?_)
  exact fun x dx hx hdx ne => make_ok s1 S1 n h1 hx hdx ne
end
/-- a method -/
structure DM (G : Gx) (x qual : Str) (st : Stmt) (ps : List Str) (f : Addr) (fd : FuncData) : Prop where
  fn : Fun G.K x qual st f fd
  bd : Binds G.K fd ps []
/-! ### a op b op' c, e is None -/
def pCh (g g' : D → D → Option D) (pa pb pc : VEnv → Option D) : VEnv → Option D := fun e => (pa e).bind fun x => (pb e).bind fun y => ((g x y).bind asBl).bind fun k => if k = true then (pc e).bind fun w => g' y w else some (.bl false)
section
variable {X : Cx} {G : Gx} {z : Zx} {W : WX} {a b c : Expr} {pa pb pc : VEnv → Option D} {fa : M D} {pos : Pos}
theorem rp_chain {r r' : R2} {g g' : D → D → Option D} (hg : G2 G r g) (hg' : G2 G r' g') {σ H Q} (h : RP G z (pCh g g' pa pb pc) σ H Q) : tChain r r' (RP G z pa) (RP G z pb) (RP G z pc) σ H Q := by
  obtain ⟨I, ts, dts, env, FT, FS, d, S, e, q⟩ := h
  obtain ⟨x, ex, e⟩ := Option.bind_eq_some_iff.mp e
  obtain ⟨y, ey, e⟩ := Option.bind_eq_some_iff.mp e
  obtain ⟨k, ek, e⟩ := Option.bind_eq_some_iff.mp e
  obtain ⟨d1, eg, eb⟩ := Option.bind_eq_some_iff.mp ek
  refine ⟨I, ts, dts, env, FT, FS, x, S, ex, fun u F1 o1 => ⟨I, ts, dts, env, FT, FS, y, S, ey, fun v F2 o2 => hg I H u v x y d1 F1 F2 _ S.sub o1 o2 eg fun w F o => ?_⟩⟩
  cases asBl_eq eb
  refine ⟨k, own_bl o, ?_⟩
  cases k with
  | false =>
    rw [if_neg (fun h => nomatch h)] at e ⊢
    cases e
    exact q _ [] ⟨rfl, rfl⟩
  | true =>
    rw [if_pos rfl] at e ⊢
    obtain ⟨w', ew, e⟩ := Option.bind_eq_some_iff.mp e
    exact ⟨I, ts, dts, env, FT, FS, w', S, ew, fun t F3 o3 => hg' I H v t y w' d F2 F3 _ S.sub o2 o3 e q⟩
theorem vp_chain {op op' : CmpOp} {r r' : R2} {g g' : D → D → Option D} (ho : OpR X (compareOp op) r) (hg : G2 G r g) (ho' : OpR X (compareOp op') r') (hg' : G2 G r' g') (ha : PE X a (RP G z pa)) (hb : PE X b (RP G z pb)) (hc : PE X c (RP G z pc))
    (hm : lastMarks [op, op'] [b, c] = false) : PE X (.Compare a [op, op'] [b, c] pos) (RP G z (pCh g g' pa pb pc)) :=
  peImp (pe_chain ho ho' ha hb hc hm) fun σ H Q h => rp_chain hg hg' h
theorem vt_chain {op op' : CmpOp} {r r' : R2} {g g' : D → D → Option D} (ho : OpR X (compareOp op) r) (hg : G2 G r g) (ho' : OpR X (compareOp op') r') (hg' : G2 G r' g') (ha : PE X a (RP G z pa)) (hb : PE X b (RP G z pb)) (hc : PE X c (RP G z pc))
    (hm : lastMarks [op, op'] [b, c] = false) : PT X (.Compare a [op, op'] [b, c] pos) (RT G z W (tP (pCh g g' pa pb pc))) :=
  ptImp (pt_chain ho ho' ha hb hc hm) fun σ H Q h => rp_chain hg hg' (tB_p h)
abbrev gLt := gIB fun i j => decide (i < j)
abbrev gLe := gIB fun i j => decide (i ≤ j)
abbrev gGt := gIB fun i j => decide (j < i)
abbrev gGe := gIB fun i j => decide (j ≤ i)
theorem vp_chLeLt (ha : PE X a (RP G z pa)) (hb : PE X b (RP G z pb)) (hc : PE X c (RP G z pc)) (hm : lastMarks [.LtE, .Lt] [b, c] = false := by rfl) : PE X (.Compare a [.LtE, .Lt] [b, c] pos) (RP G z (pCh gLe gLt pa pb pc)) :=
  vp_chain op_le (G2.ofIB fun i j H Q q => ⟨i, j, rfl, rfl, q⟩) op_lt (G2.ofIB fun i j H Q q => ⟨i, j, rfl, rfl, q⟩) ha hb hc hm
theorem vp_chLeLe (ha : PE X a (RP G z pa)) (hb : PE X b (RP G z pb)) (hc : PE X c (RP G z pc)) (hm : lastMarks [.LtE, .LtE] [b, c] = false := by rfl) : PE X (.Compare a [.LtE, .LtE] [b, c] pos) (RP G z (pCh gLe gLe pa pb pc)) :=
  vp_chain op_le (G2.ofIB fun i j H Q q => ⟨i, j, rfl, rfl, q⟩) op_le (G2.ofIB fun i j H Q q => ⟨i, j, rfl, rfl, q⟩) ha hb hc hm
theorem vp_chLtLt (ha : PE X a (RP G z pa)) (hb : PE X b (RP G z pb)) (hc : PE X c (RP G z pc)) (hm : lastMarks [.Lt, .Lt] [b, c] = false := by rfl) : PE X (.Compare a [.Lt, .Lt] [b, c] pos) (RP G z (pCh gLt gLt pa pb pc)) :=
  vp_chain op_lt (G2.ofIB fun i j H Q q => ⟨i, j, rfl, rfl, q⟩) op_lt (G2.ofIB fun i j H Q q => ⟨i, j, rfl, rfl, q⟩) ha hb hc hm
theorem vp_chLtLe (ha : PE X a (RP G z pa)) (hb : PE X b (RP G z pb)) (hc : PE X c (RP G z pc)) (hm : lastMarks [.Lt, .LtE] [b, c] = false := by rfl) : PE X (.Compare a [.Lt, .LtE] [b, c] pos) (RP G z (pCh gLt gLe pa pb pc)) :=
  vp_chain op_lt (G2.ofIB fun i j H Q q => ⟨i, j, rfl, rfl, q⟩) op_le (G2.ofIB fun i j H Q q => ⟨i, j, rfl, rfl, q⟩) ha hb hc hm
theorem vt_chLeLt (ha : PE X a (RP G z pa)) (hb : PE X b (RP G z pb)) (hc : PE X c (RP G z pc)) (hm : lastMarks [.LtE, .Lt] [b, c] = false := by rfl) : PT X (.Compare a [.LtE, .Lt] [b, c] pos) (RT G z W (tP (pCh gLe gLt pa pb pc))) :=
  vt_chain op_le (G2.ofIB fun i j H Q q => ⟨i, j, rfl, rfl, q⟩) op_lt (G2.ofIB fun i j H Q q => ⟨i, j, rfl, rfl, q⟩) ha hb hc hm
theorem vt_chLeLe (ha : PE X a (RP G z pa)) (hb : PE X b (RP G z pb)) (hc : PE X c (RP G z pc)) (hm : lastMarks [.LtE, .LtE] [b, c] = false := by rfl) : PT X (.Compare a [.LtE, .LtE] [b, c] pos) (RT G z W (tP (pCh gLe gLe pa pb pc))) :=
  vt_chain op_le (G2.ofIB fun i j H Q q => ⟨i, j, rfl, rfl, q⟩) op_le (G2.ofIB fun i j H Q q => ⟨i, j, rfl, rfl, q⟩) ha hb hc hm
theorem vt_chLtLt (ha : PE X a (RP G z pa)) (hb : PE X b (RP G z pb)) (hc : PE X c (RP G z pc)) (hm : lastMarks [.Lt, .Lt] [b, c] = false := by rfl) : PT X (.Compare a [.Lt, .Lt] [b, c] pos) (RT G z W (tP (pCh gLt gLt pa pb pc))) :=
  vt_chain op_lt (G2.ofIB fun i j H Q q => ⟨i, j, rfl, rfl, q⟩) op_lt (G2.ofIB fun i j H Q q => ⟨i, j, rfl, rfl, q⟩) ha hb hc hm
theorem vt_chLtLe (ha : PE X a (RP G z pa)) (hb : PE X b (RP G z pb)) (hc : PE X c (RP G z pc)) (hm : lastMarks [.Lt, .LtE] [b, c] = false := by rfl) : PT X (.Compare a [.Lt, .LtE] [b, c] pos) (RT G z W (tP (pCh gLt gLe pa pb pc))) :=
  vt_chain op_lt (G2.ofIB fun i j H Q q => ⟨i, j, rfl, rfl, q⟩) op_le (G2.ofIB fun i j H Q q => ⟨i, j, rfl, rfl, q⟩) ha hb hc hm
def gIsN : D → Option D := fun d => some (.bl (isNon d))
def gNotN : D → Option D := fun d => some (.bl (!isNon d))
theorem ve_isN {j pos'} (ha : PE X a (RE G z W fa)) : PE X (.Compare a [.Is] [.Constant .none j pos'] pos) (RE G z W (vOp1 gIsN fa)) := peImp (pe_cmpR op_isN ha pe_non (nomark _)) fun σ H Q h => by
  obtain ⟨I, ts, dts, env, FT, FS, S, h⟩ := RE.to h
  refine RE.of S (GE.bnd (g := GE G z W I ts dts σ Q) (Same.refl _) h (fun c x e h => h) (fun h => h) fun d1 e1 h1 u I1 H1 FT1 FS1 s1 S1 => ?_)
  obtain ⟨d, e3, hq⟩ := GE.optGo h1
  cases e3
  obtain ⟨Fu, FT4, eu, ou, fu, S4⟩ := S1.pop
  refine ⟨rfl, ?_⟩
  rw [own_non ou]
  exact hq _ I1 H1 FT4 FS1 s1 (S4.pushR rfl)
theorem ve_notN {j pos'} (ha : PE X a (RE G z W fa)) : PE X (.Compare a [.IsNot] [.Constant .none j pos'] pos) (RE G z W (vOp1 gNotN fa)) := peImp (pe_cmpR op_notN ha pe_non (nomark _)) fun σ H Q h => by
  obtain ⟨I, ts, dts, env, FT, FS, S, h⟩ := RE.to h
  refine RE.of S (GE.bnd (g := GE G z W I ts dts σ Q) (Same.refl _) h (fun c x e h => h) (fun h => h) fun d1 e1 h1 u I1 H1 FT1 FS1 s1 S1 => ?_)
  obtain ⟨d, e3, hq⟩ := GE.optGo h1
  cases e3
  obtain ⟨Fu, FT4, eu, ou, fu, S4⟩ := S1.pop
  refine ⟨rfl, ?_⟩
  rw [own_non ou]
  exact hq _ I1 H1 FT4 FS1 s1 (S4.pushR rfl)
end
end
section
set_option Elab.async false
set_option linter.all false
set_option maxRecDepth 100000
set_option maxHeartbeats 1000000
/-! ### math.lcm -/
def fLcm (i j : Int) : Option Int := if i.natAbs < 2 ^ 64 ∧ j.natAbs < 2 ^ 64 then some ((Nat.lcm i.natAbs j.natAbs : Nat) : Int) else none
abbrev pLcm := p2 (gI fLcm)
def rLcm : List V → Hp → VK → Prop := fun vs H Q => ∃ a b : Int, vs = [.int a, .int b] ∧ a.natAbs < 2 ^ 64 ∧ b.natAbs < 2 ^ 64 ∧ Q (.int ((Nat.lcm a.natAbs b.natAbs : Nat) : Int)) H
section
variable {X : Cx} {G : Gx} {z : Zx} {e a b : Expr} {pa pb : VEnv → Option D} {pos : Pos}
theorem cr_lcm : CallR X (.builtin "math.lcm") rLcm := by
  intro pins s σ H vs us Q I r h
  obtain ⟨a, b, rfl, ha, hb, q⟩ := h
  obtain ⟨t, u, rfl⟩ := Vals.int2 r
  exact PySem.W.mc_lcm ha hb fun _ => ⟨.int _, H, I.tok _, ⟨_, rfl⟩, q⟩
theorem vp_lcm {p : Pos} (hm : X.mg "lcm" = some (.builtin "math.lcm")) (ha : PE X a (RP G z pa)) (hb : PE X b (RP G z pb)) (hgl : Gl X "lcm" := by rfl)
    (hs : starEach [a, b] X.env = (false, eval a X.env) :: starEach [b] X.env := by rfl) (hs2 : starEach [b] X.env = (false, eval b X.env) :: starEach [] X.env := by rfl) (hpl : (backTo pos (starEach [b] X.env)).any (·.1) = false := by rfl) : PE X (.Call (.Name "lcm" p) [a, b] [] pos) (RP G z (pLcm pa pb)) :=
  peImp (pe_callBfun cr_lcm hgl hm (pa_cons ha (pa_cons hb pa_nil hs2) hs) (by decide) hs hpl) fun _ _ _ h => rpl2 (g := gI fLcm) (fun I H u v d1 d2 d F1 F2 Q s o1 o2 e q => by
    obtain ⟨i, e1, e4⟩ := Option.bind_eq_some_iff.mp e
    obtain ⟨j, e2, e5⟩ := Option.bind_eq_some_iff.mp e4
    obtain ⟨k, e6, e7⟩ := Option.map_eq_some_iff.mp e5
    cases asInt_eq e1; cases asInt_eq e2
    cases own_int o1; cases own_int o2
    subst e7
    unfold fLcm at e6
    split at e6
    · rename_i c
      cases e6
      exact ⟨i, j, rfl, c.1, c.2, q _ [] ⟨rfl, rfl⟩⟩
    · cases e6) h
end

/-! ### max, min, sum of a list of numbers -/
def asInts : List D → Option (List Int)
  | [] => some []
  | d :: l => (asInt d).bind fun i => (asInts l).map (i :: ·)
def asIntL : D → Option (List Int)
  | .lst _ l => asInts l
  | .scr l => asInts l
  | _ => none
def maxI : List Int → Int
  | [] => 0
  | [i] => i
  | i :: l => if maxI l > i then maxI l else i
def minI : List Int → Int
  | [] => 0
  | [i] => i
  | i :: l => if minI l < i then minI l else i
theorem maxI_spec : ∀ {l : List Int}, l ≠ [] → maxI l ∈ l ∧ ∀ x ∈ l, x ≤ maxI l
  | [i], _ => ⟨by simp [maxI], fun x hx => by rw [List.mem_singleton.mp hx]; exact Int.le_refl _⟩
  | i :: j :: l, _ => by
    obtain ⟨h1, h2⟩ := maxI_spec (l := j :: l) (by simp)
    show (if maxI (j :: l) > i then maxI (j :: l) else i) ∈ _ ∧ ∀ x ∈ i :: j :: l, x ≤ (if maxI (j :: l) > i then maxI (j :: l) else i)
    constructor
    · split
      · exact List.mem_cons_of_mem _ h1
      · exact List.mem_cons_self
    · intro x hx
      rcases List.mem_cons.mp hx with h | h
      · subst h; split <;> omega
      · have := h2 x h; split <;> omega
theorem minI_spec : ∀ {l : List Int}, l ≠ [] → minI l ∈ l ∧ ∀ x ∈ l, minI l ≤ x
  | [i], _ => ⟨by simp [minI], fun x hx => by rw [List.mem_singleton.mp hx]; exact Int.le_refl _⟩
  | i :: j :: l, _ => by
    obtain ⟨h1, h2⟩ := minI_spec (l := j :: l) (by simp)
    show (if minI (j :: l) < i then minI (j :: l) else i) ∈ _ ∧ ∀ x ∈ i :: j :: l, (if minI (j :: l) < i then minI (j :: l) else i) ≤ x
    constructor
    · split
      · exact List.mem_cons_of_mem _ h1
      · exact List.mem_cons_self
    · intro x hx
      rcases List.mem_cons.mp hx with h | h
      · subst h; split <;> omega
      · have := h2 x h; split <;> omega
def gMaxL : D → Option D := fun d => (asIntL d).bind fun ns => if ns.isEmpty then none else some (.int (maxI ns))
def gMinL : D → Option D := fun d => (asIntL d).bind fun ns => if ns.isEmpty then none else some (.int (minI ns))
def gSumL : D → Option D := fun d => (asIntL d).map fun ns => .int ns.sum
abbrev pMaxL := p1 gMaxL
abbrev pMinL := p1 gMinL
abbrev pSumL := p1 gSumL
section
variable {X : Cx} {G : Gx} {z : Zx} {W : WX} {e a b o : Expr} {es : List Expr} {pa pb : VEnv → Option D} {pos apos pos' : Pos} {I H : Hp} {v : V} {d : D} {F : List Addr}
theorem owns_ints : ∀ {l : List D} {ws : List V} {ns : List Int} {F : List Addr}, Owns G I H ws l F → asInts l = some ns → ws = ns.map V.int
  | [], [], ns, _, _, e => by cases e; rfl
  | d :: l, w :: ws, ns, _, ⟨F1, F2, _, h, r⟩, e => by
    obtain ⟨i, e1, e2⟩ := Option.bind_eq_some_iff.mp (show (asInt d).bind (fun i => (asInts l).map (i :: ·)) = some ns from e)
    obtain ⟨ns', e3, e4⟩ := Option.map_eq_some_iff.mp e2
    subst e4
    cases asInt_eq e1
    rw [List.map_cons, owns_ints r e3, own_int h]
  | [], _ :: _, _, _, h, _ => h.elim
  | _ :: _, [], _, _, h, _ => h.elim
theorem own_intL {ns : List Int} (s : Same I H) (h : Own G I H v d F) (e : asIntL d = some ns) : ∃ a, v = .ref a ∧ SqL G.K H a (ns.map V.int) := by
  cases d with
  | lst m l =>
    cases m with
    | true =>
      obtain ⟨a, ws, F', ev, h1, _, ow, _⟩ := h
      rw [← owns_ints ow e]
      exact ⟨a, ev, SqL.of h1⟩
    | false =>
      obtain ⟨_, _, a, ws, ev, h1, r⟩ := h
      rw [← owns_ints (H := H) (Reps.owns r) e]
      exact ⟨a, ev, SqL.of (s _ _ h1)⟩
  | scr l =>
    obtain ⟨_, a, ws, ev, h1, r⟩ := h
    rw [← owns_ints (H := H) (Reps.owns r) e]
    exact ⟨a, ev, Same.seq s h1⟩
  | _ => cases e
theorem vp_maxL {p : Pos} (hc : X.calm = true) (hm : X.mg "max" = none) (ha : PE X a (RP G z pa)) (hgl : Gl X "max" := by rfl) (hK : X.K = G.K := by rfl)
    (hs : starEach [a] X.env = (false, eval a X.env) :: starEach [] X.env := by rfl) (hpl : (backTo pos (starEach [] X.env)).any (·.1) = false := by rfl) : PE X (.Call (.Name "max" p) [a] [] pos) (RP G z (pMaxL pa)) :=
  vp_call1 (cr_max hc) (by
    rw [hK]
    intro I H u d1 d F1 Q s o1 e q
    obtain ⟨ns, e1, e2⟩ := Option.bind_eq_some_iff.mp e
    split at e2
    · cases e2
    rename_i hn
    cases e2
    obtain ⟨a, ev, sl⟩ := own_intL s o1 e1
    have hn : ns ≠ [] := fun h => hn (by rw [h]; rfl)
    refine ⟨a, ns, by rw [ev], sl, List.length_pos_iff.mpr hn, fun m h1 h2 => ?_⟩
    obtain ⟨g1, g2⟩ := maxI_spec hn
    rw [Int.le_antisymm (g2 m h1) (h2 _ g1)]
    exact q _ [] ⟨rfl, rfl⟩) hm (by decide +kernel) ha hgl (by decide) (by decide) hs hpl
theorem vp_minL {p : Pos} (hc : X.calm = true) (hm : X.mg "min" = none) (ha : PE X a (RP G z pa)) (hgl : Gl X "min" := by rfl) (hK : X.K = G.K := by rfl)
    (hs : starEach [a] X.env = (false, eval a X.env) :: starEach [] X.env := by rfl) (hpl : (backTo pos (starEach [] X.env)).any (·.1) = false := by rfl) : PE X (.Call (.Name "min" p) [a] [] pos) (RP G z (pMinL pa)) :=
  vp_call1 (cr_min hc) (by
    rw [hK]
    intro I H u d1 d F1 Q s o1 e q
    obtain ⟨ns, e1, e2⟩ := Option.bind_eq_some_iff.mp e
    split at e2
    · cases e2
    rename_i hn
    cases e2
    obtain ⟨a, ev, sl⟩ := own_intL s o1 e1
    have hn : ns ≠ [] := fun h => hn (by rw [h]; rfl)
    refine ⟨a, ns, by rw [ev], sl, List.length_pos_iff.mpr hn, fun m h1 h2 => ?_⟩
    obtain ⟨g1, g2⟩ := minI_spec hn
    rw [Int.le_antisymm (h2 _ g1) (g2 m h1)]
    exact q _ [] ⟨rfl, rfl⟩) hm (by decide +kernel) ha hgl (by decide) (by decide) hs hpl
theorem vp_sumL {p : Pos} (hc : X.calm = true) (hm : X.mg "sum" = none) (ha : PE X a (RP G z pa)) (hgl : Gl X "sum" := by rfl) (hK : X.K = G.K := by rfl)
    (hs : starEach [a] X.env = (false, eval a X.env) :: starEach [] X.env := by rfl) (hpl : (backTo pos (starEach [] X.env)).any (·.1) = false := by rfl) : PE X (.Call (.Name "sum" p) [a] [] pos) (RP G z (pSumL pa)) :=
  vp_call1 (cr_sum hc) (by
    rw [hK]
    intro I H u d1 d F1 Q s o1 e q
    obtain ⟨ns, e1, e2⟩ := Option.map_eq_some_iff.mp e
    subst e2
    obtain ⟨a, ev, sl⟩ := own_intL s o1 e1
    exact ⟨a, ns, by rw [ev], sl, q _ [] ⟨rfl, rfl⟩⟩) hm (by decide +kernel) ha hgl (by decide) (by decide) hs hpl
end

/-! ### dicts made and stored -/
def vDk : M D := M.ret (.dk true [] [])
def vDt : M D := M.ret (.dt true [] [])
def putD {κ α : Type} [DecidableEq κ] (ks : List κ) (l : List α) (k : κ) (d : α) : List κ × List α := if (ks.any fun x => decide (x = k)) = true then (ks, List.zipWith (fun x y => if x = k then d else y) ks l) else (ks ++ [k], l ++ [d])
theorem putD_len {κ α : Type} [DecidableEq κ] {ks : List κ} {l : List α} {k : κ} {d : α} (h : l.length = ks.length) : (putD ks l k d).2.length = (putD ks l k d).1.length := by
  unfold putD
  split
  · simp [h]
  · simp [h]
theorem putK_zip {κ : Type} [DecidableEq κ] {ks : List κ} {ws : List V} {k : κ} {v : V} (h : ws.length = ks.length) : putK (ks.zip ws) k v = (putD ks ws k v).1.zip (putD ks ws k v).2 := by
  have e1 : ((ks.zip ws).any fun kv => decide (kv.1 = k)) = ks.any fun x => decide (x = k) := by
    have : (ks.zip ws).map Prod.fst = ks := List.map_fst_zip (by omega)
    conv => rhs; rw [← this, List.any_map]
    rfl
  unfold putK putD
  rw [e1]
  by_cases c : (ks.any fun x => decide (x = k)) = true
  · rw [if_pos c, if_pos c]
    clear c e1
    show (ks.zip ws).map _ = ks.zip (List.zipWith _ ks ws)
    induction ks generalizing ws with
    | nil => rfl
    | cons x ks ih =>
      cases ws with
      | nil => simp at h
      | cons w ws =>
        rw [List.zip_cons_cons, List.map_cons, List.zipWith_cons_cons, List.zip_cons_cons, ih (by simpa using h)]
        congr 1
        by_cases c : x = k
        · rw [if_pos c, if_pos c]
        · rw [if_neg c, if_neg c]
  · rw [if_neg c, if_neg c]
    show ks.zip ws ++ [(k, v)] = (ks ++ [k]).zip (ws ++ [v])
    rw [List.zip_append h.symm]
    rfl
theorem reps_zw {κ : Type} [DecidableEq κ] {G : Gx} {I : Hp} {k : κ} {v : V} {d : D} (hv : Rep G I v d) : ∀ {ks : List κ} {ws : List V} {l : List D}, Reps G I ws l → Reps G I (List.zipWith (fun x y => if x = k then v else y) ks ws) (List.zipWith (fun x y => if x = k then d else y) ks l)
  | [], ws, l, _ => by simp; trivial
  | x :: ks, [], [], _ => trivial
  | x :: ks, w :: ws, d' :: l, h => by
    rw [List.zipWith_cons_cons, List.zipWith_cons_cons]
    refine ⟨?_, reps_zw hv h.2⟩
    by_cases c : x = k
    · rw [if_pos c, if_pos c]; exact hv
    · rw [if_neg c, if_neg c]; exact h.1
  | _ :: _, [], _ :: _, h => h.elim
  | _ :: _, _ :: _, [], h => h.elim
theorem reps_putD {κ : Type} [DecidableEq κ] {G : Gx} {I : Hp} {k : κ} {v : V} {d : D} (hv : Rep G I v d) {ks : List κ} {ws : List V} {l : List D} (n : l.length = ks.length) (h : Reps G I ws l) : Reps G I (putD ks ws k v).2 (putD ks l k d).2 ∧ (putD ks ws k v).1 = (putD ks l k d).1 := by
  unfold putD
  split
  · exact ⟨reps_zw hv h, rfl⟩
  · exact ⟨Reps.app h ⟨hv, trivial⟩, rfl⟩
/-- slot k's dict behind d[y] = x: numbers or texts as keys; tuples of them -/
def putDD (dd y x : D) : Option D := match dd with
  | .dk true ks l => if l.length = ks.length ∧ D.frozens l = true ∧ ks.length < sizeLine then (asKey y).map fun k => .dk true (putD ks l k x).1 (putD ks l k x).2 else none
  | .dt true ks l => match y with
    | .tup t => if l.length = ks.length ∧ D.frozens l = true ∧ ks.length < sizeLine then (asKeys t).map fun k => .dt true (putD ks l k x).1 (putD ks l k x).2 else none
    | _ => none
  | _ => none
def sDput (k : Nat) (p : VEnv → Option D) (f : M D) : M Fl := f.bnd fun x e => (e[k]?).join.bind fun dd => (p e).bind fun y => if x.frozen then (putDD dd y x).map fun d' => .ok .nx (e.set k (some d')) else none
section
variable {X : Cx} {G : Gx} {z : Zx} {W : WX} {I I' H H' : Hp} {ts : List V} {dts : List D} {σ : L2.St} {env : VEnv} {FT FS : List Addr} {e a b o : Expr} {es : List Expr} {f : M D} {pa pb : VEnv → Option D} {pos apos pos' : Pos} {v : V} {d : D} {F : List Addr}
theorem Stt.pushDk (S : Stt G z I H ts dts σ env FT FS) {p : Addr} (hp : H p = none) : ∃ FT', Stt G z I (upd H p (.dK [])) (.ref p :: ts) (.dk true [] [] :: dts) σ env FT' FS := by
  obtain ⟨n0, nI, nF⟩ := S.new hp
  exact ⟨[p] ++ FT, (S.newH hp (.dK [])).push (F := [p]) ⟨p, [], [], rfl, upd_same, rfl, nI, rfl, rfl⟩ (fun b hb => by rw [List.mem_singleton.mp hb]; exact n0) (List.nodup_cons.mpr ⟨nF, S.nd⟩)⟩
theorem Stt.pushDt (S : Stt G z I H ts dts σ env FT FS) {p : Addr} (hp : H p = none) : ∃ FT', Stt G z I (upd H p (.dT [])) (.ref p :: ts) (.dt true [] [] :: dts) σ env FT' FS := by
  obtain ⟨n0, nI, nF⟩ := S.new hp
  exact ⟨[p] ++ FT, (S.newH hp (.dT [])).push (F := [p]) ⟨p, [], [], rfl, upd_same, rfl, nI, rfl, rfl⟩ (fun b hb => by rw [List.mem_singleton.mp hb]; exact n0) (List.nodup_cons.mpr ⟨nF, S.nd⟩)⟩
theorem ve_dk : PE X (.Dict [] [] pos) (RE G z W vDk) := peImp pe_dnewK fun σ H Q h p hp => by
  obtain ⟨I, ts, dts, env, FT, FS, S, h⟩ := RE.to h
  obtain ⟨FT', S2⟩ := S.pushDk hp
  exact h _ _ _ _ _ (Same.refl _) S2
theorem ve_dt : PE X (.Dict [] [] pos) (RE G z W vDt) := peImp pe_dnewT fun σ H Q h p hp => by
  obtain ⟨I, ts, dts, env, FT, FS, S, h⟩ := RE.to h
  obtain ⟨FT', S2⟩ := S.pushDt hp
  exact h _ _ _ _ _ (Same.refl _) S2
/-- a dict in slot k with what it gets -/
theorem Stt.putDict {v y : V} {x d1 d2 d' : D} (S : Stt G z I H (v :: ts) (x :: dts) σ env FT FS) (fx : x.frozen = true) {k : Nat} (hk : env[k]? = some (some d1)) {Fy : List Addr} (oy : Own G I H y d2 Fy) (hd : putDD d1 d2 x = some d') : ∃ a H', σ[k]? = some (some (.ref a)) ∧ DPut H a y v H' ∧ ∃ FT' FS', Stt G z I H' ts dts σ (env.set k (some d')) FT' FS' := by
  obtain ⟨rx, S1⟩ := S.popR fx
  cases d1 with
  | dk m ks l =>
    cases m with
    | false => cases hd
    | true =>
      unfold putDD at hd
      dsimp only at hd
      split at hd
      · rename_i c
        obtain ⟨key, e1, e2⟩ := Option.map_eq_some_iff.mp hd
        subst e2
        have ey := asKey_eq e1 oy
        obtain ⟨a, F', h1, h2, iA, nda, inFS, h3⟩ := S1.setO hk rfl (Fx := []) (by simpa using S1.nd) (fun b hb => nomatch hb)
        obtain ⟨a', ws, F3, ea, e2, el, _, ow, e3⟩ := h2
        cases ea
        obtain ⟨rfl, rs⟩ := Owns.reps c.2.1 ow
        cases e3
        have pr := reps_putD rx c.1 rs (k := key)
        refine ⟨a, upd H a (.dK (putK (ks.zip ws) key v)), h1, ?_, FT, ?_⟩
        · rw [ey]
          refine DPut.k e2 ?_
          rw [List.length_zip]; omega
        · refine h3 _ _ [] (fun H2 hH _ => ⟨a, (putD ks ws key v).2, [], rfl, ?_, ?_, iA, Reps.owns pr.1, rfl⟩) List.nodup_nil fun b hb => nomatch hb
          · rw [hH, putK_zip el, pr.2]
          · rw [← pr.2, putD_len el]
      · cases hd
  | dt m ks l =>
    cases m with
    | false => cases hd
    | true =>
      cases d2 with
      | tup t =>
        unfold putDD at hd
        dsimp only at hd
        split at hd
        · rename_i c
          obtain ⟨key, e1, e2⟩ := Option.map_eq_some_iff.mp hd
          subst e2
          obtain ⟨b, us, eb, hb2, r2⟩ := own_tup S.sub oy
          have ek := asKeys_eq e1 r2
          subst ek eb
          obtain ⟨a, F', h1, h2, iA, nda, inFS, h3⟩ := S1.setO hk rfl (Fx := []) (by simpa using S1.nd) (fun b hb => nomatch hb)
          obtain ⟨a', ws, F3, ea, e2, el, _, ow, e3⟩ := h2
          cases ea
          obtain ⟨rfl, rs⟩ := Owns.reps c.2.1 ow
          cases e3
          have pr := reps_putD rx c.1 rs (k := key)
          refine ⟨a, upd H a (.dT (putK (ks.zip ws) key v)), h1, ?_, FT, ?_⟩
          · refine DPut.t e2 hb2 ?_
            rw [List.length_zip]; omega
          · refine h3 _ _ [] (fun H2 hH _ => ⟨a, (putD ks ws key v).2, [], rfl, ?_, ?_, iA, Reps.owns pr.1, rfl⟩) List.nodup_nil fun b hb => nomatch hb
            · rw [hH, putK_zip el, pr.2]
            · rw [← pr.2, putD_len el]
        · cases hd
      | _ => cases hd
  | _ => cases hd
theorem vs_dput (hu : X.A.units + 1 < cLine) (k : Nat) (ho : PE X o (tVar k)) (hi : PE X b (RP G z pb)) (hv : PE X a (RE G z W f)) (hs : swapsWith a (some (.Subscript o b pos')) pos.line X.env = pure false := by rfl) : PS X (.Assign [.Subscript o b pos'] a pos) (RS G z W (sDput k pb f)) :=
  psImp (ps_dput hu ho hi hv hs) fun D σ H h => by
    obtain ⟨I, env, FS, S, h⟩ := RS.to h
    refine RE.of S (GE.bndS h fun d e h1 v I' H' FT' FS' s' S' => ?_)
    cases e2 : (e[k]?).join with
    | none => rw [e2] at h1; exact h1.elim
    | some dd =>
      rw [e2] at h1
      have ek : e[k]? = some (some dd) := by
        cases q : e[k]? with
        | none => rw [q] at e2; cases e2
        | some o => rw [q] at e2; cases e2; rfl
      replace h1 : GS G z W I D ((pb e).bind fun y => if d.frozen then (putDD dd y d).map fun d' => .ok .nx (e.set k (some d')) else none) := h1
      cases e3 : pb e with
      | none => rw [e3] at h1; exact h1.elim
      | some y =>
        rw [e3] at h1
        replace h1 : GS G z W I D (if d.frozen then (putDD dd y d).map fun d' => .ok .nx (e.set k (some d')) else none) := h1
        split at h1
        · rename_i fx
          cases e4 : putDD dd y d with
          | none => rw [e4] at h1; exact h1.elim
          | some d' =>
            rw [e4] at h1
            obtain ⟨v0, F0, q4, _⟩ := S'.slot ek
            refine ⟨v0, q4, I', [v], [d], e, FT', FS', _, S', e3, fun w F ow => ?_⟩
            obtain ⟨a1, H4, q5, q6, FT2, FS2, S2⟩ := S'.putDict fx ek ow e4
            have e7 := S2.noT
            subst e7
            rw [q4] at q5
            cases q5
            exact ⟨a1, H4, rfl, q6, h1 σ I' _ FS2 s' S2⟩
        · exact h1.elim
end

/-! ### methods, instances called -/
def insOk (c m : Str) : D → Bool
  | .ins _ c' ns _ => decide (c' = c) && !(ns.contains m)
  | _ => false
def vMeth (c m : Str) (p : VEnv → Option D) (F : FN) (ags : List Ag) : M D := fun e => (p e).bind fun d => if insOk c m d = true then vCall F (.inl (vP p) :: ags) e else none
section
variable {X : Cx} {G : Gx} {z : Zx} {W : WX} {I I' H H' : Hp} {ts : List V} {dts : List D} {σ : L2.St} {env : VEnv} {FT FS : List Addr} {e a b o fe : Expr} {es : List Expr} {f : M D} {pa pb p : VEnv → Option D} {pos apos pos' : Pos} {v : V} {d : D} {F : List Addr} {ags : List Ag}
theorem lookup_zipN {m : Str} : ∀ {ns : List Str} {ws : List V}, ns.contains m = false → (ns.zip ws).lookup m = none
  | [], _, _ => by simp
  | n :: ns, [], _ => by simp
  | n :: ns, w :: ws, h => by
    simp only [List.contains_cons, Bool.or_eq_false_iff] at h
    rw [List.zip_cons_cons, List.lookup_cons, h.1, lookup_zipN h.2]
theorem own_insM {c m : Str} (s : Same I H) (h : Own G I H v d F) (k : insOk c m d = true) : ∃ a dx fs, v = .ref a ∧ H a = some (.ins (G.cl c) dx fs) ∧ fs.lookup m = none := by
  cases d with
  | ins m' c' ns l =>
    unfold insOk at k
    simp only [Bool.and_eq_true, decide_eq_true_eq, Bool.not_eq_true'] at k
    obtain ⟨rfl, k⟩ := k
    cases m' with
    | true =>
      obtain ⟨a, dx, ws, F', ev, h1, _, _, _, _⟩ := h
      exact ⟨a, dx, _, ev, h1, lookup_zipN k⟩
    | false =>
      obtain ⟨_, _, a, dx, ws, ev, h1, _, _⟩ := h
      exact ⟨a, dx, _, ev, s _ _ h1, lookup_zipN k⟩
  | _ => cases k
/-- o.m(e, ..), what it raises wished for at the caller's slots -/
theorem pe_methSS {fd : FuncData} {ps : List Str} {k : Nat} {C g : Addr} {m : Str} {sp : Sp} {E : L2.St → XK} {ta : TE} {t : TA} {pl : Sem Bool} (he : PE X o ta) (c : Cls X.K C) (hm : Meth X.K C m g) (FO : FnOk X.prog X.w X.K X.mg X.base (L2.CX X.prog X.w) k g fd ps sp) (hr : Room k X.A) (hb : Binds X.K fd ps []) (hx : ∀ σ, PassesAt (L2.CX X.prog X.w) X σ (E σ)) (ha : PA X (e :: es) t)
    (hst : starEach (e :: es) X.env = (false, eval e X.env) :: starEach es X.env := by rfl) (hpl : (backTo pos (starEach es X.env)).any (·.1) = false := by rfl)
    (ht : eval (.Call (.Attribute o m apos) (e :: es) [] pos) X.env = (do
      let ov ← eval o X.env
      standAt apos.atName
      let (f, first) ← holding [ov] (getMethod ov m pl)
      callWith pos f first (backTo pos (starEach (e :: es) X.env)) (backToKw pos (keywordEach [] X.env))) := by rfl) :
    PE X (.Call (.Attribute o m apos) (e :: es) [] pos) (fun σ H Q => ta σ H fun x H1 => ∃ a dx fs, x = .ref a ∧ H1 a = some (.ins C dx fs) ∧ fs.lookup m = none ∧ t σ H1 fun vs H2 => sp (x :: vs) H2 Q (E σ)) := by
  refine ⟨fun pins s σ H Q I h => ?_⟩
  refine PySem.W.methodCall_KW (pl := pl) (thn (he.run pins s σ H _ I h) fun u s1 ⟨x, H1, I1, rx, a, dx, fs, ex, ea, l, q⟩ => ?_) ht
  subst ex
  obtain rfl : u = Value.ref a := rx
  refine getmeth_ok I1 ea c hm l ?_
  refine PySem.W.callWith_K (first := [.ref a]) (h₀ := X.base) I1.ok.mod.kin hm.kp (thn (ha.run pos pins s1 σ H1 _ I1 q) fun us s2 ⟨vs, H2, I2, r, q2⟩ => ⟨I2.kIn, ?_⟩) hst hpl
  exact run_fnS (us := .ref a :: us) (vs := .ref a :: vs) FO hr hb (hx σ) I2 (.cons rfl r) q2
/-- the receiver, then the arguments -/
theorem meth_go {Q : VK} {c m : Str} {F : FN} (s : Same I I) (S : Stt G z I H ts dts σ env FT FS) (h : GE G z W I ts dts σ Q (vMeth c m p F ags env)) (hl : agL ags = [] ∨ ∃ k, agL ags = [k]) : ∃ d, p env = some d ∧ d.frozen = true ∧ insOk c m d = true ∧ ∀ v, Rep G I v d → RAg G z W ags σ H fun vs H2 => spOf G F (false :: agP ags) (v :: vs) H2 Q (WE W σ) := by
  unfold vMeth at h
  cases e1 : p env with
  | none => rw [e1] at h; exact h.elim
  | some d =>
    rw [e1] at h
    replace h : GE G z W I ts dts σ Q (if insOk c m d = true then vCall F (.inl (vP p) :: ags) env else none) := h
    split at h
    · rename_i k
      have fz : d.frozen = true := by
        cases q : d.frozen with
        | true => rfl
        | false =>
          unfold vCall M.bnd agM aCons M.bnd vP at h
          rw [e1] at h
          dsimp only at h
          rw [q] at h
          exact h.elim
      refine ⟨d, rfl, fz, k, fun v rv => ?_⟩
      have hp : vP p env = some (.ok d env) := by
        unfold vP
        rw [e1]
        dsimp only
        rw [if_pos fz]
      have S1 := S.pushR rv
      refine ⟨I, v :: ts, d :: dts, env, FT, FS, S1, ?_⟩
      have ha : agM (.inl (vP p) :: ags) env = match agM ags env with
        | none => none
        | some (.ok ds e') => some (.ok (d :: ds) e')
        | some (.exc c x e') => some (.exc c x e') := by
        show aCons (vP p) (agM ags) env = _
        unfold aCons M.bnd
        rw [hp]
        dsimp only
        cases agM ags env with
        | none => rfl
        | some r => cases r <;> rfl
      unfold vCall M.bnd at h
      rw [ha] at h
      cases e2 : agM ags env with
      | none => rw [e2] at h; exact h.elim
      | some r =>
        rw [e2] at h
        cases r with
        | exc c x e'' => exact h
        | ok ds e'' =>
          intro vs I2 H2 FT2 FS2 s2 S2 n
          obtain ⟨FT3, S3⟩ := S2.rot n
          exact call_ok (ags := .inl (vP p) :: ags) (vs := v :: vs) (ds := d :: ds) hl s2 S3 (by simp [n]) h
    · exact h.elim
/-- the value called, then the arguments -/
theorem meth_goO {Q : VK} {c m : Str} {F : FN} (s : Same I I) (S : Stt G z I H ts dts σ env FT FS) (h : GE G z W I ts dts σ Q (vMeth c m p F ags env)) (hl : agL ags = [] ∨ ∃ k, agL ags = [k]) : ∃ d, p env = some d ∧ d.frozen = true ∧ insOk c m d = true ∧ ∀ v a, v = .ref a → Rep G I v d → RAg G z W ags σ H fun vs H2 => StX.InsC X H2 a (G.cl c) ∧ spOf G F (false :: agP ags) (.ref a :: vs) H2 Q (WE W σ) := by
  unfold vMeth at h
  cases e1 : p env with
  | none => rw [e1] at h; exact h.elim
  | some d =>
    rw [e1] at h
    replace h : GE G z W I ts dts σ Q (if insOk c m d = true then vCall F (.inl (vP p) :: ags) env else none) := h
    split at h
    · rename_i k
      have fz : d.frozen = true := by
        cases q : d.frozen with
        | true => rfl
        | false =>
          unfold vCall M.bnd agM aCons M.bnd vP at h
          rw [e1] at h
          dsimp only at h
          rw [q] at h
          exact h.elim
      refine ⟨d, rfl, fz, k, fun v a ev rv => ?_⟩
      have hp : vP p env = some (.ok d env) := by
        unfold vP
        rw [e1]
        dsimp only
        rw [if_pos fz]
      have S1 := S.pushR rv
      refine ⟨I, v :: ts, d :: dts, env, FT, FS, S1, ?_⟩
      have ha : agM (.inl (vP p) :: ags) env = match agM ags env with
        | none => none
        | some (.ok ds e') => some (.ok (d :: ds) e')
        | some (.exc c x e') => some (.exc c x e') := by
        show aCons (vP p) (agM ags) env = _
        unfold aCons M.bnd
        rw [hp]
        dsimp only
        cases agM ags env with
        | none => rfl
        | some r => cases r <;> rfl
      unfold vCall M.bnd at h
      rw [ha] at h
      cases e2 : agM ags env with
      | none => rw [e2] at h; exact h.elim
      | some r =>
        rw [e2] at h
        cases r with
        | exc c x e'' => exact h
        | ok ds e'' =>
          intro vs I2 H2 FT2 FS2 s2 S2 n
          obtain ⟨FT3, S3⟩ := S2.rot n
          have o2 := Rep.own (H := H2) _ _ (Rep.mono s2 _ _ rv)
          obtain ⟨a', dx, fs, ev', h1, _⟩ := own_insM S2.sub o2 k
          rw [ev] at ev'
          cases ev'
          subst ev
          exact ⟨.inr ⟨dx, fs, h1⟩, call_ok (ags := .inl (vP p) :: ags) (vs := .ref a :: vs) (ds := d :: ds) hl s2 S3 (by simp [n]) h⟩
    · exact h.elim
theorem ve_meth (c : Str) {m : Str} {Fn : FN} {fa : Addr} {fd : FuncData} {ps : List Str} {k : Nat} {pl : Sem Bool} (hc : Cls X.K (G.cl c)) (hm : Meth X.K (G.cl c) m fa) (FO : FnOk X.prog X.w X.K X.mg X.base (L2.CX X.prog X.w) k fa fd ps (spOf G Fn (false :: agP ags))) (hr : Room k X.A) (hb : Binds X.K fd ps []) (tk : Takes X W) (ho : PE X o (RP G z p))
    (ha : PA X (e :: es) (RAg G z W ags)) (hl : agL ags = [] ∨ ∃ k, agL ags = [k] := by first | exact .inl rfl | exact .inr ⟨_, rfl⟩)
    (hst : starEach (e :: es) X.env = (false, eval e X.env) :: starEach es X.env := by rfl) (hpl : (backTo pos (starEach es X.env)).any (·.1) = false := by rfl)
    (ht : eval (.Call (.Attribute o m apos) (e :: es) [] pos) X.env = (do
      let ov ← eval o X.env
      standAt apos.atName
      let (f, first) ← holding [ov] (getMethod ov m pl)
      callWith pos f first (backTo pos (starEach (e :: es) X.env)) (backToKw pos (keywordEach [] X.env))) := by rfl) :
    PE X (.Call (.Attribute o m apos) (e :: es) [] pos) (RE G z W (vMeth c m p Fn ags)) := peImp (pe_methSS (pl := pl) ho hc hm FO hr hb (fun σ => passAt tk σ) ha hst hpl ht) fun σ H Q h => by
  obtain ⟨I, ts, dts, env, FT, FS, S, h⟩ := RE.to h
  obtain ⟨d, e1, fz, k1, go⟩ := meth_go (Same.refl _) S h hl
  refine ⟨I, ts, dts, env, FT, FS, d, S, e1, fun v F ow => ?_⟩
  obtain ⟨a, dx, fs, ev, h1, h2⟩ := own_insM S.sub ow k1
  exact ⟨a, dx, fs, ev, h1, h2, go v (Own.rep _ _ _ fz ow).2⟩
theorem run_fnSC {fd : FuncData} {ps : List Str} {k : Nat} {g : Addr} {sp : Sp} {E : XK} {pins : List (Addr × Obj)} {σ : L2.St} {H : Hp} {s : Shared} {Q : VK} {us : List Value} {vs : List V} (FO : FnOk X.prog X.w X.K X.mg X.base (L2.CX X.prog X.w) k g fd ps sp) (hr : Room k X.A) (hb : Binds X.K fd ps []) (hx : PassesAt (L2.CX X.prog X.w) X σ E)
    (I : Inv X pins σ H s) (r : Vals vs us) (h : sp vs H Q E) : codeAny (model X.prog X.w) X.A (.call (.ref g) ⟨us, []⟩) (fun r s' => match r with | .ok (.ret v) => EP X pins σ Q v s' | .ok _ => False | .error e => X.xe e s') s := by
  have hl : us.length = ps.length := by rw [← r.length]; exact FO.len _ _ _ _ h
  have b := hb s us I.kIn (by rw [List.append_nil]; exact hl)
  rw [List.append_nil] at b
  refine codeAny_mono (FO.run X.A X.stack s H ⟨us, []⟩ us vs Q E hr I.env0 b r h) fun r s' hq => ?_
  cases r with
  | error e => exact hx pins H s e s' I hq
  | ok fl =>
    cases fl with
    | ret u => exact I.after hq
    | next => exact False.elim hq
    | brk => exact False.elim hq
    | cont => exact False.elim hq
/-- x(e, ..), x a value of an own class with __call__ -/
theorem pe_callOS {fd : FuncData} {ps : List Str} {k : Nat} {C g : Addr} {sp : Sp} {E : L2.St → XK} {tf : TE} {t : TA} (hf : PE X fe tf) (c : StX.CallO X.K C g) (FO : FnOk X.prog X.w X.K X.mg X.base (L2.CX X.prog X.w) k g fd ps sp) (hr : Room k X.A) (hb : Binds X.K fd ps []) (hx : ∀ σ, PassesAt (L2.CX X.prog X.w) X σ (E σ)) (ha : PA X (e :: es) t)
    (ht : eval (.Call fe (e :: es) [] pos) X.env = (do callWith pos (← eval fe X.env) [] (backTo pos (starEach (e :: es) X.env)) (backToKw pos (keywordEach [] X.env))) := by rfl)
    (he : starEach (e :: es) X.env = (false, eval e X.env) :: starEach es X.env := by rfl) (hpl : (backTo pos (starEach es X.env)).any (·.1) = false := by rfl) : PE X (.Call fe (e :: es) [] pos) (fun σ H Q => tf σ H fun y H1 => ∃ a, y = V.ref a ∧ t σ H1 fun vs H2 => StX.InsC X H2 a C ∧ sp (V.ref a :: vs) H2 Q (E σ)) := by
  refine ⟨fun pins s σ H Q I h => ?_⟩
  refine PyProof.Rows.Call_ (thn (hf.run pins s σ H _ I h) fun u s1 ⟨y, H1, I1, ry, a, ey, q⟩ => ?_) ht
  subst ey
  obtain rfl : u = Value.ref a := ry
  refine StX.callO_with (thn (ha.run pos pins s1 σ H1 _ I1 q) fun us s2 ⟨vs, H2, I2, r, hi, q2⟩ => ?_) he hpl
  obtain ⟨ox, od, J, hd⟩ := StX.insC_at I2 hi
  exact ⟨⟨C, ox, od, J, hd⟩, wpAny_call (PySem.W.kco_code I2.kIn J hd c.at_ c.fn c.fi (run_fnSC (us := .ref a :: us) (vs := .ref a :: vs) FO hr hb (hx σ) I2 (.cons rfl r) q2))⟩
theorem spOf_len {Fn : FN} {pm : List Bool} {vs : List V} {Q : VK} {E : XK} (h : spOf G Fn pm vs H Q E) : True := trivial
/-- x(e, ..): the value called, then the arguments; the instance still stands behind them -/
def vCallO (c : Str) (p : VEnv → Option D) (F : FN) (ags : List Ag) : M D := vMeth c "__call__" p F ags
theorem ve_callO (c : Str) {Fn : FN} {fa : Addr} {fd : FuncData} {ps : List Str} {k : Nat} (hc : StX.CallO X.K (G.cl c) fa) (FO : FnOk X.prog X.w X.K X.mg X.base (L2.CX X.prog X.w) k fa fd ps (spOf G Fn (false :: agP ags))) (hr : Room k X.A) (hb : Binds X.K fd ps []) (tk : Takes X W) (hf : PE X fe (RP G z p))
    (ha : PA X (e :: es) (RAg G z W ags)) (hl : agL ags = [] ∨ ∃ k, agL ags = [k] := by first | exact .inl rfl | exact .inr ⟨_, rfl⟩)
    (ht : eval (.Call fe (e :: es) [] pos) X.env = (do callWith pos (← eval fe X.env) [] (backTo pos (starEach (e :: es) X.env)) (backToKw pos (keywordEach [] X.env))) := by rfl)
    (he : starEach (e :: es) X.env = (false, eval e X.env) :: starEach es X.env := by rfl) (hpl : (backTo pos (starEach es X.env)).any (·.1) = false := by rfl) : PE X (.Call fe (e :: es) [] pos) (RE G z W (vCallO c p Fn ags)) := peImp (pe_callOS hf hc FO hr hb (fun σ => passAt tk σ) ha ht he hpl) fun σ H Q h => by
  obtain ⟨I, ts, dts, env, FT, FS, S, h⟩ := RE.to h
  obtain ⟨d, e1, fz, k1, go⟩ := meth_goO (Same.refl _) S h hl
  refine ⟨I, ts, dts, env, FT, FS, d, S, e1, fun v F ow => ?_⟩
  obtain ⟨a, dx, fs, ev, h1, h2⟩ := own_insM S.sub ow k1
  exact ⟨a, ev, go v a ev (Own.rep _ _ _ fz ow).2⟩
end
theorem zok_at {z : Zx} {ms : List Bool} {a : Addr} {i : Nat} (h : ZOk z ms) : ZOk (zAt z a (some i)) (ms.set i true) := by
  refine ⟨⟨?_, fun k hk => ?_⟩, fun k hk => ?_⟩
  · show (z.pv.set i (some (.ref a))).length = _
    rw [List.length_set, List.length_set, h.1.1]
  · show ∃ v, (z.pv.set i (some (.ref a)))[k]? = some (some v)
    by_cases e : i = k
    · subst e
      have l : i < z.pv.length := by
        have := (List.getElem?_eq_some_iff.mp hk).1
        rw [List.length_set] at this
        rw [h.1.1]; exact this
      exact ⟨_, by rw [List.getElem?_set_self l]⟩
    · rw [List.getElem?_set_ne e] at hk ⊢
      exact h.1.2 k hk
  · show (z.pv.set i (some (.ref a)))[k]? = _
    by_cases e : i = k
    · subst e
      by_cases l : i < ms.length
      · rw [List.getElem?_set_self l] at hk; cases hk
      · rw [List.getElem?_eq_none (by simp; omega)] at hk; cases hk
    · rw [List.getElem?_set_ne e] at hk ⊢
      exact h.2 k hk
/-! ### a tuple once: itself -/
section
open PyProof
theorem tuple_mul1 (l : Addr) (items : Array Value) (n : Nat) (dd : Option Addr) (sl : Array (Option Value)) (u : Tok) :
    Meets (Builtin.«tuple.__mul__» ⟨[.ref l, .int 1 u], []⟩) (fun _ R s => s.heap.get? l = some { cls := .type "tuple", dict := dd, data := .seq items n, slots := sl } ∧
      R (.ok (.ret (Value.ref l))) { s with toks := s.toks }) :=
  .of_wp fun prog w A R s h => by
    obtain ⟨hp, g, d, tk, os⟩ := s
    obtain ⟨hl, h⟩ := h
    have f1 := AutoSeq1.idx_int
    wp_walk using wpAny_loadPart' hl
    exact ⟨_, rfl, h⟩
def rRepT1 (K : PySem.W.Frag) : R2 := fun x y H Q => ∃ l xs, x = .ref l ∧ y = .int 1 ∧ SqT K H l xs ∧ Q (.ref l) H
theorem op_repT1 {X : Cx} : OpR X (binaryOp .Mult) (rRepT1 X.K) := by
  intro pins s σ H x y v u Q I rx ry h
  obtain ⟨l, xs, rfl, rfl, hT, q⟩ := h
  cases rx
  obtain ⟨t, rfl⟩ := ry
  obtain ⟨its, r, ⟨⟨cls, dd, data, sl⟩, ho, hc, n, hd⟩, hs⟩ := I.tuple hT
  simp only at hc hd
  subst hc hd
  refine wpAny_binaryOp_repeat_ref (T := "tuple") (U := "int") (by decide) ⟨_, ho, rfl⟩ (fun s' => typeIs_int s' 1 t) noFill_tuple_mul F.fills_int_mul F.slot_int_rmul repeat_tuple F.slot_int_index.lookup
    (call_meets F.slot_int_rmul (typeIs_int s 1 t) F.entry_int_rmul (F.args_int_rmul_2 _ _) (int_rmul_tuple 1 t l its.toArray n dd sl)
      ⟨ho, rfl, ⟨_, ho, rfl⟩, call_meets F.slot_tuple_mul ⟨_, ho, rfl⟩ F.entry_tuple_mul (F.args_tuple_mul_2 _ _) (tuple_mul1 l its.toArray n dd sl t) ⟨ho, ?_⟩⟩)
  exact ⟨.ref l, H, I, rfl, q⟩
end
def isTupD : D → Bool
  | .tup _ => true
  | _ => false
def gRep1 (a b : D) : Option D := if asInt b = some 1 ∧ isTupD a = true then some a else gRep a b
def vRep1 (fa fb : M D) : M D := fa.bnd fun a => fb.bnd fun b => M.opt (gRep1 a.fz b.fz)
section
variable {X : Cx} {G : Gx} {z : Zx} {W : WX} {a b : Expr} {fa fb : M D} {pos : Pos}
theorem ve_rep1 (ha : PE X a (RE G z W fa)) (hb : PE X b (RE G z W fb)) (hK : X.K = G.K := by rfl) : PE X (.BinOp a .Mult b pos) (RE G z W (vRep1 fa fb)) :=
  peImp (pe_op (OpR.or op_repT1 (OpR.or op_rep op_repT)) ha hb) fun σ H Q h => by
    obtain ⟨I, ts, dts, env, FT, FS, S, h⟩ := RE.to h
    refine RE.of S (GE.bnd (g := GE G z W I ts dts σ Q) (Same.refl _) h (fun c x e h => h) (fun h => h) fun d1 e1 h1 u I1 H1 FT1 FS1 s1 S1 => ?_)
    refine RE.of S1 (GE.bnd (g := GE G z W I ts dts σ Q) s1 h1 (fun c x e h => h) (fun h => h) fun d2 e2 h2 v I2 H2 FT2 FS2 s2 S2 => ?_)
    obtain ⟨r, e3, hq⟩ := GE.optGo h2
    obtain ⟨I3, FT3, s3, ru, rv, S3⟩ := S2.give2
    rw [hK]
    unfold gRep1 at e3
    split at e3
    · rename_i c
      cases e3
      rw [asInt_eq c.1] at rv
      replace rv : v = .int 1 := rv
      subst rv
      have ru' := ru
      cases hd : d1.fz with
      | tup l =>
        rw [hd] at ru'
        obtain ⟨p, ws, ev, k1, r1⟩ := ru'
        subst ev
        refine .inl ⟨p, ws, rfl, rfl, .inl (.inl (S3.sub _ _ k1)), ?_⟩
        exact hq _ _ _ _ _ (s2.trans s3) (S3.pushR ru)
      | _ => rw [hd] at c; cases c.2
    refine .inr ?_
    obtain ⟨k, e4, e5⟩ := Option.bind_eq_some_iff.mp e3
    rw [asInt_eq e4] at rv
    replace rv : v = .int k := rv
    subst rv
    cases h1 : asTup d1.fz with
    | some l =>
      rw [h1] at e5
      replace e5 : (if !l.isEmpty && decide (2 ≤ k) && decide (k ≤ 1000) && decide (l.length ≤ 1000) then some (D.tup (List.replicate k.toNat l).flatten) else none) = some r := e5
      split at e5
      · rename_i c
        cases e5
        simp only [Bool.and_eq_true, decide_eq_true_eq, Bool.not_eq_true'] at c
        obtain ⟨p, ws, ev, k1, r1⟩ := rep_tupk ru h1 S3.sub
        subst ev
        refine .inr ⟨p, k, ws, rfl, rfl, k1, fun z => ?_, c.1.1.2, c.1.2, by rw [r1.len]; exact c.2, fun t ht => ?_⟩
        · have : l = [] := List.length_eq_zero_iff.mp (by rw [← r1.len, z]; rfl)
          rw [this] at c
          cases c.1.1.1
        · obtain ⟨s4, S4⟩ := S3.pushTup (r1.flat k.toNat) ht
          exact hq _ _ _ _ _ ((s2.trans s3).trans s4) S4
      · cases e5
    | none =>
      rw [h1] at e5
      obtain ⟨l, e6, e7⟩ := Option.bind_eq_some_iff.mp e5
      split at e7
      · rename_i c
        cases e7
        simp only [Bool.and_eq_true, decide_eq_true_eq] at c
        obtain ⟨m1, q1⟩ := asLst_eq e6
        rw [q1] at ru
        obtain ⟨p, ws, ev, k1, r1⟩ := rep_lst ru S3.sub
        subst ev
        refine .inl ⟨p, k, ws, rfl, rfl, k1, c.1.1, c.1.2, by rw [r1.len]; exact c.2, fun t ht => ?_⟩
        obtain ⟨FT', S4⟩ := S3.pushN (r1.flat k.toNat) ht
        exact hq _ _ _ _ _ (s2.trans s3) S4
      · cases e7
end
end
section
set_option Elab.async false
set_option linter.all false
set_option maxRecDepth 100000
set_option maxHeartbeats 1000000
/-! ### what a reading leads to -/
abbrev XQ := Str → Option (Str × D) → VEnv → Prop
def wp {α : Type} (m : M α) (e : VEnv) (Q : α → VEnv → Prop) (E : XQ) : Prop := match m e with
  | some (.ok a e') => Q a e'
  | some (.exc c x e') => E c x e'
  | none => False
/-- a value that is there -/
def ev {α : Type} (o : Option α) (Q : α → Prop) : Prop := ∃ d, o = some d ∧ Q d
def evf (o : Option D) (Q : D → Prop) : Prop := ∃ d, o = some d ∧ d.frozen = true ∧ Q d
def fzsO (l : List D) : Option (List D) := some (D.fzs l)
def putO (f : Str) (d : D) (r : List Str × List D) : Option (List Str × List D) := some (putN f d r.1 r.2)
def ev2 {α β : Type} (o : Option (α × β)) (Q : α → β → Prop) : Prop := ∃ a b, o = some (a, b) ∧ Q a b
theorem ev2_i {α β : Type} {o : Option (α × β)} {a : α} {b : β} {P : α → β → Prop} (h : o = some (a, b)) (q : P a b) : ev2 o P := ⟨a, b, h, q⟩
theorem ev2_id {α β : Type} {o : Option (α × β)} {P : α → β → Prop} (h : ev2 o P) : ev2 o P := h
def fzO (d : D) : Option D := some d.fz
def wipeS (e : VEnv) (vs : List Nat) (K : VEnv → Prop) : Prop := K (wipeE e vs)
def ifb (b : Bool) (p q : Prop) : Prop := if b = true then p else q
/-- a slot stored -/
def st (e : VEnv) (k : Nat) (d : Option D) (K : VEnv → Prop) : Prop := k < e.length ∧ K (e.set k d)
section
variable {α β : Type} {e : VEnv} {E : XQ} {Q : α → VEnv → Prop}
theorem ev_i {o : Option α} {d : α} {P : α → Prop} (h : o = some d) (q : P d) : ev o P := ⟨d, h, q⟩
theorem evf_i {o : Option D} {d : D} {P : D → Prop} (h : o = some d) (f : d.frozen = true) (q : P d) : evf o P := ⟨d, h, f, q⟩
theorem ifb_t {p q : Prop} (h : p) : ifb true p q := h
theorem ifb_f {p q : Prop} (h : q) : ifb false p q := h
theorem ifb_i {b : Bool} {p q : Prop} (h1 : b = true → p) (h2 : b = false → q) : ifb b p q := by cases b <;> simp_all [ifb]
theorem ifb_d {c : Prop} [Decidable c] {p q : Prop} (h1 : c → p) (h2 : ¬ c → q) : ifb (decide c) p q := by
  by_cases h : c <;> simp_all [ifb]
theorem ifb_n {b : Bool} {p q : Prop} (h : ifb b q p) : ifb (!b) p q := by cases b <;> simp_all [ifb]
theorem wp_ret {a : α} (h : Q a e) : wp (M.ret a) e Q E := h
theorem wp_bnd {m : M β} {k : β → M α} (h : wp m e (fun a e1 => wp (k a) e1 Q E) E) : wp (m.bnd k) e Q E := by
  unfold wp M.bnd at *
  cases h1 : m e with
  | none => rw [h1] at h; exact h.elim
  | some r =>
    rw [h1] at h
    cases r with
    | ok a e1 => exact h
    | exc c x e1 => exact h
theorem wp_opt {o : Option α} (h : ev o fun a => Q a e) : wp (M.opt o) e Q E := by
  obtain ⟨a, e1, q⟩ := h
  subst e1
  exact q
theorem wp_mono {m : M α} {Q' : α → VEnv → Prop} {E' : XQ} (h : wp m e Q' E') (q : ∀ a e, Q' a e → Q a e) (x : ∀ c y e, E' c y e → E c y e) : wp m e Q E := by
  unfold wp at *
  split at h
  · exact q _ _ h
  · exact x _ _ _ h
  · exact h
end
section
variable {e : VEnv} {E : XQ} {Q : D → VEnv → Prop} {p : VEnv → Option D} {f fa fb : M D} {fs : M (List D)} {c ta tb : M Bool}
theorem wp_P (h : evf (p e) fun d => Q d e) : wp (vP p) e Q E := by
  obtain ⟨d, h1, h2, q⟩ := h
  unfold wp vP
  rw [h1]
  dsimp only
  rw [if_pos h2]
  exact q
theorem wp_Mv {k : Nat} (h : ev ((e[k]?).join) fun d => ev (fzO d) fun x => st e k (some x) (Q x)) : wp (vMv k) e Q E := by
  obtain ⟨d, h1, x, h3, _, q⟩ := h
  cases h3
  unfold wp vMv
  cases h2 : e[k]? with
  | none => rw [h2] at h1; cases h1
  | some o => rw [h2] at h1; cases h1; exact q
theorem wp_Gv {k : Nat} (h : ev ((e[k]?).join) fun d => st e k none (Q d)) : wp (vGv k) e Q E := by
  obtain ⟨d, h1, _, q⟩ := h
  unfold wp vGv
  cases h2 : e[k]? with
  | none => rw [h2] at h1; cases h1
  | some o => rw [h2] at h1; cases h1; exact q
theorem wp_Fz (h : wp f e (fun d e1 => ev (fzO d) fun x => Q x e1) E) : wp (vFz f) e Q E := wp_bnd (wp_mono h (fun d e1 h1 => by
  obtain ⟨x, h2, q⟩ := h1
  cases h2
  exact q) fun _ _ _ h => h)
theorem wp_Op {g : D → D → Option D} (h : wp fa e (fun a e1 => wp fb e1 (fun b e2 => evf (g a b) fun d => Q d e2) E) E) : wp (vOp g fa fb) e Q E := by
  refine wp_bnd (wp_mono h (fun a e1 h1 => wp_bnd (wp_mono h1 (fun b e2 h2 => wp_opt ?_) fun _ _ _ h => h)) fun _ _ _ h => h)
  obtain ⟨d, e1, f, q⟩ := h2
  exact ⟨d, by rw [e1]; exact if_pos f, q⟩
theorem wp_Op1 {g : D → Option D} (h : wp fa e (fun a e1 => evf (g a) fun d => Q d e1) E) : wp (vOp1 g fa) e Q E := by
  refine wp_bnd (wp_mono h (fun a e1 h1 => wp_opt ?_) fun _ _ _ h => h)
  obtain ⟨d, e1, f, q⟩ := h1
  exact ⟨d, by rw [e1]; exact if_pos f, q⟩
theorem wp_aNil {Q : List D → VEnv → Prop} (h : Q [] e) : wp aNil e Q E := h
theorem wp_aCons {Q : List D → VEnv → Prop} (h : wp f e (fun d e1 => wp fs e1 (fun ds e2 => Q (d :: ds) e2) E) E) : wp (aCons f fs) e Q E :=
  wp_bnd (wp_mono h (fun _ _ h1 => wp_bnd (wp_mono h1 (fun _ _ h => h) fun _ _ _ h => h)) fun _ _ _ h => h)
theorem wp_Tup (h : wp fs e (fun ds e1 => ds.length ≤ sizeLine ∧ ev (fzsO ds) fun xs => Q (.tup xs) e1) E) : wp (vTup fs) e Q E :=
  wp_bnd (wp_mono h (fun ds _ h1 => wp_opt (by
    obtain ⟨h2, xs, h3, q⟩ := h1
    cases h3
    exact ⟨_, if_pos h2, q⟩)) fun _ _ _ h => h)
theorem wp_Lst (h : wp fs e (fun ds e1 => ds.length ≤ sizeLine ∧ Q (.lst true ds) e1) E) : wp (vLst fs) e Q E :=
  wp_bnd (wp_mono h (fun ds _ h1 => wp_opt ⟨_, if_pos h1.1, h1.2⟩) fun _ _ _ h => h)
theorem wp_tP {Q : Bool → VEnv → Prop} (h : ev ((p e).bind asBl) fun b => Q b e) : wp (tP p) e Q E := by
  obtain ⟨b, h1, q⟩ := h
  obtain ⟨d, e1, e2⟩ := Option.bind_eq_some_iff.mp h1
  cases asBl_eq e2
  unfold wp tP
  rw [e1]
  exact q
theorem wp_tE {Q : Bool → VEnv → Prop} (h : wp f e (fun d e1 => ev (asBl d) fun b => Q b e1) E) : wp (tE f) e Q E :=
  wp_bnd (wp_mono h (fun _ _ h1 => wp_opt h1) fun _ _ _ h => h)
theorem wp_tAnd {Q : Bool → VEnv → Prop} (h : wp ta e (fun b e1 => ifb b (wp tb e1 Q E) (Q false e1)) E) : wp (tAnd ta tb) e Q E :=
  wp_bnd (wp_mono h (fun b _ h1 => by cases b <;> exact h1) fun _ _ _ h => h)
theorem wp_tOr {Q : Bool → VEnv → Prop} (h : wp ta e (fun b e1 => ifb b (Q true e1) (wp tb e1 Q E)) E) : wp (tOr ta tb) e Q E :=
  wp_bnd (wp_mono h (fun b _ h1 => by cases b <;> exact h1) fun _ _ _ h => h)
theorem wp_tNot {Q : Bool → VEnv → Prop} (h : wp ta e (fun b e1 => Q (!b) e1) E) : wp (tNot ta) e Q E := wp_bnd h
theorem wp_tYes {Q : Bool → VEnv → Prop} (h : Q true e) : wp tYesM e Q E := h
theorem wp_If (h : wp c e (fun b e1 => ifb b (wp fa e1 Q E) (wp fb e1 Q E)) E) : wp (vIf c fa fb) e Q E :=
  wp_bnd (wp_mono h (fun b _ h1 => by cases b <;> exact h1) fun _ _ _ h => h)
theorem wp_And (h : wp fa e (fun d e1 => ev (asBl d) fun b => ifb b (wp fb e1 Q E) (Q (.bl false) e1)) E) : wp (vAnd fa fb) e Q E :=
  wp_bnd (wp_mono h (fun d _ h1 => wp_bnd (wp_opt (by
    obtain ⟨b, e1, q⟩ := h1
    exact ⟨b, e1, by cases b <;> exact q⟩))) fun _ _ _ h => h)
theorem wp_Or (h : wp fa e (fun d e1 => ev (asBl d) fun b => ifb b (Q (.bl true) e1) (wp fb e1 Q E)) E) : wp (vOr fa fb) e Q E :=
  wp_bnd (wp_mono h (fun d _ h1 => wp_bnd (wp_opt (by
    obtain ⟨b, e1, q⟩ := h1
    exact ⟨b, e1, by cases b <;> exact q⟩))) fun _ _ _ h => h)
theorem wp_Not (h : wp fa e (fun d e1 => ev (asBl d) fun b => Q (.bl (!b)) e1) E) : wp (vNot fa) e Q E :=
  wp_bnd (wp_mono h (fun d _ h1 => wp_bnd (wp_opt (by
    obtain ⟨b, e1, q⟩ := h1
    exact ⟨b, e1, q⟩))) fun _ _ _ h => h)
theorem wp_Sl {lo hi : Option (VEnv → Option D)} (h : ev (p e) fun d => ev (pBd lo e) fun l => ev (pBd hi e) fun r => ev (gSl d l r) fun x => Q x e) : wp (vSl p lo hi) e Q E := by
  obtain ⟨d, h1, l, h2, r, h3, x, h4, q⟩ := h
  unfold wp vSl
  rw [h1, Option.bind_some, h2, Option.bind_some, h3, Option.bind_some, h4]
  exact q
theorem wp_List (h : wp f e (fun d e1 => ev (asSeq d.fz) fun l => Q (.lst true l) e1) E) : wp (vList f) e Q E :=
  wp_bnd (wp_mono h (fun d _ h1 => wp_opt (by
    obtain ⟨l, e1, q⟩ := h1
    exact ⟨_, by rw [e1]; rfl, q⟩)) fun _ _ _ h => h)
theorem wp_ListP (h : ev ((p e).bind asSeq) fun l => D.frozens l = true ∧ Q (.lst true l) e) : wp (vListP p) e Q E := by
  obtain ⟨l, h1, f, q⟩ := h
  obtain ⟨d, e1, e2⟩ := Option.bind_eq_some_iff.mp h1
  unfold wp vListP
  rw [e1, Option.bind_some, e2, Option.bind_some, if_pos f]
  exact q
theorem wp_Tuple (h : wp f e (fun d e1 => ev (gTuple d.fz) fun x => Q x e1) E) : wp (vTuple f) e Q E :=
  wp_bnd (wp_mono h (fun d _ h1 => wp_opt h1) fun _ _ _ h => h)
theorem wp_TupleP (h : evf ((p e).bind gTuple) fun x => Q x e) : wp (vTupleP p) e Q E := by
  obtain ⟨l, h1, f, q⟩ := h
  obtain ⟨d, e1, e2⟩ := Option.bind_eq_some_iff.mp h1
  unfold wp vTupleP
  rw [e1, Option.bind_some, e2, Option.bind_some, if_pos f]
  exact q
theorem wp_Cat (h : wp fa e (fun a e1 => wp fb e1 (fun b e2 => ev (gCat a.fz b.fz) fun x => Q x e2) E) E) : wp (vCat fa fb) e Q E :=
  wp_bnd (wp_mono h (fun a e1 h1 => wp_bnd (wp_mono h1 (fun b e2 h2 => wp_opt h2) fun _ _ _ h => h)) fun _ _ _ h => h)
theorem wp_Rep (h : wp fa e (fun a e1 => wp fb e1 (fun b e2 => ev (gRep a.fz b.fz) fun x => Q x e2) E) E) : wp (vRep fa fb) e Q E :=
  wp_bnd (wp_mono h (fun a e1 h1 => wp_bnd (wp_mono h1 (fun b e2 h2 => wp_opt h2) fun _ _ _ h => h)) fun _ _ _ h => h)
theorem wp_Pop {k : Nat} (h : ev (lstAt k e) fun l => evf l.getLast? fun d => st e k (some (.lst true l.dropLast)) (Q d)) : wp (vPop k) e Q E := by
  obtain ⟨l, h1, d, h2, f, _, q⟩ := h
  unfold wp vPop
  rw [h1, Option.bind_some, h2]
  dsimp only
  rw [if_pos f]
  exact q

/-! walks -/
theorem wp_iSq {Q : List D → VEnv → Prop} (h : wp f e (fun d e1 => ev (asSeq d.fz) fun l => Q l e1) E) : wp (iSq f) e Q E :=
  wp_bnd (wp_mono h (fun d _ h1 => wp_opt h1) fun _ _ _ h => h)
def evR1 (l : List D) (Q : List D → Prop) : Prop := ∃ j : Int, l = [.int j] ∧ (-(2 ^ 62) ≤ j ∧ j < 2 ^ 62) ∧ Q (dInts 0 j.toNat)
def evR2 (l : List D) (Q : List D → Prop) : Prop := ∃ i j : Int, l = [.int i, .int j] ∧ ((-(2 ^ 62) ≤ i ∧ i < 2 ^ 62) ∧ -(2 ^ 62) ≤ j ∧ j < 2 ^ 62) ∧ Q (dInts i (j - i).toNat)
theorem evR1_i {j : Int} {Q : List D → Prop} (h : -4611686018427387904 ≤ j ∧ j < 4611686018427387904) (q : Q (dInts 0 j.toNat)) : evR1 [.int j] Q := ⟨j, rfl, h, q⟩
theorem evR2_i {i j : Int} {Q : List D → Prop} (h : (-4611686018427387904 ≤ i ∧ i < 4611686018427387904) ∧ -4611686018427387904 ≤ j ∧ j < 4611686018427387904) (q : Q (dInts i (j - i).toNat)) : evR2 [.int i, .int j] Q := ⟨i, j, rfl, h, q⟩
theorem wp_iRange1 {Q : List D → VEnv → Prop} (h : wp fs e (fun l e1 => evR1 l fun x => Q x e1) E) : wp (iRange1 fs) e Q E :=
  wp_bnd (wp_mono h (fun l _ h1 => wp_opt (by
    obtain ⟨j, e1, c, q⟩ := h1
    subst e1
    exact ⟨_, if_pos c, q⟩)) fun _ _ _ h => h)
theorem wp_iRange2 {Q : List D → VEnv → Prop} (h : wp fs e (fun l e1 => evR2 l fun x => Q x e1) E) : wp (iRange2 fs) e Q E :=
  wp_bnd (wp_mono h (fun l _ h1 => wp_opt (by
    obtain ⟨i, j, e1, c, q⟩ := h1
    subst e1
    exact ⟨_, if_pos c, q⟩)) fun _ _ _ h => h)

/-! calls -/
/-- what a def's answer leads to -/
def Fw (F : FN) (ds : List D) (Q : D → List D → Prop) (X : Str → Option (Str × D) → List D → Prop) : Prop := match F ds with
  | some (.ret d outs) => Q d outs
  | some (.exc c x outs) => X c x outs
  | none => False
theorem fw_ret {F : FN} {ds : List D} {Q : D → List D → Prop} {X : Str → Option (Str × D) → List D → Prop} {d : D} {outs : List D} (h : F ds = some (.ret d outs)) (q : Q d outs) : Fw F ds Q X := by
  unfold Fw; rw [h]; exact q
theorem fw_exc {F : FN} {ds : List D} {Q : D → List D → Prop} {X : Str → Option (Str × D) → List D → Prop} {c : Str} {x : Option (Str × D)} {outs : List D} (h : F ds = some (.exc c x outs)) (q : X c x outs) : Fw F ds Q X := by
  unfold Fw; rw [h]; exact q
theorem fw_get {F : FN} {ds : List D} {d0 : D} {o0 : List D} (h : Fw F ds (fun d o => d = d0 ∧ o = o0) (fun _ _ _ => False)) : F ds = some (.ret d0 o0) := by
  unfold Fw at h
  split at h
  · rename_i e; obtain ⟨rfl, rfl⟩ := h; exact e
  · exact h.elim
  · exact h.elim
theorem fw_mono {F : FN} {ds : List D} {Q Q' : D → List D → Prop} {X X' : Str → Option (Str × D) → List D → Prop} (h : Fw F ds Q' X') (q : ∀ d o, Q' d o → Q d o) (x : ∀ c y o, X' c y o → X c y o) : Fw F ds Q X := by
  unfold Fw at *
  split at h
  · exact q _ _ h
  · exact x _ _ _ h
  · exact h
/-- the lent slots, stored behind a call -/
def outK (e : VEnv) (ks : List Nat) (outs : List D) (K : VEnv → Prop) : Prop := outs.length = ks.length ∧ K (agOut e ks outs)
theorem outK_ln {f : M D} {r : List Ag} {outs : List D} {K : VEnv → Prop} (h : outK e (agL r) outs K) : outK e (agL (.inl f :: r)) outs K := h
theorem outK_e {K : VEnv → Prop} (h : K e) : outK e (agL []) [] K := ⟨rfl, h⟩
theorem outK_r {k : Nat} {r : List Ag} {d : D} {K : VEnv → Prop} (hr : agL r = []) (h : st e k (some d) K) : outK e (agL (.inr k :: r)) [d] K := by
  unfold agL
  rw [hr]
  exact ⟨rfl, h.2⟩
theorem outK_n {K : VEnv → Prop} (h : K e) : outK e [] [] K := ⟨rfl, h⟩
theorem outK_1 {k : Nat} {d : D} {K : VEnv → Prop} (h : st e k (some d) K) : outK e [k] [d] K := ⟨rfl, h.2⟩
theorem wp_Call {F : FN} {ags : List Ag} (h : wp (agM ags) e (fun ds e1 => ev (agD e1 ags ds) fun xs => Fw F xs (fun d outs => outK e1 (agL ags) outs (Q d)) (fun c x outs => outK e1 (agL ags) outs (E c x))) E) : wp (vCall F ags) e Q E :=
  wp_bnd (wp_mono h (fun ds e1 h1 => by
    obtain ⟨xs, e2, h2⟩ := h1
    show wp (fun e => callK F ags e ds) e1 Q E
    unfold wp callK
    dsimp only
    rw [e2, Option.bind_some]
    unfold Fw at h2
    split at h2
    · rename_i d outs e3
      rw [e3]
      dsimp only
      rw [if_pos h2.1]
      exact h2.2
    · rename_i c x outs e3
      rw [e3]
      dsimp only
      rw [if_pos h2.1]
      exact h2.2
    · exact h2.elim) fun _ _ _ h => h)
theorem wp_Make {F : FN} {c : Str} {pm : List Bool} (h : wp fs e (fun ds e1 => pm = true :: List.replicate ds.length false ∧ ev (fzsO ds) fun xs => Fw F (.ins true c [] [] :: xs) (fun d o => ∃ x, d = .non ∧ o = [x] ∧ Q x e1) (fun c' x o => ∃ y, o = [y] ∧ E c' x e1)) E) : wp (vMake F c pm fs) e Q E :=
  wp_bnd (wp_mono h (fun ds e1 h1 => by
    obtain ⟨h2, xs, h3, h4⟩ := h1
    cases h3
    show wp (fun e => makeK F c pm e ds) e1 Q E
    unfold wp makeK
    dsimp only
    rw [if_pos h2]
    unfold Fw at h4
    split at h4
    · rename_i d o e3
      obtain ⟨x, rfl, rfl, q⟩ := h4
      rw [e3]
      exact q
    · rename_i c' x o e3
      obtain ⟨y, rfl, q⟩ := h4
      rw [e3]
      exact q
    · exact h4.elim) fun _ _ _ h => h)
theorem wp_ag0 {Q : List D → VEnv → Prop} (h : Q [] e) : wp (agM []) e Q E := h
theorem wp_agl {r : List Ag} {Q : List D → VEnv → Prop} (h : wp f e (fun d e1 => wp (agM r) e1 (fun ds e2 => Q (d :: ds) e2) E) E) : wp (agM (.inl f :: r)) e Q E := wp_aCons h
theorem wp_agr {k : Nat} {r : List Ag} {Q : List D → VEnv → Prop} (h : ev ((e[k]?).join) fun _ => wp (agM r) e Q E) : wp (agM (.inr k :: r)) e Q E := by
  obtain ⟨d, h1, q⟩ := h
  have e1 : e[k]? = some (some d) := by
    cases h2 : e[k]? with
    | none => rw [h2] at h1; cases h1
    | some o => rw [h2] at h1; cases h1; rfl
  unfold wp agM
  rw [e1]
  exact q
end

/-! ### statements -/
def ws (m : M Fl) (e : VEnv) (K B C : VEnv → Prop) (R : D → VEnv → Prop) (E : XQ) : Prop := wp m e (fun r e1 => match r with
  | .nx => K e1
  | .bk => B e1
  | .ct => C e1
  | .rt d => R d e1) E
section
variable {e : VEnv} {K B C : VEnv → Prop} {R : D → VEnv → Prop} {E : XQ} {f g b : M Fl} {fe : M D} {c : M Bool} {p : VEnv → Option D} {it : M (List D)} {t : Tg}
theorem ws_mono {K' B' C' : VEnv → Prop} {R' : D → VEnv → Prop} {E' : XQ} (h : ws f e K' B' C' R' E') (k : ∀ e, K' e → K e) (b : ∀ e, B' e → B e) (c : ∀ e, C' e → C e) (r : ∀ d e, R' d e → R d e) (x : ∀ c y e, E' c y e → E c y e) : ws f e K B C R E :=
  wp_mono h (fun a e1 h1 => by
    cases a with
    | nx => exact k _ h1
    | bk => exact b _ h1
    | ct => exact c _ h1
    | rt d => exact r _ _ h1) x
theorem ws_nil (h : K e) : ws sNil e K B C R E := h
theorem ws_seq (h : ws f e (fun e1 => ws g e1 K B C R E) B C R E) : ws (sSeq f g) e K B C R E :=
  wp_bnd (wp_mono h (fun r _ h1 => by cases r <;> exact h1) fun _ _ _ h => h)
/-- a halt between two statements: what holds there -/
theorem ws_seqI (Mid : VEnv → Prop) (h1 : ws f e Mid B C R E) (h2 : ∀ e1, Mid e1 → ws g e1 K B C R E) : ws (sSeq f g) e K B C R E :=
  ws_seq (ws_mono h1 h2 (fun _ h => h) (fun _ h => h) (fun _ _ h => h) fun _ _ _ h => h)
theorem ws_drop (h : wp fe e (fun _ e1 => K e1) E) : ws (sDrop fe) e K B C R E := wp_bnd h
theorem ws_ret (h : wp fe e R E) : ws (sRet fe) e K B C R E := wp_bnd h
theorem ws_retN (h : R .non e) : ws sRetN e K B C R E := h
theorem ws_if (h : wp c e (fun b e1 => ifb b (ws f e1 K B C R E) (ws g e1 K B C R E)) E) : ws (sIf c f g) e K B C R E :=
  wp_bnd (wp_mono h (fun b _ h1 => by cases b <;> exact h1) fun _ _ _ h => h)
theorem ws_brk (h : B e) : ws sBrk e K B C R E := h
theorem ws_cnt (h : C e) : ws sCnt e K B C R E := h
theorem ws_set {k : Nat} (h : wp fe e (fun d e1 => st e1 k (some d) K) E) : ws (sSet k fe) e K B C R E :=
  wp_bnd (wp_mono h (fun d e1 h1 => by
    unfold wp putS
    rw [if_pos h1.1]
    exact h1.2) fun _ _ _ h => h)
/-- a number stored, of which only P is kept -/
theorem ws_setI (P : Int → Prop) {k : Nat} {i : Int} (h : p e = some (.int i)) (hp : P i) (hs : ∀ i, P i → st e k (some (.int i)) K) : ws (sSet k (vP p)) e K B C R E :=
  ws_set (wp_P ⟨_, h, rfl, hs i hp⟩)
theorem ws_fld {c f : Str} {k : Nat} (h : wp fe e (fun d e1 => ev2 (insAt c k e1) fun ns l => ns.length < 1000 ∧ ev2 (putO f d (ns, l)) fun ns' l' => st e1 k (some (.ins true c ns' l')) K) E) : ws (sFld c f k fe) e K B C R E :=
  wp_bnd (wp_mono h (fun d e1 h1 => by
    obtain ⟨ns, l, h2, h3, ns', l', h4, _, q⟩ := h1
    have e4 : putN f d ns l = (ns', l') := Option.some.inj h4
    unfold wp
    dsimp only
    rw [h2, Option.bind_some, if_pos h3, e4]
    exact q) fun _ _ _ h => h)
theorem ws_raise {x : Str} (h : E x none e) : ws (sRaise x) e K B C R E := h
theorem ws_aug {g : D → D → Option D} {k : Nat} (h : evf ((e[k]?).join) fun d0 => wp fe e (fun d e1 => d.frozen = true ∧ evf (g d0 d) fun r => st e1 k (some r) K) E) : ws (sAug g k fe) e K B C R E := by
  obtain ⟨d0, h1, f0, h2⟩ := h
  have e1 : e[k]? = some (some d0) := by
    cases h2 : e[k]? with
    | none => rw [h2] at h1; cases h1
    | some o => rw [h2] at h1; cases h1; rfl
  unfold ws
  have : wp (fe.bnd fun d => (M.opt ((g d0 d).bind fun r => if (d.frozen && r.frozen) = true then some r else none)).bnd (putS k)) e (fun r e1 => match r with
      | .nx => K e1
      | .bk => B e1
      | .ct => C e1
      | .rt d => R d e1) E := wp_bnd (wp_mono h2 (fun d e1 h3 => wp_bnd (wp_opt (by
      obtain ⟨fd, r, h4, fr, h5⟩ := h3
      refine ⟨r, by rw [h4, Option.bind_some, fd, fr]; rfl, ?_⟩
      unfold wp putS
      dsimp only
      rw [if_pos h5.1]
      exact h5.2))) fun _ _ _ h => h)
  unfold wp sAug
  unfold wp at this
  rw [e1]
  dsimp only
  rw [if_pos f0]
  exact this
theorem ws_to (h : wp fe e (fun d e1 => ev (t d e1) K) E) : ws (sTo t fe) e K B C R E :=
  wp_bnd (wp_mono h (fun d e1 h1 => by
    obtain ⟨e2, h2, q⟩ := h1
    unfold wp
    dsimp only
    rw [h2]
    exact q) fun _ _ _ h => h)
theorem ws_par {i j : Nat} {fs : M (List D)} (h : wp fs e (fun ds e1 => ∃ d1 d2, ds = [d1, d2] ∧ st e1 i (some d1) fun e2 => st e2 j (some d2) K) E) : ws (sPar i j fs) e K B C R E :=
  wp_bnd (wp_mono h (fun ds e1 h1 => by
    obtain ⟨d1, d2, rfl, h2, h3, h4⟩ := h1
    unfold wp
    dsimp only
    rw [if_pos ⟨h2, by simpa using h3⟩]
    exact h4) fun _ _ _ h => h)
theorem ws_app {k : Nat} (h : ev (lstAt k e) fun _ => wp fe e (fun d e1 => ev (lstAt k e1) fun l => l.length < sizeLine ∧ st e1 k (some (.lst true (l ++ [d]))) K) E) : ws (sApp k fe) e K B C R E := by
  obtain ⟨l, h1, h2⟩ := h
  unfold ws wp sApp
  rw [h1, Option.bind_some]
  exact wp_bnd (Q := fun (r : Fl) e1 => match r with
      | .nx => K e1
      | .bk => B e1
      | .ct => C e1
      | .rt d => R d e1) (wp_mono h2 (fun d e1 h3 => by
    obtain ⟨l', h4, h5, h6, h7⟩ := h3
    unfold wp
    dsimp only
    rw [h4, Option.bind_some, if_pos h5]
    exact h7) fun _ _ _ h => h)
theorem ws_rev {k : Nat} (h : ev (lstAt k e) fun l => D.frozens l = true ∧ st e k (some (.lst true l.reverse)) K) : ws (sRev k) e K B C R E := by
  obtain ⟨l, h1, f, _, q⟩ := h
  unfold ws wp sRev
  rw [h1, Option.bind_some, if_pos f]
  exact q
theorem ws_ext {k : Nat} (h : ev (lstAt k e) fun _ => wp fe e (fun d e1 => ev (lstAt k e1) fun l => ev (asLst d.fz) fun m => l.length + m.length ≤ sizeLine ∧ st e1 k (some (.lst true (l ++ m))) K) E) : ws (sExt k fe) e K B C R E := by
  obtain ⟨l, h1, h2⟩ := h
  unfold ws wp sExt
  rw [h1, Option.bind_some]
  exact wp_bnd (Q := fun (r : Fl) e1 => match r with
      | .nx => K e1
      | .bk => B e1
      | .ct => C e1
      | .rt d => R d e1) (wp_mono h2 (fun d e1 h3 => by
    obtain ⟨l', h4, m, h5, h6, _, h7⟩ := h3
    unfold wp
    dsimp only
    rw [h4, Option.bind_some, h5, Option.bind_some, if_pos h6]
    exact h7) fun _ _ _ h => h)
theorem ws_put {k : Nat} (h : wp fe e (fun d e1 => ev (lstAt k e1) fun l => ev ((p e1).bind asInt) fun i => ev (ixSet l i d) fun l' => st e1 k (some (.lst true l')) K) E) : ws (sPut k p fe) e K B C R E :=
  wp_bnd (wp_mono h (fun d e1 h1 => by
    obtain ⟨l, h2, i, h3, l', h4, _, q⟩ := h1
    unfold wp
    dsimp only
    rw [h2, Option.bind_some, h3, Option.bind_some, h4]
    exact q) fun _ _ _ h => h)
theorem ws_try {hs : List Hd} (h : ws b e K B C R (fun c x e2 => ws (tryL hs c x) e2 K B C R E)) : ws (sTry b hs) e K B C R E := by
  unfold ws wp sTry
  unfold ws wp at h
  cases h1 : b e with
  | none => rw [h1] at h; exact h.elim
  | some r =>
    rw [h1] at h
    cases r with
    | ok a e' => exact h
    | exc c x e' => exact h
theorem th_nil {c : Str} {x : Option (Str × D)} (h : E c x e) : ws (tryL [] c x) e K B C R E := h
theorem th_no {hd : Hd} {r : List Hd} {c : Str} {x : Option (Str × D)} (hm : hd.mt c = some false) (h : ws (tryL r c x) e K B C R E) : ws (tryL (hd :: r) c x) e K B C R E := by
  unfold ws wp at *
  unfold tryL
  rw [hm]
  exact h
theorem th_yes {mt : Str → Option Bool} {su : Str → Option (Str × D) → M Fl} {i : Nat} {r : List Hd} {c : Str} {x : Option (Str × D)} (hm : mt c = some true) (h : st e i none fun e1 => ws (su c x) e1 (fun e2 => st e2 i none K) (fun e2 => st e2 i none B) (fun e2 => st e2 i none C) (fun d e2 => st e2 i none (R d)) (fun _ _ _ => False)) : ws (tryL (⟨mt, some i, su⟩ :: r) c x) e K B C R E := by
  obtain ⟨_, h⟩ := h
  unfold ws wp at *
  unfold tryL
  dsimp only
  rw [hm]
  dsimp only [hdEnv]
  cases h1 : su c x (e.set i none) with
  | none => rw [h1] at h; exact h.elim
  | some z =>
    rw [h1] at h
    cases z with
    | exc c x e' => exact h.elim
    | ok a e' => cases a <;> exact h.2
theorem th_yes0 {mt : Str → Option Bool} {su : Str → Option (Str × D) → M Fl} {r : List Hd} {c : Str} {x : Option (Str × D)} (hm : mt c = some true) (h : ws (su c x) e K B C R (fun _ _ _ => False)) : ws (tryL (⟨mt, none, su⟩ :: r) c x) e K B C R E := by
  unfold ws wp at *
  unfold tryL
  dsimp only
  rw [hm]
  dsimp only [hdEnv]
  cases h1 : su c x e with
  | none => rw [h1] at h; exact h.elim
  | some z =>
    rw [h1] at h
    cases z with
    | exc c x e' => exact h.elim
    | ok a e' => cases a <;> exact h
/-- a for: what holds ahead of item i -/
theorem wf_inv (Inv : Nat → VEnv → Prop) : ∀ (l : List D) (n : Nat) (e : VEnv), Inv n e → (∀ i d e, l[i]? = some d → Inv (n + i) e → ev (t d e) fun e1 => ws b e1 (Inv (n + i + 1)) K (Inv (n + i + 1)) R E) → (∀ e, Inv (n + l.length) e → K e) → ws (forL t b l) e K B C R E
  | [], n, e, h0, hb, hk => hk e h0
  | d :: l, n, e, h0, hb, hk => by
    obtain ⟨e1, h1, h2⟩ := hb 0 d e rfl h0
    have rc : ∀ e2, Inv (n + 1) e2 → ws (forL t b l) e2 K B C R E := fun e2 h3 => wf_inv Inv l (n + 1) e2 h3 (fun i d e hi hI => by
      have := hb (i + 1) d e (by simpa using hi) (by rw [show n + (i + 1) = n + 1 + i by omega]; exact hI)
      rw [show n + (i + 1) = n + 1 + i by omega] at this
      exact this) (fun e he => hk e (by rw [show n + (d :: l).length = n + 1 + l.length by simp only [List.length_cons]; omega]; exact he))
    unfold ws wp forL
    rw [h1]
    dsimp only
    unfold ws wp at h2
    cases hb1 : b e1 with
    | none => rw [hb1] at h2; exact h2.elim
    | some r =>
      rw [hb1] at h2
      cases r with
      | exc c x e2 => exact h2
      | ok r e2 =>
        cases r with
        | nx => exact rc e2 h2
        | ct => exact rc e2 h2
        | bk => exact h2
        | rt d => exact h2
theorem ws_for (h : wp it e (fun l e1 => ws (forL t b l) e1 K B C R E) E) : ws (sFor it t b) e K B C R E := wp_bnd h
/-- a for by what holds ahead of item i -/
theorem ws_forI (Inv : Nat → VEnv → Prop) {l : List D} (h0 : Inv 0 e) (hb : ∀ i d e, l[i]? = some d → Inv i e → ev (t d e) fun e1 => ws b e1 (Inv (i + 1)) K (Inv (i + 1)) R E) (hk : ∀ e, Inv l.length e → K e) : ws (forL t b l) e K B C R E :=
  wf_inv Inv l 0 e h0 (fun i d e hi hI => by rw [Nat.zero_add] at hI ⊢; exact hb i d e hi hI) (fun e he => hk e (by rw [Nat.zero_add] at he; exact he))
/-- a while by a bound of its turns -/
theorem ww_inv (Inv : Nat → VEnv → Prop) (hb : ∀ n e, Inv n e → wp c e (fun k e1 => ifb k (ws b e1 (fun e2 => ∃ m, m < n ∧ Inv m e2) K (fun e2 => ∃ m, m < n ∧ Inv m e2) R E) (K e1)) E) : ∀ (n : Nat) (e : VEnv), Inv n e → ∃ N r, whN c b N e = some r ∧ (match r with
    | .ok a e' => match a with
      | .nx => K e'
      | .bk => B e'
      | .ct => C e'
      | .rt d => R d e'
    | .exc x y e' => E x y e') := by
  intro n
  induction n using Nat.strongRecOn with
  | _ n ih =>
    intro e h0
    have h1 := hb n e h0
    unfold wp at h1
    cases hc : c e with
    | none => rw [hc] at h1; exact h1.elim
    | some r =>
      rw [hc] at h1
      cases r with
      | exc x y e1 => exact ⟨1, .exc x y e1, by simp [whN, M.bnd, hc], h1⟩
      | ok k e1 =>
        cases k with
        | false => exact ⟨1, .ok .nx e1, by simp [whN, M.bnd, hc, M.ret], h1⟩
        | true =>
          replace h1 : ws b e1 _ _ _ _ _ := h1
          unfold ws wp at h1
          cases hb1 : b e1 with
          | none => rw [hb1] at h1; exact h1.elim
          | some r =>
            rw [hb1] at h1
            cases r with
            | exc x y e2 => exact ⟨1, .exc x y e2, by simp [whN, M.bnd, hc, hb1], h1⟩
            | ok r e2 =>
              cases r with
              | nx =>
                obtain ⟨m, hm, h2⟩ := h1
                obtain ⟨N, r, h3, h4⟩ := ih m hm e2 h2
                exact ⟨N + 1, r, by simp [whN, M.bnd, hc, hb1, h3], h4⟩
              | ct =>
                obtain ⟨m, hm, h2⟩ := h1
                obtain ⟨N, r, h3, h4⟩ := ih m hm e2 h2
                exact ⟨N + 1, r, by simp [whN, M.bnd, hc, hb1, h3], h4⟩
              | bk => exact ⟨1, .ok .nx e2, by simp [whN, M.bnd, hc, hb1], h1⟩
              | rt d => exact ⟨1, .ok (.rt d) e2, by simp [whN, M.bnd, hc, hb1], h1⟩
theorem ws_whI (Inv : Nat → VEnv → Prop) (n : Nat) (h0 : Inv n e) (hb : ∀ n e, Inv n e → wp c e (fun k e1 => ifb k (ws b e1 (fun e2 => ∃ m, m < n ∧ Inv m e2) K (fun e2 => ∃ m, m < n ∧ Inv m e2) R E) (K e1)) E) : ws (sWh c b) e K B C R E := by
  obtain ⟨N, r, h1, h2⟩ := ww_inv (B := B) (C := C) Inv hb n e h0
  unfold ws wp
  rw [sWh_of h1]
  cases r with
  | ok a e' => exact h2
  | exc x y e' => exact h2
/-- comprehensions -/
theorem wl_inv {el : M D} {vs : List Nat} {Q : List D → VEnv → Prop} (Inv : Nat → List D → VEnv → Prop) : ∀ (l : List D) (n : Nat) (acc : List D) (e : VEnv), Inv n acc e → (∀ i d acc e, l[i]? = some d → Inv (n + i) acc e → ev (t d (wipeE e vs)) fun e1 => wp c e1 (fun k e2 => ifb k (wp el e2 (fun y e3 => acc.length < sizeLine ∧ Inv (n + i + 1) (acc ++ [y]) (wipeE e3 vs)) (fun _ _ _ => False)) (Inv (n + i + 1) acc (wipeE e2 vs))) (fun _ _ _ => False)) → (∀ acc e, Inv (n + l.length) acc e → Q acc e) → wp (lcL t c el vs l acc) e Q E
  | [], n, acc, e, h0, hb, hk => hk acc e h0
  | d :: l, n, acc, e, h0, hb, hk => by
    obtain ⟨e1, h1, h2⟩ := hb 0 d acc e rfl h0
    have rc : ∀ acc e2, Inv (n + 1) acc e2 → wp (lcL t c el vs l acc) e2 Q E := fun acc e2 h3 => wl_inv Inv l (n + 1) acc e2 h3 (fun i d acc e hi hI => by
      have := hb (i + 1) d acc e (by simpa using hi) (by rw [show n + (i + 1) = n + 1 + i by omega]; exact hI)
      rw [show n + (i + 1) = n + 1 + i by omega] at this
      exact this) (fun acc e he => hk acc e (by rw [show n + (d :: l).length = n + 1 + l.length by simp only [List.length_cons]; omega]; exact he))
    unfold wp lcL
    rw [h1]
    dsimp only
    unfold wp at h2
    cases hb1 : c e1 with
    | none => rw [hb1] at h2; exact h2.elim
    | some r =>
      rw [hb1] at h2
      cases r with
      | exc x y e2 => exact h2.elim
      | ok k e2 =>
        cases k with
        | false => exact rc acc _ h2
        | true =>
          replace h2 : wp el e2 (fun y e3 => acc.length < sizeLine ∧ Inv (n + 0 + 1) (acc ++ [y]) (wipeE e3 vs)) (fun _ _ _ => False) := h2
          unfold wp at h2
          dsimp only
          cases hb2 : el e2 with
          | none => rw [hb2] at h2; exact h2.elim
          | some r =>
            rw [hb2] at h2
            cases r with
            | exc x y e2 => exact h2.elim
            | ok y e3 =>
              dsimp only
              rw [if_pos h2.1]
              exact rc _ _ h2.2
theorem wipeS_n {e : VEnv} {K : VEnv → Prop} (h : K e) : wipeS e [] K := h
theorem wipeS_c {e : VEnv} {v : Nat} {vs : List Nat} {K : VEnv → Prop} (h : wipeS e vs fun e1 => st e1 v none K) : wipeS e (v :: vs) K := h.2
theorem wp_Lc {el : M D} {vs : List Nat} {Q : D → VEnv → Prop} (h : wp it e (fun l e1 => wipeS e1 vs fun e2 => wp (lcL t c el vs l []) e2 (fun acc e2 => Q (.lst true acc) e2) E) E) : wp (vLc it t c el vs) e Q E :=
  wp_bnd (wp_mono h (fun l e1 h1 => wp_bnd (e := wipeE e1 vs) (Q := Q) h1) fun _ _ _ h => h)
/-- a comprehension by what holds ahead of item i, the list so far -/
theorem wp_lcI {el : M D} {vs : List Nat} {Q : List D → VEnv → Prop} (Inv : Nat → List D → VEnv → Prop) {l : List D} (h0 : Inv 0 [] e) (hb : ∀ i d acc e, l[i]? = some d → Inv i acc e → wipeS e vs fun e0 => ev (t d e0) fun e1 => wp c e1 (fun k e2 => ifb k (wp el e2 (fun y e3 => acc.length < sizeLine ∧ wipeS e3 vs (Inv (i + 1) (acc ++ [y]))) (fun _ _ _ => False)) (wipeS e2 vs (Inv (i + 1) acc))) (fun _ _ _ => False)) (hk : ∀ acc e, Inv l.length acc e → Q acc e) : wp (lcL t c el vs l []) e Q E :=
  wl_inv Inv l 0 [] e h0 (fun i d acc e hi hI => by rw [Nat.zero_add] at hI ⊢; exact hb i d acc e hi hI) (fun acc e he => hk acc e (by rw [Nat.zero_add] at he; exact he))
end
/-- a def by its body -/
theorem fw_run {n : Nat} {pm : List Bool} {b : M Fl} {ds : List D} {Q : D → List D → Prop} {X : Str → Option (Str × D) → List D → Prop} (hl : ds.length = pm.length)
    (h : ws b (ds.map some ++ List.replicate (n - ds.length) none) (fun e => ev (outsOf pm e) (Q .non)) (fun _ => False) (fun _ => False) (fun d e => ev (outsOf pm e) (Q d)) (fun c x e => ev (outsOf pm e) (X c x))) : Fw (runD n pm b) ds Q X := by
  unfold Fw runD
  rw [if_pos hl]
  unfold ws wp at h
  split at h
  · rename_i r e1 e2
    rw [e2]
    cases r with
    | nx => obtain ⟨o, h1, q⟩ := h; dsimp only; rw [h1]; exact q
    | bk => exact h.elim
    | ct => exact h.elim
    | rt d => obtain ⟨o, h1, q⟩ := h; dsimp only; rw [h1]; exact q
  · rename_i e2
    rw [e2]
    obtain ⟨o, h1, q⟩ := h
    dsimp only
    rw [h1]
    exact q
  · exact h.elim
end
section
set_option Elab.async false
set_option linter.all false
set_option maxRecDepth 100000
set_option maxHeartbeats 1000000
/-! ### lists of numbers -/
def nums (l : List Int) : List D := l.map .int
def gi (l : List Int) (k : Int) : Int := l.getD k.toNat 0
theorem nums_nil : ([] : List D) = nums [] := rfl
theorem nums_cons {i : Int} {l : List Int} : .int i :: nums l = nums (i :: l) := rfl
theorem nums_one {i : Int} : [D.int i] = nums [i] := rfl
theorem nums_len {l : List Int} : (nums l).length = l.length := List.length_map ..
theorem nums_app {l k : List Int} : nums l ++ nums k = nums (l ++ k) := (List.map_append ..).symm
theorem nums_push {l : List Int} {i : Int} : nums l ++ [.int i] = nums (l ++ [i]) := by simp [nums]
theorem nums_rev {l : List Int} : (nums l).reverse = nums l.reverse := List.map_reverse.symm
theorem nums_take {l : List Int} {n : Nat} : (nums l).take n = nums (l.take n) := List.map_take.symm
theorem nums_drop {l : List Int} {n : Nat} : (nums l).drop n = nums (l.drop n) := List.map_drop.symm
theorem nums_dropLast {l : List Int} : (nums l).dropLast = nums l.dropLast := List.map_dropLast.symm
theorem nums_set {l : List Int} {n : Nat} {i : Int} : (nums l).set n (.int i) = nums (l.set n i) := List.map_set.symm
theorem nums_last {l : List Int} {i : Int} (h : l.getLast? = some i) : (nums l).getLast? = some (.int i) := by
  show (l.map D.int).getLast? = _
  rw [List.getLast?_map, h]; rfl
theorem nums_get {l : List Int} {i : Nat} {d : D} (h : (nums l)[i]? = some d) : i < l.length ∧ d = .int (l.getD i 0) := by
  unfold nums at h
  rw [List.getElem?_map] at h
  obtain ⟨x, h1, h2⟩ := Option.map_eq_some_iff.mp h
  have := (List.getElem?_eq_some_iff.mp h1).1
  refine ⟨this, ?_⟩
  rw [← h2, List.getD_eq_getElem?_getD, h1]; rfl
theorem dInts_get {lo : Int} {n i : Nat} {d : D} (h : (dInts lo n)[i]? = some d) : i < n ∧ d = .int (lo + i) := by
  unfold dInts at h
  rw [List.getElem?_map] at h
  obtain ⟨x, h1, h2⟩ := Option.map_eq_some_iff.mp h
  obtain ⟨h3, h4⟩ := List.getElem?_eq_some_iff.mp h1
  rw [List.length_range] at h3
  rw [List.getElem_range] at h4
  exact ⟨h3, by rw [← h2, ← h4]⟩
theorem dInts_len {lo : Int} {n : Nat} : (dInts lo n).length = n := by simp [dInts]
theorem frozens_nums : ∀ {l : List Int}, D.frozens (nums l) = true
  | [] => rfl
  | i :: l => by
    show (D.frozen (.int i) && D.frozens (nums l)) = true
    rw [frozens_nums]; rfl
theorem fzs_nums : ∀ {l : List Int}, D.fzs (nums l) = nums l
  | [] => rfl
  | i :: l => by
    show D.fz (.int i) :: D.fzs (nums l) = _
    rw [fzs_nums]; rfl
theorem frozens_dInts {lo : Int} {n : Nat} : D.frozens (dInts lo n) = true := by
  have : dInts lo n = nums ((List.range n).map fun (i : Nat) => lo + i) := by simp [dInts, nums]
  rw [this, frozens_nums]
theorem gi_mem {l : List Int} {k : Int} (h0 : 0 ≤ k) (h1 : k < l.length) : gi l k ∈ l := by
  unfold gi
  have : k.toNat < l.length := by omega
  rw [List.getD_eq_getElem?_getD, List.getElem?_eq_getElem this]
  exact List.getElem_mem this
theorem atI_nums {l : List Int} {k : Int} (h0 : 0 ≤ k) (h1 : k < l.length) : L2.atI (nums l) k = some (.int (gi l k)) := by
  unfold L2.atI L2.ixN
  have h2 : k.toNat < l.length := by omega
  rw [if_pos h0, nums_len, if_pos h1, Option.bind_some]
  unfold nums gi
  rw [List.getElem?_map, List.getD_eq_getElem?_getD, List.getElem?_eq_getElem h2]
  rfl
theorem atI_numsN {l : List Int} {k : Int} (h0 : k < 0) (h1 : -(l.length : Int) ≤ k) : L2.atI (nums l) k = some (.int (gi l (k + l.length))) := by
  unfold L2.atI L2.ixN
  have h2 : (k + l.length).toNat < l.length := by omega
  rw [if_neg (by omega), nums_len, if_pos h1, Option.bind_some]
  unfold nums gi
  rw [List.getElem?_map, List.getD_eq_getElem?_getD, List.getElem?_eq_getElem h2]
  rfl
theorem cut_to {l : List Int} {k : Int} (h0 : 0 ≤ k) : cutD (nums l) none (some k) = nums (l.take k.toNat) := by
  unfold cutD HT.sIx
  dsimp only
  rw [if_neg (by omega), List.drop_zero, Nat.sub_zero, nums_take, nums_len]
  by_cases h : k.toNat ≤ l.length
  · rw [Nat.min_eq_left h]
  · rw [Nat.min_eq_right (by omega), List.take_of_length_le (by omega), List.take_of_length_le (by omega)]
theorem cut_from {l : List Int} {k : Int} (h0 : 0 ≤ k) : cutD (nums l) (some k) none = nums (l.drop k.toNat) := by
  unfold cutD HT.sIx
  dsimp only
  rw [if_neg (by omega), nums_drop, nums_take, nums_len]
  by_cases h : k.toNat ≤ l.length
  · rw [Nat.min_eq_left h, List.take_of_length_le (by rw [List.length_drop]; omega)]
  · rw [Nat.min_eq_right (by omega), Nat.sub_self, List.take_zero, List.drop_of_length_le (by omega)]
theorem cut_mid {l : List Int} {i k : Int} (h0 : 0 ≤ i) (h1 : i ≤ k) (h2 : k ≤ l.length) : cutD (nums l) (some i) (some k) = nums ((l.drop i.toNat).take (k - i).toNat) := by
  unfold cutD HT.sIx
  dsimp only
  rw [if_neg (by omega), if_neg (by omega), nums_drop, nums_take, nums_len, Nat.min_eq_left (by omega), Nat.min_eq_left (by omega)]
  congr 2
  omega
theorem nums_rep {l : List Int} {n : Nat} : (List.replicate n (nums l)).flatten = nums (List.replicate n l).flatten := by
  unfold nums
  rw [List.map_flatten, List.map_replicate]

/-! ### equality -/
structure DE (n : Nat) (a b : D) (k : Bool) : Prop where
  h : ∃ p q, toPy a = some p ∧ toPy b = some q ∧ p.canLay0 = true ∧ q.canLay0 = true ∧ p.depth ≤ n ∧ q.depth ≤ n ∧ PyData.eqv p q = k
theorem dEq_i {a b : D} {k : Bool} (h : DE 64 a b k) : dEq a b = some k := by
  obtain ⟨p, q, h1, h2, h3, h4, h5, h6, h7⟩ := h.h
  unfold dEq SeqAt.shaped
  rw [h1, Option.bind_some, h2, Option.bind_some, h3, h4, decide_eq_true h5, decide_eq_true h6, h7]
  rfl
theorem DE.int {n : Nat} {i j : Int} : DE n (.int i) (.int j) (decide (i = j)) := ⟨_, _, rfl, rfl, rfl, rfl, Nat.zero_le _, Nat.zero_le _, by
  show (i == j) = _
  rfl⟩
theorem DE.bl {n : Nat} {i j : Bool} : DE n (.bl i) (.bl j) (i == j) := ⟨_, _, rfl, rfl, rfl, rfl, Nat.zero_le _, Nat.zero_le _, rfl⟩
theorem DE.str {n : Nat} {i j : Str} (h1 : PyData.strOk i = true) (h2 : PyData.strOk j = true) : DE n (.str i) (.str j) (i == j) := ⟨_, _, rfl, rfl, h1, h2, Nat.zero_le _, Nat.zero_le _, rfl⟩
theorem DE.non {n : Nat} : DE n .non .non true := ⟨_, _, rfl, rfl, rfl, rfl, Nat.zero_le _, Nat.zero_le _, rfl⟩
structure DEs (n : Nat) (a b : List D) (k : Bool) : Prop where
  h : ∃ p q, toPys a = some p ∧ toPys b = some q ∧ PyData.canLayAll0 p = true ∧ PyData.canLayAll0 q = true ∧ PyData.depthAll p ≤ n ∧ PyData.depthAll q ≤ n ∧ PyData.eqvAll p q = k
theorem DEs.nil {n : Nat} : DEs n [] [] true := ⟨_, _, rfl, rfl, rfl, rfl, Nat.zero_le _, Nat.zero_le _, rfl⟩
theorem DEs.cons {n : Nat} {a b : D} {as bs : List D} {k ks : Bool} (h : DE n a b k) (hs : DEs n as bs ks) : DEs n (a :: as) (b :: bs) (k && ks) := by
  obtain ⟨p, q, h1, h2, h3, h4, h5, h6, h7⟩ := h.h
  obtain ⟨ps, qs, g1, g2, g3, g4, g5, g6, g7⟩ := hs.h
  refine ⟨p :: ps, q :: qs, ?_, ?_, ?_, ?_, ?_, ?_, ?_⟩
  · show (toPy a).bind (fun x => (toPys as).map (x :: ·)) = _
    rw [h1, g1]; rfl
  · show (toPy b).bind (fun x => (toPys bs).map (x :: ·)) = _
    rw [h2, g2]; rfl
  · show (p.canLay0 && PyData.canLayAll0 ps) = true
    rw [h3, g3]; rfl
  · show (q.canLay0 && PyData.canLayAll0 qs) = true
    rw [h4, g4]; rfl
  · exact Nat.max_le.mpr ⟨h5, g5⟩
  · exact Nat.max_le.mpr ⟨h6, g6⟩
  · show (PyData.eqv p q && PyData.eqvAll ps qs) = _
    rw [h7, g7]
theorem toPys_nums : ∀ {l : List Int}, toPys (nums l) = some (l.map .int)
  | [] => rfl
  | i :: l => by
    show (toPy (.int i)).bind (fun x => (toPys (nums l)).map (x :: ·)) = _
    rw [toPys_nums]; rfl
theorem lay_nums : ∀ {l : List Int}, PyData.canLayAll0 (l.map .int) = true
  | [] => rfl
  | i :: l => by
    show (true && PyData.canLayAll0 (l.map .int)) = true
    rw [lay_nums]; rfl
theorem depth_nums : ∀ {l : List Int}, PyData.depthAll (l.map .int) = 0
  | [] => rfl
  | i :: l => by
    show max 0 (PyData.depthAll (l.map .int)) = 0
    rw [depth_nums]; rfl
theorem eqv_nums : ∀ {l k : List Int}, PyData.eqvAll (l.map .int) (k.map .int) = decide (l = k)
  | [], [] => by simp [PyData.eqvAll]
  | [], _ :: _ => by simp [PyData.eqvAll]
  | _ :: _, [] => by simp [PyData.eqvAll]
  | i :: l, j :: k => by
    show ((i == j) && PyData.eqvAll (l.map .int) (k.map .int)) = _
    rw [eqv_nums]
    by_cases h1 : i = j <;> by_cases h2 : l = k <;> simp [h1, h2]
theorem DEs.nums {n : Nat} {l k : List Int} : DEs n (nums l) (nums k) (decide (l = k)) := ⟨_, _, toPys_nums, toPys_nums, lay_nums, lay_nums, by rw [depth_nums]; exact Nat.zero_le _, by rw [depth_nums]; exact Nat.zero_le _, eqv_nums⟩
theorem DE.tup {n : Nat} {a b : List D} {k : Bool} (h : DEs n a b k) : DE (n + 1) (.tup a) (.tup b) k := by
  obtain ⟨p, q, h1, h2, h3, h4, h5, h6, h7⟩ := h.h
  exact ⟨.tuple p, .tuple q, by show (toPys a).map PyData.tuple = _; rw [h1]; rfl, by show (toPys b).map PyData.tuple = _; rw [h2]; rfl, h3, h4, Nat.succ_le_succ h5, Nat.succ_le_succ h6, h7⟩
theorem DE.lst {n : Nat} {m m' : Bool} {a b : List D} {k : Bool} (h : DEs n a b k) : DE (n + 1) (.lst m a) (.lst m' b) k := by
  obtain ⟨p, q, h1, h2, h3, h4, h5, h6, h7⟩ := h.h
  exact ⟨.list p, .list q, by show (toPys a).map PyData.list = _; rw [h1]; rfl, by show (toPys b).map PyData.list = _; rw [h2]; rfl, h3, h4, Nat.succ_le_succ h5, Nat.succ_le_succ h6, h7⟩

/-! ### readings worked out -/
section
variable {e : VEnv} {a : Option D} {i j : Int}
theorem q_var0 : pVar 0 (a :: e) = a := (rfl)
theorem q_varS {k : Nat} : pVar (k + 1) (a :: e) = pVar k e := (rfl)
theorem q_c {d : D} : pC d e = some d := (rfl)
theorem q_p2 {g : D → D → Option D} {p q : VEnv → Option D} : p2 g p q e = (p e).bind fun x => (q e).bind fun y => g x y := (rfl)
theorem q_p1 {g : D → Option D} {p : VEnv → Option D} : p1 g p e = (p e).bind g := (rfl)
theorem q_gI {f : Int → Int → Option Int} : gI f (.int i) (.int j) = (f i j).map .int := (rfl)
theorem q_gAdd : gAdd (.int i) (.int j) = some (.int (i + j)) := (rfl)
theorem q_sub : fSub i j = some (i - j) := (rfl)
theorem q_mulR (h : -18446744073709551616 < j ∧ j < 18446744073709551616) : fMul i j = some (i * j) := if_pos (.inr h)
theorem q_mulL (h : -18446744073709551616 < i ∧ i < 18446744073709551616) : fMul i j = some (i * j) := if_pos (.inl h)
theorem q_div (h : 0 < j ∧ j < 1073741824) : fDiv i j = some (i / j) := if_pos h
theorem q_mod (h : 0 < j) : fMod i j = some (i % j) := if_pos h
theorem q_pow (h : 0 ≤ j ∧ j ≤ 1000000 ∧ i.natAbs < 18446744073709551616) : fPow i j = some (i ^ j.toNat) := if_pos h
theorem q_shl (h : 0 ≤ j ∧ j ≤ 1000000 ∧ i.natAbs < 18446744073709551616) : fShl i j = some (i * 2 ^ j.toNat) := if_pos h
theorem q_shr (h : 0 ≤ j) : fShr i j = some (i / 2 ^ j.toNat) := if_pos h
theorem q_gIB {f : Int → Int → Bool} : gIB f (.int i) (.int j) = some (.bl (f i j)) := (rfl)
theorem q_gIL {f : Int → Int → Int} : gIL f (.int i) (.int j) = some (.int (f i j)) := (rfl)
theorem q_neg : gNeg (.int i) = some (.int (-i)) := (rfl)
theorem q_abs : gAbs (.int i) = some (.int (if i < 0 then -i else i)) := (rfl)
theorem q_int : gInt (.int i) = some (.int i) := (rfl)
theorem q_asInt : asInt (.int i) = some i := (rfl)
theorem q_asBl {b : Bool} : asBl (.bl b) = some b := (rfl)
theorem q_eqI : gEq (.int i) (.int j) = some (.bl (decide (i = j))) := by unfold gEq; rw [dEq_i DE.int]; rfl
theorem q_neI : gNe (.int i) (.int j) = some (.bl (!decide (i = j))) := by unfold gNe; rw [dEq_i DE.int]; rfl
theorem q_eqS {x y : Str} (h1 : PyData.strOk x = true) (h2 : PyData.strOk y = true) : gEq (.str x) (.str y) = some (.bl (x == y)) := by unfold gEq; rw [dEq_i (DE.str h1 h2)]; rfl
theorem q_neS {x y : Str} (h1 : PyData.strOk x = true) (h2 : PyData.strOk y = true) : gNe (.str x) (.str y) = some (.bl (!(x == y))) := by unfold gNe; rw [dEq_i (DE.str h1 h2)]; rfl
theorem q_eqL {m m' : Bool} {l k : List Int} : gEq (.lst m (nums l)) (.lst m' (nums k)) = some (.bl (decide (l = k))) := by unfold gEq; rw [dEq_i (DE.lst DEs.nums)]; rfl
theorem q_neL {m m' : Bool} {l k : List Int} : gNe (.lst m (nums l)) (.lst m' (nums k)) = some (.bl (!decide (l = k))) := by unfold gNe; rw [dEq_i (DE.lst DEs.nums)]; rfl
theorem q_eqT {l k : List Int} : gEq (.tup (nums l)) (.tup (nums k)) = some (.bl (decide (l = k))) := by unfold gEq; rw [dEq_i (DE.tup DEs.nums)]; rfl
theorem q_neT {l k : List Int} : gNe (.tup (nums l)) (.tup (nums k)) = some (.bl (!decide (l = k))) := by unfold gNe; rw [dEq_i (DE.tup DEs.nums)]; rfl
theorem q_eq {a b : D} {k : Bool} (h : DE 64 a b k) : gEq a b = some (.bl k) := by unfold gEq; rw [dEq_i h]; rfl
theorem q_ne {a b : D} {k : Bool} (h : DE 64 a b k) : gNe a b = some (.bl (!k)) := by unfold gNe; rw [dEq_i h]; rfl
theorem q_seqL {m : Bool} {l : List D} : asSeq (.lst m l) = some l := (rfl)
theorem q_seqT {l : List D} : asSeq (.tup l) = some l := (rfl)
theorem q_seqK {l : List D} : asSeq (.ktp l) = some l := (rfl)
theorem q_seqS {l : List D} : asSeq (.scr l) = some l := (rfl)
theorem q_lenL {m : Bool} {l : List D} : gLen (.lst m l) = some (.int l.length) := (rfl)
theorem q_lenT {l : List D} : gLen (.tup l) = some (.int l.length) := (rfl)
theorem q_lenS {l : List D} : gLen (.scr l) = some (.int l.length) := (rfl)
theorem q_ixL {m : Bool} {l : List D} : gIx (.lst m l) (.int i) = L2.atI l i := (rfl)
theorem q_ixT {l : List D} : gIx (.tup l) (.int i) = L2.atI l i := (rfl)
theorem q_ixS {l : List D} : gIx (.scr l) (.int i) = L2.atI l i := (rfl)
theorem q_at0 {d : D} {l : List D} : L2.atI (d :: l) 0 = some d := by
  unfold L2.atI L2.ixN
  rw [if_pos (Int.le_refl 0), if_pos (by simp only [List.length_cons]; omega)]
  rfl
theorem q_at1 {d d' : D} {l : List D} : L2.atI (d :: d' :: l) 1 = some d' := by
  unfold L2.atI L2.ixN
  rw [if_pos (by omega), if_pos (by simp only [List.length_cons]; omega)]
  rfl
theorem q_at2 {d d' d'' : D} {l : List D} : L2.atI (d :: d' :: d'' :: l) 2 = some d'' := by
  unfold L2.atI L2.ixN
  rw [if_pos (by omega), if_pos (by simp only [List.length_cons]; omega)]
  rfl
theorem q_nilAt : ([] : VEnv)[0]? = none := (rfl)
theorem q_get0 : (a :: e)[0]? = some a := (rfl)
theorem q_getS {k : Nat} : (a :: e)[k + 1]? = e[k]? := (rfl)
theorem q_join {α : Type} {o : Option α} : (some o).join = o := (rfl)
theorem q_lst0 {l : List D} : lstAt 0 (some (.lst true l) :: e) = some l := (rfl)
theorem q_lstS {k : Nat} : lstAt (k + 1) (a :: e) = lstAt k e := (rfl)
theorem q_agDn : agD e [] [] = some [] := (rfl)
theorem q_agDl {f : M D} {r : List Ag} {d : D} {ds : List D} : agD e (.inl f :: r) (d :: ds) = (agD e r ds).map (d.fz :: ·) := (rfl)
theorem q_agDr {k : Nat} {r : List Ag} {ds : List D} : agD e (.inr k :: r) ds = (e[k]?).join.bind fun d => (agD e r ds).map (d :: ·) := (rfl)
theorem q_outn : outsOf [] e = some [] := (rfl)
theorem q_outt {ms : List Bool} {d : D} : outsOf (true :: ms) (some d :: e) = (outsOf ms e).map (d :: ·) := (rfl)
theorem q_outf {ms : List Bool} : outsOf (false :: ms) (a :: e) = outsOf ms e := (rfl)
theorem q_tg0 {d : D} : tgName 0 d (a :: e) = some (some d :: e) := by
  unfold tgName
  rw [if_pos (by simp only [List.length_cons]; omega)]
  rfl
theorem q_tgS {k : Nat} {d : D} : tgName (k + 1) d (a :: e) = (tgName k d e).map (a :: ·) := by
  unfold tgName
  by_cases h : k < e.length
  · rw [if_pos h, if_pos (by simp only [List.length_cons]; omega)]; rfl
  · rw [if_neg h, if_neg (by simp only [List.length_cons]; omega)]; rfl
theorem q_bdn : pBd none e = some none := (rfl)
theorem q_bds {p : VEnv → Option D} : pBd (some p) e = ((p e).bind asInt).map some := (rfl)
theorem q_slL {m : Bool} {l : List Int} {lo hi : Option Int} : gSl (.lst m (nums l)) lo hi = some (.lst true (cutD (nums l) lo hi)) := if_pos frozens_nums
theorem q_slS {l : List D} {lo hi : Option Int} : gSl (.scr l) lo hi = some (.lst true (cutD l lo hi)) := (rfl)
theorem q_slT {l : List D} {lo hi : Option Int} : gSl (.tup l) lo hi = some (.tup (cutD l lo hi)) := by
  show some (if wholeD l lo hi = true then D.tup l else D.tup (cutD l lo hi)) = _
  by_cases h : wholeD l lo hi = true
  · rw [if_pos h]
    unfold wholeD at h
    rw [Bool.and_eq_true, decide_eq_true_eq, decide_eq_true_eq] at h
    unfold cutD
    rw [h.1, h.2, List.drop_zero, Nat.sub_zero, List.take_length]
  · rw [if_neg h]
theorem q_tupL {m : Bool} {l : List D} : gTuple (.lst m l) = some (.tup l) := (rfl)
theorem q_tupT {l : List D} : gTuple (.tup l) = some (.tup l) := (rfl)
theorem q_tupS {l : List D} : gTuple (.scr l) = some (.tup l) := (rfl)
theorem q_asLst {m : Bool} {l : List D} : asLst (.lst m l) = some l := (rfl)
theorem q_fzI : D.fz (.int i) = .int i := (rfl)
theorem q_fzB {b : Bool} : D.fz (.bl b) = .bl b := (rfl)
theorem q_fzX {x : Str} : D.fz (.str x) = .str x := (rfl)
theorem q_fzN : D.fz .non = .non := (rfl)
theorem q_fzL {m : Bool} {l : List D} : D.fz (.lst m l) = .lst false (D.fzs l) := (rfl)
theorem q_fzT {l : List D} : D.fz (.tup l) = .tup (D.fzs l) := (rfl)
theorem q_fzS {l : List D} : D.fz (.scr l) = .scr (D.fzs l) := (rfl)
theorem q_fzn : D.fzs [] = [] := (rfl)
theorem q_fzc {d : D} {l : List D} : D.fzs (d :: l) = d.fz :: D.fzs l := (rfl)
theorem q_catL {m m' : Bool} {l k : List D} (h : l.length + k.length ≤ sizeLine) : gCat (.lst m l) (.lst m' k) = some (.lst true (l ++ k)) := if_pos h
theorem q_catT {l k : List D} (h : l.length + k.length ≤ sizeLine) : gCat (.tup l) (.tup k) = some (.tup (l ++ k)) := by
  show (if l.length + k.length ≤ sizeLine then some (if l.isEmpty then D.tup k else if k.isEmpty then D.tup l else .tup (l ++ k)) else none) = _
  rw [if_pos h]
  cases l with
  | nil => rfl
  | cons a l => cases k with
    | nil => simp
    | cons b k => rfl
theorem q_repL {m : Bool} {l : List D} (h0 : 0 ≤ i) (h1 : i < 9223372036854775808) (h2 : l.length * i.toNat ≤ sizeLine) : gRep (.lst m l) (.int i) = some (.lst true (List.replicate i.toNat l).flatten) := by
  show (if (decide (-(2 ^ 63) ≤ i) && decide (i < 2 ^ 63) && decide (l.length * i.toNat ≤ sizeLine)) = true then _ else none) = _
  rw [if_pos (by simp only [Bool.and_eq_true, decide_eq_true_eq]; omega)]
theorem q_repT {l : List D} (h0 : l ≠ []) (h1 : 2 ≤ i) (h2 : i ≤ 1000) (h3 : l.length ≤ 1000) : gRep (.tup l) (.int i) = some (.tup (List.replicate i.toNat l).flatten) := by
  show (if (!l.isEmpty && decide (2 ≤ i) && decide (i ≤ 1000) && decide (l.length ≤ 1000)) = true then _ else none) = _
  rw [if_pos]
  cases l with
  | nil => exact (h0 rfl).elim
  | cons a l =>
    simp only [List.isEmpty_cons, Bool.not_false, Bool.true_and, Bool.and_eq_true, decide_eq_true_eq]
    exact ⟨⟨h1, h2⟩, h3⟩
theorem q_ixSet {l : List D} {d : D} (h0 : 0 ≤ i) (h1 : i < l.length) : ixSet l i d = some (l.set i.toNat d) := by
  unfold ixSet L2.ixN
  rw [if_pos h0, if_pos h1]; rfl
theorem q_wipen : wipeE e [] = e := (rfl)
theorem q_wipec {v : Nat} {vs : List Nat} : wipeE e (v :: vs) = (wipeE e vs).set v none := (rfl)
theorem st_z {d x : Option D} {K : VEnv → Prop} (h : K (d :: e)) : st (x :: e) 0 d K := ⟨by simp only [List.length_cons]; omega, h⟩
theorem st_s {k : Nat} {d x : Option D} {K : VEnv → Prop} (h : st e k d fun e1 => K (x :: e1)) : st (x :: e) (k + 1) d K := ⟨by simp only [List.length_cons]; exact Nat.succ_lt_succ h.1, h.2⟩
theorem st_push {k : Nat} {l : List Int} {K : VEnv → Prop} (h : st e k (some (.lst true (nums (l ++ [i])))) K) : st e k (some (.lst true (nums l ++ [.int i]))) K := by rw [nums_push]; exact h
theorem st_rev {k : Nat} {l : List Int} {K : VEnv → Prop} (h : st e k (some (.lst true (nums l.reverse))) K) : st e k (some (.lst true (nums l).reverse)) K := by rw [nums_rev]; exact h
theorem st_dl {k : Nat} {l : List Int} {K : VEnv → Prop} (h : st e k (some (.lst true (nums l.dropLast))) K) : st e k (some (.lst true (nums l).dropLast)) K := by rw [nums_dropLast]; exact h
theorem st_ext {k : Nat} {l m : List Int} {K : VEnv → Prop} (h : st e k (some (.lst true (nums (l ++ m)))) K) : st e k (some (.lst true (nums l ++ nums m))) K := by rw [nums_app]; exact h
theorem st_fzL {k : Nat} {b : Bool} {l : List Int} {K : VEnv → Prop} (h : st e k (some (.lst false (nums l))) K) : st e k (some (D.fz (.lst b (nums l)))) K := by rw [q_fzL, fzs_nums]; exact h
theorem st_fz {k : Nat} {d d' : D} {K : VEnv → Prop} (hd : D.fz d = d') (h : st e k (some d') K) : st e k (some (D.fz d)) K := by rw [hd]; exact h
theorem st_nil {k : Nat} {K : VEnv → Prop} (h : st e k (some (.lst true (nums []))) K) : st e k (some (.lst true [])) K := h
theorem q_bind {α β : Type} {x : α} {f : α → Option β} : (some x).bind f = f x := (rfl)
theorem q_map {α β : Type} {x : α} {f : α → β} : (some x).map f = some (f x) := (rfl)
theorem q_fadd : fAdd i j = some (i + j) := (rfl)
theorem q_not1 : (!true) = false := (rfl)
theorem q_not0 : (!false) = true := (rfl)
theorem q_isN {p : VEnv → Option D} : pIsN p e = (p e).bind fun d => some (.bl (isNon d)) := (rfl)
theorem q_notN {p : VEnv → Option D} : pNotN p e = (p e).bind fun d => some (.bl (!isNon d)) := (rfl)
theorem q_isNn : isNon .non = true := (rfl)
theorem q_isNi : isNon (.int i) = false := (rfl)
theorem q_isNb {b : Bool} : isNon (.bl b) = false := (rfl)
theorem q_isNx {x : Str} : isNon (.str x) = false := (rfl)
theorem q_isNt {l : List D} : isNon (.tup l) = false := (rfl)
theorem q_isNl {m : Bool} {l : List D} : isNon (.lst m l) = false := (rfl)
theorem q_fzsO {l : List D} : fzsO l = some (D.fzs l) := (rfl)
theorem q_isE {tb : Str → Option Bool} {c : Str} : pIsE tb c none e = (tb c).map .bl := (rfl)
theorem q_isiI {T : String} : pIsi T = p1 (gIsi T) := rfl
theorem q_gIsi {T : String} {d : D} : gIsi T d = (tyName d).bind fun n => (kitB n T).map .bl := (rfl)
theorem q_tyI : tyName (.int i) = some "int" := (rfl)
theorem q_tyB {b : Bool} : tyName (.bl b) = some "bool" := (rfl)
theorem q_tyX {b : Str} : tyName (.str b) = some "str" := (rfl)
theorem q_tyT {b : List D} : tyName (.tup b) = some "tuple" := (rfl)
theorem q_tyL {m : Bool} {b : List D} : tyName (.lst m b) = some "list" := (rfl)
theorem q_tyN : tyName .non = some "NoneType" := (rfl)
theorem q_kit_int_int : kitB "int" "int" = some true := by decide +kernel
theorem q_kit_int_bool : kitB "int" "bool" = some false := by decide +kernel
theorem q_kit_bool_bool : kitB "bool" "bool" = some true := by decide +kernel
theorem q_kit_bool_int : kitB "bool" "int" = some true := by decide +kernel
theorem q_kit_tuple_tuple : kitB "tuple" "tuple" = some true := by decide +kernel
theorem q_kit_list_list : kitB "list" "list" = some true := by decide +kernel
theorem q_kit_str_str : kitB "str" "str" = some true := by decide +kernel
theorem q_kit_str_int : kitB "str" "int" = some false := by decide +kernel
theorem q_kit_tuple_int : kitB "tuple" "int" = some false := by decide +kernel
theorem q_kit_NoneType_int : kitB "NoneType" "int" = some false := by decide +kernel
theorem q_kit_list_tuple : kitB "list" "tuple" = some false := by decide +kernel
theorem q_kit_tuple_list : kitB "tuple" "list" = some false := by decide +kernel
theorem q_kit_int_tuple : kitB "int" "tuple" = some false := by decide +kernel
theorem q_kit_NoneType_tuple : kitB "NoneType" "tuple" = some false := by decide +kernel
theorem q_kit_int_str : kitB "int" "str" = some false := by decide +kernel
theorem ev_ch {f f' : Int → Int → Bool} {pa pb pc : VEnv → Option D} {k : Int} {Q : Bool → Prop} (ha : pa e = some (.int i)) (hb : pb e = some (.int j)) (hc : pc e = some (.int k)) (h : Q (f i j && f' j k)) : ev ((pCh (gIB f) (gIB f') pa pb pc e).bind asBl) Q := by
  refine ⟨_, ?_, h⟩
  unfold pCh
  rw [ha, Option.bind_some, hb, Option.bind_some]
  show (if f i j = true then (pc e).bind fun w => gIB f' (.int j) w else some (.bl false)).bind asBl = _
  rw [hc]
  cases f i j <;> rfl
theorem evf_ch {f f' : Int → Int → Bool} {pa pb pc : VEnv → Option D} {k : Int} {Q : D → Prop} (ha : pa e = some (.int i)) (hb : pb e = some (.int j)) (hc : pc e = some (.int k)) (h : Q (.bl (f i j && f' j k))) : evf (pCh (gIB f) (gIB f') pa pb pc e) Q := by
  refine ⟨_, ?_, rfl, h⟩
  unfold pCh
  rw [ha, Option.bind_some, hb, Option.bind_some]
  show (if f i j = true then (pc e).bind fun w => gIB f' (.int j) w else some (.bl false)) = _
  rw [hc]
  cases f i j <;> rfl
theorem ifb_yes {c : Prop} [Decidable c] {p q : Prop} (hc : c) (h : p) : ifb (decide c) p q := ifb_d (fun _ => h) fun n => (n hc).elim
theorem ifb_no {c : Prop} [Decidable c] {p q : Prop} (hc : ¬ c) (h : q) : ifb (decide c) p q := ifb_d (fun n => (hc n).elim) fun _ => h
theorem ifb_and {a b : Bool} {p q : Prop} (h : ifb a (ifb b p q) q) : ifb (a && b) p q := by cases a <;> cases b <;> exact h
theorem ifb_or {a b : Bool} {p q : Prop} (h : ifb a p (ifb b p q)) : ifb (a || b) p q := by cases a <;> cases b <;> exact h
theorem q_gIsN {d : D} : gIsN d = some (.bl (isNon d)) := (rfl)
theorem q_gNotN {d : D} : gNotN d = some (.bl (!isNon d)) := (rfl)
theorem q_isNo {m : Bool} {c : Str} {ns : List Str} {l : List D} : isNon (.ins m c ns l) = false := (rfl)
theorem q_ins0 {c : Str} {ns : List Str} {l : List D} (h : ns.length = l.length) : insAt c 0 (some (.ins true c ns l) :: e) = some (ns, l) := if_pos ⟨rfl, h⟩
theorem q_insS {c : Str} {k : Nat} {a : Option D} : insAt c (k + 1) (a :: e) = insAt c k e := (rfl)
theorem q_putO {f : Str} {d : D} {r : List Str × List D} : putO f d r = some (putN f d r.1 r.2) := (rfl)
theorem q_putn {f : Str} {d : D} : putN f d [] [] = ([f], [d]) := (rfl)
theorem q_putc {f n : Str} {d x : D} {ns : List Str} {l : List D} (h : n ≠ f) : putN f d (n :: ns) (x :: l) = (n :: (putN f d ns l).1, x :: (putN f d ns l).2) := if_neg h
theorem q_puth {f : Str} {d x : D} {ns : List Str} {l : List D} : putN f d (f :: ns) (x :: l) = (f :: ns, d :: l) := if_pos rfl
theorem q_fld {m : Bool} {c f : Str} {ns : List Str} {l : List D} : gFld c f (.ins m c ns l) = (ns.zip l).lookup f := if_pos rfl
theorem q_lkh {f : Str} {x : D} {ns : List Str} {l : List D} : (List.zip (f :: ns) (x :: l)).lookup f = some x := by
  rw [List.zip_cons_cons, List.lookup_cons, beq_self_eq_true]
theorem q_lkt {f n : Str} {x : D} {ns : List Str} {l : List D} (h : (f == n) = false) : (List.zip (n :: ns) (x :: l)).lookup f = (List.zip ns l).lookup f := by
  rw [List.zip_cons_cons, List.lookup_cons, h]
theorem q_fzIns {m : Bool} {c : Str} {ns : List Str} {l : List D} : D.fz (.ins m c ns l) = .ins false c ns (D.fzs l) := (rfl)
theorem q_fzO {d : D} : fzO d = some d.fz := (rfl)
theorem q_szl : sizeLine = 16777216 := by decide
end
end
section
set_option Elab.async false
set_option linter.all false
set_option maxRecDepth 100000
set_option maxHeartbeats 1000000
/-! ### lists of any data written by a function -/
class Enc {α : Type} (f : α → D) : Prop where
  fro : ∀ a, (f a).frozen = true
  fz : ∀ a, (f a).fz = f a
def dl {α : Type} (f : α → D) (l : List α) : List D := l.map f
def gd {α : Type} [Inhabited α] (l : List α) (k : Int) : α := l.getD k.toNat default
abbrev eL {α : Type} (f : α → D) (l : List α) : D := .lst false (dl f l)
abbrev eT {α : Type} (f : α → D) (l : List α) : D := .tup (dl f l)
section
variable {α : Type} {f : α → D} {l m : List α} {a : α}
theorem dl_int {l : List Int} : dl D.int l = nums l := rfl
theorem dl_len : (dl f l).length = l.length := List.length_map ..
theorem dl_app : dl f l ++ dl f m = dl f (l ++ m) := (List.map_append ..).symm
theorem dl_push : dl f l ++ [f a] = dl f (l ++ [a]) := by simp [dl]
theorem dl_nil : ([] : List D) = dl f [] := rfl
theorem dl_rev : (dl f l).reverse = dl f l.reverse := List.map_reverse.symm
theorem dl_take {n : Nat} : (dl f l).take n = dl f (l.take n) := List.map_take.symm
theorem dl_drop {n : Nat} : (dl f l).drop n = dl f (l.drop n) := List.map_drop.symm
theorem dl_set {n : Nat} : (dl f l).set n (f a) = dl f (l.set n a) := List.map_set.symm
theorem dl_get [Inhabited α] {i : Nat} {d : D} (h : (dl f l)[i]? = some d) : i < l.length ∧ d = f (l.getD i default) := by
  unfold dl at h
  rw [List.getElem?_map] at h
  obtain ⟨x, h1, h2⟩ := Option.map_eq_some_iff.mp h
  have := (List.getElem?_eq_some_iff.mp h1).1
  refine ⟨this, ?_⟩
  rw [← h2, List.getD_eq_getElem?_getD, h1]; rfl
theorem frozens_dl [Enc f] : ∀ {l : List α}, D.frozens (dl f l) = true
  | [] => rfl
  | a :: l => by
    show ((f a).frozen && D.frozens (dl f l)) = true
    rw [frozens_dl, Enc.fro]; rfl
theorem fzs_dl [Enc f] : ∀ {l : List α}, D.fzs (dl f l) = dl f l
  | [] => rfl
  | a :: l => by
    show (f a).fz :: D.fzs (dl f l) = _
    rw [fzs_dl, Enc.fz]; rfl
theorem atI_dl [Inhabited α] {k : Int} (h0 : 0 ≤ k) (h1 : k < l.length) : L2.atI (dl f l) k = some (f (gd l k)) := by
  unfold L2.atI L2.ixN
  have h2 : k.toNat < l.length := by omega
  rw [if_pos h0, dl_len, if_pos h1, Option.bind_some]
  unfold dl gd
  rw [List.getElem?_map, List.getD_eq_getElem?_getD, List.getElem?_eq_getElem h2]
  rfl
theorem atI_dlN [Inhabited α] {k : Int} (h0 : k < 0) (h1 : -(l.length : Int) ≤ k) : L2.atI (dl f l) k = some (f (gd l (k + l.length))) := by
  unfold L2.atI L2.ixN
  have h2 : (k + l.length).toNat < l.length := by omega
  rw [if_neg (by omega), dl_len, if_pos h1, Option.bind_some]
  unfold dl gd
  rw [List.getElem?_map, List.getD_eq_getElem?_getD, List.getElem?_eq_getElem h2]
  rfl
theorem gd_mem [Inhabited α] {k : Int} (h0 : 0 ≤ k) (h1 : k < l.length) : gd l k ∈ l := by
  unfold gd
  have : k.toNat < l.length := by omega
  rw [List.getD_eq_getElem?_getD, List.getElem?_eq_getElem this]
  exact List.getElem_mem this
theorem getD_mem [Inhabited α] {i : Nat} (h : i < l.length) : l.getD i default ∈ l := by
  rw [List.getD_eq_getElem?_getD, List.getElem?_eq_getElem h]
  exact List.getElem_mem h
end
instance : Enc D.int := ⟨fun _ => rfl, fun _ => rfl⟩
instance : Enc D.bl := ⟨fun _ => rfl, fun _ => rfl⟩
instance : Enc D.str := ⟨fun _ => rfl, fun _ => rfl⟩
theorem frozens_numsI {l : List Int} : D.frozens (nums l) = true := frozens_nums
instance {α : Type} {f : α → D} [Enc f] : Enc (eL f) := ⟨fun l => by
  show (!false && D.frozens (dl f l)) = true
  rw [frozens_dl]; rfl, fun l => by
  show D.lst false (D.fzs (dl f l)) = _
  rw [fzs_dl]⟩
instance {α : Type} {f : α → D} [Enc f] : Enc (eT f) := ⟨fun l => by
  show D.frozens (dl f l) = true
  exact frozens_dl, fun l => by
  show D.tup (D.fzs (dl f l)) = _
  rw [fzs_dl]⟩
/-- rows of numbers -/
abbrev nL (l : List Int) : D := .lst false (nums l)
abbrev nT (l : List Int) : D := .tup (nums l)
instance : Enc nL := ⟨fun l => by
  show (!false && D.frozens (nums l)) = true
  rw [frozens_nums]; rfl, fun l => by
  show D.lst false (D.fzs (nums l)) = _
  rw [fzs_nums]⟩
instance : Enc nT := ⟨fun l => by
  show D.frozens (nums l) = true
  exact frozens_nums, fun l => by
  show D.tup (D.fzs (nums l)) = _
  rw [fzs_nums]⟩
section
variable {α : Type} {f : α → D} {l m : List α} {a : α} {e : VEnv} {k : Nat} {K : VEnv → Prop}
theorem st_pushL {r : List Int} {l : List (List Int)} (h : st e k (some (.lst true (dl nL (l ++ [r])))) K) : st e k (some (.lst true (dl nL l ++ [.lst false (nums r)]))) K := by rw [show D.lst false (nums r) = nL r from rfl, dl_push]; exact h
theorem st_pushT {r : List Int} {l : List (List Int)} (h : st e k (some (.lst true (dl nT (l ++ [r])))) K) : st e k (some (.lst true (dl nT l ++ [.tup (nums r)]))) K := by rw [show D.tup (nums r) = nT r from rfl, dl_push]; exact h
end
theorem q_tgT {ts : List Tg} {l : List D} {e : VEnv} : tgTup ts (.tup l) e = tgAll ts l e := (rfl)
theorem q_tgAn {e : VEnv} : tgAll [] [] e = some e := (rfl)
theorem q_tgAc {t : Tg} {ts : List Tg} {d : D} {ds : List D} {e : VEnv} : tgAll (t :: ts) (d :: ds) e = (t d e).bind fun e => tgAll ts ds e := (rfl)
theorem q_eqLa {a b c d : List Int} : gEq (.tup [.tup (nums a), .tup (nums b)]) (.tup [.tup (nums c), .tup (nums d)]) = some (.bl (decide (a = c) && (decide (b = d) && true))) := q_eq (DE.tup (DEs.cons (DE.tup DEs.nums) (DEs.cons (DE.tup DEs.nums) DEs.nil)))
theorem q_neLa {a b c d : List Int} : gNe (.tup [.tup (nums a), .tup (nums b)]) (.tup [.tup (nums c), .tup (nums d)]) = some (.bl (!(decide (a = c) && (decide (b = d) && true)))) := q_ne (DE.tup (DEs.cons (DE.tup DEs.nums) (DEs.cons (DE.tup DEs.nums) DEs.nil)))
theorem ws_id {m : M Fl} {e : VEnv} {K B C : VEnv → Prop} {R : D → VEnv → Prop} {E : XQ} (h : ws m e K B C R E) : ws m e K B C R E := h
theorem wp_id {α : Type} {m : M α} {e : VEnv} {Q : α → VEnv → Prop} {E : XQ} (h : wp m e Q E) : wp m e Q E := h
theorem st_id {e : VEnv} {k : Nat} {d : Option D} {K : VEnv → Prop} (h : st e k d K) : st e k d K := h
theorem ev_id {α : Type} {o : Option α} {Q : α → Prop} (h : ev o Q) : ev o Q := h
theorem evf_id {o : Option D} {Q : D → Prop} (h : evf o Q) : evf o Q := h
theorem ifb_id {b : Bool} {p q : Prop} (h : ifb b p q) : ifb b p q := h
theorem outK_id {e : VEnv} {ks : List Nat} {outs : List D} {K : VEnv → Prop} (h : outK e ks outs K) : outK e ks outs K := h
theorem evR1_id {l : List D} {Q : List D → Prop} (h : evR1 l Q) : evR1 l Q := h
theorem evR2_id {l : List D} {Q : List D → Prop} (h : evR2 l Q) : evR2 l Q := h
theorem and_id {p q : Prop} (h : p ∧ q) : p ∧ q := h
theorem p_ch {e : VEnv} {f f' : Int → Int → Bool} {pa pb pc : VEnv → Option D} {i j k : Int} (ha : pa e = some (.int i)) (hb : pb e = some (.int j)) (hc : pc e = some (.int k)) : pCh (gIB f) (gIB f') pa pb pc e = some (.bl (f i j && f' j k)) := by
  obtain ⟨d, h1, _, h2⟩ := evf_ch (Q := fun d => d = .bl (f i j && f' j k)) ha hb hc rfl
  rw [h1, h2]
/-- a truth value without effects -/
def EB (f : M D) (e : VEnv) (y : Bool) : Prop := ∀ (Q : D → VEnv → Prop) (E : XQ), Q (.bl y) e → wp f e Q E
theorem EB_p {p : VEnv → Option D} {e : VEnv} {y : Bool} (h : p e = some (.bl y)) : EB (vP p) e y := fun Q E q => wp_P ⟨_, h, rfl, q⟩
theorem EB_and {f g : M D} {e : VEnv} {x y : Bool} (hf : EB f e x) (hg : EB g e y) : EB (vAnd f g) e (x && y) := fun Q E q => wp_And (hf _ _ ⟨x, rfl, by
  cases x
  · exact q
  · exact hg _ _ q⟩)
theorem EB_or {f g : M D} {e : VEnv} {x y : Bool} (hf : EB f e x) (hg : EB g e y) : EB (vOr f g) e (x || y) := fun Q E q => wp_Or (hf _ _ ⟨x, rfl, by
  cases x
  · exact hg _ _ q
  · exact q⟩)
theorem EB_not {f : M D} {e : VEnv} {x : Bool} (hf : EB f e x) : EB (vNot f) e (!x) := fun Q E q => wp_Not (hf _ _ ⟨x, rfl, q⟩)
theorem wp_bAnd {f g : M D} {e : VEnv} {y : Bool} {Q : D → VEnv → Prop} {E : XQ} (h : EB (vAnd f g) e y) (q : Q (.bl y) e) : wp (vAnd f g) e Q E := h Q E q
theorem wp_bOr {f g : M D} {e : VEnv} {y : Bool} {Q : D → VEnv → Prop} {E : XQ} (h : EB (vOr f g) e y) (q : Q (.bl y) e) : wp (vOr f g) e Q E := h Q E q
theorem EB_andI {f g : M D} {e : VEnv} {y : Bool} (h : EB (vAnd f g) e y) : EB (vAnd f g) e y := h
theorem EB_orI {f g : M D} {e : VEnv} {y : Bool} (h : EB (vOr f g) e y) : EB (vOr f g) e y := h
theorem EB_notI {f : M D} {e : VEnv} {y : Bool} (h : EB (vNot f) e y) : EB (vNot f) e y := h
theorem EB_pI {p : VEnv → Option D} {e : VEnv} {y : Bool} (h : EB (vP p) e y) : EB (vP p) e y := h
theorem wp_andI {f g : M D} {e : VEnv} {Q : D → VEnv → Prop} {E : XQ} (h : wp (vAnd f g) e Q E) : wp (vAnd f g) e Q E := h
theorem wp_orI {f g : M D} {e : VEnv} {Q : D → VEnv → Prop} {E : XQ} (h : wp (vOr f g) e Q E) : wp (vOr f g) e Q E := h
theorem ev_chI {f f' : D → D → Option D} {pa pb pc : VEnv → Option D} {e : VEnv} {Q : Bool → Prop} (h : ev ((pCh f f' pa pb pc e).bind asBl) Q) : ev ((pCh f f' pa pb pc e).bind asBl) Q := h
theorem evf_chI {f f' : D → D → Option D} {pa pb pc : VEnv → Option D} {e : VEnv} {Q : D → Prop} (h : evf (pCh f f' pa pb pc e) Q) : evf (pCh f f' pa pb pc e) Q := h
theorem p_chI {f f' : D → D → Option D} {pa pb pc : VEnv → Option D} {e : VEnv} {o : Option D} (h : pCh f f' pa pb pc e = o) : pCh f f' pa pb pc e = o := h
theorem par_i {e : VEnv} {i j : Nat} {d1 d2 : D} {K : VEnv → Prop} (h : st e i (some d1) fun e2 => st e2 j (some d2) K) : ∃ x y, [d1, d2] = [x, y] ∧ st e i (some x) fun e2 => st e2 j (some y) K := ⟨d1, d2, rfl, h⟩
theorem mk_i {x : D} {K : D → Prop} (h : K x) : ∃ y, D.non = .non ∧ [x] = [y] ∧ K y := ⟨x, rfl, rfl, h⟩
theorem mkx_i {x : D} {p : Prop} (h : p) : ∃ y, [x] = [y] ∧ p := ⟨x, rfl, h⟩
theorem q_eqB {i j : Bool} : gEq (.bl i) (.bl j) = some (.bl (i == j)) := q_eq DE.bl
theorem q_neB {i j : Bool} : gNe (.bl i) (.bl j) = some (.bl (!(i == j))) := q_ne DE.bl
theorem ifb_beq {i : Bool} {p q : Prop} (h : p) : ifb (i == i) p q := by cases i <;> exact h
theorem ifb_tr {h : Decidable True} {p q : Prop} (x : p) : ifb (@decide True h) p q := ifb_yes trivial x
theorem ifb_fl {h : Decidable False} {p q : Prop} (x : q) : ifb (@decide False h) p q := ifb_no (fun z => z) x
theorem ifb_rfl {α : Type} [DecidableEq α] {a : α} {p q : Prop} (h : p) : ifb (decide (a = a)) p q := by rw [decide_eq_true rfl]; exact h
/-! ### the new readings -/
theorem q_intT : gInt (.bl true) = some (.int 1) := (rfl)
theorem q_intF : gInt (.bl false) = some (.int 0) := (rfl)
theorem q_rep1 {l : List D} : gRep1 (.tup l) (.int 1) = some (.tup l) := if_pos ⟨rfl, rfl⟩
theorem q_repN {a : D} {k : Int} (h : 2 ≤ k) : gRep1 a (.int k) = gRep a (.int k) := if_neg fun c => by have := Option.some.inj c.1; omega
theorem q_lcm {i j : Int} (h : i.natAbs < 18446744073709551616 ∧ j.natAbs < 18446744073709551616) : fLcm i j = some ((Nat.lcm i.natAbs j.natAbs : Nat) : Int) := if_pos h
theorem asInts_nums : ∀ {l : List Int}, asInts (nums l) = some l
  | [] => rfl
  | i :: l => by
    show (asInt (.int i)).bind (fun i => (asInts (nums l)).map (i :: ·)) = _
    rw [asInts_nums]; rfl
theorem q_maxL {m : Bool} {l : List Int} (h : l ≠ []) : gMaxL (.lst m (nums l)) = some (.int (maxI l)) := by
  show (asInts (nums l)).bind _ = _
  rw [asInts_nums, Option.bind_some]
  cases l with
  | nil => exact (h rfl).elim
  | cons a l => rfl
theorem q_minL {m : Bool} {l : List Int} (h : l ≠ []) : gMinL (.lst m (nums l)) = some (.int (minI l)) := by
  show (asInts (nums l)).bind _ = _
  rw [asInts_nums, Option.bind_some]
  cases l with
  | nil => exact (h rfl).elim
  | cons a l => rfl
theorem q_sumL {m : Bool} {l : List Int} : gSumL (.lst m (nums l)) = some (.int l.sum) := by
  show (asInts (nums l)).map _ = _
  rw [asInts_nums]; rfl
section
variable {e : VEnv} {E : XQ} {Q : D → VEnv → Prop} {K B C : VEnv → Prop} {R : D → VEnv → Prop} {p : VEnv → Option D} {f : M D}
theorem wp_Rep1 {fa fb : M D} (h : wp fa e (fun a e1 => wp fb e1 (fun b e2 => ev (gRep1 a.fz b.fz) fun x => Q x e2) E) E) : wp (vRep1 fa fb) e Q E :=
  wp_bnd (wp_mono h (fun a e1 h1 => wp_bnd (wp_mono h1 (fun b e2 h2 => wp_opt h2) fun _ _ _ h => h)) fun _ _ _ h => h)
theorem wp_Dk (h : Q (.dk true [] []) e) : wp vDk e Q E := h
theorem wp_Dt (h : Q (.dt true [] []) e) : wp vDt e Q E := h
theorem ws_dput {k : Nat} (h : wp f e (fun x e1 => ev ((e1[k]?).join) fun dd => ev (p e1) fun y => x.frozen = true ∧ ev (putDD dd y x) fun d' => st e1 k (some d') K) E) : ws (sDput k p f) e K B C R E :=
  wp_bnd (wp_mono h (fun x e1 h1 => by
    obtain ⟨dd, h2, y, h3, fx, d', h4, _, q⟩ := h1
    unfold wp
    dsimp only
    rw [h2, Option.bind_some, h3, Option.bind_some, if_pos fx, h4]
    exact q) fun _ _ _ h => h)
theorem wp_Meth {c m : Str} {F : FN} {ags : List Ag} (h : ev (p e) fun d => insOk c m d = true ∧ wp (vCall F (.inl (vP p) :: ags)) e Q E) : wp (vMeth c m p F ags) e Q E := by
  obtain ⟨d, h1, h2, q⟩ := h
  unfold wp vMeth
  rw [h1, Option.bind_some, if_pos h2]
  exact q
theorem wp_CallO {c : Str} {F : FN} {ags : List Ag} (h : ev (p e) fun d => insOk c "__call__" d = true ∧ wp (vCall F (.inl (vP p) :: ags)) e Q E) : wp (vCallO c p F ags) e Q E := wp_Meth h
end
/-- a dict of numbers as keys -/
def dki {α : Type} (f : α → D) (b : Bool) (m : List (Int × α)) : D := .dk b (m.map fun p => Sum.inl p.1) (m.map fun p => f p.2)
def hasK {α : Type} (m : List (Int × α)) (k : Int) : Bool := m.any fun p => decide (p.1 = k)
def getK {α : Type} [Inhabited α] (m : List (Int × α)) (k : Int) : α := ((m.find? fun p => decide (p.1 = k)).map (·.2)).getD default
def putKI {α : Type} (m : List (Int × α)) (k : Int) (v : α) : List (Int × α) := if hasK m k = true then m.map fun p => if p.1 = k then (p.1, v) else p else m ++ [(k, v)]
section
variable {α : Type} {f : α → D} {b : Bool} {m : List (Int × α)} {k k' : Int} {v : α}
theorem kAt_dki [Inhabited α] : ∀ {m : List (Int × α)}, kAt (m.map fun p => (Sum.inl p.1 : Key)) (m.map fun p => f p.2) (Sum.inl k) = if hasK m k = true then some (f (getK m k)) else none
  | [] => rfl
  | (i, a) :: m => by
    have ih := kAt_dki (m := m)
    unfold kAt kIx at ih ⊢
    rw [List.map_cons, List.map_cons, List.findIdx?_cons]
    by_cases e : i = k
    · subst e
      simp [hasK, getK]
    · have e1 : decide ((Sum.inl i : Key) = Sum.inl k) = false := decide_eq_false fun h => e (Sum.inl.inj h)
      rw [e1]
      have e2 : hasK ((i, a) :: m) k = hasK m k := by unfold hasK; rw [List.any_cons, decide_eq_false e, Bool.false_or]
      have e3 : getK ((i, a) :: m) k = getK m k := by unfold getK; rw [List.find?_cons, decide_eq_false e]
      rw [e2, e3, ← ih]
      cases List.findIdx? (fun x => decide (x = (Sum.inl k : Key))) (m.map fun p => (Sum.inl p.1 : Key)) <;> simp
theorem q_din [Inhabited α] : gDin (.int k) (dki f b m) = some (.bl (hasK m k)) := by
  show (some (kAt (m.map fun p => (Sum.inl p.1 : Key)) (m.map fun p => f p.2) (Sum.inl k))).map (fun o => D.bl o.isSome) = _
  rw [kAt_dki]
  cases hasK m k <;> rfl
theorem q_dnotin [Inhabited α] : gDnotin (.int k) (dki f b m) = some (.bl (!hasK m k)) := by
  show (some (kAt (m.map fun p => (Sum.inl p.1 : Key)) (m.map fun p => f p.2) (Sum.inl k))).map (fun o => D.bl (!o.isSome)) = _
  rw [kAt_dki]
  cases hasK m k <;> rfl
theorem q_dix [Inhabited α] (h : hasK m k = true) : gDix (dki f b m) (.int k) = some (f (getK m k)) := by
  show (some (kAt (m.map fun p => (Sum.inl p.1 : Key)) (m.map fun p => f p.2) (Sum.inl k))).join = _
  rw [kAt_dki, if_pos h]; rfl
theorem q_lenD : gLen (dki f b m) = some (.int m.length) := by
  show some (D.int ((m.map fun p => (Sum.inl p.1 : Key)).length : Nat)) = _
  rw [List.length_map]
theorem frozens_dkv [Enc f] : D.frozens (m.map fun p => f p.2) = true := by
  have : (m.map fun p => f p.2) = dl f (m.map (·.2)) := by simp [dl]
  rw [this, frozens_dl]
theorem q_dput [Enc f] (h : m.length < sizeLine) : putDD (dki f true m) (.int k) (f v) = some (dki f true (putKI m k v)) := by
  have h1 : ((m.map fun p => (Sum.inl p.1 : Key)).any fun x => decide (x = (Sum.inl k : Key))) = hasK m k := by
    unfold hasK
    rw [List.any_map]
    congr 1
    funext p
    show decide ((Sum.inl p.1 : Key) = Sum.inl k) = decide (p.1 = k)
    by_cases e : p.1 = k
    · rw [e]; simp
    · rw [decide_eq_false e, decide_eq_false fun h => e (Sum.inl.inj h)]
  show (if (m.map fun p => f p.2).length = (m.map fun p => (Sum.inl p.1 : Key)).length ∧ D.frozens (m.map fun p => f p.2) = true ∧ (m.map fun p => (Sum.inl p.1 : Key)).length < sizeLine then (asKey (.int k)).map fun key => D.dk true (putD (m.map fun p => (Sum.inl p.1 : Key)) (m.map fun p => f p.2) key (f v)).1 (putD (m.map fun p => (Sum.inl p.1 : Key)) (m.map fun p => f p.2) key (f v)).2 else none) = _
  rw [if_pos ⟨by simp, frozens_dkv, by simpa using h⟩]
  show some (D.dk true (putD (m.map fun p => (Sum.inl p.1 : Key)) (m.map fun p => f p.2) (Sum.inl k) (f v)).1 (putD (m.map fun p => (Sum.inl p.1 : Key)) (m.map fun p => f p.2) (Sum.inl k) (f v)).2) = _
  unfold putD putKI
  rw [h1]
  by_cases c : hasK m k = true
  · rw [if_pos c, if_pos c]
    unfold dki
    congr 2
    · rw [List.map_map]
      apply List.map_congr_left
      intro p _
      show _ = (Sum.inl (if p.1 = k then (p.1, v) else p).1 : Key)
      split <;> rfl
    · clear h1 c h
      show List.zipWith _ _ _ = _
      induction m with
      | nil => rfl
      | cons p m ih =>
        simp only [List.map_cons, List.zipWith_cons_cons]
        rw [ih]
        congr 1
        by_cases e : p.1 = k
        · rw [if_pos e, e, if_pos rfl]
        · rw [if_neg e, if_neg fun h => e (Sum.inl.inj h)]
  · rw [if_neg c, if_neg c]
    unfold dki
    simp
theorem hasK_put : hasK (putKI m k v) k' = (decide (k = k') || hasK m k') := by
  unfold putKI
  by_cases c : hasK m k = true
  · rw [if_pos c]
    by_cases e : k = k'
    · subst e
      rw [decide_eq_true rfl, Bool.true_or]
      unfold hasK at c ⊢
      rw [List.any_map, List.any_eq_true]
      obtain ⟨p, h1, h2⟩ := List.any_eq_true.mp c
      refine ⟨p, h1, ?_⟩
      show decide ((if p.1 = k then (p.1, v) else p).1 = k) = true
      rw [if_pos (of_decide_eq_true h2)]
      exact h2
    · rw [decide_eq_false e, Bool.false_or]
      unfold hasK
      rw [List.any_map]
      congr 1
      funext p
      show decide ((if p.1 = k then (p.1, v) else p).1 = k') = _
      split <;> rfl
  · rw [if_neg c]
    unfold hasK
    rw [List.any_append, List.any_cons, List.any_nil, Bool.or_false, Bool.or_comm]
theorem getK_put [Inhabited α] : getK (putKI m k v) k' = if k = k' then v else getK m k' := by
  unfold putKI
  by_cases c : hasK m k = true
  · rw [if_pos c]
    unfold hasK at c
    induction m with
    | nil => cases c
    | cons p m ih =>
      unfold getK
      rw [List.map_cons, List.find?_cons, List.find?_cons]
      by_cases e : p.1 = k
      · rw [if_pos e]
        by_cases e2 : p.1 = k'
        · rw [decide_eq_true e2, if_pos (e.symm.trans e2)]; rfl
        · have e3 : k ≠ k' := fun h => e2 (e.trans h)
          rw [decide_eq_false e2, if_neg e3]
          dsimp only
          by_cases c2 : (m.any fun p => decide (p.1 = k)) = true
          · have := ih c2
            rw [if_neg e3] at this
            exact this
          · have : (m.map fun p => if p.1 = k then (p.1, v) else p) = m := by
              conv => rhs; rw [← List.map_id m]
              apply List.map_congr_left
              intro q hq
              show (if q.1 = k then (q.1, v) else q) = q
              rw [if_neg]
              intro h
              exact c2 (List.any_eq_true.mpr ⟨q, hq, decide_eq_true h⟩)
            rw [this]
      · rw [if_neg e]
        rw [List.any_cons, decide_eq_false e, Bool.false_or] at c
        have := ih c
        by_cases e2 : p.1 = k'
        · rw [decide_eq_true e2]
          have e3 : k ≠ k' := fun h => e (e2.trans h.symm)
          rw [if_neg e3]
        · rw [decide_eq_false e2]
          exact this
  · rw [if_neg c]
    unfold getK
    rw [List.find?_append]
    by_cases e : k = k'
    · subst e
      have : m.find? (fun p => decide (p.1 = k)) = none := by
        rw [List.find?_eq_none]
        intro p hp h
        exact c (List.any_eq_true.mpr ⟨p, hp, h⟩)
      rw [this, if_pos rfl]
      simp
    · rw [if_neg e]
      cases h : m.find? (fun p => decide (p.1 = k')) with
      | some p => rfl
      | none => simp [e]
theorem putKI_len [Inhabited α] (h : hasK m k = false) : (putKI m k v).length = m.length + 1 := by
  unfold putKI
  rw [h]; simp
end
theorem dki_nil {α : Type} {f : α → D} {b : Bool} : D.dk b [] [] = dki f b [] := rfl
theorem insOk_i {c m : Str} {b : Bool} {ns : List Str} {l : List D} (h : ns.contains m = false) : insOk c m (.ins b c ns l) = true := by
  show (decide (c = c) && !(ns.contains m)) = true
  rw [h]; simp
/-! ### a list or a tuple -/
def sq (b m : Bool) (l : List D) : D := match b with
  | true => .tup l
  | false => .lst m l
section
variable {b m m' : Bool} {l k : List D} {i : Int}
theorem q_lenQ : gLen (sq b m l) = some (.int l.length) := by cases b <;> rfl
theorem q_ixQ : gIx (sq b m l) (.int i) = L2.atI l i := by cases b <;> rfl
theorem q_seqQ : asSeq (sq b m l) = some l := by cases b <;> rfl
theorem q_tupQ : gTuple (sq b m l) = some (.tup l) := by cases b <;> rfl
theorem q_fzQ : D.fz (sq b m l) = sq b false (D.fzs l) := by cases b <;> rfl
theorem froQ {l : List Int} : (sq b false (nums l)).frozen = true := by
  cases b
  · show (!false && D.frozens (nums l)) = true
    rw [frozens_nums]; rfl
  · exact frozens_nums
theorem froD {α : Type} {f : α → D} [Enc f] {l : List α} : (sq b false (dl f l)).frozen = true := by
  cases b
  · show (!false && D.frozens (dl f l)) = true
    rw [frozens_dl]; rfl
  · exact frozens_dl
theorem q_slD {α : Type} {f : α → D} [Enc f] {l : List α} {lo hi : Option Int} : gSl (sq b m (dl f l)) lo hi = some (sq b true (cutD (dl f l) lo hi)) := by
  cases b
  · exact if_pos frozens_dl
  · exact q_slT
theorem q_slQ {l : List Int} {lo hi : Option Int} : gSl (sq b m (nums l)) lo hi = some (sq b true (cutD (nums l) lo hi)) := by
  cases b
  · exact q_slL
  · exact q_slT
theorem q_catQ (h : l.length + k.length ≤ sizeLine) : gCat (sq b m l) (sq b m' k) = some (sq b true (l ++ k)) := by
  cases b
  · exact q_catL h
  · exact q_catT h
theorem q_isNQ : isNon (sq b m l) = false := by cases b <;> rfl
end
end
section
set_option Elab.async false
set_option linter.all false
set_option maxRecDepth 100000
set_option maxHeartbeats 1000000
/-! ### borrowed: an owned tree of lists is frozen for a while -/
mutual
/-- no frozen list in it -/
def D.bare : D → Bool
  | .tup l => D.bares l
  | .ktp l => D.bares l
  | .scr _ => false
  | .lst m l => m && D.bares l
  | .ins _ _ _ l => D.bares l
  | .dk _ _ l => D.bares l
  | .dt _ _ l => D.bares l
  | .otp l => D.bares l
  | _ => true
def D.bares : List D → Bool
  | [] => true
  | d :: l => d.bare && D.bares l
end
mutual
/-- what is owned in it is lists alone -/
def D.lo : D → Bool
  | .lst m l => if m then D.los l else D.frozens l
  | d => d.frozen
def D.los : List D → Bool
  | [] => true
  | d :: l => d.lo && D.los l
end
def cutA (A : List Addr) (I : Hp) : Hp := fun b => if b ∈ A then none else I b
theorem cutA_in {A : List Addr} {I : Hp} {b : Addr} (h : b ∈ A) : cutA A I b = none := if_pos h
theorem cutA_out {A : List Addr} {I : Hp} {b : Addr} (h : b ∉ A) : cutA A I b = I b := if_neg h
theorem cutA_sub {A : List Addr} {I : Hp} {b : Addr} {o : HO} (h : cutA A I b = some o) : I b = some o := by
  unfold cutA at h
  split at h
  · cases h
  · exact h
theorem cutA_none {A : List Addr} {I : Hp} {b : Addr} (h : I b = none) : cutA A I b = none := by
  unfold cutA
  split
  · rfl
  · exact h
section
variable {G : Gx} {z : Zx} {W : WX} {I I' H H' : Hp} {ts : List V} {dts : List D} {σ : L2.St} {env : VEnv} {FT FS : List Addr} {A : List Addr}
theorem cutA_ne (hA : ∀ b ∈ A, ∃ ws, H b = some (.lst ws)) (s : Same I H) {a : Addr} {o : HO} (h : I a = some o) (n : ∀ ws, o ≠ .lst ws) : cutA A I a = some o := by
  unfold cutA
  rw [if_neg]
  · exact h
  · intro hm
    obtain ⟨ws, e⟩ := hA a hm
    rw [s a o h] at e
    exact n ws (Option.some.inj e)
mutual
theorem Rep.cutA (hA : ∀ b ∈ A, ∃ ws, H b = some (.lst ws)) (s : Same I H) : ∀ (d : D) (v : V), d.bare = true → Rep G I v d → Rep G (cutA A I) v d
  | .non, _, _, h => h
  | .bl _, _, _, h => h
  | .int _, _, _, h => h
  | .str _, _, _, h => h
  | .cst _, _, _, h => h
  | .tup l, _, f, ⟨a, ws, e, h, r⟩ => ⟨a, ws, e, cutA_ne hA s h (by intro ws e; cases e), Reps.cutA hA s l ws (by simpa [D.bare] using f) r⟩
  | .ktp l, _, f, ⟨a, ws, e, h, r⟩ => ⟨a, ws, e, by
      rcases h with (h | ⟨o, h⟩) | h
      · exact .inl (.inl (cutA_ne hA s h (by intro ws e; cases e)))
      · exact .inl (.inr ⟨o, cutA_ne hA s h (by intro ws e; cases e)⟩)
      · exact .inr h, Reps.cutA hA s l ws (by simpa [D.bare] using f) r⟩
  | .scr l, _, f, _ => by simp [D.bare] at f
  | .lst m l, _, f, ⟨e, _⟩ => by simp [D.bare, e] at f
  | .ins _ _ _ l, _, f, ⟨m, a, dx, ws, e, h, n, r⟩ => ⟨m, a, dx, ws, e, cutA_ne hA s h (by intro ws e; cases e), n, Reps.cutA hA s l ws (by simpa [D.bare] using f) r⟩
  | .dk _ _ l, _, f, ⟨m, a, ws, e, h, n, r⟩ => ⟨m, a, ws, e, cutA_ne hA s h (by intro ws e; cases e), n, Reps.cutA hA s l ws (by simpa [D.bare] using f) r⟩
  | .dt _ _ l, _, f, ⟨m, a, ws, e, h, n, r⟩ => ⟨m, a, ws, e, cutA_ne hA s h (by intro ws e; cases e), n, Reps.cutA hA s l ws (by simpa [D.bare] using f) r⟩
  | .otp _, _, _, h => h.elim
theorem Reps.cutA (hA : ∀ b ∈ A, ∃ ws, H b = some (.lst ws)) (s : Same I H) : ∀ (l : List D) (vs : List V), D.bares l = true → Reps G I vs l → Reps G (cutA A I) vs l
  | [], [], _, h => h
  | d :: l, v :: vs, f, ⟨h, r⟩ => by
    simp [D.bares] at f
    exact ⟨Rep.cutA hA s d v f.1 h, Reps.cutA hA s l vs f.2 r⟩
  | [], _ :: _, _, h => h.elim
  | _ :: _, [], _, h => h.elim
end
mutual
theorem Own.cutA (hA : ∀ b ∈ A, ∃ ws, H b = some (.lst ws)) (s : Same I H) : ∀ (d : D) (v : V) (F : List Addr), d.bare = true → Own G I H v d F → Own G (cutA A I) H v d F
  | .non, _, _, _, h => h
  | .bl _, _, _, _, h => h
  | .int _, _, _, _, h => h
  | .str _, _, _, _, h => h
  | .cst _, _, _, _, h => h
  | .tup _, _, _, f, ⟨e, h⟩ => ⟨e, Rep.cutA hA s _ _ f h⟩
  | .ktp _, _, _, f, ⟨e, h⟩ => ⟨e, Rep.cutA hA s _ _ f h⟩
  | .scr _, _, _, f, _ => by simp [D.bare] at f
  | .lst false _, _, _, f, _ => by simp [D.bare] at f
  | .ins false _ _ _, _, _, f, ⟨e, h⟩ => ⟨e, Rep.cutA hA s _ _ f h⟩
  | .dk false _ _, _, _, f, ⟨e, h⟩ => ⟨e, Rep.cutA hA s _ _ f h⟩
  | .dt false _ _, _, _, f, ⟨e, h⟩ => ⟨e, Rep.cutA hA s _ _ f h⟩
  | .lst true l, _, F, f, ⟨a, ws, F', ev, h, i, r, e⟩ => ⟨a, ws, F', ev, h, cutA_none i, Owns.cutA hA s l ws F' (by simpa [D.bare] using f) r, e⟩
  | .otp l, _, F, f, ⟨a, ws, F', ev, h, i, r, e⟩ => ⟨a, ws, F', ev, h, cutA_none i, Owns.cutA hA s l ws F' (by simpa [D.bare] using f) r, e⟩
  | .ins true c ns l, _, F, f, ⟨a, dx, ws, F', ev, h, n, i, r, e⟩ => ⟨a, dx, ws, F', ev, h, n, cutA_none i, Owns.cutA hA s l ws F' (by simpa [D.bare] using f) r, e⟩
  | .dk true ks l, _, F, f, ⟨a, ws, F', ev, h, n, i, r, e⟩ => ⟨a, ws, F', ev, h, n, cutA_none i, Owns.cutA hA s l ws F' (by simpa [D.bare] using f) r, e⟩
  | .dt true ks l, _, F, f, ⟨a, ws, F', ev, h, n, i, r, e⟩ => ⟨a, ws, F', ev, h, n, cutA_none i, Owns.cutA hA s l ws F' (by simpa [D.bare] using f) r, e⟩
theorem Owns.cutA (hA : ∀ b ∈ A, ∃ ws, H b = some (.lst ws)) (s : Same I H) : ∀ (l : List D) (vs : List V) (F : List Addr), D.bares l = true → Owns G I H vs l F → Owns G (cutA A I) H vs l F
  | [], [], _, _, h => h
  | d :: l, v :: vs, F, f, ⟨F1, F2, e, h, r⟩ => by
    simp [D.bares] at f
    exact ⟨F1, F2, e, Own.cutA hA s d v F1 f.1 h, Owns.cutA hA s l vs F2 f.2 r⟩
  | [], _ :: _, _, _, h => h.elim
  | _ :: _, [], _, _, h => h.elim
end
mutual
theorem Own.lists : ∀ (d : D) (v : V) (F : List Addr), d.lo = true → Own G I H v d F → ∀ b ∈ F, ∃ ws, H b = some (.lst ws)
  | .lst true l, _, F, f, ⟨a, ws, F', ev, h, i, r, e⟩, b, hb => by
    subst e
    rcases List.mem_cons.mp hb with z | z
    · rw [z]; exact ⟨_, h⟩
    · exact Owns.lists l ws F' (by simpa [D.lo] using f) r b z
  | .lst false l, v, F, f, h, b, hb => by rw [(Own.rep _ v F (by simpa [D.lo, D.frozen] using f) h).1] at hb; cases hb
  | .non, v, F, f, h, b, hb => by rw [(Own.rep _ v F (by simpa [D.lo, D.frozen] using f) h).1] at hb; cases hb
  | .bl _, v, F, f, h, b, hb => by rw [(Own.rep _ v F (by simpa [D.lo, D.frozen] using f) h).1] at hb; cases hb
  | .int _, v, F, f, h, b, hb => by rw [(Own.rep _ v F (by simpa [D.lo, D.frozen] using f) h).1] at hb; cases hb
  | .str _, v, F, f, h, b, hb => by rw [(Own.rep _ v F (by simpa [D.lo, D.frozen] using f) h).1] at hb; cases hb
  | .cst _, v, F, f, h, b, hb => by rw [(Own.rep _ v F (by simpa [D.lo, D.frozen] using f) h).1] at hb; cases hb
  | .tup _, v, F, f, h, b, hb => by rw [(Own.rep _ v F (by simpa [D.lo, D.frozen] using f) h).1] at hb; cases hb
  | .ktp _, v, F, f, h, b, hb => by rw [(Own.rep _ v F (by simpa [D.lo, D.frozen] using f) h).1] at hb; cases hb
  | .scr _, v, F, f, h, b, hb => by rw [(Own.rep _ v F (by simpa [D.lo, D.frozen] using f) h).1] at hb; cases hb
  | .ins _ _ _ _, v, F, f, h, b, hb => by rw [(Own.rep _ v F (by simpa [D.lo, D.frozen] using f) h).1] at hb; cases hb
  | .dk _ _ _, v, F, f, h, b, hb => by rw [(Own.rep _ v F (by simpa [D.lo, D.frozen] using f) h).1] at hb; cases hb
  | .dt _ _ _, v, F, f, h, b, hb => by rw [(Own.rep _ v F (by simpa [D.lo, D.frozen] using f) h).1] at hb; cases hb
  | .otp _, v, F, f, h, b, hb => by simp [D.lo, D.frozen] at f
theorem Owns.lists : ∀ (l : List D) (vs : List V) (F : List Addr), D.los l = true → Owns G I H vs l F → ∀ b ∈ F, ∃ ws, H b = some (.lst ws)
  | [], [], F, _, h, b, hb => by
    have h : F = [] := h
    rw [h] at hb; cases hb
  | d :: l, v :: vs, F, f, ⟨F1, F2, e, h, r⟩, b, hb => by
    simp [D.los] at f
    subst e
    rcases List.mem_append.mp hb with z | z
    · exact Own.lists d v F1 f.1 h b z
    · exact Owns.lists l vs F2 f.2 r b z
  | [], _ :: _, _, _, h, _, _ => h.elim
  | _ :: _, [], _, _, h, _, _ => h.elim
end
/-- the slots behind a borrowing: as they were and frozen, or without frozen lists -/
def bor : VEnv → VEnv → Prop
  | [], [] => True
  | a :: as, b :: bs => (match b with
    | none => True
    | some d => d.bare = true ∨ (d.frozen = true ∧ a = some d)) ∧ bor as bs
  | _, _ => False
theorem OwnS.cutA (hA : ∀ b ∈ A, ∃ ws, H' b = some (.lst ws)) (sub : Same I' H') (s : Same I (cutA A I')) : ∀ {ps σ : List (Option V)} {e' env : VEnv} {F F0 : List Addr}, OwnS G z I' H' ps σ e' F → OwnS G z I H ps σ env F0 → bor env e' → OwnS G z (cutA A I') H' ps σ e' F := by
  intro ps
  induction ps with
  | nil =>
    intro σ e' env F F0 h _ _
    cases σ <;> cases e' <;> exact h
  | cons p ps ih =>
    intro σ e' env F F0 h h0 b
    cases σ with
    | nil => exact h.elim
    | cons x xs =>
      cases e' with
      | nil => exact h.elim
      | cons d ds =>
        cases env with
        | nil => exact h0.elim
        | cons a as =>
          obtain ⟨F1, F2, e, h1, h2⟩ := h
          obtain ⟨F3, F4, e3, h3, h4⟩ := h0
          refine ⟨F1, F2, e, ?_, ih h2 h4 b.2⟩
          cases d with
          | none => exact ⟨h1.1, h1.2⟩
          | some d =>
            obtain ⟨q1, v, ex, o, f⟩ := h1
            refine ⟨q1, v, ex, ?_, f⟩
            rcases b.1 with br | ⟨fz, ea⟩
            · exact Own.cutA hA sub d v F1 br o
            · subst ea
              obtain ⟨_, v0, ex0, o0, _⟩ := h3
              rw [ex] at ex0
              cases ex0
              have r1 := (Own.rep d v F3 fz o0).2
              rw [(Own.rep d v F1 fz o).1]
              exact Rep.own d v (Rep.mono s d v r1)
/-- slot k frozen for a while, and taken back -/
theorem Stt.bor (S : Stt G z I H [] [] σ env [] FS) {k : Nat} {d : D} (hk : env[k]? = some (some d)) (hp : z.pv[k]? = some none) (lo : d.lo = true) :
    ∃ v Fk I1 F1, σ[k]? = some (some v) ∧ Own G I H v d Fk ∧ Same I I1 ∧ Stt G z I1 H [] [] σ (env.set k (some d.fz)) [] F1 ∧
      ∀ {v' : V} {r : D} {e' : VEnv} {I' H' : Hp} {FT' FS' : List Addr}, Same I1 I' → Stt G z I' H' [v'] [r] σ e' FT' FS' → r.bare = true → VL.bor env (e'.set k none) →
        ∃ I2 FT2 FS2, Same I I2 ∧ (∀ b ∈ Fk, H' b = H b) ∧ Stt G z I2 H' [v'] [r] σ (e'.set k (some d)) FT2 FS2 := by
  obtain ⟨v, p, Fk, Fr, b1, b2, b3, b4, b5, b6, b7, b8, S1⟩ := S.hole hk
  rw [hp] at b1
  have ep : none = p := Option.some.inj b1
  subst ep
  have fr := b5 rfl
  obtain ⟨s, S2⟩ := S1.give (F := Fk) (fun b hb => (Own.dom d v Fk b4 b hb).2) fr (nodup_disj b7)
  have rv := Own.give s d v Fk (fun b hb => frz_in hb) b4
  have hkl : k < env.length := (List.getElem?_eq_some_iff.mp hk).1
  have hk2 : (env.set k none)[k]? = some none := by simp [hkl]
  obtain ⟨F1, S3⟩ := S2.fill (x := some v) (d := some d.fz) (Fk := []) hk2 hp ⟨fun u hu => (nomatch hu), v, rfl, Rep.own _ _ rv, fun _ b hb => nomatch hb⟩ S2.nd (fun b hb => nomatch hb)
  rw [List.set_set, set_same_of b2] at S3
  refine ⟨v, Fk, _, F1, b2, b4, s, S3, fun {v' r e' I' H' FT' FS'} s' S' br bo => ?_⟩
  have inI : ∀ b ∈ Fk, ∃ o, I' b = some o ∧ H b = some o := fun b hb => by
    obtain ⟨o, e⟩ := (Own.dom d v Fk b4 b hb).1
    exact ⟨o, s' b o (by rw [frz_in hb]; exact e), e⟩
  have hH : ∀ b ∈ Fk, H' b = H b := fun b hb => by
    obtain ⟨o, e1, e2⟩ := inI b hb
    rw [S'.sub b o e1, e2]
  have hA : ∀ b ∈ Fk, ∃ ws, H' b = some (.lst ws) := fun b hb => by
    obtain ⟨ws, e⟩ := Own.lists d v Fk lo b4 b hb
    exact ⟨ws, (hH b hb).trans e⟩
  have nI : ∀ b ∈ Fk, I b = none := fun b hb => (Own.dom d v Fk b4 b hb).2
  have s2 : Same I (cutA Fk I') := fun b o e => by
    have hb : b ∉ Fk := fun hb => by rw [nI b hb] at e; cases e
    rw [cutA_out hb]
    exact s' b o (s b o e)
  obtain ⟨F0, S4⟩ := S'.forget k
  have S5 : Stt G z (cutA Fk I') H' [v'] [r] σ (e'.set k none) FT' F0 := by
    refine ⟨?_, OwnS.cutA hA S4.sub s2 S4.oS S.oS bo, S4.nd, fun b o e => S4.sub b o (cutA_sub e), S.i0.trans s2, fun b o e n => S4.ifr b o (cutA_sub e) n, S4.fS, S4.frame, S4.dom⟩
    obtain ⟨Fa, Fb, e, o, f, rst⟩ := S4.oT
    exact ⟨Fa, Fb, e, Own.cutA hA S4.sub r v' Fa br o, f, rst⟩
  have own' : Own G (cutA Fk I') H' v d Fk := Own.up s2 d v Fk (fun b hb => ⟨hH b hb, cutA_in hb⟩) b4
  have hk3 : (e'.set k none)[k]? = some none := by
    have : k < e'.length := by rw [S'.lenS.2]; exact (List.getElem?_eq_some_iff.mp hp).1
    simp [this]
  obtain ⟨F2, S6⟩ := S5.fill (x := some v) (d := some d) (Fk := Fk) hk3 hp ⟨fun u hu => (nomatch hu), v, rfl, own', fun _ => fr⟩ (by
    refine List.nodup_append.mpr ⟨(List.nodup_append.mp b7).1, S4.nd, fun b hb c hc e => ?_⟩
    subst e
    obtain ⟨o, e1, _⟩ := inI b hb
    rcases List.mem_append.mp hc with q | q
    · rw [(S4.oT.dom b q).2.1] at e1; cases e1
    · rw [(S4.oS.dom b q).2] at e1; cases e1) (fun b hb => .inl (fr b hb))
  rw [List.set_set, set_same_of b2] at S6
  exact ⟨_, FT', F2, s2, hH, S6⟩

/-! ### places in an owned tree of lists -/
def treeAt : D → List Int → Option D
  | d, [] => some d
  | .lst true l, i :: p => (L2.ixN l.length i).bind fun j => (l[j]?).bind fun d => treeAt d p
  | _, _ :: _ => none
def treeSet : D → List Int → D → Option D
  | _, [], x => some x
  | .lst true l, i :: p, x => (L2.ixN l.length i).bind fun j => (l[j]?).bind fun d => (treeSet d p x).map fun d' => .lst true (l.set j d')
  | _, _ :: _, _ => none
def nav (H : Hp) : V → List Int → Option V
  | v, [] => some v
  | .ref a, i :: p => match H a with
    | some (.lst ws) => (L2.atI ws i).bind fun w => nav H w p
    | _ => none
  | _, _ :: _ => none
theorem treeAt_cons {d x : D} {i : Int} {p : List Int} (h : treeAt d (i :: p) = some x) : ∃ l j c, d = .lst true l ∧ L2.ixN l.length i = some j ∧ l[j]? = some c ∧ treeAt c p = some x := by
  cases d with
  | lst m l =>
    cases m with
    | true =>
      obtain ⟨j, e1, e2⟩ := Option.bind_eq_some_iff.mp (show ((L2.ixN l.length i).bind fun j => (l[j]?).bind fun d => treeAt d p) = some x from h)
      obtain ⟨c, e3, e4⟩ := Option.bind_eq_some_iff.mp e2
      exact ⟨l, j, c, rfl, e1, e3, e4⟩
    | false => cases h
  | _ => cases h
theorem nav_ref {a : Addr} {ws : List V} {i : Int} {p : List Int} (h : H a = some (.lst ws)) : nav H (.ref a) (i :: p) = (L2.atI ws i).bind fun w => nav H w p := by
  show (match H a with
    | some (.lst ws) => (L2.atI ws i).bind fun w => nav H w p
    | _ => none) = _
  rw [h]
theorem nav_snoc : ∀ {is : List Int} {v u : V} {i : Int}, nav H v (is ++ [i]) = some u → ∃ a ws, nav H v is = some (.ref a) ∧ H a = some (.lst ws) ∧ L2.atI ws i = some u
  | [], v, u, i, h => by
    cases v with
    | ref a =>
      cases e : H a with
      | none => simp [nav, e] at h
      | some o =>
        cases o with
        | lst ws =>
          rw [List.nil_append, nav_ref e] at h
          obtain ⟨w, e1, e2⟩ := Option.bind_eq_some_iff.mp h
          cases e2
          exact ⟨a, ws, rfl, e, e1⟩
        | _ => simp [nav, e] at h
    | _ => simp [nav] at h
  | j :: is, v, u, i, h => by
    cases v with
    | ref a =>
      cases e : H a with
      | none => simp [nav, e] at h
      | some o =>
        cases o with
        | lst ws =>
          rw [List.cons_append, nav_ref e] at h
          obtain ⟨w, e1, e2⟩ := Option.bind_eq_some_iff.mp h
          obtain ⟨b, us, h1, h2, h3⟩ := nav_snoc e2
          exact ⟨b, us, by rw [nav_ref e, e1]; exact h1, h2, h3⟩
        | _ => simp [nav, e] at h
    | _ => simp [nav] at h
theorem Owns.getS : ∀ {l : List D} {ws : List V} {F : List Addr} {j : Nat} {d : D}, Owns G I H ws l F → l[j]? = some d → ∃ w Fj, ws[j]? = some w ∧ Own G I H w d Fj ∧ ∀ b ∈ Fj, b ∈ F
  | c :: l, u :: ws, F, 0, d, ⟨Fa, Fb, e, h1, h2⟩, hj => by
    subst e
    simp at hj; subst hj
    exact ⟨u, Fa, rfl, h1, fun b hb => List.mem_append_left _ hb⟩
  | c :: l, u :: ws, F, j + 1, d, ⟨Fa, Fb, e, h1, h2⟩, hj => by
    subst e
    obtain ⟨w, Fj, a1, a2, a3⟩ := Owns.getS (j := j) h2 (by simpa using hj)
    exact ⟨w, Fj, by simpa using a1, a2, fun b hb => List.mem_append_right _ (a3 b hb)⟩
  | [], _, _, _, _, _, hj => by simp at hj
  | _ :: _, [], _, _, _, h, _ => h.elim
theorem Own.navS : ∀ {is : List Int} {d x : D} {v : V} {F : List Addr}, Own G I H v d F → treeAt d is = some x → (∀ b ∈ F, H' b = H b) → ∃ u Fu, nav H v is = some u ∧ nav H' v is = some u ∧ Own G I H u x Fu ∧ ∀ b ∈ Fu, b ∈ F
  | [], d, x, v, F, h, e, k => by
    cases e
    exact ⟨v, F, rfl, rfl, h, fun b hb => hb⟩
  | i :: is, d, x, v, F, h, e, k => by
    obtain ⟨l, j, c, e1, e2, e3, e4⟩ := treeAt_cons e
    subst e1
    obtain ⟨a, ws, F', ev, ha, i0, r, eF⟩ := h
    subst ev eF
    obtain ⟨w, Fj, a1, a2, a3⟩ := r.getS e3
    obtain ⟨u, Fu, b1, b2, b3, b4⟩ := Own.navS a2 e4 (fun b hb => k b (List.mem_cons_of_mem _ (a3 b hb)))
    have ea : L2.atI ws i = some w := by unfold L2.atI; rw [r.len, e2]; exact a1
    refine ⟨u, Fu, ?_, ?_, b3, fun b hb => List.mem_cons_of_mem _ (a3 b (b4 b hb))⟩
    · rw [nav_ref ha, ea]; exact b1
    · rw [nav_ref ((k a List.mem_cons_self).trans ha), ea]; exact b2
theorem Owns.holeAt : ∀ {l : List D} {ws : List V} {F : List Addr} {j : Nat} {d : D}, Owns G I H ws l F → l[j]? = some d → F.Nodup → ∃ w Fj, ws[j]? = some w ∧ Own G I H w d Fj ∧ (∀ b ∈ Fj, b ∈ F) ∧ Fj.Nodup ∧
    ∀ (H' : Hp) (d' : D) (Fj' Fx : List Addr), (∀ b ∈ F, b ∉ Fj → H' b = H b) → Own G I H' w d' Fj' → Fj'.Nodup → (∀ b ∈ Fj', b ∈ Fj ++ Fx) → (∀ b ∈ Fx, b ∉ F) → ∃ F', Owns G I H' ws (l.set j d') F' ∧ F'.Nodup ∧ ∀ b ∈ F', b ∈ F ++ Fx
  | c :: l, u :: ws, F, 0, d, ⟨Fa, Fb, e, h1, h2⟩, hj, nd => by
    subst e
    simp at hj; subst hj
    have n := List.nodup_append.mp nd
    refine ⟨u, Fa, rfl, h1, fun b hb => List.mem_append_left _ hb, n.1, fun H' d' Fj' Fx hh o' nd' sb dx => ⟨Fj' ++ Fb, ⟨Fj', Fb, rfl, o', h2.cast fun b hb => hh b (List.mem_append_right _ hb) fun q => n.2.2 b q b hb rfl⟩, ?_, fun b hb => ?_⟩⟩
    · refine List.nodup_append.mpr ⟨nd', n.2.1, fun b hb c hc e => ?_⟩
      subst e
      rcases List.mem_append.mp (sb b hb) with q | q
      · exact n.2.2 b q b hc rfl
      · exact dx b q (List.mem_append_right _ hc)
    · rcases List.mem_append.mp hb with q | q
      · rcases List.mem_append.mp (sb b q) with w | w
        · exact List.mem_append_left _ (List.mem_append_left _ w)
        · exact List.mem_append_right _ w
      · exact List.mem_append_left _ (List.mem_append_right _ q)
  | c :: l, u :: ws, F, j + 1, d, ⟨Fa, Fb, e, h1, h2⟩, hj, nd => by
    subst e
    have n := List.nodup_append.mp nd
    obtain ⟨w, Fj, a1, a2, a3, a4, a5⟩ := Owns.holeAt (j := j) h2 (by simpa using hj) n.2.1
    refine ⟨w, Fj, by simpa using a1, a2, fun b hb => List.mem_append_right _ (a3 b hb), a4, fun H' d' Fj' Fx hh o' nd' sb dx => ?_⟩
    obtain ⟨F', r, nd2, sb2⟩ := a5 H' d' Fj' Fx (fun b hb nb => hh b (List.mem_append_right _ hb) nb) o' nd' sb (fun b hb q => dx b hb (List.mem_append_right _ q))
    refine ⟨Fa ++ F', ⟨Fa, F', rfl, h1.cast fun b hb => hh b (List.mem_append_left _ hb) fun q => n.2.2 b hb b (a3 b q) rfl, r⟩, List.nodup_append.mpr ⟨n.1, nd2, fun b hb c hc e => ?_⟩, fun b hb => ?_⟩
    · subst e
      rcases List.mem_append.mp (sb2 b hc) with q | q
      · exact n.2.2 b hb b q rfl
      · exact dx b q (List.mem_append_left _ hb)
    · rcases List.mem_append.mp hb with q | q
      · exact List.mem_append_left _ (List.mem_append_left _ q)
      · rcases List.mem_append.mp (sb2 b q) with w | w
        · exact List.mem_append_left _ (List.mem_append_right _ w)
        · exact List.mem_append_right _ w
  | [], _, _, _, _, _, hj, _ => by simp at hj
  | _ :: _, [], _, _, _, h, _, _ => h.elim
/-- a list at a place in an owned tree: its content changed -/
theorem Own.tree : ∀ {is : List Int} {d : D} {v : V} {F : List Addr} {m : List D}, Own G I H v d F → F.Nodup → treeAt d is = some (.lst true m) → ∃ a ws F0, nav H v is = some (.ref a) ∧ H a = some (.lst ws) ∧ I a = none ∧ a ∈ F ∧ Owns G I H ws m F0 ∧ F0.Nodup ∧ (∀ b ∈ F0, b ∈ F) ∧ a ∉ F0 ∧
    ∀ (ws' : List V) (m' : List D) (F0' Fx : List Addr), Owns G I H ws' m' F0' → F0'.Nodup → (∀ b ∈ F0', b ∈ F0 ++ Fx) → (∀ b ∈ Fx, b ∉ F) → ∃ d' F', treeSet d is (.lst true m') = some d' ∧ Own G I (upd H a (.lst ws')) v d' F' ∧ F'.Nodup ∧ ∀ b ∈ F', b ∈ F ++ Fx
  | [], d, v, F, m, h, nd, e => by
    cases e
    obtain ⟨a, ws, F', ev, ha, ia, r, eF⟩ := h
    subst ev eF
    have n := List.nodup_cons.mp nd
    refine ⟨a, ws, F', rfl, ha, ia, List.mem_cons_self, r, n.2, fun b hb => List.mem_cons_of_mem _ hb, n.1, fun ws' m' F0' Fx o' nd' sb dx => ?_⟩
    have an : a ∉ F0' := fun q => by
      rcases List.mem_append.mp (sb a q) with w | w
      · exact n.1 w
      · exact dx a w List.mem_cons_self
    refine ⟨.lst true m', a :: F0', rfl, ⟨a, ws', F0', rfl, upd_same, ia, o'.cast fun b hb => upd_ne fun q => an (q ▸ hb), rfl⟩, List.nodup_cons.mpr ⟨an, nd'⟩, fun b hb => ?_⟩
    rcases List.mem_cons.mp hb with q | q
    · rw [q]; exact List.mem_append_left _ List.mem_cons_self
    · rcases List.mem_append.mp (sb b q) with w | w
      · exact List.mem_append_left _ (List.mem_cons_of_mem _ w)
      · exact List.mem_append_right _ w
  | i :: is, d, v, F, m, h, nd, e => by
    obtain ⟨l, j, c, e1, e2, e3, e4⟩ := treeAt_cons e
    subst e1
    obtain ⟨b, vs, F', ev, hb, ib, r, eF⟩ := h
    subst ev eF
    have n := List.nodup_cons.mp nd
    obtain ⟨w, Fj, a1, a2, a3, a4, a5⟩ := r.holeAt e3 n.2
    obtain ⟨a, ws, F0, c1, c2, c3, c4, c5, c6, c7, c9, c8⟩ := Own.tree a2 a4 e4
    have ea : L2.atI vs i = some w := by unfold L2.atI; rw [r.len, e2]; exact a1
    have ab : a ≠ b := fun q => n.1 (q ▸ a3 a c4)
    refine ⟨a, ws, F0, by rw [nav_ref hb, ea]; exact c1, c2, c3, List.mem_cons_of_mem _ (a3 a c4), c5, c6, fun x hx => List.mem_cons_of_mem _ (a3 x (c7 x hx)), c9, fun ws' m' F0' Fx o' nd' sb dx => ?_⟩
    obtain ⟨d', Fj', t1, t2, t3, t4⟩ := c8 ws' m' F0' Fx o' nd' sb (fun x hx q => dx x hx (List.mem_cons_of_mem _ (a3 x q)))
    obtain ⟨F'', r', nd2, sb2⟩ := a5 (upd H a (.lst ws')) d' Fj' Fx (fun x hx nx => upd_ne fun q => nx (q ▸ c4)) t2 t3 t4 (fun x hx q => dx x hx (List.mem_cons_of_mem _ q))
    refine ⟨.lst true (l.set j d'), b :: F'', ?_, ⟨b, vs, F'', rfl, (upd_ne (Ne.symm ab)).trans hb, ib, r', rfl⟩, List.nodup_cons.mpr ⟨fun q => ?_, nd2⟩, fun x hx => ?_⟩
    · show ((L2.ixN l.length i).bind fun j => (l[j]?).bind fun d => (treeSet d is (.lst true m')).map fun d' => D.lst true (l.set j d')) = some (D.lst true (l.set j d'))
      rw [e2]
      simp [e3, t1]
    · rcases List.mem_append.mp (sb2 b q) with w | w
      · exact n.1 w
      · exact dx b w List.mem_cons_self
    · rcases List.mem_cons.mp hx with q | q
      · rw [q]; exact List.mem_append_left _ List.mem_cons_self
      · rcases List.mem_append.mp (sb2 x q) with w | w
        · exact List.mem_append_left _ (List.mem_cons_of_mem _ w)
        · exact List.mem_append_right _ w
theorem Stt.treeW (S : Stt G z I H ts dts σ env FT FS) {k : Nat} {d : D} {is : List Int} {m : List D} (hk : env[k]? = some (some d)) (ht : treeAt d is = some (.lst true m)) {Fx : List Addr} (nx : (Fx ++ (FT ++ FS)).Nodup) (fx : Fresh z Fx) :
    ∃ v a ws F0, σ[k]? = some (some v) ∧ nav H v is = some (.ref a) ∧ H a = some (.lst ws) ∧ Owns G I H ws m F0 ∧ (F0 ++ Fx).Nodup ∧ ∀ (ws' : List V) (m' : List D) (F0' : List Addr), Owns G I H ws' m' F0' → F0'.Nodup → (∀ b ∈ F0', b ∈ F0 ++ Fx) →
      ∃ d' FS', treeSet d is (.lst true m') = some d' ∧ Stt G z I (upd H a (.lst ws')) ts dts σ (env.set k (some d')) FT FS' := by
  obtain ⟨v, p, Fk, Fr, a1, a2, a3, a4, a5, a6, a7, a8, S1⟩ := S.hole hk
  have nda := List.nodup_append.mp a7
  obtain ⟨a, ws, F0, n1, n2, iA, aF, n3, n4, n6, _, n7⟩ := Own.tree a4 nda.1 ht
  have hFS : ∀ b, b ∈ FS ↔ b ∈ Fk ++ Fr := fun b => a6.mem_iff
  have nxd := nodup_disj nx
  have FxFk : ∀ b ∈ Fx, b ∉ Fk := fun b hb q => nxd b hb (List.mem_append_right _ ((hFS b).mpr (List.mem_append_left _ q)))
  have dis : ∀ b ∈ Fk, b ∉ FT ++ Fr := nodup_disj a7
  have aR : a ∉ FT ++ Fr := dis a aF
  refine ⟨v, a, ws, F0, a2, n1, n2, n3, List.nodup_append.mpr ⟨n4, (List.nodup_append.mp nx).1, fun b hb c hc e => by subst e; exact FxFk b hc (n6 b hb)⟩, fun ws' m' F0' o' nd' sb => ?_⟩
  obtain ⟨d', F', t1, t2, t3, t4⟩ := n7 ws' m' F0' Fx o' nd' sb FxFk
  have S2 : Stt G z I (upd H a (.lst ws')) ts dts σ (env.set k none) FT Fr := by
    refine S1.go [a] (Same.refl _) (fun b o e => ?_) (fun b hb => ⟨upd_ne fun e => aR (e ▸ hb), ?_⟩) (fun b o e n => by rw [n] at e; cases e) (fun b hb => ?_) (fun b o e hb => ?_) (fun b o e => ?_)
    · rw [upd_ne (fun q => by rw [q, iA] at e; cases e)]
      exact S1.sub b o e
    · rcases List.mem_append.mp hb with q | q
      · exact (S1.oT.dom b q).2.1
      · exact (S1.oS.dom b q).2
    · rw [show b = a by simpa using hb]
      exact a8 a aF
    · rw [upd_ne (fun q => hb (by simp [q]))]; exact e
    · by_cases q : b = a
      · exact ⟨_, by rw [q, upd_same]⟩
      · exact ⟨o, by rw [upd_ne q]; exact e⟩
  have hk2 : (env.set k none)[k]? = some none := by
    have : k < env.length := (List.getElem?_eq_some_iff.mp hk).1
    simp [this]
  obtain ⟨FS', S3⟩ := S2.fill (x := some v) (d := some d') (Fk := F') hk2 a1 ⟨fun u hu => by rw [a3 u hu], _, rfl, t2, fun hp b hb => by
    rcases List.mem_append.mp (t4 b hb) with w | w
    · exact a5 hp b w
    · exact fx b w⟩ (by
    refine List.nodup_append.mpr ⟨t3, nda.2.1, fun b hb c hc e => ?_⟩
    subst e
    rcases List.mem_append.mp (t4 b hb) with w | w
    · exact dis b w hc
    · rcases List.mem_append.mp hc with u | u
      · exact nxd b w (List.mem_append_left _ u)
      · exact nxd b w (List.mem_append_right _ ((hFS b).mpr (List.mem_append_right _ u)))) (fun b hb => by
    rcases List.mem_append.mp (t4 b hb) with w | w
    · exact a8 b w
    · exact .inl (fx b w))
  rw [List.set_set, set_same_of a2] at S3
  exact ⟨d', FS', t1, S3⟩
end
end
section
set_option Elab.async false
set_option linter.all false
set_option maxRecDepth 100000
set_option maxHeartbeats 1000000
open Classical in
/-- f with slot k frozen for a while -/
noncomputable def vBor (k : Nat) (f : M D) : M D := fun e => match e[k]? with
  | some (some d) => (match f (e.set k (some d.fz)) with
    | some (.ok r e') => if d.lo = true ∧ r.bare = true ∧ bor e (e'.set k none) then some (.ok r (e'.set k (some d))) else none
    | _ => none)
  | _ => none
def ixsK : List (VEnv → Option D) → VEnv → Option (List Int)
  | [], _ => some []
  | p :: ps, e => ((p e).bind asInt).bind fun i => (ixsK ps e).map (i :: ·)
def leaf (d : D) (is : List Int) : Option (List D) := match treeAt d is with
  | some (.lst true m) => some m
  | _ => none
theorem leaf_eq {d : D} {is : List Int} {m : List D} (h : leaf d is = some m) : treeAt d is = some (.lst true m) := by
  unfold leaf at h
  split at h
  · rename_i m' e
    cases h
    exact e
  · cases h
/-- the list at a place behind slot k -/
def pathK (k : Nat) (ps : List (VEnv → Option D)) (e : VEnv) : Option (D × List Int × List D) := ((e[k]?).join).bind fun d => (ixsK ps e).bind fun is => (leaf d is).map fun m => (d, is, m)
theorem pathK_eq {k : Nat} {ps : List (VEnv → Option D)} {e : VEnv} {d : D} {is : List Int} {m : List D} (h : pathK k ps e = some (d, is, m)) : e[k]? = some (some d) ∧ ixsK ps e = some is ∧ treeAt d is = some (.lst true m) := by
  obtain ⟨d', e1, h⟩ := Option.bind_eq_some_iff.mp h
  obtain ⟨is', e2, h⟩ := Option.bind_eq_some_iff.mp h
  obtain ⟨m', e3, h⟩ := Option.map_eq_some_iff.mp h
  cases h
  refine ⟨?_, e2, leaf_eq e3⟩
  cases q : e[k]? with
  | none => rw [q] at e1; cases e1
  | some o => rw [q] at e1; cases e1; rfl
def wrApp (k : Nat) (x : D × List Int × List D) (r : D) (e' : VEnv) : Option (Res Fl) := if x.2.2.length < sizeLine then (treeSet x.1 x.2.1 (.lst true (x.2.2 ++ [r]))).map fun d' => .ok .nx (e'.set k (some d')) else none
def wrPut (k : Nat) (p : VEnv → Option D) (x : D × List Int × List D) (r : D) (e' : VEnv) : Option (Res Fl) := ((p e').bind asInt).bind fun i => (ixSet x.2.2 i r).bind fun m' => (treeSet x.1 x.2.1 (.lst true m')).map fun d' => .ok .nx (e'.set k (some d'))
/-- A[..].append(f) -/
noncomputable def sNApp (k : Nat) (ps : List (VEnv → Option D)) (f : M D) : M Fl := fun e => (pathK k ps e).bind fun x => ((vBor k f).bnd (wrApp k x)) e
/-- y = A[..]; y.append(f) -/
noncomputable def sAlApp (k : Nat) (ps : List (VEnv → Option D)) (j : Nat) (f : M D) : M Fl := fun e => (pathK k ps e).bind fun x => ((vBor k f).bnd (wrApp k x)) (e.set j none)
/-- y = A[..]; y[p] = f -/
noncomputable def sAlPut (k : Nat) (ps : List (VEnv → Option D)) (j : Nat) (p : VEnv → Option D) (f : M D) : M Fl := fun e => (pathK k ps e).bind fun x => ((vBor k f).bnd (wrPut k p x)) (e.set j none)
/-- A[..][p] = f -/
def sNPut (k : Nat) (ps : List (VEnv → Option D)) (p : VEnv → Option D) (f : M D) : M Fl := f.bnd fun r e' => (pathK k ps e').bind fun x => wrPut k p x r e'
/-- g of what slot k holds and f -/
def vOpV (g : D → D → Option D) (k : Nat) (fb : M D) : M D := fun e => match e[k]? with
  | some (some _) => (fb.bnd fun b e' => match e'[k]? with
    | some (some a) => M.opt ((g a b).bind fun d => if d.frozen then some d else none) e'
    | _ => none) e
  | _ => none
/-- (f, ..) with owned parts -/
def vTupO (f : M (List D)) : M D := f.bnd fun ds => M.opt (if ds.length ≤ sizeLine then some (.otp ds) else none)
def setAll : List Nat → List D → VEnv → VEnv
  | k :: ks, d :: ds, e => setAll ks ds (e.set k (some d))
  | _, _, e => e
def tgTupO (ks : List Nat) : Tg := fun d e => match d with
  | .otp l => if l.length = ks.length ∧ ∀ k ∈ ks, k < e.length then some (setAll ks l e) else none
  | _ => none

section
variable {G : Gx} {z : Zx} {W : WX} {I I' H H' : Hp} {ts : List V} {dts : List D} {σ : L2.St} {env : VEnv} {FT FS : List Addr} {ms : List Bool}
def RN (G : Gx) (z : Zx) (k : Nat) (ps : List (VEnv → Option D)) : TE := fun σ H Q => ∃ I ts dts env FT FS is v u, Stt G z I H ts dts σ env FT FS ∧ ixsK ps env = some is ∧ σ[k]? = some (some v) ∧ nav H v is = some u ∧ Q u H
theorem vBor_eq {k : Nat} {f : M D} {r : Res D} (h : vBor k f env = some r) : ∃ d x e', env[k]? = some (some d) ∧ f (env.set k (some d.fz)) = some (.ok x e') ∧ d.lo = true ∧ x.bare = true ∧ bor env (e'.set k none) ∧ r = .ok x (e'.set k (some d)) := by
  unfold vBor at h
  cases e1 : env[k]? with
  | none => rw [e1] at h; cases h
  | some o =>
    rw [e1] at h
    cases o with
    | none => cases h
    | some d =>
      cases e2 : f (env.set k (some d.fz)) with
      | none => simp only [e2] at h; cases h
      | some rr =>
        simp only [e2] at h
        cases rr with
        | exc c x e => cases h
        | ok x e' =>
          dsimp only at h
          split at h
          · rename_i c
            cases h
            exact ⟨d, x, e', rfl, e2, c.1, c.2.1, c.2.2, rfl⟩
          · cases h
theorem bor_re {f : M D} {k : Nat} {kk : D → M Fl} {D' : Ends} (S : Stt G z I H [] [] σ env [] FS) (hp : z.pv[k]? = some none) (h : GS G z W I D' ((vBor k f).bnd kk env)) : ∃ d v Fk, env[k]? = some (some d) ∧ σ[k]? = some (some v) ∧ Own G I H v d Fk ∧
    (∀ Q : VK, (∀ r e' v' I2 H' FT2 FS2, e'[k]? = some (some d) → GS G z W I D' (kk r e') → Same I I2 → (∀ b ∈ Fk, H' b = H b) → Stt G z I2 H' [v'] [r] σ e' FT2 FS2 → Q v' H') → RE G z W f σ H Q) := by
  cases e1 : vBor k f env with
  | none => unfold M.bnd at h; rw [e1] at h; exact h.elim
  | some rr =>
    obtain ⟨d, x, e', h1, h2, h3, h4, h5, h6⟩ := vBor_eq e1
    subst h6
    replace h : GS G z W I D' (kk x (e'.set k (some d))) := by unfold M.bnd at h; rw [e1] at h; exact h
    obtain ⟨v, Fk, I1, F1, g1, g2, g3, S3, go⟩ := S.bor h1 hp h3
    refine ⟨d, v, Fk, h1, g1, g2, fun Q q => RE.of S3 ?_⟩
    rw [h2]
    intro v' I' H' FT' FS' s' S'
    obtain ⟨I2, FT2, FS2, s2, hH, S6⟩ := go s' S' h4 h5
    have hk : (e'.set k (some d))[k]? = some (some d) := by
      have : k < e'.length := by rw [S'.lenS.2]; exact (List.getElem?_eq_some_iff.mp hp).1
      simp [this]
    exact q x _ v' I2 H' FT2 FS2 hk h s2 hH S6
theorem app_go {k : Nat} {d : D} {is : List Int} {m : List D} {r : D} {e' : VEnv} {v v' : V} {a : Addr} {D' : Ends} {I0 : Hp} (S : Stt G z I H [v'] [r] σ e' FT FS) (s0 : Same I0 I) (hk : e'[k]? = some (some d)) (ht : treeAt d is = some (.lst true m)) (hv : σ[k]? = some (some v)) (hn : nav H v is = some (.ref a))
    (h : GS G z W I0 D' (wrApp k (d, is, m) r e')) : ∃ ws, H a = some (.lst ws) ∧ ws.length < sizeLine ∧ D'.nx σ (upd H a (.lst (ws ++ [v']))) := by
  unfold wrApp at h
  split at h
  · rename_i hz
    have nd := S.nd
    obtain ⟨F1, F2, e, o, f, S7⟩ := S.pop
    subst e
    rw [List.append_assoc] at nd
    obtain ⟨v2, a2, ws2, F0, w1, w2, w3, w4, w5, w6⟩ := S7.treeW hk ht nd f
    rw [hv] at w1
    cases w1
    rw [hn] at w2
    cases w2
    obtain ⟨d', FS', t1, S8⟩ := w6 (ws2 ++ [v']) (m ++ [r]) (F0 ++ F1) (w4.app ⟨F1, [], by simp, o, rfl⟩) w5 (fun b hb => hb)
    dsimp only at h
    rw [t1] at h
    have e9 := S8.noT
    subst e9
    exact ⟨ws2, w3, by rw [w4.len]; exact hz, h σ I _ FS' s0 S8⟩
  · exact h.elim
theorem put_go {k : Nat} {p : VEnv → Option D} {d : D} {is : List Int} {m : List D} {r : D} {e' : VEnv} {v v' : V} {a : Addr} {D' : Ends} {I0 : Hp} (S : Stt G z I H [v'] [r] σ e' FT FS) (s0 : Same I0 I) (hk : e'[k]? = some (some d)) (ht : treeAt d is = some (.lst true m)) (hv : σ[k]? = some (some v)) (hn : nav H v is = some (.ref a))
    (h : GS G z W I0 D' (wrPut k p (d, is, m) r e')) : ∃ ws i j, p e' = some (.int i) ∧ H a = some (.lst ws) ∧ L2.ixN ws.length i = some j ∧ D'.nx σ (upd H a (.lst (ws.set j v'))) := by
  unfold wrPut at h
  cases e3 : (p e').bind asInt with
  | none => rw [e3] at h; exact h.elim
  | some i =>
    rw [e3] at h
    replace h : GS G z W I0 D' ((ixSet m i r).bind fun m' => (treeSet d is (.lst true m')).map fun d' => .ok .nx (e'.set k (some d'))) := h
    unfold ixSet at h
    cases e4 : L2.ixN m.length i with
    | none => rw [e4] at h; exact h.elim
    | some j =>
      rw [e4] at h
      replace h : GS G z W I0 D' ((treeSet d is (.lst true (m.set j r))).map fun d' => .ok .nx (e'.set k (some d'))) := h
      obtain ⟨d1, e5, e6⟩ := Option.bind_eq_some_iff.mp e3
      cases asInt_eq e6
      have hj := (ixN_seq e4).2.1
      have nd := S.nd
      obtain ⟨F1, F2, e, o, f, S7⟩ := S.pop
      subst e
      rw [List.append_assoc] at nd
      obtain ⟨v2, a2, ws2, F0, w1, w2, w3, w4, w5, w6⟩ := S7.treeW hk ht nd f
      rw [hv] at w1
      cases w1
      rw [hn] at w2
      cases w2
      obtain ⟨F3, o3, nd3, sb3⟩ := w4.setAt hj o w5
      obtain ⟨d', FS', t1, S8⟩ := w6 (ws2.set j v') (m.set j r) F3 o3 nd3 sb3
      rw [t1] at h
      have e9 := S8.noT
      subst e9
      exact ⟨ws2, i, j, e5, w3, by rw [w4.len]; exact e4, h σ I _ FS' s0 S8⟩
end
section
variable {X : Cx} {G : Gx} {z : Zx} {W : WX} {e a b o : Expr} {es : List Expr} {pa pb : VEnv → Option D} {f fa fb : M D} {ta tb : M Bool} {fs : M (List D)} {pos apos cpos : Pos} {ms : List Bool} {ps : List (VEnv → Option D)} {sts : List Stmt} {g2 : M Fl}
theorem vn_nil (k : Nat) (h : PE X e (tVar k)) : PE X e (RN G z k []) := peImp h fun σ H Q ⟨I, ts, dts, env, FT, FS, is, v, u, S, e1, e2, e3, q⟩ => by
  cases e1
  cases e3
  exact ⟨v, e2, q⟩
theorem ixsK_snoc : ∀ {ps : List (VEnv → Option D)} {env : VEnv} {js : List Int} {p : VEnv → Option D}, ixsK (ps ++ [p]) env = some js → ∃ is i, ixsK ps env = some is ∧ p env = some (.int i) ∧ js = is ++ [i]
  | [], env, js, p, h => by
    obtain ⟨i, e1, h⟩ := Option.bind_eq_some_iff.mp (show ((p env).bind asInt).bind (fun i => (ixsK [] env).map (i :: ·)) = some js from h)
    obtain ⟨d, e2, e3⟩ := Option.bind_eq_some_iff.mp e1
    cases asInt_eq e3
    cases h
    exact ⟨[], i, rfl, e2, rfl⟩
  | q :: ps, env, js, p, h => by
    obtain ⟨i, e1, h⟩ := Option.bind_eq_some_iff.mp (show ((q env).bind asInt).bind (fun i => (ixsK (ps ++ [p]) env).map (i :: ·)) = some js from h)
    obtain ⟨ks, e2, h⟩ := Option.map_eq_some_iff.mp h
    obtain ⟨is, j, h1, h2, h3⟩ := ixsK_snoc e2
    subst h3 h
    refine ⟨i :: is, j, ?_, h2, rfl⟩
    show ((q env).bind asInt).bind (fun i => (ixsK ps env).map (i :: ·)) = _
    rw [e1]
    simp [h1]
theorem vn_ix (k : Nat) (ha : PE X a (RN G z k ps)) (hb : PE X b (RP G z pb)) (hs : PlainIx b := by intro _ _; rfl) (hK : X.K = G.K := by rfl) : PE X (.Subscript a b pos) (RN G z k (ps ++ [pb])) := peImp (pe_ix ix_list ha hb hs) fun σ H Q ⟨I, ts, dts, env, FT, FS, js, v, u, S, e1, e2, e3, q⟩ => by
  obtain ⟨is, i, h1, h2, h3⟩ := ixsK_snoc e1
  subst h3
  obtain ⟨a1, ws, n1, n2, n3⟩ := nav_snoc e3
  refine ⟨I, ts, dts, env, FT, FS, is, v, .ref a1, S, h1, e2, n1, ?_⟩
  refine ⟨I, ts, dts, env, FT, FS, _, S, h2, fun w F ow => ?_⟩
  cases own_int ow
  exact ⟨a1, ws, i, u, rfl, rfl, .of n2, n3, q⟩
theorem vs_nApp (k : Nat) (hz : ZOk z ms) (ho : PE X o (RN G z k ps)) (ha : PE X a (RE G z W f)) (hk : ms[k]? = some false := by rfl) (hbase : attributeBase o "append" X.env (eval o X.env) = eval o X.env := by rfl)
    (hfew : ((backTo cpos (starEach [a] X.env)).all (fun x => !x.1) && (backToKw cpos (keywordEach [] X.env)).all (fun x => x.1.isSome)
      && decide ([a].length + ([] : List Keyword).length + (if ([] : List Keyword).isEmpty then 0 else 1) < 30)) = true := by rfl)
    (hline : (apos.endLine == cpos.line) = true := by rfl) (hs : starEach [a] X.env = (false, eval a X.env) :: starEach [] X.env := by rfl) (hplain : (backTo cpos (starEach [] X.env)).any (·.1) = false := by rfl)
    (hsw : swapsWith (.Call (.Attribute o "append" apos) [a] [] cpos) none pos.line X.env = pure false := by rfl) : PS X (.Expr (.Call (.Attribute o "append" apos) [a] [] cpos) pos) (RS G z W (sNApp k ps f)) :=
  psImp (ps_expr (pe_bm PySem.F.plainAttrs_list PySem.F.slot_list_append PySem.F.type_list_append mt_append ho (pa_cons ha pa_nil hs) hbase hfew hline hs hplain) hsw) fun D σ H h => by
    obtain ⟨I, env, FS, S, h⟩ := RS.to h
    unfold sNApp at h
    cases e1 : pathK k ps env with
    | none => rw [e1] at h; exact h.elim
    | some x =>
      obtain ⟨d, is, m⟩ := x
      rw [e1] at h
      obtain ⟨p1, p2, p3⟩ := pathK_eq e1
      obtain ⟨d2, v, Fk, g1, g2, g3, go⟩ := bor_re S (hz.2 k hk) h
      rw [p1] at g1
      cases g1
      obtain ⟨u, Fu, n1, _, n3, _⟩ := Own.navS (H' := H) g3 p3 (fun _ _ => rfl)
      obtain ⟨a0, ws, F', eu, ha0, _⟩ := n3
      subst eu
      refine ⟨I, [], [], env, [], FS, is, v, .ref a0, S, p2, g2, n1, tyL ha0, go _ fun r e' v' I2 H' FT2 FS2 ek h1 s2 hH S6 => ?_⟩
      obtain ⟨u2, Fu2, n4, n5, _, _⟩ := Own.navS (H' := H') g3 p3 hH
      rw [n1] at n4
      cases n4
      obtain ⟨ws2, q1, q2, q3⟩ := app_go S6 s2 ek p3 g2 n5 h1
      exact ⟨a0, ws2, v', rfl, rfl, q1, q2, q3⟩
theorem Stt.alias {I H : Hp} {σ : L2.St} {env : VEnv} {FS : List Addr} (S : Stt G z I H [] [] σ env [] FS) {j : Nat} (hz : ZOk z ms) (hj : ms[j]? = some false) (x : V) : ∃ F, Stt G z I H [] [] (σ.set j (some x)) (env.set j none) [] F := by
  obtain ⟨F', S2⟩ := S.forget j
  refine ⟨F', S2.any (some x) (hz.2 j hj) ?_⟩
  have : j < env.length := by rw [S.lenS.2]; exact (List.getElem?_eq_some_iff.mp (hz.2 j hj)).1
  simp [this]
theorem seq_go {G : Gx} {z : Zx} {W : WX} {I : Hp} {env : VEnv} {g1 g2 : M Fl} {D' : Ends} (h : GS G z W I D' (sSeq g1 g2 env)) : GS G z W I { D' with nx := RS G z W g2 D' } (g1 env) := by
  unfold sSeq M.bnd at h
  cases e : g1 env with
  | none => rw [e] at h; exact h
  | some r =>
    rw [e] at h
    cases r with
    | exc c x e => exact h
    | ok fl e => cases fl with
      | nx => exact fun σ' I' H' FS' s' S' => RS.of S' (GS.weak s' h)
      | bk => exact h
      | ct => exact h
      | rt d => exact h
theorem vs_alApp (k j : Nat) {y : Str} {py : Pos} {pos2 : Pos} {o2 : Expr} (hz : ZOk z ms) (hN : X.N.Nodup) (ho : PE X o (RN G z k ps)) (ho2 : PE X o2 (tVar j)) (ha : PE X a (RE G z W f)) (hrest : PSs X sts (RS G z W g2)) (hkj : k ≠ j := by decide) (hk : ms[k]? = some false := by rfl) (hj : ms[j]? = some false := by rfl)
    (hi : X.N[j]? = some y := by rfl) (hx : Loc X.env.scope y := by first | exact .inl rfl | exact .inr rfl)
    (hs1 : swapsWith o (some (.Name y py)) pos.line X.env = pure false := by rfl) (hf : X.fn y = true ∨ X.env.scope.names.lookup y = some .local := by first | exact .inl rfl | exact .inr rfl)
    (hbase : attributeBase o2 "append" X.env (eval o2 X.env) = eval o2 X.env := by rfl)
    (hfew : ((backTo cpos (starEach [a] X.env)).all (fun x => !x.1) && (backToKw cpos (keywordEach [] X.env)).all (fun x => x.1.isSome)
      && decide ([a].length + ([] : List Keyword).length + (if ([] : List Keyword).isEmpty then 0 else 1) < 30)) = true := by rfl)
    (hline : (apos.endLine == cpos.line) = true := by rfl) (hs : starEach [a] X.env = (false, eval a X.env) :: starEach [] X.env := by rfl) (hplain : (backTo cpos (starEach [] X.env)).any (·.1) = false := by rfl)
    (hsw : swapsWith (.Call (.Attribute o2 "append" apos) [a] [] cpos) none pos2.line X.env = pure false := by rfl) : PSs X (.Assign [.Name y py] o pos :: .Expr (.Call (.Attribute o2 "append" apos) [a] [] cpos) pos2 :: sts) (RS G z W (sSeq (sAlApp k ps j f) g2)) :=
  pssImp (pss_cons (ps_set hN hi hx ho hs1 hf) (pss_cons (ps_expr (pe_bm PySem.F.plainAttrs_list PySem.F.slot_list_append PySem.F.type_list_append mt_append ho2 (pa_cons ha pa_nil hs) hbase hfew hline hs hplain) hsw) hrest)) fun D σ H h => by
    obtain ⟨I, env, FS, S, h⟩ := RS.to h
    replace h := seq_go h
    unfold sAlApp at h
    cases e1 : pathK k ps env with
    | none => rw [e1] at h; exact h.elim
    | some x =>
      obtain ⟨d, is, m⟩ := x
      rw [e1] at h
      obtain ⟨p1, p2, p3⟩ := pathK_eq e1
      obtain ⟨v0, F0, q0, o0⟩ := S.slot p1
      obtain ⟨u, Fu, n1, _, n3, _⟩ := Own.navS (H' := H) o0 p3 (fun _ _ => rfl)
      obtain ⟨a0, ws, F', eu, ha0, _⟩ := n3
      subst eu
      refine ⟨I, [], [], env, [], FS, is, v0, .ref a0, S, p2, q0, n1, ?_⟩
      obtain ⟨FA, SA⟩ := S.alias hz hj (.ref a0)
      have hjl : j < σ.length := by rw [S.lenS.1]; exact (List.getElem?_eq_some_iff.mp (hz.2 j hj)).1
      have hrow : (σ.set j (some (.ref a0)))[j]? = some (some (.ref a0)) := by simp [hjl]
      obtain ⟨d2, v, Fk, g1, g2', g3, go⟩ := bor_re SA (hz.2 k hk) h
      rw [List.getElem?_set_ne (Ne.symm hkj), p1] at g1
      cases g1
      have g2'' := g2'
      rw [List.getElem?_set_ne (Ne.symm hkj), q0] at g2'
      cases g2'
      refine ⟨.ref a0, hrow, tyL ha0, go _ fun r e' v' I2 H' FT2 FS2 ek h1 s2 hH S6 => ?_⟩
      obtain ⟨u2, Fu2, n4, n5, _, _⟩ := Own.navS (H' := H') g3 p3 hH
      rw [n1] at n4
      cases n4
      obtain ⟨ws2, q1, q2, q3⟩ := app_go S6 s2 ek p3 g2'' n5 h1
      exact ⟨a0, ws2, v', rfl, rfl, q1, q2, q3⟩
theorem vs_alPut (k j : Nat) {y : Str} {py : Pos} {pos2 : Pos} {o2 : Expr} (hz : ZOk z ms) (hN : X.N.Nodup) (ho : PE X o (RN G z k ps)) (ho2 : PE X o2 (tVar j)) (hi2 : PE X b (RP G z pb)) (hv : PE X a (RE G z W f)) (hrest : PSs X sts (RS G z W g2)) (hkj : k ≠ j := by decide) (hk : ms[k]? = some false := by rfl) (hj : ms[j]? = some false := by rfl)
    (hi : X.N[j]? = some y := by rfl) (hx : Loc X.env.scope y := by first | exact .inl rfl | exact .inr rfl)
    (hs1 : swapsWith o (some (.Name y py)) pos.line X.env = pure false := by rfl) (hf : X.fn y = true ∨ X.env.scope.names.lookup y = some .local := by first | exact .inl rfl | exact .inr rfl)
    (ha : ∀ v, assign (.Subscript o2 b apos) X.env v = (do
      let ov ← holding [v] (eval o2 X.env)
      let iv ← holding [v, ov] (eval b X.env)
      standAt apos
      holding [v, ov, iv] (setItem ov iv v)
      release [v, ov, iv] []) := by intro _; rfl)
    (hs : swapsWithSole [.Subscript o2 b apos] a pos2.line X.env = pure false := by rfl) (hw : swappedStores [.Subscript o2 b apos] a X.env = pure none := by rfl)
    (h1 : (assignEach [.Subscript o2 b apos] X.env).map (·.2) = [assign (.Subscript o2 b apos) X.env] := by rfl) : PSs X (.Assign [.Name y py] o pos :: .Assign [.Subscript o2 b apos] a pos2 :: sts) (RS G z W (sSeq (sAlPut k ps j pb f) g2)) :=
  pssImp (pss_cons (ps_set hN hi hx ho hs1 hf) (pss_cons (ps_asg hv (pg_sub ho2 hi2 set_list ha) hs hw h1) hrest)) fun D σ H h => by
    obtain ⟨I, env, FS, S, h⟩ := RS.to h
    replace h := seq_go h
    unfold sAlPut at h
    cases e1 : pathK k ps env with
    | none => rw [e1] at h; exact h.elim
    | some x =>
      obtain ⟨d, is, m⟩ := x
      rw [e1] at h
      obtain ⟨p1, p2, p3⟩ := pathK_eq e1
      obtain ⟨v0, F0, q0, o0⟩ := S.slot p1
      obtain ⟨u, Fu, n1, _, n3, _⟩ := Own.navS (H' := H) o0 p3 (fun _ _ => rfl)
      obtain ⟨a0, ws, F', eu, ha0, _⟩ := n3
      subst eu
      refine ⟨I, [], [], env, [], FS, is, v0, .ref a0, S, p2, q0, n1, ?_⟩
      obtain ⟨FA, SA⟩ := S.alias hz hj (.ref a0)
      have hjl : j < σ.length := by rw [S.lenS.1]; exact (List.getElem?_eq_some_iff.mp (hz.2 j hj)).1
      have hrow : (σ.set j (some (.ref a0)))[j]? = some (some (.ref a0)) := by simp [hjl]
      obtain ⟨d2, v, Fk, g1, g2', g3, go⟩ := bor_re SA (hz.2 k hk) h
      rw [List.getElem?_set_ne (Ne.symm hkj), p1] at g1
      cases g1
      have g2'' := g2'
      rw [List.getElem?_set_ne (Ne.symm hkj), q0] at g2'
      cases g2'
      refine go _ fun r e' v' I2 H' FT2 FS2 ek h1 s2 hH S6 => ?_
      obtain ⟨u2, Fu2, n4, n5, _, _⟩ := Own.navS (H' := H') g3 p3 hH
      rw [n1] at n4
      cases n4
      obtain ⟨ws2, i, jj, q1, q2, q3, q4⟩ := put_go S6 s2 ek p3 g2'' n5 h1
      refine ⟨.ref a0, hrow, I2, [v'], [r], e', FT2, FS2, _, S6, q1, fun w F ow => ?_⟩
      cases own_int ow
      exact ⟨a0, ws2, i, jj, rfl, rfl, q2, q3, q4⟩
theorem vs_nPut (k : Nat) (hz : ZOk z ms) (ho : PE X o (RN G z k ps)) (hi : PE X b (RP G z pb)) (hv : PE X a (RE G z W f)) (hk : ms[k]? = some false := by rfl)
    (ha : ∀ v, assign (.Subscript o b apos) X.env v = (do
      let ov ← holding [v] (eval o X.env)
      let iv ← holding [v, ov] (eval b X.env)
      standAt apos
      holding [v, ov, iv] (setItem ov iv v)
      release [v, ov, iv] []) := by intro _; rfl)
    (hs : swapsWithSole [.Subscript o b apos] a pos.line X.env = pure false := by rfl) (hw : swappedStores [.Subscript o b apos] a X.env = pure none := by rfl)
    (h1 : (assignEach [.Subscript o b apos] X.env).map (·.2) = [assign (.Subscript o b apos) X.env] := by rfl) : PS X (.Assign [.Subscript o b apos] a pos) (RS G z W (sNPut k ps pb f)) :=
  psImp (ps_asg hv (pg_sub ho hi set_list ha) hs hw h1) fun D σ H h => by
    obtain ⟨I, env, FS, S, h⟩ := RS.to h
    refine RE.of S (GE.bndS h fun r e' h1 v' I' H' FT' FS' s' S' => ?_)
    cases e1 : pathK k ps e' with
    | none => rw [e1] at h1; exact h1.elim
    | some x =>
      obtain ⟨d, is, m⟩ := x
      rw [e1] at h1
      obtain ⟨p1, p2, p3⟩ := pathK_eq e1
      obtain ⟨v0, F0, q0, o0⟩ := S'.slot p1
      obtain ⟨u, Fu, n1, _, n3, _⟩ := Own.navS (H' := H') o0 p3 (fun _ _ => rfl)
      obtain ⟨a0, ws, F', eu, ha0, _⟩ := n3
      subst eu
      obtain ⟨ws2, i, jj, q1, q2, q3, q4⟩ := put_go S' s' p1 p3 q0 n1 h1
      refine ⟨I', [v'], [r], e', FT', FS', is, v0, .ref a0, S', p2, q0, n1, ?_⟩
      refine ⟨I', [v'], [r], e', FT', FS', _, S', q1, fun w F ow => ?_⟩
      cases own_int ow
      exact ⟨a0, ws2, i, jj, rfl, rfl, q2, q3, q4⟩
/-- x = f, slot k borrowed -/
theorem vs_setB (k j : Nat) {x : Str} {p : Pos} (hz : ZOk z ms) (hN : X.N.Nodup) (h : PE X e (RE G z W f)) (hk : ms[k]? = some false := by rfl) (hj : ms[j]? = some false := by rfl) (hi : X.N[j]? = some x := by rfl) (hx : Loc X.env.scope x := by first | exact .inl rfl | exact .inr rfl)
    (hs : swapsWith e (some (.Name x p)) pos.line X.env = pure false := by rfl) (hf : X.fn x = true ∨ X.env.scope.names.lookup x = some .local := by first | exact .inl rfl | exact .inr rfl) : PS X (.Assign [.Name x p] e pos) (RS G z W (sSet j (vBor k f))) :=
  psImp (ps_set hN hi hx h hs hf) fun D σ H h => by
    obtain ⟨I, env, FS, S, h⟩ := RS.to h
    obtain ⟨d, v, Fk, g1, g2, g3, go⟩ := bor_re S (hz.2 k hk) h
    exact go _ fun r e' v' I2 H' FT2 FS2 ek h1 s2 hH S6 => putS_ok hz hj s2 S6 h1
/-- A[p] = f, A borrowed meanwhile -/
theorem vs_putB (k : Nat) (hz : ZOk z ms) (ho : PE X o (tVar k)) (hi : PE X b (RP G z pb)) (hv : PE X a (RE G z W f)) (hk : ms[k]? = some false := by rfl)
    (ha : ∀ v, assign (.Subscript o b apos) X.env v = (do
      let ov ← holding [v] (eval o X.env)
      let iv ← holding [v, ov] (eval b X.env)
      standAt apos
      holding [v, ov, iv] (setItem ov iv v)
      release [v, ov, iv] []) := by intro _; rfl)
    (hs : swapsWithSole [.Subscript o b apos] a pos.line X.env = pure false := by rfl) (hw : swappedStores [.Subscript o b apos] a X.env = pure none := by rfl)
    (h1 : (assignEach [.Subscript o b apos] X.env).map (·.2) = [assign (.Subscript o b apos) X.env] := by rfl) : PS X (.Assign [.Subscript o b apos] a pos) (RS G z W (sPut k pb (vBor k f))) :=
  psImp (ps_asg hv (pg_sub ho hi set_list ha) hs hw h1) fun D σ H h => by
    obtain ⟨I, env, FS, S, h⟩ := RS.to h
    obtain ⟨d0, v, Fk, g1, g2, g3, go⟩ := bor_re S (hz.2 k hk) h
    refine go _ fun d e v' I' H' FT' FS' ek h1 s' hH S' => ?_
    cases e2 : lstAt k e with
    | none => rw [e2] at h1; exact h1.elim
    | some l =>
      rw [e2] at h1
      replace h1 : GS G z W I D (((pb e).bind asInt).bind fun i => (ixSet l i d).map fun l' => .ok .nx (e.set k (some (.lst true l')))) := h1
      cases e3 : (pb e).bind asInt with
      | none => rw [e3] at h1; exact h1.elim
      | some i =>
        rw [e3] at h1
        replace h1 : GS G z W I D ((ixSet l i d).map fun l' => .ok .nx (e.set k (some (.lst true l')))) := h1
        unfold ixSet at h1
        cases e4 : L2.ixN l.length i with
        | none => rw [e4] at h1; exact h1.elim
        | some j =>
          rw [e4] at h1
          obtain ⟨d1, e5, e6⟩ := Option.bind_eq_some_iff.mp e3
          cases asInt_eq e6
          have hj := (ixN_seq e4).2.1
          obtain ⟨a1, ws, q4, q5, q6, FT2, FS2, S2⟩ := S'.putAt (lstAt_eq e2) hj
          have e7 := S2.noT
          subst e7
          refine ⟨.ref a1, q4, I', [v'], [d], e, FT', FS', _, S', e5, fun w F ow => ?_⟩
          cases own_int ow
          exact ⟨a1, ws, i, j, rfl, rfl, q5, by rw [q6]; exact e4, h1 σ I' _ FS2 s' S2⟩
/-- the slots of k and j are forgotten, k's objects told -/
theorem Stt.hole2 {I H : Hp} {σ : L2.St} {env : VEnv} {FS : List Addr} (S : Stt G z I H [] [] σ env [] FS) {k j : Nat} {d : D} (hkj : k ≠ j) (hk : env[k]? = some (some d)) : ∃ v Fk Fr, σ[k]? = some (some v) ∧ Own G I H v d Fk ∧ Fk.Nodup ∧ (∀ b ∈ Fk, b ∉ Fr) ∧ (∀ b ∈ Fk, z.H0 b = none ∨ b ∈ z.L) ∧ Stt G z I H [] [] σ ((env.set j none).set k none) [] Fr := by
  obtain ⟨F', S2⟩ := S.forget j
  obtain ⟨v, p, Fk, Fr, b1, b2, b3, b4, b5, b6, b7, b8, S1⟩ := S2.hole (k := k) (d := d) (by rw [List.getElem?_set_ne (Ne.symm hkj)]; exact hk)
  exact ⟨v, Fk, Fr, b2, b4, (List.nodup_append.mp b7).1, fun b hb => by simpa using nodup_disj b7 b hb, b8, S1⟩
def shortL (n : Nat) : List D → Bool
  | [] => true
  | .lst true m :: l => decide (m.length + n < sizeLine) && shortL n l
  | _ :: _ => false
theorem shortL_get : ∀ {l : List D} {n i : Nat} {d : D}, shortL n l = true → l[i]? = some d → ∃ m, d = .lst true m ∧ m.length + n < sizeLine
  | c :: l, n, 0, d, h, e => by
    simp at e; subst e
    cases c with
    | lst m l' =>
      cases m with
      | true => simp [shortL] at h; exact ⟨l', rfl, h.1⟩
      | false => simp [shortL] at h
    | _ => simp [shortL] at h
  | c :: l, n, i + 1, d, h, e => by
    have h2 : shortL n l = true := by
      cases c with
      | lst m l' =>
        cases m with
        | true => simp [shortL] at h; exact h.2
        | false => simp [shortL] at h
      | _ => simp [shortL] at h
    exact shortL_get (l := l) (i := i) h2 (by simpa using e)
  | [], _, _, _, _, e => by simp at e
/-- for y in A[..]: y.append(c), A not used again -/
def sForApp (k : Nat) (ps : List (VEnv → Option D)) (j : Nat) : M Fl := fun e => (pathK k ps e).bind fun x => if shortL x.2.2.length x.2.2 = true then some (.ok .nx ((e.set j none).set k none)) else none
theorem vs_forApp (k j : Nat) {y : Str} {py : Pos} {pos2 : Pos} {o2 : Expr} {c : V} (hz : ZOk z ms) (hN : X.N.Nodup) (hp : PassesOwn (model X.prog X.w) X.A X.env X.xe) (hc : X.calm = true) (ho : PE X o (RN G z k ps)) (ho2 : PE X o2 (tVar j)) (ha : PE X a (tC c)) (hkj : k ≠ j := by decide) (hk : ms[k]? = some false := by rfl) (hj : ms[j]? = some false := by rfl)
    (hi : X.N[j]? = some y := by rfl) (hx : Loc X.env.scope y := by first | exact .inl rfl | exact .inr rfl)
    (hf : X.fn y = true ∨ X.env.scope.names.lookup y = some .local := by first | exact .inl rfl | exact .inr rfl)
    (hbase : attributeBase o2 "append" X.env (eval o2 X.env) = eval o2 X.env := by rfl)
    (hfew : ((backTo cpos (starEach [a] X.env)).all (fun x => !x.1) && (backToKw cpos (keywordEach [] X.env)).all (fun x => x.1.isSome)
      && decide ([a].length + ([] : List Keyword).length + (if ([] : List Keyword).isEmpty then 0 else 1) < 30)) = true := by rfl)
    (hline : (apos.endLine == cpos.line) = true := by rfl) (hs : starEach [a] X.env = (false, eval a X.env) :: starEach [] X.env := by rfl) (hplain : (backTo cpos (starEach [] X.env)).any (·.1) = false := by rfl)
    (hsw : swapsWith (.Call (.Attribute o2 "append" apos) [a] [] cpos) none pos2.line X.env = pure false := by rfl)
    (hit : ∀ x, foldedSetIterable o X.env x = pure x := by intro _; rfl) (hK : X.K = G.K := by rfl) : PS X (.For (.Name y py) o [.Expr (.Call (.Attribute o2 "append" apos) [a] [] cpos) pos2] [] pos) (RS G z W (sForApp k ps j)) :=
  psImp (ps_for hp hc (PI.or3 ho) (pg_name hN hi hx hf) (pss_one (ps_expr (pe_bm PySem.F.plainAttrs_list PySem.F.slot_list_append PySem.F.type_list_append mt_append ho2 (pa_cons ha pa_nil hs) hbase hfew hline hs hplain) hsw)) hit) fun D σ H h => by
    obtain ⟨I, env, FS, S, h⟩ := RS.to h
    unfold sForApp at h
    cases e1 : pathK k ps env with
    | none => rw [e1] at h; exact h.elim
    | some x =>
      obtain ⟨d, is, m⟩ := x
      rw [e1] at h
      replace h : GS G z W I D (if shortL m.length m = true then some (.ok .nx ((env.set j none).set k none)) else none) := h
      split at h
      · rename_i hsh
        obtain ⟨p1, p2, p3⟩ := pathK_eq e1
        obtain ⟨v, Fk, Fr, q1, q2, q3, q4, q5, S2⟩ := S.hole2 (j := j) hkj p1
        obtain ⟨a0, ws, F0, n1, n2, iA, aF, n3, n4, n6, n7, _⟩ := Own.tree q2 q3 p3
        refine ⟨I, [], [], env, [], FS, is, v, .ref a0, S, p2, q1, n1, .inl ⟨a0, rfl, ⟨ws, .of n2⟩, ?_⟩⟩
        have key : ∀ i, i < ws.length → ∃ b us, ws[i]? = some (.ref b) ∧ b ∈ F0 ∧ H b = some (.lst us) ∧ us.length + ws.length < sizeLine := fun i hi => by
          have hi2 : i < m.length := by rw [← n3.len]; exact hi
          obtain ⟨w, Fj, r1, r2, r3⟩ := n3.getS (List.getElem?_eq_getElem hi2)
          obtain ⟨m', e, hm⟩ := shortL_get hsh (List.getElem?_eq_getElem hi2)
          rw [e] at r2
          obtain ⟨b, us, F', ev, hb, _, rr, eF⟩ := r2
          subst ev eF
          exact ⟨b, us, r1, r3 b List.mem_cons_self, hb, by rw [rr.len, n3.len]; exact hm⟩
        refine ⟨fun i mm σ' H' => mm = ws.length - i ∧ i ≤ ws.length ∧ H' a0 = some (.lst ws) ∧ (∀ q, q < ws.length → ∃ b us, ws[q]? = some (.ref b) ∧ b ∈ F0 ∧ H' b = some (.lst us) ∧ us.length + (ws.length - i) < sizeLine) ∧ Stt G z I H' [] [] σ' ((env.set j none).set k none) [] Fr, ⟨ws.length, by simp, by simp, n2, by simpa using key, S2⟩, ?_⟩
        rintro i mm σ1 H1 ⟨rfl, hi1, hA, hB, S3⟩
        by_cases hlt : i < ws.length
        · obtain ⟨b, us, w1, w2, w3, w4⟩ := hB i hlt
          refine .inr ⟨⟨ws, .ref b, .of hA, w1⟩, fun σ2 H2 => H2 a0 = some (.lst ws) ∧ (∀ q, q < ws.length → ∃ b us, ws[q]? = some (.ref b) ∧ b ∈ F0 ∧ H2 b = some (.lst us) ∧ us.length + (ws.length - (i + 1)) < sizeLine) ∧ Stt G z I H2 [] [] σ2 ((env.set j none).set k none) [] Fr, fun σ2 H2 hN2 => ⟨ws.length - (i + 1), by omega, rfl, hlt, hN2⟩, ?_⟩
          rintro x H2 ⟨eH, hy⟩
          subst eH
          have ex : x = .ref b := Option.some.inj ((hy ws (.of hA)).symm.trans w1)
          subst ex
          have hjl : j < σ1.length := by rw [S3.lenS.1]; exact (List.getElem?_eq_some_iff.mp (hz.2 j hj)).1
          have hrow : (σ1.set j (some (.ref b)))[j]? = some (some (.ref b)) := by simp [hjl]
          have ba : b ≠ a0 := fun e => n7 (e ▸ w2)
          have bR : b ∉ Fr := q4 b (n6 b w2)
          have hjn : ((env.set j none).set k none)[j]? = some none := by
            have : j < env.length := by rw [S.lenS.2]; exact (List.getElem?_eq_some_iff.mp (hz.2 j hj)).1
            rw [List.getElem?_set_ne hkj]
            simp [this]
          have iB : I b = none := by
            obtain ⟨_, e⟩ := Own.dom d v Fk q2 b (n6 b w2)
            exact e
          refine ⟨.ref b, hrow, tyL w3, ?_⟩
          refine ⟨b, us, c, rfl, rfl, w3, by omega, ?_⟩
          refine ⟨(upd_ne (Ne.symm ba)).trans hA, fun q hq => ?_, ?_⟩
          · obtain ⟨b', us', u1, u2, u3, u4⟩ := hB q hq
            by_cases e : b' = b
            · subst e
              rw [w3] at u3
              cases u3
              exact ⟨b', us ++ [c], u1, u2, upd_same, by rw [List.length_append, List.length_singleton]; omega⟩
            · exact ⟨b', us', u1, u2, (upd_ne e).trans u3, by omega⟩
          · have S4 := S3.any (some (.ref b)) (hz.2 j hj) hjn
            refine S4.go [b] (Same.refl _) (fun b' o e => ?_) (fun b' hb => ⟨upd_ne fun e => ?_, ?_⟩) (fun b' o e n => by rw [n] at e; cases e) (fun b' hb => ?_) (fun b' o e hb => ?_) (fun b' o e => ?_)
            · rw [upd_ne (fun q => by rw [q, iB] at e; cases e)]
              exact S4.sub b' o e
            · exact bR (e ▸ (by simpa using hb))
            · exact (S4.oS.dom b' (by simpa using hb)).2
            · rw [show b' = b by simpa using hb]
              exact q5 b (n6 b w2)
            · rw [upd_ne (fun q => hb (by simp [q]))]; exact e
            · by_cases q : b' = b
              · exact ⟨_, by rw [q, upd_same]⟩
              · exact ⟨o, by rw [upd_ne q]; exact e⟩
        · exact .inl ⟨⟨ws, .of hA, by omega⟩, h σ1 I H1 Fr (Same.refl _) S3⟩
      · exact h.elim
theorem ve_opV {op : CmpOp} {r : R2} {g : D → D → Option D} (k : Nat) (ho : OpR X (compareOp op) r) (hg : G2 G r g) (ha : PE X a (tVar k)) (hb : PE X b (RE G z W fb)) (hm : behindInMarks op b = false) : PE X (.Compare a [op] [b] pos) (RE G z W (vOpV g k fb)) :=
  peImp (pe_cmpR ho ha hb hm) fun σ H Q h => by
    obtain ⟨I, ts, dts, env, FT, FS, S, h⟩ := RE.to h
    unfold vOpV at h
    cases e1 : env[k]? with
    | none => rw [e1] at h; exact h.elim
    | some oo =>
      rw [e1] at h
      cases oo with
      | none => exact h.elim
      | some d0 =>
        dsimp only at h
        obtain ⟨u, F0, q1, _⟩ := S.slot e1
        refine ⟨u, q1, RE.of S (GE.bnd (g := GE G z W I ts dts σ Q) (Same.refl _) h (fun c x e h => h) (fun h => h) fun d2 e2 h2 v I2 H2 FT2 FS2 s2 S2 => ?_)⟩
        cases e3 : e2[k]? with
        | none => rw [e3] at h2; exact h2.elim
        | some oo =>
          rw [e3] at h2
          cases oo with
          | none => exact h2.elim
          | some d1 =>
            obtain ⟨d, e4, hq⟩ := GE.optGo h2
            obtain ⟨d', e5, e6⟩ := Option.bind_eq_some_iff.mp e4
            split at e6
            · rename_i c
              cases e6
              obtain ⟨u2, Fu, q2, ou⟩ := S2.slot e3
              rw [q1] at q2
              cases q2
              obtain ⟨Fv, FT3, ev, ov, fv, S3⟩ := S2.pop
              exact hg I2 H2 u v d1 d2 d Fu Fv Q S2.sub ou ov e5 fun w F o => hq w I2 H2 FT3 FS2 s2 (S3.pushR (Own.rep d w F c o).2)
            · cases e6
theorem ve_neV (k : Nat) (hu : X.A.units + 64 < cLine) (ha : PE X a (tVar k)) (hb : PE X b (RE G z W fb)) (hK : X.K = G.K := by rfl) : PE X (.Compare a [.NotEq] [b] pos) (RE G z W (vOpV gNe k fb)) := ve_opV k (op_neD hu) (by rw [hK]; exact g2_ne) ha hb (nomark b)
theorem ve_eqV (k : Nat) (hu : X.A.units + 64 < cLine) (ha : PE X a (tVar k)) (hb : PE X b (RE G z W fb)) (hK : X.K = G.K := by rfl) : PE X (.Compare a [.Eq] [b] pos) (RE G z W (vOpV gEq k fb)) := ve_opV k (op_eqD hu) (by rw [hK]; exact g2_eq) ha hb (nomark b)
/-! ### owned tuples -/
theorem Stt.pushO {I H : Hp} {σ : L2.St} {env : VEnv} {ts : List V} {dts : List D} {vs : List V} {ds : List D} {FT FS : List Addr} (n : vs.length = ds.length) (S : Stt G z I H (vs ++ ts) (ds ++ dts) σ env FT FS) {p : Addr} (hp : H p = none) : ∃ FT', Stt G z I (upd H p (.tup vs)) (.ref p :: ts) (.otp ds :: dts) σ env FT' FS := by
  obtain ⟨F1, F2, e, o, f, S1⟩ := Stt.popAll n S
  obtain ⟨n0, nI, nF⟩ := S.new hp
  have nd := S.nd
  subst e
  have o' : Owns G I (upd H p (.tup vs)) vs ds F1 := Owns.up (Same.refl _) ds vs F1 (fun b hb => ⟨upd_ne fun z => nF (by rw [← z]; simp [hb]), (Owns.dom ds vs F1 o b hb).2⟩) o
  refine ⟨(p :: F1) ++ F2, (S1.newH hp (.tup vs)).push (F := p :: F1) ⟨p, vs, F1, rfl, upd_same, nI, o', rfl⟩ (fun b hb => ?_) ?_⟩
  · rcases List.mem_cons.mp hb with q | q
    · rw [q]; exact n0
    · exact f b q
  · rw [List.append_assoc] at nd
    exact List.nodup_cons.mpr ⟨by simpa [List.append_assoc] using nF, by simpa [List.append_assoc] using nd⟩
theorem ve_tupO {x1} (h : PA X es (RA G z W fs)) : PE X (.Tuple es x1 pos) (RE G z W (vTupO fs)) := peImp (pe_tup h) fun σ H Q h => by
  obtain ⟨I, ts, dts, env, FT, FS, S, h⟩ := RE.to h
  refine RA.of S (GA.bnd (g := GE G z W I ts dts σ Q) (Same.refl _) h (fun c x e h => h) (fun h => h) fun ds e1 h1 vs I1 H1 FT1 FS1 s1 S1 n => ?_)
  obtain ⟨d, e3, hq⟩ := GE.optGo h1
  split at e3
  · rename_i c
    cases e3
    refine ⟨by rw [n]; exact c, fun p hp => ?_⟩
    obtain ⟨FT', S2⟩ := S1.pushO n hp
    exact hq _ _ _ _ _ s1 S2
  · cases e3
def RGsO (G : Gx) (z : Zx) (ks : List Nat) : TGs := fun vs σ H Q => ∃ I ts dts env FT FS ds, Stt G z I H (vs ++ ts) (ds ++ dts) σ env FT FS ∧ vs.length = ks.length ∧ ds.length = ks.length ∧ (∀ k ∈ ks, k < env.length) ∧ ∀ σ' I' H' FT' FS', Out ks σ σ' → Same I I' → Stt G z I' H' ts dts σ' (setAll ks ds env) FT' FS' → Q σ' H'
theorem vgo_nil : PGs X [] (RGsO G z []) := pgsImp pgs_nil fun vs σ H Q ⟨I, ts, dts, env, FT, FS, ds, S, n1, n2, n3, h⟩ => by
  cases ds with
  | nil =>
    cases vs with
    | nil => exact ⟨rfl, h σ I H FT FS (Out.refl _ _) (Same.refl _) S⟩
    | cons v vs => cases n1
  | cons d ds => cases n2
theorem vgo_cons {k : Nat} {ks : List Nat} (h1 : PG X e (RG G z (tgName k) [k])) (h2 : PGs X es (RGsO G z ks)) (hs : (assignEach (e :: es) X.env).map (·.2) = assign e X.env :: (assignEach es X.env).map (·.2) := by rfl) : PGs X (e :: es) (RGsO G z (k :: ks)) := pgsImp (pgs_cons h1 h2 hs) fun vs σ H Q ⟨I, ts, dts, env, FT, FS, ds, S, n1, n2, n3, h⟩ => by
  cases ds with
  | nil => cases n2
  | cons d ds =>
    cases vs with
    | nil => cases n1
    | cons v vs =>
      refine ⟨v, vs, rfl, I, vs ++ ts, ds ++ dts, env, FT, FS, d, S, ?_⟩
      have e1 : tgName k d env = some (env.set k (some d)) := if_pos (n3 k List.mem_cons_self)
      rw [e1]
      intro σ' I' H' FT' FS' o' s' S'
      exact ⟨I', ts, dts, _, FT', FS', ds, S', by simpa using n1, by simpa using n2, fun q hq => by rw [List.length_set]; exact n3 q (List.mem_cons_of_mem _ hq), fun σ2 I2 H2 FT2 FS2 o2 s2 S2 => h σ2 I2 H2 FT2 FS2 (o'.trans o2) (s'.trans s2) S2⟩
theorem vg_tupO {k : Nat} {ks : List Nat} (hc : X.calm = true) (h : PGs X es (RGsO G z ks)) (hK : X.K = G.K := by rfl) (hn : (assignEach es X.env).length = ks.length := by rfl) (hst : (assignEach es X.env).findIdx? (·.1) = none := by rfl) : PG X (.Tuple es k pos) (RG G z (tgTupO ks) ks) := pgImp (pg_tup hc h hn hst) fun v σ H Q ⟨I, ts, dts, env, FT, FS, d, S, h⟩ => by
  cases e1 : tgTupO ks d env with
  | none => rw [e1] at h; exact h.elim
  | some e2 =>
    rw [e1] at h
    cases d with
    | otp l =>
      unfold tgTupO at e1
      dsimp only at e1
      split at e1
      · rename_i c
        cases e1
        have nd := S.nd
        obtain ⟨F1, F2, e, o, f, S1⟩ := S.pop
        subst e
        obtain ⟨a, ws, F', ev, ha, ia, r, eF⟩ := o
        subst ev eF
        rw [hK]
        have nd2 : (F' ++ (F2 ++ FS)).Nodup := by
          rw [List.append_assoc] at nd
          exact (List.nodup_cons.mp nd).2
        have oT : ∀ {ws : List V} {l : List D} {F' : List Addr}, Owns G I H ws l F' → (∀ b ∈ F', z.H0 b = none) → OwnT G z I H (ws ++ ts) (l ++ dts) (F' ++ F2) := by
          intro ws
          induction ws with
          | nil =>
            intro l F' r _
            cases l with
            | nil =>
              have r : F' = [] := r
              subst r
              exact S1.oT
            | cons d l => exact r.elim
          | cons w ws ih =>
            intro l F' r fr
            cases l with
            | nil => exact r.elim
            | cons d l =>
              obtain ⟨Fa, Fb, e, o1, o2⟩ := r
              subst e
              exact ⟨Fa, Fb ++ F2, by rw [List.append_assoc], o1, fun b hb => fr b (List.mem_append_left _ hb), ih o2 fun b hb => fr b (List.mem_append_right _ hb)⟩
        refine ⟨a, ws, rfl, .of ha, by rw [r.len]; exact c.1, I, ts, dts, env, F' ++ F2, FS, l, ⟨oT r fun b hb => f b (List.mem_cons_of_mem _ hb), S1.oS, by rw [List.append_assoc]; exact nd2, S1.sub, S1.i0, S1.ifr, S1.fS, S1.frame, S1.dom⟩, by rw [r.len]; exact c.1, c.1, c.2, h⟩
      · cases e1
    | _ => cases e1
end
end
section
set_option Elab.async false
set_option linter.all false
set_option maxRecDepth 100000
set_option maxHeartbeats 1000000
/-! ### the calculus of borrowed and nested things -/
def gLo (d : D) (K : Prop) : Prop := d.lo = true ∧ K
def gBor (r : D) (e e' : VEnv) (K : Prop) : Prop := r.bare = true ∧ bor e e' ∧ K
theorem join_eq {e : VEnv} {k : Nat} {d : D} (h : (e[k]?).join = some d) : e[k]? = some (some d) := by
  cases q : e[k]? with
  | none => rw [q] at h; cases h
  | some o => rw [q] at h; cases h; rfl
theorem wp_Bor {k : Nat} {f : M D} {e : VEnv} {Q : D → VEnv → Prop} {E : XQ} (h : ev ((e[k]?).join) fun d => gLo d (ev (fzO d) fun x => st e k (some x) fun e1 => wp f e1 (fun r e2 => st e2 k none fun e3 => gBor r e e3 (st e2 k (some d) (Q r))) (fun _ _ _ => False))) : wp (vBor k f) e Q E := by
  obtain ⟨d, h1, lo, x, hx, hk, h⟩ := h
  cases hx
  unfold wp vBor
  rw [join_eq h1]
  unfold wp at h
  cases e2 : f (e.set k (some d.fz)) with
  | none => rw [e2] at h; exact h.elim
  | some rr =>
    rw [e2] at h
    cases rr with
    | exc c x e' => exact h.elim
    | ok r e' =>
      obtain ⟨_, b1, b2, _, q⟩ := h
      dsimp only
      rw [e2]
      dsimp only
      rw [if_pos ⟨lo, b1, b2⟩]
      exact q
section
variable {e : VEnv} {K B C : VEnv → Prop} {R : D → VEnv → Prop} {E : XQ} {f : M D} {k j : Nat} {ps : List (VEnv → Option D)} {p : VEnv → Option D}
theorem wrApp_go {d : D} {is : List Int} {m : List D} {r : D} {e1 : VEnv} (h : m.length < sizeLine ∧ ev (treeSet d is (.lst true (m ++ [r]))) fun d' => st e1 k (some d') K) : ws (wrApp k (d, is, m) r) e1 K B C R E := by
  obtain ⟨hz, d', h1, _, q⟩ := h
  unfold ws wp wrApp
  dsimp only
  rw [if_pos hz, h1]
  exact q
theorem wrPut_go {d : D} {is : List Int} {m : List D} {r : D} {e1 : VEnv} (h : ev ((p e1).bind asInt) fun i => ev (ixSet m i r) fun m' => ev (treeSet d is (.lst true m')) fun d' => st e1 k (some d') K) : ws (wrPut k p (d, is, m) r) e1 K B C R E := by
  obtain ⟨i, h1, m', h2, d', h3, _, q⟩ := h
  unfold ws wp wrPut
  dsimp only
  rw [h1, Option.bind_some, h2, Option.bind_some, h3]
  exact q
theorem pathK_go {d : D} {is : List Int} {m : List D} (h1 : (e[k]?).join = some d) (h2 : ixsK ps e = some is) (h3 : leaf d is = some m) : pathK k ps e = some (d, is, m) := by
  unfold pathK
  rw [h1, Option.bind_some, h2, Option.bind_some, h3]
  rfl
theorem ws_nApp (h : ev ((e[k]?).join) fun d => ev (ixsK ps e) fun is => ev (leaf d is) fun m => wp (vBor k f) e (fun r e1 => m.length < sizeLine ∧ ev (treeSet d is (.lst true (m ++ [r]))) fun d' => st e1 k (some d') K) E) : ws (sNApp k ps f) e K B C R E := by
  obtain ⟨d, h1, is, h2, m, h3, h⟩ := h
  have := wp_bnd (k := wrApp k (d, is, m)) (Q := fun (r : Fl) e1 => match r with
      | .nx => K e1
      | .bk => B e1
      | .ct => C e1
      | .rt d => R d e1) (wp_mono h (fun r e1 h4 => wrApp_go (B := B) (C := C) (R := R) (E := E) h4) fun _ _ _ h => h)
  unfold ws wp sNApp
  rw [pathK_go h1 h2 h3, Option.bind_some]
  exact this
theorem ws_alApp (h : ev ((e[k]?).join) fun d => ev (ixsK ps e) fun is => ev (leaf d is) fun m => st e j none fun e0 => wp (vBor k f) e0 (fun r e1 => m.length < sizeLine ∧ ev (treeSet d is (.lst true (m ++ [r]))) fun d' => st e1 k (some d') K) E) : ws (sAlApp k ps j f) e K B C R E := by
  obtain ⟨d, h1, is, h2, m, h3, _, h⟩ := h
  have := wp_bnd (k := wrApp k (d, is, m)) (Q := fun (r : Fl) e1 => match r with
      | .nx => K e1
      | .bk => B e1
      | .ct => C e1
      | .rt d => R d e1) (wp_mono h (fun r e1 h4 => wrApp_go (B := B) (C := C) (R := R) (E := E) h4) fun _ _ _ h => h)
  unfold ws wp sAlApp
  rw [pathK_go h1 h2 h3, Option.bind_some]
  exact this
theorem ws_alPut (h : ev ((e[k]?).join) fun d => ev (ixsK ps e) fun is => ev (leaf d is) fun m => st e j none fun e0 => wp (vBor k f) e0 (fun r e1 => ev ((p e1).bind asInt) fun i => ev (ixSet m i r) fun m' => ev (treeSet d is (.lst true m')) fun d' => st e1 k (some d') K) E) : ws (sAlPut k ps j p f) e K B C R E := by
  obtain ⟨d, h1, is, h2, m, h3, _, h⟩ := h
  have := wp_bnd (k := wrPut k p (d, is, m)) (Q := fun (r : Fl) e1 => match r with
      | .nx => K e1
      | .bk => B e1
      | .ct => C e1
      | .rt d => R d e1) (wp_mono h (fun r e1 h4 => wrPut_go (B := B) (C := C) (R := R) (E := E) h4) fun _ _ _ h => h)
  unfold ws wp sAlPut
  rw [pathK_go h1 h2 h3, Option.bind_some]
  exact this
theorem ws_forApp (h : ev ((e[k]?).join) fun d => ev (ixsK ps e) fun is => ev (leaf d is) fun m => shortL m.length m = true ∧ st e j none fun e1 => st e1 k none K) : ws (sForApp k ps j) e K B C R E := by
  obtain ⟨d, h1, is, h2, m, h3, h4, _, _, q⟩ := h
  unfold ws wp sForApp
  rw [pathK_go h1 h2 h3, Option.bind_some]
  dsimp only
  rw [if_pos h4]
  exact q
theorem ws_nPut (h : wp f e (fun r e1 => ev ((e1[k]?).join) fun d => ev (ixsK ps e1) fun is => ev (leaf d is) fun m => ev ((p e1).bind asInt) fun i => ev (ixSet m i r) fun m' => ev (treeSet d is (.lst true m')) fun d' => st e1 k (some d') K) E) : ws (sNPut k ps p f) e K B C R E :=
  wp_bnd (wp_mono h (fun r e1 h1 => by
    obtain ⟨d, h1, is, h2, m, h3, h⟩ := h1
    show wp (fun e' => (pathK k ps e').bind fun x => wrPut k p x r e') e1 _ E
    have := wrPut_go (B := B) (C := C) (R := R) (E := E) h
    unfold wp
    dsimp only
    rw [pathK_go h1 h2 h3, Option.bind_some]
    exact this) fun _ _ _ h => h)
end
theorem wp_OpV {g : D → D → Option D} {k : Nat} {fb : M D} {e : VEnv} {Q : D → VEnv → Prop} {E : XQ} (h : ev ((e[k]?).join) fun _ => wp fb e (fun b e2 => ev ((e2[k]?).join) fun a => evf (g a b) fun d => Q d e2) E) : wp (vOpV g k fb) e Q E := by
  obtain ⟨d0, h0, h⟩ := h
  have := wp_bnd (k := fun b e' => match e'[k]? with
    | some (some a) => M.opt ((g a b).bind fun d => if d.frozen then some d else none) e'
    | _ => none) (Q := Q) (wp_mono h (fun b e2 h1 => by
      obtain ⟨a, h2, d, h3, f, q⟩ := h1
      unfold wp
      dsimp only
      rw [join_eq h2]
      unfold M.opt
      dsimp only
      rw [h3, Option.bind_some, if_pos f]
      exact q) fun _ _ _ h => h)
  unfold wp vOpV
  rw [join_eq h0]
  exact this
theorem wp_TupO {fs : M (List D)} {e : VEnv} {Q : D → VEnv → Prop} {E : XQ} (h : wp fs e (fun ds e1 => ds.length ≤ sizeLine ∧ Q (.otp ds) e1) E) : wp (vTupO fs) e Q E :=
  wp_bnd (wp_mono h (fun ds e1 h1 => by
    unfold M.opt wp
    rw [if_pos h1.1]
    exact h1.2) fun _ _ _ h => h)
theorem q_ixs0 {e : VEnv} : ixsK [] e = some [] := rfl
theorem q_ixsS {p : VEnv → Option D} {ps : List (VEnv → Option D)} {e : VEnv} : ixsK (p :: ps) e = ((p e).bind asInt).bind fun i => (ixsK ps e).map (i :: ·) := rfl
theorem q_ixsSn {p : VEnv → Option D} {ps : List (VEnv → Option D)} : [] ++ p :: ps = p :: ps := rfl
theorem q_ixsSc {q p : VEnv → Option D} {qs ps : List (VEnv → Option D)} : (q :: qs) ++ ps = q :: (qs ++ ps) := rfl
theorem q_at3 {a b c d : D} {l : List D} : L2.atI (a :: b :: c :: d :: l) 3 = some d := by
  unfold L2.atI L2.ixN
  rw [if_pos (by decide), if_pos (by simp only [List.length_cons]; omega)]
  rfl
theorem q_at4 {a b c d e : D} {l : List D} : L2.atI (a :: b :: c :: d :: e :: l) 4 = some e := by
  unfold L2.atI L2.ixN
  rw [if_pos (by decide), if_pos (by simp only [List.length_cons]; omega)]
  rfl
theorem gLo_id {d : D} {K : Prop} (h : gLo d K) : gLo d K := h
theorem gBor_id {r : D} {e e' : VEnv} {K : Prop} (h : gBor r e e' K) : gBor r e e' K := h
theorem gLo_i {d : D} {K : Prop} (h : d.lo = true) (q : K) : gLo d K := ⟨h, q⟩
theorem gBor_i {r : D} {e e' : VEnv} {K : Prop} (h : r.bare = true) (b : bor e e') (q : K) : gBor r e e' K := ⟨h, b, q⟩
theorem bor_n {e e' : VEnv} {a : Option D} (h : bor e e') : bor (a :: e) (none :: e') := ⟨True.intro, h⟩
theorem bor_b {e e' : VEnv} {a : Option D} {d : D} (f : d.bare = true) (h : bor e e') : bor (a :: e) (some d :: e') := ⟨.inl f, h⟩
theorem bor_f {e e' : VEnv} {d : D} (f : d.frozen = true) (h : bor e e') : bor (some d :: e) (some d :: e') := ⟨.inr ⟨f, rfl⟩, h⟩
theorem bor_z : bor [] [] := True.intro
theorem bares_nums : ∀ {l : List Int}, D.bares (nums l) = true
  | [] => rfl
  | i :: l => by
    show (D.bare (.int i) && D.bares (nums l)) = true
    rw [bares_nums]; rfl
theorem los_nums : ∀ {l : List Int}, D.los (nums l) = true
  | [] => rfl
  | i :: l => by
    show (D.lo (.int i) && D.los (nums l)) = true
    rw [los_nums]; rfl
theorem los_map {α : Type} {f : α → D} (h : ∀ a, (f a).lo = true) : ∀ {l : List α}, D.los (l.map f) = true
  | [] => rfl
  | i :: l => by
    show (D.lo (f i) && D.los (l.map f)) = true
    rw [h, los_map h]; rfl
theorem los_dl {α : Type} {f : α → D} (h : ∀ a, (f a).lo = true) {l : List α} : D.los (dl f l) = true := los_map h
theorem bares_dl {α : Type} {f : α → D} (h : ∀ a, (f a).bare = true) : ∀ {l : List α}, D.bares (dl f l) = true
  | [] => rfl
  | i :: l => by
    show (D.bare (f i) && D.bares (dl f l)) = true
    rw [h, bares_dl h]; rfl
theorem los_fro {l : List D} (h : D.frozens l = true) : D.los l = true := by
  induction l with
  | nil => rfl
  | cons d l ih =>
    simp [D.frozens] at h
    have h1 : d.lo = true := by
      cases d with
      | lst m l =>
        have : m = false := by have := h.1; simp [D.frozen] at this; exact this.1
        subst this
        have := h.1
        simp [D.frozen] at this
        simp [D.lo, this]
      | _ => simpa [D.lo] using h.1
    simp [D.los, h1, ih h.2]
theorem ixN_nat {n : Nat} {i : Int} (h0 : 0 ≤ i) (h1 : i < n) : L2.ixN n i = some i.toNat := by
  unfold L2.ixN
  rw [if_pos h0, if_pos h1]
theorem leaf_dl {α : Type} [Inhabited α] {f : α → D} {g : α → List D} (hf : ∀ a, f a = .lst true (g a)) {l : List α} {i : Int} (h0 : 0 ≤ i) (h1 : i < l.length) : leaf (.lst true (dl f l)) [i] = some (g (gd l i)) := by
  unfold leaf
  show (match (L2.ixN (dl f l).length i).bind fun j => ((dl f l)[j]?).bind fun d => treeAt d [] with
    | some (.lst true m) => some m
    | _ => none) = _
  have hl : (dl f l).length = l.length := by simp [dl]
  have hi : i.toNat < l.length := by omega
  rw [hl, ixN_nat h0 h1, Option.bind_some]
  have : (dl f l)[i.toNat]? = some (.lst true (g (gd l i))) := by
    unfold dl gd
    rw [List.getElem?_map, List.getElem?_eq_getElem hi, List.getD_eq_getElem?_getD, List.getElem?_eq_getElem hi, ← hf]; rfl
  rw [this, Option.bind_some]
  rfl
theorem treeSet_dl {α : Type} {f : α → D} {l : List α} {i : Int} {x : α} {d : D} (hx : d = f x) (h0 : 0 ≤ i) (h1 : i < l.length) : treeSet (.lst true (dl f l)) [i] d = some (.lst true (dl f (l.set i.toNat x))) := by
  show ((L2.ixN (dl f l).length i).bind fun j => ((dl f l)[j]?).bind fun c => (treeSet c [] d).map fun d' => D.lst true ((dl f l).set j d')) = _
  have hl : (dl f l).length = l.length := by simp [dl]
  have hi : i.toNat < l.length := by omega
  rw [hl, ixN_nat h0 h1, Option.bind_some, List.getElem?_eq_getElem (by rw [hl]; exact hi), Option.bind_some]
  show some (D.lst true ((dl f l).set i.toNat d)) = _
  rw [hx]
  simp [dl, List.map_set]
end
section
set_option Elab.async false
set_option linter.all false
set_option maxRecDepth 100000
set_option maxHeartbeats 1000000
/-! ### isinstance of an own class -/
structure IsO (K : PySem.W.Frag) (C : Addr) : Prop where
  ha : PySem.W.findIn K (.ref C) "__class__" = some (some (.builtin "object.__class__"))
  hn : PySem.W.specialIn K (.builtin "object.__class__") "__get__" = some (some (.builtin "getset_descriptor.__get__"))
  htk : PySem.W.takesIn K (.builtin "object.__class__") = some true
  hm : PySem.W.mroIn K C (.type "object") = some true
  kt : PySem.W.kitOne K (.ref C) (.ref C) = some true
def gIsiO (c : Str) : D → Option D
  | .ins _ c' _ _ => if c' = c then some (.bl true) else none
  | _ => none
abbrev pIsiO (c : Str) := p1 (gIsiO c)
theorem q_isiO {c : Str} {m : Bool} {ns : List Str} {l : List D} : gIsiO c (.ins m c ns l) = some (.bl true) := if_pos rfl
section
variable {X : Cx} {G : Gx} {z : Zx} {W : WX} {e a b o : Expr} {es : List Expr} {pa pb : VEnv → Option D} {f fa fb : M D} {fs : M (List D)} {pos apos cpos : Pos} {ms : List Bool}
theorem vp_isiO (c : Str) {p p2 : Pos} {y : Str} (hm : X.mg "isinstance" = none) (py : PE X (.Name y p2) (tC (.ref (G.cl c)))) (cl : Cls G.K (G.cl c)) (io : IsO G.K (G.cl c)) (ha : PE X a (RP G z pa)) (hgl : Gl X "isinstance" := by rfl) (hK : X.K = G.K := by rfl)
    (hs : starEach [a, .Name y p2] X.env = (false, eval a X.env) :: starEach [.Name y p2] X.env := by rfl) (hs2 : starEach [.Name y p2] X.env = (false, eval (.Name y p2) X.env) :: starEach [] X.env := by rfl) (hpl : (backTo pos (starEach [.Name y p2] X.env)).any (·.1) = false := by rfl) :
    PE X (.Call (.Name "isinstance" p) [a, .Name y p2] [] pos) (RP G z (pIsiO c pa)) :=
  peImp (pe_callB call_isi hgl hm (by decide +kernel) (pa_cons ha (pa_cons py pa_nil hs2) hs) (by decide) (by decide) hs hpl) fun σ H Q ⟨I, ts, dts, env, FT, FS, d, S, e, q⟩ => by
    obtain ⟨d1, e1, e⟩ := Option.bind_eq_some_iff.mp e
    cases d1 with
    | ins m c' ns l =>
      unfold gIsiO at e
      dsimp only at e
      split at e
      · rename_i ec
        cases e
        subst ec
        refine ⟨I, ts, dts, env, FT, FS, _, S, e1, fun u F1 o1 => ?_⟩
        obtain ⟨a0, dx, ws, F', ev, ho, _⟩ := own_ins S.sub o1
        subst ev
        refine ⟨.ref a0, .ref (G.cl c'), .ref (G.cl c'), _, true, rfl, .own _, ?_, ?_, q _ [] ⟨rfl, rfl⟩⟩
        · rw [hK]; exact .base (.ins ho cl io.ha io.hn io.htk io.hm)
        · rw [hK]; exact io.kt
      · cases e
    | _ => cases e
/-! ### expressions that only lay new objects -/
def RF (G : Gx) (z : Zx) (W : WX) (f : M D) : TE := fun σ H Q => ∃ I ts dts env FT FS, Stt G z I H ts dts σ env FT FS ∧ ∃ d, f env = some (.ok d env) ∧ ∀ v I' H' FT' FS', Same I I' → Same H H' → Stt G z I' H' (v :: ts) (d :: dts) σ env FT' FS' → Q v H'
theorem rf_int {i : Int} {j} : PE X (.Constant (.int i) j pos) (RF G z W (vP (pC (.int i)))) := peImp pe_int fun σ H Q ⟨I, ts, dts, env, FT, FS, S, d, e1, q⟩ => by
  cases e1
  exact q _ I H _ _ (Same.refl _) (Same.refl _) (S.pushR (v := .int i) rfl)
theorem rf_nil : PE X (.List [] pos) (RF G z W (vLst aNil)) := peImp (pe_lst pa_nil) fun σ H Q ⟨I, ts, dts, env, FT, FS, S, d, e1, q⟩ => by
  cases e1
  refine ⟨Nat.zero_le _, fun p hp => ?_⟩
  obtain ⟨FT', S2⟩ := Stt.pushL (vs := []) (ds := []) rfl S hp
  exact q _ _ _ _ _ (Same.refl _) (same_upd hp) S2
theorem rf_fz (h : PE X e (RF G z W f)) : PE X e (RF G z W (vFz f)) := peImp h fun σ H Q ⟨I, ts, dts, env, FT, FS, S, d, e1, q⟩ => by
  unfold vFz M.bnd at e1
  cases e2 : f env with
  | none => rw [e2] at e1; cases e1
  | some r =>
    rw [e2] at e1
    cases r with
    | exc c x e => cases e1
    | ok d0 e' =>
      cases e1
      refine ⟨I, ts, dts, env, FT, FS, S, d0, e2, fun v I' H' FT' FS' s1 s2 S' => ?_⟩
      obtain ⟨I2, F2, s3, r2, S3⟩ := S'.giveTop
      exact q v I2 H' _ _ (s1.trans s3) s2 (S3.pushR r2)
theorem rf_one (h : PE X e (RF G z W f)) (hs : starEach [e] X.env = (false, eval e X.env) :: starEach [] X.env := by rfl) : PE X (.List [e] pos) (RF G z W (vLst (aCons f aNil))) := peImp (pe_lst (pa_cons h pa_nil hs)) fun σ H Q ⟨I, ts, dts, env, FT, FS, S, d, e1, q⟩ => by
  unfold vLst aCons aNil M.bnd M.ret at e1
  cases e2 : f env with
  | none => rw [e2] at e1; cases e1
  | some r =>
    rw [e2] at e1
    cases r with
    | exc c x e => cases e1
    | ok d0 e' =>
      cases e1
      refine ⟨I, ts, dts, env, FT, FS, S, d0, e2, fun v I' H' FT' FS' s1 s2 S' => ⟨by show 1 ≤ sizeLine; decide, fun p hp => ?_⟩⟩
      obtain ⟨FT2, S2⟩ := Stt.pushL (vs := [v]) (ds := [d0]) rfl S' hp
      exact q _ _ _ _ _ s1 (s2.trans (same_upd hp)) S2
/-- x + f, x read where it stands -/
def vCatF (pa : VEnv → Option D) (fb : M D) : M D := fun e => (pa e).bind fun d => (asLst d).bind fun m => if D.frozens m = true then (fb.bnd fun b => M.opt ((asLst b.fz).bind fun k => if m.length + k.length ≤ sizeLine then some (.lst true (m ++ k)) else none)) e else none
theorem ve_catF (ha : PE X a (RP G z pa)) (hb : PE X b (RF G z W fb)) (hf : ∀ e, ∃ d, fb e = some (.ok d e)) (hK : X.K = G.K := by rfl) : PE X (.BinOp a .Add b pos) (RE G z W (vCatF pa fb)) :=
  peImp (pe_op (OpR.or op_cat op_catA) ha hb) fun σ H Q h => by
    obtain ⟨I, ts, dts, env, FT, FS, S, h⟩ := RE.to h
    unfold vCatF at h
    cases e1 : pa env with
    | none => rw [e1] at h; exact h.elim
    | some d =>
      rw [e1] at h
      cases e2 : asLst d with
      | none => simp only [Option.bind_some, e2] at h; exact h.elim
      | some m =>
        simp only [Option.bind_some, e2] at h
        split at h
        · rename_i fz
          refine ⟨I, ts, dts, env, FT, FS, d, S, e1, fun u F ou => ?_⟩
          obtain ⟨db, eb⟩ := hf env
          refine ⟨I, ts, dts, env, FT, FS, S, db, eb, fun v I' H' FT' FS' s1 s2 S' => ?_⟩
          unfold M.bnd at h
          rw [eb] at h
          obtain ⟨r, e3, hq⟩ := GE.optGo h
          obtain ⟨k, e4, e5⟩ := Option.bind_eq_some_iff.mp e3
          split at e5
          · rename_i hz
            cases e5
            obtain ⟨mm, ed⟩ := asLst_eq e2
            subst ed
            obtain ⟨a0, ws, F', ev, ha0, ow, _⟩ := own_lst S.sub ou
            subst ev
            have rw1 := (Owns.reps fz ow).2
            obtain ⟨I3, F3, s3, rv, S3⟩ := S'.giveTop
            obtain ⟨m2, q2⟩ := asLst_eq e4
            rw [q2] at rv
            obtain ⟨q, us, eu, k2, r2⟩ := rep_lst rv S3.sub
            subst eu
            rw [hK]
            have r1 : Reps G I3 ws m := Reps.mono (s1.trans s3) _ _ rw1
            refine .inl ⟨a0, q, ws, us, rfl, rfl, s2 _ _ ha0, k2, by rw [r1.len, r2.len]; exact hz, fun t ht => ?_⟩
            obtain ⟨FT4, S4⟩ := S3.pushN (r1.app r2) ht
            exact hq _ _ _ _ _ (s1.trans s3) S4
          · cases e5
        · exact h.elim
end
theorem sSeq_assoc {a b c : M Fl} : sSeq a (sSeq b c) = sSeq (sSeq a b) c := by
  funext e
  unfold sSeq M.bnd
  cases h : a e with
  | none => rfl
  | some r => cases r with
    | exc c x e => rfl
    | ok fl e' => cases fl <;> rfl
/-- statements drawn together, for a halt behind them -/
theorem ws_seqA {a b c : M Fl} {e : VEnv} {K B C : VEnv → Prop} {R : D → VEnv → Prop} {E : XQ} (h : ws (sSeq (sSeq a b) c) e K B C R E) : ws (sSeq a (sSeq b c)) e K B C R E := by
  rw [sSeq_assoc]; exact h
theorem DEs.dl {α : Type} {n : Nat} {f g : α → D} (h : ∀ a, DE n (f a) (g a) true) : ∀ {l : List α}, DEs n (dl f l) (dl g l) true
  | [] => DEs.nil
  | a :: l => DEs.cons (h a) (DEs.dl h)
theorem DE.to {n : Nat} {a b : D} {k : Bool} (h : DE n a b k) (e : k = true) : DE n a b true := by subst e; exact h
theorem DE.row {n : Nat} {b c : Bool} {r : List Int} : DE (n + 1) (.lst b (nums r)) (.lst c (nums r)) true := DE.to (DE.lst DEs.nums) (by simp)
theorem cutd_to {α : Type} {f : α → D} {l : List α} {k : Int} (h0 : 0 ≤ k) : cutD (dl f l) none (some k) = dl f (l.take k.toNat) := by
  unfold cutD HT.sIx
  dsimp only
  rw [if_neg (by omega), List.drop_zero, Nat.sub_zero, dl_len]
  show (l.map f).take _ = (l.take k.toNat).map f
  rw [← List.map_take]
  by_cases h : k.toNat ≤ l.length
  · rw [Nat.min_eq_left h]
  · rw [Nat.min_eq_right (by omega), List.take_of_length_le (by omega), List.take_of_length_le (by omega)]
theorem sl_to {α : Type} {f : α → D} [Enc f] {m : Bool} {l : List α} {k : Int} (h0 : 0 ≤ k) : gSl (.lst m (dl f l)) none (some k) = some (.lst true (dl f (l.take k.toNat))) := by
  rw [← cutd_to h0]
  exact q_slD (b := false)
theorem cutd_from {α : Type} {f : α → D} {l : List α} {k : Int} (h0 : 0 ≤ k) : cutD (dl f l) (some k) none = dl f (l.drop k.toNat) := by
  unfold cutD HT.sIx
  dsimp only
  rw [if_neg (by omega), dl_len]
  show ((l.map f).drop _).take _ = (l.drop k.toNat).map f
  rw [← List.map_drop, ← List.map_take]
  by_cases h : k.toNat ≤ l.length
  · rw [Nat.min_eq_left h, List.take_of_length_le (by rw [List.length_drop]; omega)]
  · rw [Nat.min_eq_right (by omega), Nat.sub_self, List.take_zero, List.drop_of_length_le (by omega)]
theorem sl_from {α : Type} {f : α → D} [Enc f] {m : Bool} {l : List α} {k : Int} (h0 : 0 ≤ k) : gSl (.lst m (dl f l)) (some k) none = some (.lst true (dl f (l.drop k.toNat))) := by
  rw [← cutd_from h0]
  exact q_slD (b := false)
theorem cat_dl {α : Type} {f : α → D} [Enc f] {m m' : Bool} {l k : List α} (h : l.length + k.length ≤ 16777216) : gCat (D.fz (.lst m (dl f l))) (D.fz (.lst m' (dl f k))) = some (.lst true (dl f (l ++ k))) := by
  rw [q_fzL, q_fzL, fzs_dl, fzs_dl, q_catL (by rw [dl_len, dl_len]; exact h), dl_app]
theorem wp_CatF {pa : VEnv → Option D} {fb : M D} {e : VEnv} {Q : D → VEnv → Prop} {E : XQ} (h : ev ((pa e).bind asLst) fun m => D.frozens m = true ∧ wp fb e (fun b e1 => ev (asLst b.fz) fun k => m.length + k.length ≤ sizeLine ∧ Q (.lst true (m ++ k)) e1) E) : wp (vCatF pa fb) e Q E := by
  obtain ⟨m, h1, f, h⟩ := h
  obtain ⟨d, h2, h3⟩ := Option.bind_eq_some_iff.mp h1
  have := wp_bnd (k := fun b => M.opt ((asLst b.fz).bind fun k => if m.length + k.length ≤ sizeLine then some (D.lst true (m ++ k)) else none)) (Q := Q) (wp_mono h (fun b e2 h1 => by
      obtain ⟨k, h2, h3, q⟩ := h1
      unfold wp M.opt
      rw [h2, Option.bind_some, if_pos h3]
      exact q) fun _ _ _ h => h)
  unfold wp vCatF
  rw [h2, Option.bind_some, h3, Option.bind_some, if_pos f]
  exact this
end
section
set_option Elab.async false
set_option linter.all false
set_option maxRecDepth 100000
set_option maxHeartbeats 1000000
section
variable {X : Cx} {G : Gx} {z : Zx} {W : WX} {e a b o : Expr} {pa pb : VEnv → Option D} {f fa fb : M D} {pos apos cpos : Pos}
/-- a whole number of the module -/
theorem vp_glob {x : Str} {i : Int} (h : ∃ t, X.mg x = some (.int i t)) (hg : Gl X x := by rfl) (hd : (x == ("__debug__" : Str)) = false := by decide) : PE X (.Name x pos) (RP G z (pC (.int i))) := by
  obtain ⟨t, h⟩ := h
  exact vp_c (pe_glob (v := .int i) hg h ⟨t, rfl⟩ hd) fun _ _ => rfl
abbrev vBand := vOp (gI fAnd)
abbrev vBor_ := vOp (gI fOr)
abbrev vXor := vOp (gI fXor)
abbrev vShl := vOp (gI fShl)
abbrev vShr := vOp (gI fShr)
theorem ve_and_ (ha : PE X a (RE G z W fa)) (hb : PE X b (RE G z W fb)) : PE X (.BinOp a .BitAnd b pos) (RE G z W (vBand fa fb)) := ve_op op_and g2_and ha hb
theorem ve_or_ (ha : PE X a (RE G z W fa)) (hb : PE X b (RE G z W fb)) : PE X (.BinOp a .BitOr b pos) (RE G z W (vBor_ fa fb)) := ve_op op_or g2_or ha hb
theorem ve_xor_ (ha : PE X a (RE G z W fa)) (hb : PE X b (RE G z W fb)) : PE X (.BinOp a .BitXor b pos) (RE G z W (vXor fa fb)) := ve_op op_xor g2_xor ha hb
theorem ve_shl (ha : PE X a (RE G z W fa)) (hb : PE X b (RE G z W fb)) : PE X (.BinOp a .LShift b pos) (RE G z W (vShl fa fb)) := ve_op op_shl g2_shl ha hb
theorem ve_shr (ha : PE X a (RE G z W fa)) (hb : PE X b (RE G z W fb)) : PE X (.BinOp a .RShift b pos) (RE G z W (vShr fa fb)) := ve_op op_shr g2_shr ha hb
theorem ve_sumL {p : Pos} (hc : X.calm = true) (hm : X.mg "sum" = none) (ha : PE X a (RE G z W fa)) (hgl : Gl X "sum" := by rfl) (hK : X.K = G.K := by rfl)
    (hs : starEach [a] X.env = (false, eval a X.env) :: starEach [] X.env := by rfl) (hpl : (backTo pos (starEach [] X.env)).any (·.1) = false := by rfl) : PE X (.Call (.Name "sum" p) [a] [] pos) (RE G z W (vOp1 gSumL fa)) :=
  ve_call1 (cr_sum hc) (by
    rw [hK]
    intro I H u d1 d F1 Q s o1 e q
    obtain ⟨ns, e1, e2⟩ := Option.map_eq_some_iff.mp e
    subst e2
    obtain ⟨a, ev, sl⟩ := own_intL s o1 e1
    exact ⟨a, ns, by rw [ev], sl, q _ [] ⟨rfl, rfl⟩⟩) hm (by decide +kernel) ha hgl (by decide) (by decide) hs hpl
end
theorem q_fand {i j : Int} : fAnd i j = some (Builtin.bitAnd i j) := rfl
theorem q_fxor {i j : Int} : fXor i j = some (Builtin.bitXor i j) := rfl
theorem q_for {i j : Int} : fOr i j = some (Builtin.bitOr i j) := rfl
theorem q_and {i j : Int} : gI fAnd (.int i) (.int j) = some (.int (Builtin.bitAnd i j)) := rfl
theorem q_xor {i j : Int} : gI fXor (.int i) (.int j) = some (.int (Builtin.bitXor i j)) := rfl
theorem q_bor_ {i j : Int} : gI fOr (.int i) (.int j) = some (.int (Builtin.bitOr i j)) := rfl
end
section
set_option Elab.async false
set_option linter.all false
set_option maxRecDepth 100000
set_option maxHeartbeats 1000000
/-! ### defs that call themselves: by fuel -/
theorem ok_none {P : Program} {w : World} {K : PySem.W.Frag} {mg : Str → Option Value} {base : Heap} {CX : CXT} {k : Nat} {f : Addr} {fd : FuncData} {ps : List Str} {G : Gx} {pm : List Bool} : FnOk P w K mg base CX k f fd ps (spOf G (fun _ => none) pm) :=
  ⟨fun vs H Q E h => (by obtain ⟨_, _, _, _, _, h⟩ := h; exact h.elim), fun A outer s H args us vs Q E _ _ _ _ h => (by obtain ⟨_, _, _, _, _, h⟩ := h; exact h.elim)⟩

/-! ### tuples of texts of the module -/
structure KT (K : PySem.W.Frag) (mg : Str → Option Value) (x : Str) (l : List Str) : Prop where
  is : ∃ (a : Addr) (o : Obj) (its : Array Value) (n : Nat), mg x = some (.ref a) ∧ K.lookup a = some o ∧ o.cls = .type "tuple" ∧ o.data = .seq its n ∧ its.size ≤ sizeLine ∧ Vals (l.map V.str) its.toList
def txts (l : List Str) : List D := l.map .str
theorem reps_txts {G : Gx} {I : Hp} : ∀ {l : List Str}, Reps G I (l.map V.str) (txts l)
  | [] => trivial
  | _ :: l => ⟨rfl, reps_txts (l := l)⟩
section
variable {X : Cx} {G : Gx} {z : Zx} {W : WX} {e a b o : Expr} {pa pb : VEnv → Option D} {f fa fb : M D} {pos apos cpos : Pos}
theorem vp_globK {x : Str} {l : List Str} (h : KT G.K X.mg x l) (hg : Gl X x := by rfl) (hd : (x == ("__debug__" : Str)) = false := by decide) : PE X (.Name x pos) (RP G z (pC (.ktp (txts l)))) := by
  obtain ⟨a, o, its, n, hm, hk, hc, hdt, hs, hv⟩ := h.is
  refine peImp (pe_glob (v := .ref a) hg hm rfl hd) fun σ H Q ⟨I, ts, dts, env, FT, FS, d, S, e, q⟩ => ?_
  cases e
  exact q (.ref a) [] ⟨rfl, a, l.map V.str, rfl, .inr ⟨o, its, n, hk, hc, hdt, hs, hv⟩, reps_txts⟩
/-! ### x in (..) -/
abbrev gIn : D → D → Option D := fun a b => (dIn a b).map .bl
abbrev gNotIn : D → D → Option D := fun a b => (dIn a b).map fun k => .bl (!k)
theorem ve_in (ha : PE X a (RE G z W fa)) (hb : PE X b (RE G z W fb)) (hm : behindInMarks .In b = false := by rfl) (hK : X.K = G.K := by rfl) : PE X (.Compare a [.In] [b] pos) (RE G z W (vOp gIn fa fb)) := ve_cmp op_in_seq (by rw [hK]; exact g2_in false) ha hb hm
theorem ve_notIn (ha : PE X a (RE G z W fa)) (hb : PE X b (RE G z W fb)) (hm : behindInMarks .NotIn b = false := by rfl) (hK : X.K = G.K := by rfl) : PE X (.Compare a [.NotIn] [b] pos) (RE G z W (vOp gNotIn fa fb)) := ve_cmp op_notIn_seq (by rw [hK]; exact g2_in true) ha hb hm
/-! ### texts joined -/
def asStrs : List D → Option (List Str)
  | [] => some []
  | d :: l => (asStr d).bind fun x => (asStrs l).map (x :: ·)
theorem owns_strs : ∀ {l : List D} {ws : List V} {ns : List Str} {I H : Hp} {F : List Addr}, Owns G I H ws l F → asStrs l = some ns → ws = ns.map V.str
  | [], [], ns, _, _, _, _, e => by cases e; rfl
  | d :: l, w :: ws, ns, _, _, _, ⟨F1, F2, _, h, r⟩, e => by
    obtain ⟨i, e1, e2⟩ := Option.bind_eq_some_iff.mp (show (asStr d).bind (fun i => (asStrs l).map (i :: ·)) = some ns from e)
    obtain ⟨ns', e3, e4⟩ := Option.map_eq_some_iff.mp e2
    subst e4
    cases asStr_eq e1
    rw [List.map_cons, owns_strs r e3, own_str h]
  | [], _ :: _, _, _, _, _, h, _ => h.elim
  | _ :: _, [], _, _, _, _, h, _ => h.elim
def gJoin (sep : Str) (d : D) : Option D := (asSeq d).bind fun l => (asStrs l).bind fun ys => if (ys.map (·.length)).sum + ys.length * sep.length ≤ 16777216 then some (.str (Txt.join sep ys)) else none
def vJoin (sep : Str) (f : M D) : M D := f.bnd fun d => M.opt (gJoin sep d)
theorem ve_join (sep : Str) {ps : Pos} {j} (he : PE X e (RE G z W f)) (hK : X.K = G.K := by rfl) (hs : starEach [e] X.env = [(false, eval e X.env)] := by rfl) (hbase : attributeBase (.Constant (.str sep) j ps) "join" X.env (eval (.Constant (.str sep) j ps) X.env) = eval (.Constant (.str sep) j ps) X.env := by rfl) (hline : (apos.endLine == pos.line) = true := by rfl) :
    PE X (.Call (.Attribute (.Constant (.str sep) j ps) "join" apos) [e] [] pos) (RE G z W (vJoin sep f)) := peImp (pe_join pe_str he hs hbase hline) fun σ H Q h => by
  obtain ⟨I, ts, dts, env, FT, FS, S, h⟩ := RE.to h
  refine ⟨⟨sep, rfl⟩, RE.of S (GE.bnd (g := GE G z W I ts dts σ Q) (Same.refl _) h (fun c x e h => h) (fun h => h) fun d1 e1 h1 u I1 H1 FT1 FS1 s1 S1 => ?_)⟩
  obtain ⟨r, e3, hq⟩ := GE.optGo h1
  obtain ⟨l, e4, e5⟩ := Option.bind_eq_some_iff.mp e3
  obtain ⟨ys, e6, e7⟩ := Option.bind_eq_some_iff.mp e5
  split at e7
  · rename_i hz
    cases e7
    obtain ⟨Fv, FT3, ev, ov, fv, S3⟩ := S1.pop
    obtain ⟨a0, ws, F', ea, hsq, ow⟩ := own_seq S3.sub ov e4
    subst ea
    have ew := owns_strs ow e6
    subst ew
    exact ⟨sep, a0, ys, rfl, rfl, by rw [hK]; exact hsq, hz, hq _ I1 H1 FT3 FS1 s1 (S3.pushR (v := .str _) rfl)⟩
  · cases e7
end
/-! ### texts in order -/
def leC (a b : List Nat) : Prop := ltCps b a = false
theorem lt_cons {a b : Nat} {r t : List Nat} : ltCps (a :: r) (b :: t) = (decide (a < b) || (a == b && ltCps r t)) := rfl
theorem leC_anti : ∀ {a b : List Nat}, leC a b → leC b a → a = b
  | [], [], _, _ => rfl
  | [], _ :: _, _, h => by cases h
  | _ :: _, [], h, _ => by cases h
  | a :: r, b :: t, h1, h2 => by
    unfold leC at h1 h2
    rw [lt_cons] at h1 h2
    simp only [Bool.or_eq_false_iff, decide_eq_false_iff_not, Bool.and_eq_false_iff, beq_eq_false_iff_ne] at h1 h2
    have e : a = b := by omega
    subst e
    have q1 : ltCps t r = false := by rcases h1.2 with q | q <;> first | exact (q rfl).elim | exact q
    have q2 : ltCps r t = false := by rcases h2.2 with q | q <;> first | exact (q rfl).elim | exact q
    rw [leC_anti (a := r) (b := t) q1 q2]
theorem leC_trans : ∀ {a b c : List Nat}, leC a b → leC b c → leC a c
  | [], _, [], _, _ => rfl
  | [], _, _ :: _, _, _ => rfl
  | _ :: _, [], _, h, _ => by cases h
  | _ :: _, _ :: _, [], _, h => by cases h
  | a :: r, b :: t, c :: u, h1, h2 => by
    unfold leC at h1 h2 ⊢
    rw [lt_cons] at h1 h2 ⊢
    simp only [Bool.or_eq_false_iff, decide_eq_false_iff_not, Bool.and_eq_false_iff, beq_eq_false_iff_ne] at h1 h2 ⊢
    refine ⟨by omega, ?_⟩
    by_cases e : c = a
    · right
      have e1 : b = a := by omega
      subst e
      subst e1
      have q1 : ltCps t r = false := by rcases h1.2 with q | q <;> first | exact (q rfl).elim | exact q
      have q2 : ltCps u t = false := by rcases h2.2 with q | q <;> first | exact (q rfl).elim | exact q
      exact leC_trans (a := r) (b := t) (c := u) q1 q2
    · exact .inl e
def leT (x y : Str) : Prop := leC x.cps.toList y.cps.toList
theorem leT_anti {x y : Str} (h1 : leT x y) (h2 : leT y x) : x = y := by
  have := leC_anti h1 h2
  cases x; cases y
  simp only at this
  rw [Array.toList_inj] at this
  rw [this]
theorem rising_le : ∀ {l : List Str} {p : Str}, risingS p l = true → ∀ x ∈ l, leT p x
  | y :: l, p, h, x, hx => by
    have h : (!ltCps y.cps.toList p.cps.toList && risingS y l) = true := h
    simp only [Bool.and_eq_true, Bool.not_eq_true'] at h
    rcases List.mem_cons.mp hx with rfl | hx
    · exact h.1
    · exact leC_trans (show leT p y from h.1) (rising_le h.2 x hx)
theorem sorted_tail : ∀ {l : List Str} {x : Str}, sortedS (x :: l) = true → (∀ y ∈ l, leT x y) ∧ sortedS l = true
  | [], _, _ => ⟨(fun _ h => nomatch h), rfl⟩
  | y :: l, x, h => ⟨rising_le h, by
    have h : (!ltCps y.cps.toList x.cps.toList && risingS y l) = true := h
    simp only [Bool.and_eq_true] at h
    exact h.2⟩
theorem sorted_one : ∀ {l k : List Str}, sortedS l = true → sortedS k = true → l.Perm k → l = k
  | [], k, _, _, p => (List.nil_perm.mp p).symm
  | x :: l, [], _, _, p => by simp at p
  | x :: l, y :: k, h1, h2, p => by
    obtain ⟨a1, a2⟩ := sorted_tail h1
    obtain ⟨b1, b2⟩ := sorted_tail h2
    have e : x = y := by
      rcases List.mem_cons.mp (p.mem_iff.mp List.mem_cons_self) with q | q
      · exact q
      · rcases List.mem_cons.mp (p.mem_iff.mpr List.mem_cons_self) with w | w
        · exact w.symm
        · exact leT_anti (a1 y w) (b1 x q)
    subst e
    rw [sorted_one a2 b2 p.cons_inv]
open Classical in
/-- the texts in ascending order -/
noncomputable def sortT (ks : List Str) : List Str := if h : ∃ ys, ys.Perm ks ∧ sortedS ys = true then h.choose else []
theorem sortT_eq {ks ys : List Str} (p : ys.Perm ks) (s : sortedS ys = true) : ys = sortT ks := by
  have h : ∃ ys, ys.Perm ks ∧ sortedS ys = true := ⟨ys, p, s⟩
  unfold sortT
  rw [dif_pos h]
  exact sorted_one s h.choose_spec.2 (p.trans h.choose_spec.1.symm)
theorem sortT_perm {ks ls : List Str} (p : ks.Perm ls) : sortT ks = sortT ls := by
  unfold sortT
  by_cases h : ∃ ys, ys.Perm ks ∧ sortedS ys = true
  · have h2 : ∃ ys, ys.Perm ls ∧ sortedS ys = true := let ⟨ys, a, b⟩ := h; ⟨ys, a.trans p, b⟩
    rw [dif_pos h, dif_pos h2]
    exact sorted_one h.choose_spec.2 h2.choose_spec.2 (h.choose_spec.1.trans (p.trans h2.choose_spec.1.symm))
  · have h2 : ¬ ∃ ys, ys.Perm ls ∧ sortedS ys = true := fun ⟨ys, a, b⟩ => h ⟨ys, a.trans p.symm, b⟩
    rw [dif_neg h, dif_neg h2]
/-! ### sorted(..) of texts, of a dict's keys -/
noncomputable def gSortL (d : D) : Option D := (asLst d).bind fun l => (asStrs l).bind fun ks => if ks.length < 64 then some (.lst true (txts (sortT ks))) else none
def keyStrs : List Key → Option (List Str)
  | [] => some []
  | .inr x :: l => (keyStrs l).map (x :: ·)
  | .inl _ :: _ => none
theorem keyStrs_eq : ∀ {l : List Key} {ks : List Str}, keyStrs l = some ks → l = ks.map Sum.inr
  | [], ks, h => by cases h; rfl
  | .inr x :: l, ks, h => by
    obtain ⟨k2, h1, h2⟩ := Option.map_eq_some_iff.mp (show (keyStrs l).map (x :: ·) = some ks from h)
    subst h2
    rw [keyStrs_eq h1]; rfl
  | .inl _ :: _, _, h => by cases h
noncomputable def gSortD (d : D) : Option D := match d with
  | .dk _ kk l => if l.length = kk.length then (keyStrs kk).bind fun ks => if ks.length < 64 then some (.lst true (txts (sortT ks))) else none else none
  | _ => none
section
variable {X : Cx} {G : Gx} {z : Zx} {W : WX} {e a b o : Expr} {pa pb : VEnv → Option D} {f fa fb : M D} {pos apos cpos : Pos} {I H : Hp} {ts : List V} {dts : List D} {σ : L2.St} {env : VEnv} {FT FS : List Addr}
theorem Stt.pushTxts (S : Stt G z I H ts dts σ env FT FS) {l : List Str} {p : Addr} (hp : H p = none) : ∃ FT', Stt G z I (upd H p (.lst (l.map V.str))) (.ref p :: ts) (.lst true (txts l) :: dts) σ env FT' FS := by
  obtain ⟨n0, nI, nF⟩ := S.new hp
  refine ⟨[p] ++ FT, (S.newH hp (.lst (l.map V.str))).push (F := [p]) ⟨p, l.map V.str, [], rfl, upd_same, nI, Reps.owns reps_txts, rfl⟩ (fun b hb => ?_) ?_⟩
  · rw [show b = p by simpa using hb]; exact n0
  · exact List.nodup_cons.mpr ⟨nF, S.nd⟩
noncomputable def vSortL (f : M D) : M D := f.bnd fun d => M.opt (gSortL d)
noncomputable def vSortD (f : M D) : M D := f.bnd fun d => M.opt (gSortD d)
theorem ve_sortL {p : Pos} (hm : X.mg "sorted" = none) (ha : PE X a (RE G z W f)) (hgl : Gl X "sorted" := by rfl) (hK : X.K = G.K := by rfl)
    (hs : starEach [a] X.env = (false, eval a X.env) :: starEach [] X.env := by rfl) (hpl : (backTo pos (starEach [] X.env)).any (·.1) = false := by rfl) : PE X (.Call (.Name "sorted" p) [a] [] pos) (RE G z W (vSortL f)) :=
  peImp (pe_callB cr_sortedS hgl hm (by decide +kernel) (pa_cons ha pa_nil hs) (by decide) (by decide) hs hpl) fun σ H Q h => by
    obtain ⟨I, ts, dts, env, FT, FS, S, h⟩ := RE.to h
    refine RE.of S (GE.bnd (g := GE G z W I ts dts σ Q) (Same.refl _) h (fun c x e h => h) (fun h => h) fun d1 e1 h1 u I1 H1 FT1 FS1 s1 S1 => ?_)
    obtain ⟨r, e3, hq⟩ := GE.optGo h1
    obtain ⟨l, e4, e5⟩ := Option.bind_eq_some_iff.mp e3
    obtain ⟨ys, e6, e7⟩ := Option.bind_eq_some_iff.mp e5
    split at e7
    · rename_i hz
      cases e7
      obtain ⟨Fv, FT3, ev, ov, fv, S3⟩ := S1.pop
      cases d1 with
      | lst m l' =>
        cases e4
        obtain ⟨a0, ws, F', ea, hsq, ow, _⟩ := own_lst S3.sub ov
        subst ea
        have ew := owns_strs ow e6
        subst ew
        refine ⟨a0, ys, rfl, by rw [hK]; exact .of hsq, hz, fun zs p pm so hp => ?_⟩
        rw [sortT_eq pm so]
        obtain ⟨FT4, S4⟩ := S3.pushTxts (l := sortT ys) hp
        exact hq _ _ _ _ _ s1 S4
      | _ => cases e4
    · cases e7
theorem ve_sortD {p : Pos} (hc : X.calm = true) (hm : X.mg "sorted" = none) (ha : PE X a (RE G z W f)) (hgl : Gl X "sorted" := by rfl) (hK : X.K = G.K := by rfl)
    (hs : starEach [a] X.env = (false, eval a X.env) :: starEach [] X.env := by rfl) (hpl : (backTo pos (starEach [] X.env)).any (·.1) = false := by rfl) : PE X (.Call (.Name "sorted" p) [a] [] pos) (RE G z W (vSortD f)) :=
  peImp (pe_callB (call_sortedD hc) hgl hm (by decide +kernel) (pa_cons ha pa_nil hs) (by decide) (by decide) hs hpl) fun σ H Q h => by
    obtain ⟨I, ts, dts, env, FT, FS, S, h⟩ := RE.to h
    refine RE.of S (GE.bnd (g := GE G z W I ts dts σ Q) (Same.refl _) h (fun c x e h => h) (fun h => h) fun d1 e1 h1 u I1 H1 FT1 FS1 s1 S1 => ?_)
    obtain ⟨r, e3, hq⟩ := GE.optGo h1
    cases d1 with
    | dk m kk l =>
      replace e3 : (if l.length = kk.length then (keyStrs kk).bind fun ks => if ks.length < 64 then some (D.lst true (txts (sortT ks))) else none else none) = some r := e3
      split at e3
      · rename_i hl
        obtain ⟨ks, e6, e7⟩ := Option.bind_eq_some_iff.mp e3
        split at e7
        · rename_i hz
          cases e7
          obtain ⟨Fv, FT3, ev, ov, fv, S3⟩ := S1.pop
          obtain ⟨a0, ws, F', ea, ho, n, ow, _⟩ := own_dk S3.sub ov
          subst ea
          refine ⟨a0, kk.zip ws, ks, rfl, .of ho, ?_, hz, fun zs p pm so hp => ?_⟩
          · rw [← keyStrs_eq e6, List.map_fst_zip (by omega)]
          rw [sortT_eq pm so]
          obtain ⟨FT4, S4⟩ := S3.pushTxts (l := sortT ks) hp
          exact hq _ _ _ _ _ s1 S4
        · cases e7
      · cases e3
    | _ => cases e3
/-- {'a': 'b', ..} -/
def vDispS (l : List (Str × Str)) : M D := M.ret (.dk true (l.map fun p => Sum.inr p.1) (l.map fun p => .str p.2))
theorem pairs_c {σ : L2.St} {H : Hp} : ∀ {l : List (Str × Str)} {Q : List (V × V) → Hp → Prop}, Q (l.map fun p => (V.str p.1, V.str p.2)) H → tPairs (l.map fun p => (tC (.str p.1), tC (.str p.2))) σ H Q
  | [], _, h => h
  | p :: l, Q, h => pairs_c (l := l) (Q := fun ps H3 => Q ((V.str p.1, V.str p.2) :: ps) H3) h
theorem own_txts {G : Gx} {I H : Hp} : ∀ {l : List (Str × Str)}, Owns G I H (l.map fun p => V.str p.2) (l.map fun p => D.str p.2) []
  | [] => rfl
  | _ :: l => ⟨[], [], rfl, ⟨rfl, rfl⟩, own_txts (l := l)⟩
theorem ve_dispS (l : List (Str × Str)) {keys : List (Option Expr)} {values : List Expr} (h : PPs X pos keys values (l.map fun p => (tC (.str p.1), tC (.str p.2)))) (hall : keys.all (·.isSome) = true := by rfl) (hl : keys.length = values.length := by rfl) (h0 : keys ≠ [] := by exact List.cons_ne_nil _ _) (h15 : keys.length ≤ 15 := by decide)
    (hn : l.length ≤ 15 := by decide) (hm : mergeK [] (l.map fun p => ((Sum.inr p.1 : Key), V.str p.2)) = l.map fun p => ((Sum.inr p.1 : Key), V.str p.2) := by rfl) : PE X (.Dict keys values pos) (RE G z W (vDispS l)) := peImp (pe_disp h hall hl h0 h15) fun σ H Q h => by
  obtain ⟨I, ts, dts, env, FT, FS, S, h⟩ := RE.to h
  intro p hp
  refine pairs_c ⟨upd_same, l.map fun p => (Sum.inr p.1, V.str p.2), by rw [List.map_map]; rfl, by rw [List.length_map]; exact hn, ?_⟩
  rw [hm]
  obtain ⟨n0, nI, nF⟩ := S.new hp
  have e : upd (upd H p (.dK [])) p (.dK (l.map fun p => ((Sum.inr p.1 : Key), V.str p.2))) = upd H p (.dK (l.map fun p => ((Sum.inr p.1 : Key), V.str p.2))) := by
    funext b
    by_cases q : b = p
    · subst q; rw [upd_same, upd_same]
    · rw [upd_ne q, upd_ne q, upd_ne q]
  rw [e]
  have z1 : (l.map fun p => (Sum.inr p.1 : Key)).zip (l.map fun p => V.str p.2) = l.map fun p => ((Sum.inr p.1 : Key), V.str p.2) := by
    rw [List.zip_map']
  refine h (.ref p) I _ ([p] ++ FT) FS (Same.refl _) ((S.newH hp _).push (F := [p]) ⟨p, l.map fun p => V.str p.2, [], rfl, by rw [z1]; exact upd_same, by rw [List.length_map, List.length_map], nI, own_txts, rfl⟩ (fun b hb => ?_) ?_)
  · rw [show b = p by simpa using hb]; exact n0
  · exact List.nodup_cons.mpr ⟨nF, S.nd⟩
end
/-! ### what they lead to -/
section
variable {e : VEnv} {E : XQ} {Q : D → VEnv → Prop} {f : M D}
theorem wp_Join {sep : Str} (h : wp f e (fun d e1 => ev (gJoin sep d) fun x => Q x e1) E) : wp (vJoin sep f) e Q E := wp_bnd (wp_mono h (fun _ _ h1 => wp_opt h1) fun _ _ _ h => h)
theorem wp_SortL (h : wp f e (fun d e1 => ev (gSortL d) fun x => Q x e1) E) : wp (vSortL f) e Q E := wp_bnd (wp_mono h (fun _ _ h1 => wp_opt h1) fun _ _ _ h => h)
theorem wp_SortD (h : wp f e (fun d e1 => ev (gSortD d) fun x => Q x e1) E) : wp (vSortD f) e Q E := wp_bnd (wp_mono h (fun _ _ h1 => wp_opt h1) fun _ _ _ h => h)
theorem wp_DispS {l : List (Str × Str)} (h : Q (.dk true (l.map fun p => Sum.inr p.1) (l.map fun p => .str p.2)) e) : wp (vDispS l) e Q E := h
end
section
variable {t : D → VEnv → Option VEnv} {b : M Fl} {e : VEnv} {K B C : VEnv → Prop} {R : D → VEnv → Prop} {E : XQ} {d : D} {l : List D}
theorem ws_forN (h : K e) : ws (forL t b []) e K B C R E := h
theorem ws_forC (h : ev (t d e) fun e1 => ws b e1 (fun e2 => ws (forL t b l) e2 K B C R E) K (fun e2 => ws (forL t b l) e2 K B C R E) R E) : ws (forL t b (d :: l)) e K B C R E := by
  obtain ⟨e1, h1, h2⟩ := h
  unfold ws wp forL
  rw [h1]
  dsimp only
  unfold ws wp at h2
  cases hb : b e1 with
  | none => rw [hb] at h2; exact h2.elim
  | some r =>
    rw [hb] at h2
    cases r with
    | exc c x e2 => exact h2
    | ok r e2 => cases r <;> exact h2
end
/-! ### values of texts -/
abbrev dS : List Str → List D := dl D.str
instance : Enc D.str := ⟨fun _ => rfl, fun _ => rfl⟩
theorem asStrs_dS : ∀ {l : List Str}, asStrs (dS l) = some l
  | [] => rfl
  | x :: l => by
    show (asStrs (dS l)).map (x :: ·) = _
    rw [asStrs_dS]; rfl
theorem asFlats_dS : ∀ {l : List Str}, asFlats (dS l) = some (l.map V.str)
  | [] => rfl
  | x :: l => by
    show (asFlats (dS l)).map (V.str x :: ·) = _
    rw [asFlats_dS]; rfl
theorem inV_dS {x : Str} : ∀ {l : List Str}, inV (.str x) (l.map V.str) = l.any fun y => y == x
  | [] => rfl
  | y :: l => by
    show ((y == x) || inV (.str x) (l.map V.str)) = _
    rw [inV_dS]; rfl
theorem dIn_dS {x : Str} {d : D} {l : List Str} (h : asSeq d = some (dS l)) : dIn (.str x) d = some (l.any fun y => y == x) := by
  unfold dIn
  rw [h]
  show (asFlats (dS l)).map (inV (.str x)) = _
  rw [asFlats_dS, Option.map_some, inV_dS]
theorem gJoin_dS {sep : Str} {m : Bool} {l : List Str} (h : (l.map (·.length)).sum + l.length * sep.length ≤ 16777216) : gJoin sep (.lst m (dS l)) = some (.str (Txt.join sep l)) := by
  show (asStrs (dS l)).bind _ = _
  rw [asStrs_dS]
  exact if_pos h
theorem gSortL_dS {m : Bool} {l : List Str} (h : l.length < 64) : gSortL (.lst m (dS l)) = some (.lst true (dS (sortT l))) := by
  show (asStrs (dS l)).bind _ = _
  rw [asStrs_dS]
  exact if_pos h
theorem keyStrs_inr : ∀ {l : List Str}, keyStrs (l.map Sum.inr) = some l
  | [] => rfl
  | x :: l => by
    show (keyStrs (l.map Sum.inr)).map (x :: ·) = _
    rw [keyStrs_inr]; rfl
theorem gSortD_dS {m : Bool} {l : List Str} {v : List D} (hv : v.length = l.length) (h : l.length < 64) : gSortD (.dk m (l.map Sum.inr) v) = some (.lst true (dS (sortT l))) := by
  show (if v.length = (l.map Sum.inr : List Key).length then (keyStrs (l.map Sum.inr)).bind _ else none) = _
  rw [if_pos (by rw [hv, List.length_map]), keyStrs_inr]
  exact if_pos h
theorem sortT_mem {l : List Str} {x : Str} (h : x ∈ sortT l) : x ∈ l := by
  unfold sortT at h
  split at h
  · rename_i c
    exact c.choose_spec.1.mem_iff.mp h
  · cases h
theorem gStrAdd_i {x y : Str} (h : x.length + y.length ≤ sizeLine) : gAdd (.str x) (.str y) = some (.str (x ++ y)) := by
  show (gI fAdd (.str x) (.str y)).or (gStrAdd (.str x) (.str y)) = _
  show (none : Option D).or (if x.length + y.length ≤ sizeLine then some (.str (x ++ y)) else none) = _
  rw [if_pos h]; rfl
def chr (x : Str) (i : Int) : Str := ⟨#[x.cps.toList.getD i.toNat 0]⟩
theorem gIx_chr {x : Str} {i : Int} (h : x.length ≤ sizeLine) (h0 : 0 ≤ i) (h1 : i < x.length) : gIx (.str x) (.int i) = some (.str (chr x i)) := by
  show (if x.length ≤ sizeLine then (L2.atI x.cps.toList i).map fun c => D.str ⟨#[c]⟩ else none) = _
  have hl : x.cps.toList.length = x.length := by show x.cps.toList.length = x.cps.size; rw [Array.length_toList]
  have hi : i.toNat < x.cps.toList.length := by omega
  rw [if_pos h]
  unfold L2.atI L2.ixN
  rw [if_pos h0, if_pos (by omega), Option.bind_some, List.getElem?_eq_getElem hi]
  unfold chr
  rw [List.getD_eq_getElem?_getD, List.getElem?_eq_getElem hi]; rfl
theorem strOk_chr {x : Str} {i : Int} (h : PyData.strOk x = true) : PyData.strOk (chr x i) = true := by
  have h : x.cps.all (fun c => decide (c < 0x110000)) = true := h
  show (#[x.cps.toList.getD i.toNat 0] : Array Nat).all (fun c => decide (c < 0x110000)) = true
  rw [← Array.all_toList] at h ⊢
  rw [List.all_eq_true] at h ⊢
  intro c hc
  rw [List.mem_singleton.mp hc, List.getD_eq_getElem?_getD]
  cases e : x.cps.toList[i.toNat]? with
  | none => rfl
  | some y => exact h y (List.mem_of_getElem? e)
theorem strOk_app {x y : Str} (h1 : PyData.strOk x = true) (h2 : PyData.strOk y = true) : PyData.strOk (x ++ y) = true := by
  show (x.cps ++ y.cps).all (fun c => decide (c < 0x110000)) = true
  rw [Array.all_append]
  rw [show x.cps.all (fun c => decide (c < 0x110000)) = true from h1, show y.cps.all (fun c => decide (c < 0x110000)) = true from h2]; rfl
theorem q_inC {x : Str} {d : D} {l : List Str} {k : Bool} (h : asSeq d = some (dS l)) (hk : (l.any fun y => y == x) = k) : gIn (.str x) d = some (.bl k) := by
  show (dIn (.str x) d).map D.bl = _
  rw [dIn_dS h, hk]; rfl
/-! ### isinstance(x, tuple) where x may be a tuple of the module -/
def tyNameK : D → Option String
  | .ktp _ => some "tuple"
  | d => tyName d
theorem own_tyK {G : Gx} {I H : Hp} {v : V} {d : D} {F : List Addr} {n : String} (s : Same I H) (h : Own G I H v d F) (e : tyNameK d = some n) : TyX G.K H v (.type n) := by
  cases d with
  | ktp l =>
    cases e
    obtain ⟨_, a, ws, ev, h1, _⟩ := h
    subst ev
    rcases SqT.same s h1 with h2 | ⟨o, its, n, hk, hc, _⟩
    · rcases h2 with h2 | ⟨o, h2⟩
      · exact .base (.tup h2)
      · exact .fTuple h2
    · exact .kTuple hk hc
  | _ => exact own_ty s h e
def gIsiK (T : String) : D → Option D := fun d => (tyNameK d).bind fun n => (kitB n T).map .bl
abbrev pIsiK (T : String) := p1 (gIsiK T)
section
variable {X : Cx} {G : Gx} {z : Zx} {a : Expr} {pa : VEnv → Option D} {pos : Pos}
theorem vp_isiK (T : String) {p p2 : Pos} {y : Str} (hm : X.mg "isinstance" = none) (hm2 : X.mg y = none) (hv2 : bootBuiltins y = some (.type T)) (ha : PE X a (RP G z pa)) (hgl : Gl X "isinstance" := by rfl) (hgl2 : Gl X y := by rfl) (hK : X.K = G.K := by rfl)
    (hn : y ≠ "__name__" := by decide) (hdb : (y == ("__debug__" : Str)) = false := by decide)
    (hs : starEach [a, .Name y p2] X.env = (false, eval a X.env) :: starEach [.Name y p2] X.env := by rfl) (hs2 : starEach [.Name y p2] X.env = (false, eval (.Name y p2) X.env) :: starEach [] X.env := by rfl) (hpl : (backTo pos (starEach [.Name y p2] X.env)).any (·.1) = false := by rfl) :
    PE X (.Call (.Name "isinstance" p) [a, .Name y p2] [] pos) (RP G z (pIsiK T pa)) :=
  peImp (pe_callB call_isi hgl hm (by decide +kernel) (pa_cons ha (pa_cons (pe_bltn (v := .ty T) hgl2 hm2 hv2 rfl hn hdb) pa_nil hs2) hs) (by decide) (by decide) hs hpl) fun σ H Q ⟨I, ts, dts, env, FT, FS, d, S, e, q⟩ => by
    obtain ⟨d1, e1, e⟩ := Option.bind_eq_some_iff.mp e
    obtain ⟨n, e2, e⟩ := Option.bind_eq_some_iff.mp e
    obtain ⟨k, e3, e4⟩ := Option.map_eq_some_iff.mp e
    subst e4
    refine ⟨I, ts, dts, env, FT, FS, d1, S, e1, fun u F1 o1 => ⟨u, .ty T, _, _, k, rfl, .ty T, ?_, kit_ty e3, q _ [] ⟨rfl, rfl⟩⟩⟩
    rw [hK]
    exact own_tyK S.sub o1 e2
end
end
section
set_option Elab.async false
set_option linter.all false
set_option maxRecDepth 100000
set_option maxHeartbeats 1000000
/-! ### the signs of a text -/
def signs (x : Str) : List D := x.cps.toList.map fun c => .str ⟨#[c]⟩
def iStrM (f : M D) : M (List D) := f.bnd fun d => M.opt ((asStr d.fz).map signs)
section
variable {X : Cx} {G : Gx} {z : Zx} {W : WX} {e a b o : Expr} {pa pb : VEnv → Option D} {f fa fb : M D} {pos apos cpos : Pos}
theorem walks_str {I : Hp} (x : Str) : Walks G z (Its x) I (signs x) := by
  intro i I2 H2 s s2
  refine ⟨fun d e => ?_, fun e => ?_⟩
  · unfold signs at e
    rw [List.getElem?_map] at e
    obtain ⟨c, e1, e2⟩ := Option.map_eq_some_iff.mp e
    obtain ⟨hi, e3⟩ := List.getElem?_eq_some_iff.mp e1
    rw [Array.length_toList] at hi
    subst e2
    refine ⟨hi, fun v H3 y => ?_⟩
    obtain ⟨eH, c', h1, ev⟩ := y
    subst eH ev
    rw [Array.getElem?_toList] at e1
    rw [h1] at e1
    cases e1
    exact ⟨I2, Same.refl _, rfl, fun _ _ _ _ _ _ S => S⟩
  · unfold signs at e
    have := List.getElem?_eq_none_iff.mp e
    rw [List.length_map, Array.length_toList] at this
    exact this
theorem vi_str {tg : Expr} (h : PE X e (RE G z W f)) : PI X tg e (RI G z W (iStrM f)) := piImp (pi_str h) fun σ H R ⟨I, ts, dts, env, FT, FS, S, h⟩ => by
  refine RI.bnd (k := fun d => (asStr d.fz).map signs) S h fun d l e e1 h1 v I1 H1 FT1 FS1 s1 S1 => ?_
  obtain ⟨I2, F2, s2, rv, S2⟩ := S1.giveTop
  obtain ⟨x, e2, e3⟩ := Option.map_eq_some_iff.mp e1
  subst e3
  generalize d.fz = d' at e2 rv
  cases asStr_eq e2
  exact ⟨x, by rw [show v = .str x from rv], h1 _ I2 H1 F2 FS1 (s1.trans s2) S2 (walks_str x)⟩
/-- a text of the module -/
theorem vp_globS {x : Str} {i : Str} (h : ∃ t, X.mg x = some (.str i t)) (hg : Gl X x := by rfl) (hd : (x == ("__debug__" : Str)) = false := by decide) : PE X (.Name x pos) (RP G z (pC (.str i))) := by
  obtain ⟨t, h⟩ := h
  exact vp_c (pe_glob (v := .str i) hg h ⟨t, rfl⟩ hd) fun _ _ => rfl
/-- a sign in a text -/
def sgIn (a b : D) : Option Bool := (asStr a).bind fun x => match x.cps.toList with
  | [c] => (asStr b).map fun y => decide (c ∈ y.cps.toList)
  | _ => none
theorem g2_sign (neg : Bool) : G2 G (fun x y H Q => ∃ (c : Nat) (z : Str), x = .str ⟨#[c]⟩ ∧ y = .str z ∧ Q (.bl (if neg then !decide (c ∈ z.cps.toList) else decide (c ∈ z.cps.toList))) H) (fun a b => (sgIn a b).map fun k => .bl (if neg then !k else k)) := by
  intro I H u v d1 d2 d F1 F2 Q s o1 o2 e q
  obtain ⟨k, e1, e2⟩ := Option.map_eq_some_iff.mp e
  obtain ⟨x, e3, e4⟩ := Option.bind_eq_some_iff.mp e1
  subst e2
  cases asStr_eq e3
  cases own_str o1
  split at e4
  · rename_i c hc
    obtain ⟨y, e5, e6⟩ := Option.map_eq_some_iff.mp e4
    cases asStr_eq e5
    cases own_str o2
    subst e6
    refine ⟨c, y, ?_, rfl, q _ [] ⟨rfl, rfl⟩⟩
    cases x with
    | mk a =>
      have : a = #[c] := by
        rw [← Array.toList_inj]
        exact hc
      rw [this]
  · cases e4
def pInS := p2 fun a b => (sgIn a b).map .bl
def pNotInS := p2 fun a b => (sgIn a b).map fun k => .bl (!k)
theorem vp_inS (ha : PE X a (RP G z pa)) (hb : PE X b (RP G z pb)) (hm : behindInMarks .In b = false := by rfl) : PE X (.Compare a [.In] [b] pos) (RP G z (pInS pa pb)) := vp_cmp op_in_sign (g2_sign false) ha hb hm
theorem vp_notInS (ha : PE X a (RP G z pa)) (hb : PE X b (RP G z pb)) (hm : behindInMarks .NotIn b = false := by rfl) : PE X (.Compare a [.NotIn] [b] pos) (RP G z (pNotInS pa pb)) := vp_cmp op_notIn_sign (g2_sign true) ha hb hm
end
theorem wp_iStr {f : M D} {e : VEnv} {E : XQ} {Q : List D → VEnv → Prop} (h : wp f e (fun d e1 => ev (asStr d.fz) fun x => Q (signs x) e1) E) : wp (iStrM f) e Q E :=
  wp_bnd (wp_mono h (fun d _ h1 => wp_opt (by
    obtain ⟨x, h2, q⟩ := h1
    exact ⟨_, by rw [h2]; rfl, q⟩)) fun _ _ _ h => h)
theorem sgIn_i {c : Nat} {y : Str} : sgIn (.str ⟨#[c]⟩) (.str y) = some (decide (c ∈ y.cps.toList)) := rfl
end
section
set_option Elab.async false
set_option linter.all false
set_option maxRecDepth 100000
set_option maxHeartbeats 1000000
/-! ### an instance made with a keyword: C(e, .., k = v) -/
structure PAK (X : Cx) (es : List Expr) (kws : List Keyword) (t : TA) : Prop where
  ex : ∃ ta tk, PA X es ta ∧ PK X kws tk ∧ ∀ σ H Q, t σ H Q → ta σ H fun vs H1 => tk σ H1 fun zs H2 => vs.length = es.length ∧ zs.length = kws.length ∧ Q (vs ++ zs) H2
section
variable {X : Cx} {G : Gx} {z : Zx} {W : WX} {a : Expr} {es : List Expr} {kws : List Keyword} {fa : M D} {fs : M (List D)}
theorem pak_nil : PAK X [] [] (RA G z W aNil) := ⟨tNil, tNil, pa_nil, pk_nil, fun σ H Q h => by
  obtain ⟨I, ts, dts, env, FT, FS, S, h⟩ := RA.to h
  exact ⟨rfl, rfl, h [] I H FT FS (Same.refl _) S rfl⟩⟩
theorem pak_one {nm : Option Str} {kp : Pos} (ha : PE X a (RE G z W fa)) : PAK X [] [⟨nm, a, kp⟩] (RA G z W (aCons fa aNil)) := ⟨tNil, tCons (RE G z W fa) tNil, pa_nil, pk_cons ha pk_nil, fun σ H Q h => by
  obtain ⟨I, ts, dts, env, FT, FS, S, h⟩ := RA.to h
  refine RE.of S (GE.bnd (g := GA G z W I ts dts σ Q) (Same.refl _) h (fun c x e h => h) (fun h => h) fun d1 e1 h1 u I1 H1 FT1 FS1 s1 S1 => ?_)
  exact ⟨rfl, rfl, h1 [u] I1 H1 FT1 FS1 s1 S1 rfl⟩⟩
theorem pak_cons (ha : PE X a (RE G z W fa)) (hr : PAK X es kws (RA G z W fs)) (hs : starEach (a :: es) X.env = (false, eval a X.env) :: starEach es X.env := by rfl) : PAK X (a :: es) kws (RA G z W (aCons fa fs)) := by
  obtain ⟨ta, tk, h1, h2, h3⟩ := hr.ex
  refine ⟨tCons (RE G z W fa) ta, tk, pa_cons ha h1 hs, h2, fun σ H Q h => ?_⟩
  obtain ⟨I, ts, dts, env, FT, FS, S, h⟩ := RA.to h
  refine RE.of S (GE.bnd (g := GA G z W I ts dts σ Q) (Same.refl _) h (fun c x e h => h) (fun h => h) fun d1 e1 h1 u I1 H1 FT1 FS1 s1 S1 => ?_)
  have key : RA G z W fs σ H1 (fun vs H2 => Q (u :: vs) H2) := RA.of S1 (GA.bnd (g := GA G z W I ts dts σ Q) s1 h1 (fun c x e h => h) (fun h => h) fun d2 e2 h2 vs I2 H2 FT2 FS2 s2 S2 n => by
    obtain ⟨FT3, S3⟩ := S2.rot n
    exact h2 (u :: vs) I2 H2 FT3 FS2 s2 S3 (by simp [n]))
  have := h3 σ H1 _ key
  simpa using this
end
section
variable {X : Cx} {k n : Nat} {f C : Addr} {fd : FuncData} {ps ks : List Str} {sp : Sp} {E : L2.St → XK} {x : Str} {p pos : Pos} {e : Expr} {es : List Expr} {kws : List Keyword} {t : TA} {g : List Value → List Value → List Value} {gV : List V → List V → List V}
def tMakeKS (C : Addr) (sp : Sp) (gV : List V → List V) (E : L2.St → XK) (t : TA) : TE := fun σ H Q => t σ H fun vs H1 => ∀ x dx, H1 x = none → H1 dx = none → dx ≠ x → sp (gV (.ref x :: vs)) (upd (upd H1 dx (.own x)) x (.ins C dx [])) (fun v H2 => v = .non ∧ Q (.ref x) H2) (E σ)
/-- gW: the values, the keywords' last, in the parameters' order -/
theorem pe_makeKS {gW : List V → List V} (M : Mk X.K C f) (F : FnOk X.prog X.w X.K X.mg X.base (L2.CX X.prog X.w) k f fd ps sp) (hr : Room (k + 1) X.A) (hg : Gl X x) (hm : X.mg x = some (.ref C)) (hb : KBn X.K fd ps (es.length + 2) ks g gV) (hx : ∀ σ, PassesAt (L2.CX X.prog X.w) X σ (E σ))
    (hgW : ∀ vs zs, gW (vs ++ zs) = gV vs zs ∨ zs.length ≠ ks.length ∨ vs.length ≠ es.length + 2) (hkl : kws.length = ks.length)
    (ha : PAK X (e :: es) kws t)
    (hall : (backToKw pos (keywordEach kws X.env)).all (·.1.isSome) = true := by rfl) (hks : (backToKw pos (keywordEach kws X.env)).filterMap (·.1) = ks := by rfl) (hdb : (x == ("__debug__" : Str)) = false := by decide)
    (he : starEach (e :: es) X.env = (false, eval e X.env) :: starEach es X.env := by rfl) (hpl : ((backTo pos (starEach (e :: es) X.env)).any (·.1) || (backToKw pos (keywordEach kws X.env)).any (·.1.isNone)) = false := by rfl) :
    PE X (.Call (.Name x p) (e :: es) kws pos) (tMakeKS C sp gW E t) := by
  obtain ⟨ta, tk, h1, h2, h3⟩ := ha.ex
  refine ⟨fun pins s σ H Q I h => ?_⟩
  have h := h3 σ H _ h
  refine wpAny_Call_Name_kw (ld_glob I hg hm ?_ hdb)
  refine PySem.W.callWith_KW (h₀ := X.base) I.ok.mod.kin M.kp hall (thn (h1.run pos pins s σ H _ I h) fun us s1 ⟨vs, H1, I1, r, q⟩ => ?_) hpl he
  refine thn (h2.run pos pins s1 σ H1 _ I1 q) fun ws s2 ⟨zs, H2, I2, rz, l1, l2, q2⟩ => ⟨I2.kIn, ?_⟩
  rw [hks]
  have hq := q2 (s2.heap.objs.size + 1) s2.heap.objs.size (I2.hok.fresh (Nat.le_succ _)) (I2.hok.fresh (Nat.le_refl _)) (Nat.ne_of_lt (Nat.lt_succ_self _))
  have l3 : (V.ref (s2.heap.objs.size + 1) :: vs).length = es.length + 2 := by rw [List.length_cons, l1, List.length_cons]
  rcases hgW (V.ref (s2.heap.objs.size + 1) :: vs) zs with hw | hw | hw
  · rw [show V.ref (s2.heap.objs.size + 1) :: (vs ++ zs) = (V.ref (s2.heap.objs.size + 1) :: vs) ++ zs from rfl, hw] at hq
    have I3 := Inv.made (C := C) I2
    have r1 : Vals (V.ref (s2.heap.objs.size + 1) :: vs) (Value.ref (s2.heap.objs.size + 1) :: us) := .cons rfl r
    have r2 := hb.rel r1 rz
    have n1 : (Value.ref (s2.heap.objs.size + 1) :: us).length = es.length + 2 := r1.length.symm.trans l3
    refine wpAny_call (make_map (f := f) I2.kIn M.makes M.init (beq_iff_eq.mp M.fn) (codeAny_mono (F.run _ X.stack _ _ ⟨Value.ref (s2.heap.objs.size + 1) :: us, ks.zip ws⟩ (g (Value.ref (s2.heap.objs.size + 1) :: us) ws) _ _ (E σ) (hr.make C us (ks.zip ws)) (I3.env0.make C us (ks.zip ws)) (hb.to _ (Value.ref (s2.heap.objs.size + 1) :: us) ws I3.kIn n1 (rz.length.symm.trans (l2.trans hkl))) r2 hq) fun r s' hq' => ?_))
    cases r with
    | error e => exact hx σ pins _ _ e s' I3 hq'
    | ok fl =>
      cases fl with
      | ret u =>
        obtain ⟨v, H', I4, rv, ev, q3⟩ := I3.after hq'
        subst ev
        exact ⟨rv, ⟨V.ref (s2.heap.objs.size + 1), H', I4, rfl, q3⟩⟩
      | next => exact hq'.elim
      | brk => exact hq'.elim
      | cont => exact hq'.elim
  · exact absurd (l2.trans hkl) hw
  · exact absurd l3 hw
end
/-- the parameters' order is that of the values, a keyword's behind them -/
def gApp {α : Type} (vs zs : List α) : List α := vs ++ zs
def gDfl {α : Type} (d : α) (vs _ : List α) : List α := vs ++ [d]
def vMakeD (F : FN) (c : Str) (pm : List Bool) (b : Bool) (fs : M (List D)) : M D := fs.bnd fun ds e => makeK F c pm e (ds ++ [.bl b])
section
variable {X : Cx} {G : Gx} {z : Zx} {W : WX} {e : Expr} {es : List Expr} {kws : List Keyword} {pos : Pos} {fs : M (List D)}
theorem ve_makeK {F : FN} {fa : Addr} {fd : FuncData} {ps ks : List Str} {k : Nat} {x c : Str} {p : Pos} {pm : List Bool} (M : Mk X.K (G.cl c) fa) (FO : FnOk X.prog X.w X.K X.mg X.base (L2.CX X.prog X.w) k fa fd ps (spOf G F pm)) (hr : Room (k + 1) X.A) (hm : X.mg x = some (.ref (G.cl c)))
    (hb : KBn X.K fd ps (es.length + 2) ks gApp gApp) (tk : Takes X W) (hkl : kws.length = ks.length)
    (ha : PAK X (e :: es) kws (RA G z W fs)) (hg : Gl X x := by rfl) (hall : (backToKw pos (keywordEach kws X.env)).all (·.1.isSome) = true := by rfl) (hks : (backToKw pos (keywordEach kws X.env)).filterMap (·.1) = ks := by rfl) (hdb : (x == ("__debug__" : Str)) = false := by decide)
    (he : starEach (e :: es) X.env = (false, eval e X.env) :: starEach es X.env := by rfl) (hpl : ((backTo pos (starEach (e :: es) X.env)).any (·.1) || (backToKw pos (keywordEach kws X.env)).any (·.1.isNone)) = false := by rfl) :
    PE X (.Call (.Name x p) (e :: es) kws pos) (RE G z W (vMake F c pm fs)) := peImp (pe_makeKS (gW := id) M FO hr hg hm hb (fun σ => passAt tk σ) (fun vs zs => .inl rfl) hkl ha hall hks hdb he hpl) fun σ H Q h => by
  obtain ⟨I, ts, dts, env, FT, FS, S, h⟩ := RE.to h
  refine RA.of S (GA.bnd (g := GE G z W I ts dts σ Q) (Same.refl _) h (fun c x e h => h) (fun h => h) fun ds e1 h1 vs I1 H1 FT1 FS1 s1 S1 n => ?_)
  exact fun x dx hx hdx ne => make_ok s1 S1 n h1 hx hdx ne
theorem ve_makeD {F : FN} {fa : Addr} {fd : FuncData} {ps : List Str} {k : Nat} {x c : Str} {p : Pos} {pm : List Bool} {b : Bool} (M : Mk X.K (G.cl c) fa) (FO : FnOk X.prog X.w X.K X.mg X.base (L2.CX X.prog X.w) k fa fd ps (spOf G F pm)) (hr : Room (k + 1) X.A) (hm : X.mg x = some (.ref (G.cl c))) {g : List Value → List Value → List Value}
    (hb : KBn X.K fd ps (es.length + 2) [] g (gDfl (.bl b))) (tk : Takes X W)
    (ha : PAK X (e :: es) [] (RA G z W fs)) (hg : Gl X x := by rfl) (hall : (backToKw pos (keywordEach [] X.env)).all (·.1.isSome) = true := by rfl) (hks : (backToKw pos (keywordEach [] X.env)).filterMap (·.1) = [] := by rfl) (hdb : (x == ("__debug__" : Str)) = false := by decide)
    (he : starEach (e :: es) X.env = (false, eval e X.env) :: starEach es X.env := by rfl) (hpl : ((backTo pos (starEach (e :: es) X.env)).any (·.1) || (backToKw pos (keywordEach [] X.env)).any (·.1.isNone)) = false := by rfl) :
    PE X (.Call (.Name x p) (e :: es) [] pos) (RE G z W (vMakeD F c pm b fs)) := peImp (pe_makeKS (gW := fun l => l ++ [.bl b]) M FO hr hg hm hb (fun σ => passAt tk σ) (fun vs zs => by
      cases zs with
      | nil => exact .inl (by simp [gDfl])
      | cons a l => exact .inr (.inl (by simp))) rfl ha hall hks hdb he hpl) fun σ H Q h => by
  obtain ⟨I, ts, dts, env, FT, FS, S, h⟩ := RE.to h
  have S' := S.pushR (v := .bl b) (d := .bl b) rfl
  refine RA.of S' (GA.bnd (g := GE G z W I ts dts σ Q) (Same.refl _) h (fun c x e h => h) (fun h => h) fun ds e1 h1 vs I1 H1 FT1 FS1 s1 S1 n => ?_)
  have S2 : Stt G z I1 H1 ((vs ++ [.bl b]) ++ ts) ((ds ++ [.bl b]) ++ dts) σ e1 FT1 FS1 := by
    rw [List.append_assoc, List.append_assoc]; exact S1
  exact fun x dx hx hdx ne => make_ok s1 S2 (by simp [n]) h1 hx hdx ne
end
end
section
set_option Elab.async false
set_option linter.all false
set_option maxRecDepth 100000
set_option maxHeartbeats 1000000
/-! ### slices whose bounds have effects -/
def bdM (lo : Option (M D)) (k : Option Int → M D) : M D := match lo with
  | none => k none
  | some f => f.bnd fun d => (M.opt (asInt d)).bnd fun i => k (some i)
def vSlE (f : M D) (lo hi : Option (M D)) : M D := f.bnd fun d => bdM lo fun l => bdM hi fun u => M.opt (gSl d.fz l u)
inductive PBe (X : Cx) (G : Gx) (z : Zx) (W : WX) : Option Expr → Option (M D) → Prop
  | none : PBe X G z W none none
  | some {e : Expr} {f : M D} (h : PE X e (RE G z W f)) : PBe X G z W (some e) (some f)
def tBe (G : Gx) (z : Zx) (W : WX) : Option (M D) → TO
  | none => tNoPart
  | some f => tPart (RE G z W f)
section
variable {X : Cx} {G : Gx} {z : Zx} {W : WX} {e a b : Expr} {f fa fb : M D} {pos : Pos}
theorem PBe.po {o : Option Expr} {p : Option (M D)} (h : PBe X G z W o p) : PO X o (tBe G z W p) := by
  cases h with
  | none => exact po_none
  | some h => exact po_some h
theorem tBe_ok {I0 I H : Hp} {ts : List V} {dts : List D} {σ : L2.St} {env : VEnv} {FT FS : List Addr} {lo : Option (M D)} {k : Option Int → M D} {Q : VK} {Q2 : Option Int → Hp → Prop} (s : Same I0 I) (S : Stt G z I H ts dts σ env FT FS) (h : GE G z W I0 ts dts σ Q (bdM lo k env))
    (q : ∀ l I' H' env' FT' FS', Same I I' → Stt G z I' H' ts dts σ env' FT' FS' → GE G z W I0 ts dts σ Q (k l env') → Q2 l H') : tBe G z W lo σ H Q2 := by
  cases lo with
  | none => exact q none I H env FT FS (Same.refl _) S h
  | some f =>
    refine RE.of S (GE.bnd (I0 := I) (g := GE G z W I0 ts dts σ Q) (Same.refl _) h (fun c x e h => h.weak s) (fun h => h) fun d1 e1 h1 v I1 H1 FT1 FS1 s1 S1 => ?_)
    unfold M.bnd M.opt at h1
    cases hi : asInt d1 with
    | none => rw [hi] at h1; exact h1.elim
    | some i =>
      rw [hi] at h1
      cases asInt_eq hi
      obtain ⟨rv, S2⟩ := Stt.popR (ts := ts) (dts := dts) S1 rfl
      exact ⟨i, rv, q (some i) I1 H1 e1 _ _ s1 S2 h1⟩
theorem ve_slE {lo hi : Option Expr} {plo phi : Option (M D)} {p2} (ha : PE X a (RE G z W fa)) (hl : PBe X G z W lo plo) (hh : PBe X G z W hi phi) (hK : X.K = G.K := by rfl) : PE X (.Subscript a (.Slice lo hi none p2) pos) (RE G z W (vSlE fa plo phi)) :=
  peImp (pe_slice (SlR.or (SlR.or sl_list sl_tupA) sl_str) ha hl.po hh.po) fun σ H Q h => by
    obtain ⟨I, ts, dts, env, FT, FS, S, h⟩ := RE.to h
    refine RE.of S (GE.bnd (g := GE G z W I ts dts σ Q) (Same.refl _) h (fun c x e h => h) (fun h => h) fun d1 e1 h1 v I1 H1 FT1 FS1 s1 S1 => ?_)
    obtain ⟨I2, F2, s2, rv, S2⟩ := S1.giveTop
    refine tBe_ok (s1.trans s2) S2 h1 fun l I3 H3 env3 FT3 FS3 s3 S3 h3 => ?_
    refine tBe_ok ((s1.trans s2).trans s3) S3 h3 fun u I4 H4 env4 FT4 FS4 s4 S4 h4 => ?_
    obtain ⟨r, e4, hq⟩ := GE.optGo h4
    replace rv := Rep.mono (s3.trans s4) _ _ rv
    have sA := ((s1.trans s2).trans s3).trans s4
    rw [hK]
    generalize d1.fz = d at e4 rv
    cases d with
    | lst m c =>
      replace e4 : (if D.frozens c then some (D.lst true (cutD c l u)) else none) = some r := e4
      split at e4
      · cases e4
        obtain ⟨p, ws, ev, h5, r5⟩ := rep_lst rv S4.sub
        subst ev
        refine .inl (.inl ⟨p, ws, rfl, .of h5, fun q hp => ?_⟩)
        obtain ⟨FT', S'⟩ := S4.pushN (r5.cut l u) hp
        exact hq _ _ _ _ _ sA S'
      · cases e4
    | scr c =>
      cases e4
      obtain ⟨p, ws, ev, h5, r5⟩ := rv
      subst ev
      refine .inl (.inl ⟨p, ws, rfl, Same.seq S4.sub h5, fun q hp => ?_⟩)
      obtain ⟨FT', S'⟩ := S4.pushN (r5.cut l u) hp
      exact hq _ _ _ _ _ sA S'
    | tup c =>
      cases e4
      have rv0 := rv
      obtain ⟨p, ws, ev, h5, r5⟩ := rep_tupk rv rfl S4.sub
      subst ev
      refine .inl (.inr ⟨p, ws, rfl, h5, fun c1 => ?_, fun c1 q hp => ?_⟩)
      · rw [r5.len] at c1
        rw [if_pos (by unfold wholeD; rw [decide_eq_true c1.1, decide_eq_true c1.2]; rfl)] at hq
        exact hq _ _ _ _ _ sA (S4.pushR rv0)
      · rw [r5.len] at c1
        rw [if_neg (by unfold wholeD; rw [Bool.and_eq_true, decide_eq_true_eq, decide_eq_true_eq]; exact c1)] at hq
        obtain ⟨s', S'⟩ := S4.pushTup (r5.cut l u) hp
        exact hq _ _ _ _ _ (sA.trans s') S'
    | ktp c =>
      cases e4
      have rv0 := rv
      obtain ⟨p, ws, ev, h5, r5⟩ := rep_tupk rv rfl S4.sub
      subst ev
      refine .inl (.inr ⟨p, ws, rfl, h5, fun c1 => ?_, fun c1 q hp => ?_⟩)
      · rw [r5.len] at c1
        rw [if_pos (by unfold wholeD; rw [decide_eq_true c1.1, decide_eq_true c1.2]; rfl)] at hq
        exact hq _ _ _ _ _ sA (S4.pushR rv0)
      · rw [r5.len] at c1
        rw [if_neg (by unfold wholeD; rw [Bool.and_eq_true, decide_eq_true_eq, decide_eq_true_eq]; exact c1)] at hq
        obtain ⟨s', S'⟩ := S4.pushTup (r5.cut l u) hp
        exact hq _ _ _ _ _ (sA.trans s') S'
    | str x =>
      replace e4 : (if x.length ≤ sizeLine then some (D.str (cutS x l u)) else none) = some r := e4
      split at e4
      · rename_i f
        cases e4
        exact .inr ⟨x, rv, f, hq _ _ _ _ _ sA (S4.pushR (v := .str _) rfl)⟩
      · cases e4
    | _ => cases e4
end
theorem wp_bdN {k : Option Int → M D} {e : VEnv} {E : XQ} {Q : D → VEnv → Prop} (h : wp (k none) e Q E) : wp (bdM none k) e Q E := h
theorem wp_bdS {f : M D} {k : Option Int → M D} {e : VEnv} {E : XQ} {Q : D → VEnv → Prop} (h : wp f e (fun d e1 => ev (asInt d) fun i => wp (k (some i)) e1 Q E) E) : wp (bdM (some f) k) e Q E :=
  wp_bnd (wp_mono h (fun d _ h1 => wp_bnd (wp_opt h1)) fun _ _ _ h => h)
theorem wp_SlE {f : M D} {lo hi : Option (M D)} {e : VEnv} {E : XQ} {Q : D → VEnv → Prop} (h : wp f e (fun d e1 => wp (bdM lo fun l => bdM hi fun u => M.opt (gSl d.fz l u)) e1 Q E) E) : wp (vSlE f lo hi) e Q E :=
  wp_bnd (wp_mono h (fun _ _ h => h) fun _ _ _ h => h)
theorem wp_optS {o : Option D} {e : VEnv} {E : XQ} {Q : D → VEnv → Prop} (h : ev o fun a => Q a e) : wp (M.opt o) e Q E := wp_opt h
/-- all keyword-only parameters given: the values, the keywords' behind them -/
theorem kbn_of {K : PySem.W.Frag} {x qual : Str} {st : Stmt} {f : Addr} {fd : FuncData} {ps ks : List Str} {n : Nat} (F : Fun K x qual st f fd)
    (h : ∀ (kV doc pm : Value) (an : Option Addr) (cdv ct : Value) (us ws : List Value), us.length = n → ws.length = ks.length → bindArgs (PySem.W.fnOf x qual (defArgs st) (defBody st) (defScope st) .none kV doc pm an cdv ct) ⟨us, ks.zip ws⟩ = pure (ps.zip (us ++ ws))) : KBn K fd ps n ks gApp gApp := by
  obtain ⟨oc, od, kV, doc, pm, an, cdv, ct, osl, rfl, lk, hcd⟩ := F.ex
  exact ⟨fun s us ws _ l1 l2 => .of_eq (h kV doc pm an cdv ct us ws l1 l2), fun r1 r2 => r1.append r2⟩
/-- the one keyword-only parameter lacks: its default, a truth value, behind the values -/
theorem dfl_of {K : PySem.W.Frag} {x qual nm : Str} {st : Stmt} {f : Addr} {fd : FuncData} {ps : List Str} {n : Nat} {b : Bool} (F : FunD K x qual (defArgs st) (defBody st) (defScope st) [] [(nm, .bl b)] f fd)
    (h : ∀ (D : Addr) (doc pm : Value) (an : Option Addr) (cdv ct : Value) (us : List Value) (v : Value), us.length = n → KwChain D [(nm, v)] (bindArgs (PySem.W.fnOf x qual (defArgs st) (defBody st) (defScope st) .none (.ref D) doc pm an cdv ct) ⟨us, []⟩) (ps.zip (us ++ [v]))) : ∃ g, KBn K fd ps n [] g (gDfl (.bl b)) := by
  obtain ⟨mv, hk⟩ := F.kbinds0 n [] [(nm, .bl b)] (fun us mv ws => us ++ mv) (List.cons_ne_nil _ _) (fun q hq => hq) (fun r1 r2 _ => r1.append r2) (fun D doc pm an cdv ct us mv ws h1 h2 h3 => by
    match mv, ws, h2, h3 with
    | [v], [], _, _ => exact h D doc pm an cdv ct us v h1)
  exact ⟨_, hk⟩
end
section
set_option Elab.async false
set_option linter.all false
set_option maxRecDepth 100000
set_option maxHeartbeats 1000000
/-! ### a property of a frozen instance, whose getter raises nothing -/
def vProp (c m : Str) (p : VEnv → Option D) (F : FN) : M D := fun e => match vMeth c m p F [] e with
  | some (.ok d e') => some (.ok d e')
  | _ => none
def wNo : WX := fun _ _ _ _ => False
section
variable {X : Cx} {G : Gx} {z : Zx} {W : WX} {e a b o : Expr} {pa pb : VEnv → Option D} {pos : Pos}
theorem prop_go {I H : Hp} {ts : List V} {dts : List D} {σ : L2.St} {env : VEnv} {FT FS : List Addr} {Q : VK} {c m : Str} {F : FN} (S : Stt G z I H ts dts σ env FT FS) (h : GE G z W I ts dts σ Q (vProp c m pa F env)) : ∃ d, pa env = some d ∧ d.frozen = true ∧ insOk c m d = true ∧ ∀ v, Rep G I v d → spOf G F [false] [v] H Q (fun _ _ _ => False) := by
  have h0 : GE G z wNo I ts dts σ Q (vMeth c m pa F [] env) := by
    unfold vProp at h
    cases q : vMeth c m pa F [] env with
    | none => rw [q] at h; exact h.elim
    | some r =>
      rw [q] at h
      cases r with
      | ok d e' => exact h
      | exc _ _ _ => exact h.elim
  obtain ⟨d, h1, h2, h3, h4⟩ := meth_go (Same.refl _) S h0 (.inl rfl)
  refine ⟨d, h1, h2, h3, fun v rv => ?_⟩
  obtain ⟨I', ts', dts', env', FT', FS', S', q⟩ := h4 v rv
  exact q [] I' H FT' FS' (Same.refl _) S' rfl
theorem ve_prop {F : FN} {g : Addr} {fd : FuncData} {ps : List Str} {k : Nat} (c m : Str) (cls : Cls X.K (G.cl c)) {p : Addr} (pp : PropOf X.K (G.cl c) m p g) (FO : FnOk X.prog X.w X.K X.mg X.base (L2.CX X.prog X.w) k g fd ps (spOf G F [false])) (hr : Room (k + 1) X.A) (hb : Binds X.K fd ps []) (ha : PE X a (RP G z pa))
    (hab : attributeBase a m X.env (eval a X.env) = eval a X.env := by rfl) : PE X (.Attribute a m pos) (RE G z W (vProp c m pa F)) :=
  peImp (pe_prop (dvs := []) (ds := []) (E := fun _ _ _ => False) ha cls pp FO hr hb .nil (fun _ _ _ _ _ _ _ c => by
    obtain ⟨_, _, _, _, _, _, _, _, _, _, _, _, c⟩ := c
    exact c.elim) hab) fun σ H Q h => by
    obtain ⟨I, ts, dts, env, FT, FS, S, h⟩ := RE.to h
    obtain ⟨d, h1, h2, h3, h4⟩ := prop_go S h
    refine ⟨I, ts, dts, env, FT, FS, d, S, h1, fun v F' o => ?_⟩
    obtain ⟨a', dx, fs, ev, hi, _⟩ := own_insM S.sub o h3
    exact ⟨a', dx, fs, ev, hi, by rw [← ev]; exact h4 v (Own.rep _ _ F' h2 o).2⟩
end
theorem wp_Prop {c m : Str} {p : VEnv → Option D} {F : FN} {e : VEnv} {E : XQ} {Q : D → VEnv → Prop} (h : wp (vMeth c m p F []) e Q (fun _ _ _ => False)) : wp (vProp c m p F) e Q E := by
  unfold wp at h ⊢
  unfold vProp
  cases q : vMeth c m p F [] e with
  | none => rw [q] at h; exact h.elim
  | some r =>
    rw [q] at h
    cases r with
    | ok d e' => exact h
    | exc _ _ _ => exact h.elim
/-- an init def with one keyword-only parameter, whose default is a truth value -/
structure DMK (G : Gx) (x qual : Str) (st : Stmt) (ps ks : List Str) (b : Bool) (n : Nat) (f : Addr) (fd : FuncData) : Prop where
  fn : Fun G.K x qual st f fd
  bk : KBn G.K fd ps n ks gApp gApp
  b0 : ∃ g, KBn G.K fd ps n [] g (gDfl (.bl b))
/-! ### isinstance of a value that comes with effects -/
section
variable {X : Cx} {G : Gx} {z : Zx} {W : WX} {a : Expr} {fa : M D} {pos : Pos}
theorem ve_isiK (T : String) {p p2 : Pos} {y : Str} (hm : X.mg "isinstance" = none) (hm2 : X.mg y = none) (hv2 : bootBuiltins y = some (.type T)) (ha : PE X a (RE G z W fa)) (hgl : Gl X "isinstance" := by rfl) (hgl2 : Gl X y := by rfl) (hK : X.K = G.K := by rfl)
    (hn : y ≠ "__name__" := by decide) (hdb : (y == ("__debug__" : Str)) = false := by decide)
    (hs : starEach [a, .Name y p2] X.env = (false, eval a X.env) :: starEach [.Name y p2] X.env := by rfl) (hs2 : starEach [.Name y p2] X.env = (false, eval (.Name y p2) X.env) :: starEach [] X.env := by rfl) (hpl : (backTo pos (starEach [.Name y p2] X.env)).any (·.1) = false := by rfl) :
    PE X (.Call (.Name "isinstance" p) [a, .Name y p2] [] pos) (RE G z W (vOp1 (gIsiK T) fa)) :=
  peImp (pe_callB call_isi hgl hm (by decide +kernel) (pa_cons ha (pa_cons (pe_bltn (v := .ty T) hgl2 hm2 hv2 rfl hn hdb) pa_nil hs2) hs) (by decide) (by decide) hs hpl) fun σ H Q h => by
    obtain ⟨I, ts, dts, env, FT, FS, S, h⟩ := RE.to h
    refine RE.of S (GE.bnd (g := GE G z W I ts dts σ Q) (Same.refl _) h (fun c x e h => h) (fun h => h) fun d1 e1 h1 u I1 H1 FT1 FS1 s1 S1 => ?_)
    obtain ⟨r, e3, hq⟩ := GE.optGo h1
    obtain ⟨r', e4, e5⟩ := Option.bind_eq_some_iff.mp e3
    obtain ⟨n, e6, e7⟩ := Option.bind_eq_some_iff.mp e4
    obtain ⟨k, e8, e9⟩ := Option.map_eq_some_iff.mp e7
    subst e9
    have e10 : some (D.bl k) = some r := e5
    cases e10
    obtain ⟨Fv, FT3, ev, ov, fv, S3⟩ := S1.pop
    refine ⟨u, .ty T, _, _, k, rfl, .ty T, ?_, kit_ty e8, hq _ _ _ _ _ s1 (S3.pushR (v := .bl k) rfl)⟩
    rw [hK]
    exact own_tyK S3.sub ov e6
end
end
section
set_option Elab.async false
set_option linter.all false
set_option maxRecDepth 100000
set_option maxHeartbeats 1000000
/-! ### places in an owned tree of lists, instances and dicts -/
inductive Stp where
  | ix (i : Int)
  | fl (c f : Str)
  | ky (k : Key)
def kidOf : D → Stp → Option Nat
  | .lst true l, .ix i => L2.ixN l.length i
  | .ins true c ns _, .fl c' f => if c' = c then kIx ns f else none
  | .dk true ks _, .ky k => kIx ks k
  | _, _ => none
def kidsD : D → List D
  | .lst _ l => l
  | .ins _ _ _ l => l
  | .dk _ _ l => l
  | _ => []
def setKids : D → List D → D
  | .lst m _, l => .lst m l
  | .ins m c ns _, l => .ins m c ns l
  | .dk m ks _, l => .dk m ks l
  | d, _ => d
def atT : D → List Stp → Option D
  | d, [] => some d
  | d, s :: p => (kidOf d s).bind fun j => ((kidsD d)[j]?).bind fun c => atT c p
def setT : D → List Stp → D → Option D
  | _, [], x => some x
  | d, s :: p, x => (kidOf d s).bind fun j => ((kidsD d)[j]?).bind fun c => (setT c p x).map fun c' => setKids d ((kidsD d).set j c')
def kidV (G : Gx) : HO → Stp → Option V
  | .lst ws, .ix i => L2.atI ws i
  | .ins C _ fs, .fl c f => if C = G.cl c then fs.lookup f else none
  | .dK kvs, .ky k => valV kvs k
  | _, _ => none
def navT (G : Gx) (H : Hp) : V → List Stp → Option V
  | v, [] => some v
  | .ref a, s :: p => (H a).bind fun o => (kidV G o s).bind fun w => navT G H w p
  | _, _ :: _ => none
section
variable {G : Gx} {z : Zx} {W : WX} {I I' H H' : Hp} {ts : List V} {dts : List D} {σ : L2.St} {env : VEnv} {FT FS : List Addr}
theorem navT_ref {a : Addr} {o : HO} {s : Stp} {p : List Stp} (h : H a = some o) : navT G H (.ref a) (s :: p) = (kidV G o s).bind fun w => navT G H w p := by
  show (H a).bind _ = _
  rw [h]; rfl
theorem navT_mono (s : Same H H') : ∀ {is : List Stp} {v u : V}, navT G H v is = some u → navT G H' v is = some u
  | [], v, u, h => h
  | st :: is, v, u, h => by
    cases v with
    | ref a =>
      obtain ⟨o, e1, e2⟩ := Option.bind_eq_some_iff.mp (show ((H a).bind fun o => (kidV G o st).bind fun w => navT G H w is) = some u from h)
      obtain ⟨w, e3, e4⟩ := Option.bind_eq_some_iff.mp e2
      rw [navT_ref (s _ _ e1), e3]
      exact navT_mono s e4
    | _ => cases h
theorem navT_snoc : ∀ {is : List Stp} {v u : V} {i : Stp}, navT G H v (is ++ [i]) = some u → ∃ a o, navT G H v is = some (.ref a) ∧ H a = some o ∧ kidV G o i = some u
  | [], v, u, i, h => by
    cases v with
    | ref a =>
      obtain ⟨o, e1, e2⟩ := Option.bind_eq_some_iff.mp (show ((H a).bind fun o => (kidV G o i).bind fun w => navT G H w []) = some u from h)
      obtain ⟨w, e3, e4⟩ := Option.bind_eq_some_iff.mp e2
      cases e4
      exact ⟨a, o, rfl, e1, e3⟩
    | _ => cases h
  | j :: is, v, u, i, h => by
    cases v with
    | ref a =>
      obtain ⟨o, e1, e2⟩ := Option.bind_eq_some_iff.mp (show ((H a).bind fun o => (kidV G o j).bind fun w => navT G H w (is ++ [i])) = some u from h)
      obtain ⟨w, e3, e4⟩ := Option.bind_eq_some_iff.mp e2
      obtain ⟨b, us, h1, h2, h3⟩ := navT_snoc e4
      exact ⟨b, us, by rw [navT_ref e1, e3]; exact h1, h2, h3⟩
    | _ => cases h
theorem lookup_kIx {f : Str} : ∀ {ns : List Str} {ws : List V}, ws.length = ns.length → (ns.zip ws).lookup f = kAt ns ws f
  | [], _, _ => rfl
  | n :: ns, [], h => by simp at h
  | n :: ns, w :: ws, h => by
    rw [List.zip_cons_cons, List.lookup_cons]
    unfold kAt kIx
    rw [List.findIdx?_cons]
    by_cases e : n = f
    · subst e; simp
    · have e' : (f == n) = false := by simpa using fun q => e q.symm
      rw [e', lookup_kIx (by simpa using h)]
      simp [e, kAt, kIx, Option.bind_map]
      rfl
/-- one step down, and the way to change what is there -/
theorem Own.kid {d c : D} {v : V} {F : List Addr} {s : Stp} {j : Nat} (h : Own G I H v d F) (e : kidOf d s = some j) (ej : (kidsD d)[j]? = some c) : ∃ a o ws F', v = .ref a ∧ H a = some o ∧ I a = none ∧ F = a :: F' ∧ Owns G I H ws (kidsD d) F' ∧ (∀ w, ws[j]? = some w → kidV G o s = some w) ∧
    ∀ (I' H' : Hp) (l' : List D) (F'' : List Addr), H' a = some o → I' a = none → Owns G I' H' ws l' F'' → Own G I' H' v (setKids d l') (a :: F'') := by
  cases d with
  | lst m l =>
    cases m with
    | false => cases s <;> cases e
    | true =>
      cases s with
      | ix i =>
        obtain ⟨a, ws, F', ev, ha, i0, r, eF⟩ := h
        refine ⟨a, _, ws, F', ev, ha, i0, eF, r, fun w hw => ?_, fun I' H' l' F'' h1 h2 r' => ⟨a, ws, F'', ev, h1, h2, r', rfl⟩⟩
        have e : L2.ixN l.length i = some j := e
        show L2.atI ws i = some w
        unfold L2.atI
        rw [r.len, e]; exact hw
      | _ => cases e
  | ins m c' ns l =>
    cases m with
    | false => cases s <;> cases e
    | true =>
      cases s with
      | fl c2 f =>
        obtain ⟨a, dx, ws, F', ev, ha, hl, i0, r, eF⟩ := h
        refine ⟨a, _, ws, F', ev, ha, i0, eF, r, fun w hw => ?_, fun I' H' l' F'' h1 h2 r' => ⟨a, dx, ws, F'', ev, h1, hl, h2, r', rfl⟩⟩
        have e2 : (if c2 = c' then kIx ns f else none) = some j := e
        split at e2
        · rename_i ec
          subst ec
          show (if G.cl c2 = G.cl c2 then (ns.zip ws).lookup f else none) = some w
          rw [if_pos rfl, lookup_kIx hl]
          unfold kAt
          rw [e2]; exact hw
        · cases e2
      | _ => cases e
  | dk m ks l =>
    cases m with
    | false => cases s <;> cases e
    | true =>
      cases s with
      | ky k =>
        obtain ⟨a, ws, F', ev, ha, hl, i0, r, eF⟩ := h
        refine ⟨a, _, ws, F', ev, ha, i0, eF, r, fun w hw => ?_, fun I' H' l' F'' h1 h2 r' => ⟨a, ws, F'', ev, h1, hl, h2, r', rfl⟩⟩
        have e : kIx ks k = some j := e
        show valV (ks.zip ws) k = some w
        rw [valV_zip hl]
        unfold kAt
        rw [e]; exact hw
      | _ => cases e
  | _ => cases s <;> cases e
theorem Owns.holeI : ∀ {l : List D} {ws : List V} {F : List Addr} {j : Nat} {d : D}, Owns G I H ws l F → l[j]? = some d → F.Nodup → ∃ w Fj, ws[j]? = some w ∧ Own G I H w d Fj ∧ (∀ b ∈ Fj, b ∈ F) ∧ Fj.Nodup ∧
    ∀ (I' H' : Hp) (d' : D) (Fj' Fx : List Addr), Same I I' → (∀ b ∈ F, b ∉ Fj → H' b = H b ∧ I' b = none) → Own G I' H' w d' Fj' → Fj'.Nodup → (∀ b ∈ Fj', b ∈ Fj ++ Fx) → (∀ b ∈ Fx, b ∉ F) → ∃ F', Owns G I' H' ws (l.set j d') F' ∧ F'.Nodup ∧ ∀ b ∈ F', b ∈ F ++ Fx
  | c :: l, u :: ws, F, 0, d, ⟨Fa, Fb, e, h1, h2⟩, hj, nd => by
    subst e
    simp at hj; subst hj
    have n := List.nodup_append.mp nd
    refine ⟨u, Fa, rfl, h1, fun b hb => List.mem_append_left _ hb, n.1, fun I' H' d' Fj' Fx s hh o' nd' sb dx => ⟨Fj' ++ Fb, ⟨Fj', Fb, rfl, o', Owns.up s _ _ _ (fun b hb => hh b (List.mem_append_right _ hb) fun q => n.2.2 b q b hb rfl) h2⟩, ?_, fun b hb => ?_⟩⟩
    · refine List.nodup_append.mpr ⟨nd', n.2.1, fun b hb c hc e => ?_⟩
      subst e
      rcases List.mem_append.mp (sb b hb) with q | q
      · exact n.2.2 b q b hc rfl
      · exact dx b q (List.mem_append_right _ hc)
    · rcases List.mem_append.mp hb with q | q
      · rcases List.mem_append.mp (sb b q) with w | w
        · exact List.mem_append_left _ (List.mem_append_left _ w)
        · exact List.mem_append_right _ w
      · exact List.mem_append_left _ (List.mem_append_right _ q)
  | c :: l, u :: ws, F, j + 1, d, ⟨Fa, Fb, e, h1, h2⟩, hj, nd => by
    subst e
    have n := List.nodup_append.mp nd
    obtain ⟨w, Fj, a1, a2, a3, a4, a5⟩ := Owns.holeI (j := j) h2 (by simpa using hj) n.2.1
    refine ⟨w, Fj, by simpa using a1, a2, fun b hb => List.mem_append_right _ (a3 b hb), a4, fun I' H' d' Fj' Fx s hh o' nd' sb dx => ?_⟩
    obtain ⟨F', r, nd2, sb2⟩ := a5 I' H' d' Fj' Fx s (fun b hb nb => hh b (List.mem_append_right _ hb) nb) o' nd' sb (fun b hb q => dx b hb (List.mem_append_right _ q))
    refine ⟨Fa ++ F', ⟨Fa, F', rfl, Own.up s _ _ _ (fun b hb => hh b (List.mem_append_left _ hb) fun q => n.2.2 b hb b (a3 b q) rfl) h1, r⟩, List.nodup_append.mpr ⟨n.1, nd2, fun b hb c hc e => ?_⟩, fun b hb => ?_⟩
    · subst e
      rcases List.mem_append.mp (sb2 b hc) with q | q
      · exact n.2.2 b hb b q rfl
      · exact dx b q (List.mem_append_left _ hb)
    · rcases List.mem_append.mp hb with q | q
      · exact List.mem_append_left _ (List.mem_append_left _ q)
      · rcases List.mem_append.mp (sb2 b q) with w | w
        · exact List.mem_append_left _ (List.mem_append_right _ w)
        · exact List.mem_append_right _ w
  | [], _, _, _, _, _, hj, _ => by simp at hj
  | _ :: _, [], _, _, _, h, _, _ => h.elim
/-- what stands at a place of an owned tree, and the way to change it -/
theorem Own.lens : ∀ {is : List Stp} {d x : D} {v : V} {F : List Addr}, Own G I H v d F → F.Nodup → atT d is = some x → ∃ u Fu, navT G H v is = some u ∧ Own G I H u x Fu ∧ (∀ b ∈ Fu, b ∈ F) ∧ Fu.Nodup ∧
    ∀ (I' H' : Hp) (x' : D) (Fu' Fx : List Addr), Same I I' → (∀ b ∈ F, b ∉ Fu → H' b = H b ∧ I' b = none) → Own G I' H' u x' Fu' → Fu'.Nodup → (∀ b ∈ Fu', b ∈ Fu ++ Fx) → (∀ b ∈ Fx, b ∉ F) → ∃ d' F', setT d is x' = some d' ∧ Own G I' H' v d' F' ∧ F'.Nodup ∧ ∀ b ∈ F', b ∈ F ++ Fx
  | [], d, x, v, F, h, nd, e => by
    cases e
    exact ⟨v, F, rfl, h, fun b hb => hb, nd, fun I' H' x' Fu' Fx s hh o' nd' sb dx => ⟨x', Fu', rfl, o', nd', sb⟩⟩
  | s :: is, d, x, v, F, h, nd, e => by
    obtain ⟨j, e1, e⟩ := Option.bind_eq_some_iff.mp (show ((kidOf d s).bind fun j => ((kidsD d)[j]?).bind fun c => atT c is) = some x from e)
    obtain ⟨c, e2, e3⟩ := Option.bind_eq_some_iff.mp e
    obtain ⟨a, o, ws, F', ev, ha, ia, eF, r, kv, back⟩ := h.kid e1 e2
    subst eF
    have n := List.nodup_cons.mp nd
    obtain ⟨w, Fj, a1, a2, a3, a4, a5⟩ := r.holeI e2 n.2
    obtain ⟨u, Fu, b1, b2, b3, b4, b5⟩ := Own.lens a2 a4 e3
    refine ⟨u, Fu, by rw [ev, navT_ref ha, kv w a1]; exact b1, b2, fun b hb => List.mem_cons_of_mem _ (a3 b (b3 b hb)), b4, fun I' H' x' Fu' Fx s' hh o' nd' sb dx => ?_⟩
    obtain ⟨c', Fj', t1, t2, t3, t4⟩ := b5 I' H' x' Fu' Fx s' (fun b hb nb => hh b (List.mem_cons_of_mem _ (a3 b hb)) nb) o' nd' sb (fun b hb q => dx b hb (List.mem_cons_of_mem _ (a3 b q)))
    obtain ⟨F'', r', nd2, sb2⟩ := a5 I' H' c' Fj' Fx s' (fun b hb nb => hh b (List.mem_cons_of_mem _ hb) fun q => nb (b3 b q)) t2 t3 t4 (fun b hb q => dx b hb (List.mem_cons_of_mem _ q))
    have an : a ∉ Fu := fun q => n.1 (a3 a (b3 a q))
    obtain ⟨hA, iA⟩ := hh a List.mem_cons_self an
    refine ⟨setKids d ((kidsD d).set j c'), a :: F'', ?_, back I' H' _ F'' (hA.trans ha) iA r', List.nodup_cons.mpr ⟨fun q => ?_, nd2⟩, fun b hb => ?_⟩
    · show ((kidOf d s).bind fun j => ((kidsD d)[j]?).bind fun c => (setT c is x').map fun c' => setKids d ((kidsD d).set j c')) = _
      rw [e1]
      simp [e2, t1]
    · rcases List.mem_append.mp (sb2 a q) with w | w
      · exact n.1 w
      · exact dx a w List.mem_cons_self
    · rcases List.mem_cons.mp hb with q | q
      · rw [q]; exact List.mem_append_left _ List.mem_cons_self
      · rcases List.mem_append.mp (sb2 b q) with w | w
        · exact List.mem_append_left _ (List.mem_cons_of_mem _ w)
        · exact List.mem_append_right _ w
/-- slot k's tree at a place -/
theorem Stt.lens (S : Stt G z I H ts dts σ env FT FS) {k : Nat} {d x : D} {is : List Stp} (hk : env[k]? = some (some d)) (ht : atT d is = some x) {Fx : List Addr} (nx : (Fx ++ (FT ++ FS)).Nodup) (fx : Fresh z Fx) :
    ∃ v u Fu, σ[k]? = some (some v) ∧ navT G H v is = some u ∧ Own G I H u x Fu ∧ (Fu ++ Fx).Nodup ∧ (∀ b ∈ Fu, (z.H0 b = none ∨ b ∈ z.L) ∧ I b = none ∧ b ∉ FT) ∧ ∀ (I' H' : Hp) (x' : D) (Fu' : List Addr), Same I I' → Same I' H' → (∀ b o, H b = some o → b ∉ Fu → H' b = some o) → (∀ b o, H b = some o → ∃ o', H' b = some o') → (∀ b o, I' b = some o → I b = none → H b = none ∨ b ∈ Fu) → Own G I' H' u x' Fu' → Fu'.Nodup → (∀ b ∈ Fu', b ∈ Fu ++ Fx) →
      ∃ d' FS', setT d is x' = some d' ∧ Stt G z I' H' ts dts σ (env.set k (some d')) FT FS' := by
  obtain ⟨v, p, Fk, Fr, a1, a2, a3, a4, a5, a6, a7, a8, S1⟩ := S.hole hk
  have nda := List.nodup_append.mp a7
  obtain ⟨u, Fu, b1, b2, b3, b4, b5⟩ := Own.lens a4 nda.1 ht
  have hFS : ∀ b, b ∈ FS ↔ b ∈ Fk ++ Fr := fun b => a6.mem_iff
  have nxd := nodup_disj nx
  have FxFk : ∀ b ∈ Fx, b ∉ Fk := fun b hb q => nxd b hb (List.mem_append_right _ ((hFS b).mpr (List.mem_append_left _ q)))
  have dis : ∀ b ∈ Fk, b ∉ FT ++ Fr := nodup_disj a7
  have dom := Own.dom _ _ _ a4
  refine ⟨v, u, Fu, a2, b1, b2, List.nodup_append.mpr ⟨b4, (List.nodup_append.mp nx).1, fun b hb c hc e => by subst e; exact FxFk b hc (b3 b hb)⟩, fun b hb => ⟨a8 b (b3 b hb), (dom b (b3 b hb)).2, fun q => dis b (b3 b hb) (List.mem_append_left _ q)⟩, fun I' H' x' Fu' s s' kH dm kI o' nd' sb => ?_⟩
  have stay : ∀ b, (∃ o, H b = some o) → I b = none → b ∉ Fu → H' b = H b ∧ I' b = none := fun b ⟨o, e⟩ i nb => by
    refine ⟨(kH b o e nb).trans e.symm, ?_⟩
    cases q : I' b with
    | none => rfl
    | some o2 =>
      rcases kI b o2 q i with w | w
      · rw [w] at e; cases e
      · exact (nb w).elim
  obtain ⟨d', F', t1, t2, t3, t4⟩ := b5 I' H' x' Fu' Fx s (fun b hb nb => stay b (dom b hb).1 (dom b hb).2 nb) o' nd' sb FxFk
  have S2 : Stt G z I' H' ts dts σ (env.set k none) FT Fr := by
    refine S1.go Fu s s' (fun b hb => ?_) (fun b o e n => ?_) (fun b hb => a8 b (b3 b hb)) kH dm
    · have nb : b ∉ Fu := fun q => dis b (b3 b q) hb
      rcases List.mem_append.mp hb with q | q
      · obtain ⟨x1, x2, _⟩ := S1.oT.dom b q; exact stay b x1 x2 nb
      · obtain ⟨x1, x2⟩ := S1.oS.dom b q; exact stay b x1 x2 nb
    · rcases kI b o e n with w | w
      · exact .inl (S1.new w).1
      · exact a8 b (b3 b w)
  have hk2 : (env.set k none)[k]? = some none := by
    have : k < env.length := (List.getElem?_eq_some_iff.mp hk).1
    simp [this]
  obtain ⟨FS', S3⟩ := S2.fill (x := some v) (d := some d') (Fk := F') hk2 a1 ⟨fun u hu => by rw [a3 u hu], _, rfl, t2, fun hp b hb => by
    rcases List.mem_append.mp (t4 b hb) with w | w
    · exact a5 hp b w
    · exact fx b w⟩ (by
    refine List.nodup_append.mpr ⟨t3, nda.2.1, fun b hb c hc e => ?_⟩
    subst e
    rcases List.mem_append.mp (t4 b hb) with w | w
    · exact dis b w hc
    · rcases List.mem_append.mp hc with u | u
      · exact nxd b w (List.mem_append_left _ u)
      · exact nxd b w (List.mem_append_right _ ((hFS b).mpr (List.mem_append_right _ u)))) (fun b hb => by
    rcases List.mem_append.mp (t4 b hb) with w | w
    · exact a8 b w
    · exact .inl (fx b w))
  rw [List.set_set, set_same_of a2] at S3
  exact ⟨d', FS', t1, S3⟩
end
end
section
set_option Elab.async false
set_option linter.all false
set_option maxRecDepth 100000
set_option maxHeartbeats 1000000
/-! ### places written down: steps with readings -/
inductive PSt where
  | ix (p : VEnv → Option D)
  | fl (c f : Str)
  | ky (p : VEnv → Option D)
def ev1 : PSt → VEnv → Option Stp
  | .ix p, e => ((p e).bind asInt).map .ix
  | .fl c f, _ => some (.fl c f)
  | .ky p, e => ((p e).bind asKey).map .ky
def evT : List PSt → VEnv → Option (List Stp)
  | [], _ => some []
  | q :: ps, e => (ev1 q e).bind fun s => (evT ps e).map (s :: ·)
def pathT (k : Nat) (ps : List PSt) (e : VEnv) : Option (D × List Stp × D) := ((e[k]?).join).bind fun d => (evT ps e).bind fun is => (atT d is).map fun m => (d, is, m)
theorem pathT_eq {k : Nat} {ps : List PSt} {e : VEnv} {d : D} {is : List Stp} {m : D} (h : pathT k ps e = some (d, is, m)) : e[k]? = some (some d) ∧ evT ps e = some is ∧ atT d is = some m := by
  obtain ⟨d0, h1, h⟩ := Option.bind_eq_some_iff.mp h
  obtain ⟨is0, h2, h⟩ := Option.bind_eq_some_iff.mp h
  obtain ⟨m0, h3, h⟩ := Option.map_eq_some_iff.mp h
  cases h
  exact ⟨join_eq h1, h2, h3⟩
theorem pathT_go {k : Nat} {ps : List PSt} {e : VEnv} {d : D} {is : List Stp} {m : D} (h1 : (e[k]?).join = some d) (h2 : evT ps e = some is) (h3 : atT d is = some m) : pathT k ps e = some (d, is, m) := by
  unfold pathT
  rw [h1, Option.bind_some, h2, Option.bind_some, h3]
  rfl
def asOL : D → Option (List D)
  | .lst true m => some m
  | _ => none
theorem asOL_eq {d : D} {m : List D} (h : asOL d = some m) : d = .lst true m := by
  cases d with
  | lst b l => cases b with
    | true => cases h; rfl
    | false => cases h
  | _ => cases h
def wrT (k : Nat) (x : D × List Stp × D) (y : D) (e : VEnv) : Option (Res Fl) := (setT x.1 x.2.1 y).map fun d' => .ok .nx (e.set k (some d'))
/-- A..append(f), f laid anew or read -/
def sTApp (k : Nat) (ps : List PSt) (fa : VEnv → Option D) : M Fl := fun e => (pathT k ps e).bind fun x => (asOL x.2.2).bind fun m => (fa e).bind fun r => if m.length < sizeLine then wrT k x (.lst true (m ++ [r])) e else none
/-- A..[p] = f -/
def sTPut (k : Nat) (ps : List PSt) (p : VEnv → Option D) (f : M D) : M Fl := f.bnd fun r e => (pathT k ps e).bind fun x => (asOL x.2.2).bind fun m => ((p e).bind asInt).bind fun i => (ixSet m i r).bind fun m' => wrT k x (.lst true m') e
/-- A..[p] = f, a dict -/
def sTDput (k : Nat) (ps : List PSt) (p : VEnv → Option D) (f : M D) : M Fl := f.bnd fun r e => (pathT k ps e).bind fun x => (p e).bind fun y => if r.frozen then (putDD x.2.2 y r).bind fun d' => wrT k x d' e else none
/-- A.. handed on: frozen from now on -/
def vMvT (k : Nat) (ps : List PSt) : M D := fun e => (pathT k ps e).bind fun x => (setT x.1 x.2.1 x.2.2.fz).map fun d' => .ok x.2.2.fz (e.set k (some d'))
section
variable {G : Gx} {z : Zx} {W : WX} {I I' H H' : Hp} {ts : List V} {dts : List D} {σ : L2.St} {env : VEnv} {FT FS : List Addr} {ms : List Bool}
def RNT (G : Gx) (z : Zx) (k : Nat) (ps : List PSt) : TE := fun σ H Q => ∃ I ts dts env FT FS is v u, Stt G z I H ts dts σ env FT FS ∧ evT ps env = some is ∧ σ[k]? = some (some v) ∧ navT G H v is = some u ∧ Q u H
theorem evT_snoc : ∀ {ps : List PSt} {env : VEnv} {js : List Stp} {p : PSt}, evT (ps ++ [p]) env = some js → ∃ is i, evT ps env = some is ∧ ev1 p env = some i ∧ js = is ++ [i]
  | [], env, js, p, h => by
    obtain ⟨i, e1, h⟩ := Option.bind_eq_some_iff.mp (show (ev1 p env).bind (fun i => (evT [] env).map (i :: ·)) = some js from h)
    cases h
    exact ⟨[], i, rfl, e1, rfl⟩
  | q :: ps, env, js, p, h => by
    obtain ⟨i, e1, h⟩ := Option.bind_eq_some_iff.mp (show (ev1 q env).bind (fun i => (evT (ps ++ [p]) env).map (i :: ·)) = some js from h)
    obtain ⟨ks, e2, h⟩ := Option.map_eq_some_iff.mp h
    obtain ⟨is, j, h1, h2, h3⟩ := evT_snoc e2
    subst h3 h
    refine ⟨i :: is, j, ?_, h2, rfl⟩
    show (ev1 q env).bind (fun i => (evT ps env).map (i :: ·)) = _
    rw [e1]
    simp [h1]
/-- expressions that lay new things alone, or read -/
def RFo (G : Gx) (z : Zx) (fa : VEnv → Option D) : TE := fun σ H Q => ∃ I ts dts env FT FS, Stt G z I H ts dts σ env FT FS ∧ ∃ d, fa env = some d ∧ ∀ v I' H' FT' FS', Same I I' → Same H H' → Stt G z I' H' (v :: ts) (d :: dts) σ env FT' FS' → Q v H'
def oP (p : VEnv → Option D) : VEnv → Option D := fun e => (p e).bind fun d => if d.frozen then some d else none
def oFz (f : VEnv → Option D) : VEnv → Option D := fun e => (f e).map D.fz
def oC (d : D) : VEnv → Option D := fun _ => some d
def RFa (G : Gx) (z : Zx) (fa : VEnv → Option (List D)) : TA := fun σ H Q => ∃ I ts dts env FT FS, Stt G z I H ts dts σ env FT FS ∧ ∃ ds, fa env = some ds ∧ ∀ vs I' H' FT' FS', Same I I' → Same H H' → Stt G z I' H' (vs ++ ts) (ds ++ dts) σ env FT' FS' → vs.length = ds.length → Q vs H'
def oNil : VEnv → Option (List D) := fun _ => some []
def oCons (f : VEnv → Option D) (g : VEnv → Option (List D)) : VEnv → Option (List D) := fun e => (f e).bind fun d => (g e).map (d :: ·)
def oLst (g : VEnv → Option (List D)) : VEnv → Option D := fun e => (g e).bind fun ds => if ds.length ≤ sizeLine then some (.lst true ds) else none
def oTup (g : VEnv → Option (List D)) : VEnv → Option D := fun e => (g e).bind fun ds => if ds.length ≤ sizeLine then some (.tup (D.fzs ds)) else none
/-- the list at a place gets one more -/
theorem appT_go {k : Nat} {d r : D} {is : List Stp} {m : List D} {e' : VEnv} {v v' : V} {a : Addr} {D' : Ends} {I0 : Hp} (S : Stt G z I H [v'] [r] σ e' FT FS) (s0 : Same I0 I) (hk : e'[k]? = some (some d)) (ht : atT d is = some (.lst true m)) (hv : σ[k]? = some (some v)) (hn : navT G H v is = some (.ref a)) (hz : m.length < sizeLine)
    (h : GS G z W I0 D' (wrT k (d, is, .lst true m) (.lst true (m ++ [r])) e')) : ∃ ws, H a = some (.lst ws) ∧ ws.length < sizeLine ∧ D'.nx σ (upd H a (.lst (ws ++ [v']))) := by
  have nd := S.nd
  obtain ⟨F1, F2, e, o, f, S7⟩ := S.pop
  subst e
  rw [List.append_assoc] at nd
  obtain ⟨v2, u2, Fu, w1, w2, w3, w4, w5, w6⟩ := S7.lens hk ht nd f
  rw [hv] at w1
  cases w1
  rw [hn] at w2
  cases w2
  obtain ⟨a2, ws, F0, ea, ha, ia, r0, eF⟩ := w3
  cases ea
  subst eF
  have n1 := List.nodup_append.mp w4
  have n2 := List.nodup_cons.mp n1.1
  have an : a ∉ F0 ++ F1 := fun q => (List.mem_append.mp q).elim n2.1 fun q => n1.2.2 a List.mem_cons_self a q rfl
  have o1 : Owns G I H [v'] [r] F1 := ⟨F1, [], by simp, o, rfl⟩
  have oall : Owns G I (upd H a (.lst (ws ++ [v']))) (ws ++ [v']) (m ++ [r]) (F0 ++ F1) := (r0.app o1).cast fun b hb => upd_ne fun q => an (q ▸ hb)
  obtain ⟨d', FS', t1, S8⟩ := w6 I (upd H a (.lst (ws ++ [v']))) (.lst true (m ++ [r])) (a :: (F0 ++ F1)) (Same.refl _) (fun b ob e => by rw [upd_ne (fun q => by rw [q, ia] at e; cases e)]; exact S7.sub b ob e)
    (fun b ob e n => by rw [upd_ne (fun q => n (by rw [q]; exact List.mem_cons_self))]; exact e) (fun b ob e => by
      by_cases q : b = a
      · exact ⟨_, by rw [q, upd_same]⟩
      · exact ⟨ob, by rw [upd_ne q]; exact e⟩) (fun b ob e n => by rw [n] at e; cases e) ⟨a, _, _, rfl, upd_same, ia, oall, rfl⟩ (List.nodup_cons.mpr ⟨an, List.nodup_append.mpr ⟨n2.2, n1.2.1, fun b hb c hc => n1.2.2 b (List.mem_cons_of_mem _ hb) c hc⟩⟩) (fun b hb => hb)
  unfold wrT at h
  dsimp only at h
  rw [t1] at h
  have e9 := S8.noT
  subst e9
  exact ⟨ws, ha, by rw [r0.len]; exact hz, h σ I _ FS' s0 S8⟩
theorem putT_go {k : Nat} {d r : D} {is : List Stp} {m : List D} {i : Int} {j : Nat} {e' : VEnv} {v v' : V} {a : Addr} {D' : Ends} {I0 : Hp} (S : Stt G z I H [v'] [r] σ e' FT FS) (s0 : Same I0 I) (hk : e'[k]? = some (some d)) (ht : atT d is = some (.lst true m)) (hv : σ[k]? = some (some v)) (hn : navT G H v is = some (.ref a)) (hj : L2.ixN m.length i = some j)
    (h : GS G z W I0 D' (wrT k (d, is, .lst true m) (.lst true (m.set j r)) e')) : ∃ ws, H a = some (.lst ws) ∧ L2.ixN ws.length i = some j ∧ D'.nx σ (upd H a (.lst (ws.set j v'))) := by
  have nd := S.nd
  obtain ⟨F1, F2, e, o, f, S7⟩ := S.pop
  subst e
  rw [List.append_assoc] at nd
  obtain ⟨v2, u2, Fu, w1, w2, w3, w4, w5, w6⟩ := S7.lens hk ht nd f
  rw [hv] at w1
  cases w1
  rw [hn] at w2
  cases w2
  obtain ⟨a2, ws, F0, ea, ha, ia, r0, eF⟩ := w3
  cases ea
  subst eF
  have n1 := List.nodup_append.mp w4
  have n2 := List.nodup_cons.mp n1.1
  have n3 : (F0 ++ F1).Nodup := List.nodup_append.mpr ⟨n2.2, n1.2.1, fun b hb c hc => n1.2.2 b (List.mem_cons_of_mem _ hb) c hc⟩
  have an : a ∉ F0 ++ F1 := fun q => (List.mem_append.mp q).elim n2.1 fun q => n1.2.2 a List.mem_cons_self a q rfl
  obtain ⟨F3, o3, nd3, sb3⟩ := r0.setAt (ixN_seq hj).2.1 o n3
  have an3 : a ∉ F3 := fun q => an (sb3 a q)
  have oall : Owns G I (upd H a (.lst (ws.set j v'))) (ws.set j v') (m.set j r) F3 := o3.cast fun b hb => upd_ne fun q => an3 (q ▸ hb)
  obtain ⟨d', FS', t1, S8⟩ := w6 I (upd H a (.lst (ws.set j v'))) (.lst true (m.set j r)) (a :: F3) (Same.refl _) (fun b ob e => by rw [upd_ne (fun q => by rw [q, ia] at e; cases e)]; exact S7.sub b ob e)
    (fun b ob e n => by rw [upd_ne (fun q => n (by rw [q]; exact List.mem_cons_self))]; exact e) (fun b ob e => by
      by_cases q : b = a
      · exact ⟨_, by rw [q, upd_same]⟩
      · exact ⟨ob, by rw [upd_ne q]; exact e⟩) (fun b ob e n => by rw [n] at e; cases e) ⟨a, _, _, rfl, upd_same, ia, oall, rfl⟩ (List.nodup_cons.mpr ⟨an3, nd3⟩) (fun b hb => by
      rcases List.mem_cons.mp hb with q | q
      · rw [q]; exact List.mem_cons_self
      · rcases List.mem_append.mp (sb3 b q) with w | w
        · exact List.mem_append_left _ (List.mem_cons_of_mem _ w)
        · exact List.mem_append_right _ w)
  unfold wrT at h
  dsimp only at h
  rw [t1] at h
  have e9 := S8.noT
  subst e9
  exact ⟨ws, ha, by rw [r0.len]; exact hj, h σ I _ FS' s0 S8⟩
theorem dputT_go {k : Nat} {d r d1 d2 d' : D} {is : List Stp} {e' : VEnv} {v v' y u : V} {D' : Ends} {I0 : Hp} {Fy : List Addr} (S : Stt G z I H [v'] [r] σ e' FT FS) (s0 : Same I0 I) (fx : r.frozen = true) (hk : e'[k]? = some (some d)) (ht : atT d is = some d1) (hv : σ[k]? = some (some v)) (hn : navT G H v is = some u) (oy : Own G I H y d2 Fy) (hd : putDD d1 d2 r = some d')
    (h : GS G z W I0 D' (wrT k (d, is, d1) d' e')) : ∃ a H', u = .ref a ∧ DPut H a y v' H' ∧ D'.nx σ H' := by
  obtain ⟨rx, S7⟩ := S.popR fx
  obtain ⟨v2, u2, Fu, w1, w2, w3, w4, w5, w6⟩ := S7.lens hk ht (Fx := []) (by simpa using S7.nd) (fun b hb => nomatch hb)
  rw [hv] at w1
  cases w1
  rw [hn] at w2
  cases w2
  have fin : ∀ {a : Addr} {o : HO} {x' : D}, I a = none → Fu = [a] → Own G I (upd H a o) u x' [a] → x' = d' → D'.nx σ (upd H a o) := fun {a o x'} ia eF ow ex => by
    subst eF ex
    obtain ⟨dd, FS', t1, S8⟩ := w6 I (upd H a o) x' [a] (Same.refl _) (fun b ob e => by rw [upd_ne (fun q => by rw [q, ia] at e; cases e)]; exact S7.sub b ob e)
      (fun b ob e n => by rw [upd_ne (fun q => n (by rw [q]; exact List.mem_cons_self))]; exact e) (fun b ob e => by
      by_cases q : b = a
      · exact ⟨_, by rw [q, upd_same]⟩
      · exact ⟨ob, by rw [upd_ne q]; exact e⟩) (fun b ob e n => by rw [n] at e; cases e) ow (by simp) (fun b hb => List.mem_append_left _ hb)
    unfold wrT at h
    dsimp only at h
    rw [t1] at h
    have e9 := S8.noT
    subst e9
    exact h σ I _ FS' s0 S8
  cases d1 with
  | dk m ks l =>
    cases m with
    | false => cases hd
    | true =>
      unfold putDD at hd
      dsimp only at hd
      split at hd
      · rename_i c
        obtain ⟨key, e1, e2⟩ := Option.map_eq_some_iff.mp hd
        have ey := asKey_eq e1 oy
        obtain ⟨a, ws, F3, ea, eh, el, ia, ow, e3⟩ := w3
        subst ea
        obtain ⟨rfl, rs⟩ := Owns.reps c.2.1 ow
        have pr := reps_putD rx c.1 rs (k := key)
        refine ⟨a, upd H a (.dK (putK (ks.zip ws) key v')), rfl, ?_, fin ia e3 (x' := d') ?_ rfl⟩
        · rw [ey]
          refine DPut.k eh ?_
          rw [List.length_zip]; omega
        · rw [← e2]
          exact ⟨a, (putD ks ws key v').2, [], rfl, by rw [upd_same, putK_zip el, pr.2], by rw [← pr.2, putD_len el], ia, Reps.owns pr.1, rfl⟩
      · cases hd
  | dt m ks l =>
    cases m with
    | false => cases hd
    | true =>
      cases d2 with
      | tup t =>
        unfold putDD at hd
        dsimp only at hd
        split at hd
        · rename_i c
          obtain ⟨key, e1, e2⟩ := Option.map_eq_some_iff.mp hd
          obtain ⟨b, us, eb, hb2, r2⟩ := own_tup S7.sub oy
          have ek := asKeys_eq e1 r2
          subst ek eb
          obtain ⟨a, ws, F3, ea, eh, el, ia, ow, e3⟩ := w3
          subst ea
          obtain ⟨rfl, rs⟩ := Owns.reps c.2.1 ow
          have pr := reps_putD rx c.1 rs (k := key)
          refine ⟨a, upd H a (.dT (putK (ks.zip ws) key v')), rfl, ?_, fin ia e3 (x' := d') ?_ rfl⟩
          · refine DPut.t eh hb2 ?_
            rw [List.length_zip]; omega
          · rw [← e2]
            exact ⟨a, (putD ks ws key v').2, [], rfl, by rw [upd_same, putK_zip el, pr.2], by rw [← pr.2, putD_len el], ia, Reps.owns pr.1, rfl⟩
        · cases hd
      | _ => cases hd
  | _ => cases hd
/-- what stands at a place is frozen there -/
theorem Stt.freeze (S : Stt G z I H ts dts σ env FT FS) {k : Nat} {d x : D} {is : List Stp} (hk : env[k]? = some (some d)) (ht : atT d is = some x) : ∃ v u I' d' FS', σ[k]? = some (some v) ∧ navT G H v is = some u ∧ Same I I' ∧ Rep G I' u x.fz ∧ setT d is x.fz = some d' ∧ Stt G z I' H ts dts σ (env.set k (some d')) FT FS' := by
  obtain ⟨v, u, Fu, w1, w2, w3, w4, w5, w6⟩ := S.lens hk ht (Fx := []) (by simpa using S.nd) (fun b hb => nomatch hb)
  have dom := Own.dom _ _ _ w3
  have s : Same I (frz Fu I H) := fun b o e => by
    by_cases q : b ∈ Fu
    · rw [(w5 b q).2.1] at e; cases e
    · rw [frz_out q]; exact e
  have rp : Rep G (frz Fu I H) u x.fz := Own.give s _ _ _ (fun b hb => frz_in hb) w3
  obtain ⟨d', FS', t1, S8⟩ := w6 (frz Fu I H) H x.fz [] s (fun b o e => by
    by_cases q : b ∈ Fu
    · rw [frz_in q] at e; exact e
    · rw [frz_out q] at e; exact S.sub b o e) (fun b o e _ => e) (fun b o e => ⟨o, e⟩) (fun b o e n => by
    by_cases q : b ∈ Fu
    · exact .inr q
    · rw [frz_out q, n] at e; cases e) (Rep.own _ _ rp) List.nodup_nil (fun b hb => nomatch hb)
  exact ⟨v, u, _, d', FS', w1, w2, s, rp, t1, S8⟩
end
section
variable {X : Cx} {G : Gx} {z : Zx} {W : WX} {e a b o : Expr} {es : List Expr} {pa pb : VEnv → Option D} {f fa fb : M D} {fs : M (List D)} {oa : VEnv → Option D} {os : VEnv → Option (List D)} {pos apos cpos pos' : Pos} {ms : List Bool} {ps : List PSt}
theorem vnt_nil (k : Nat) (h : PE X e (tVar k)) : PE X e (RNT G z k []) := peImp h fun σ H Q ⟨I, ts, dts, env, FT, FS, is, v, u, S, e1, e2, e3, q⟩ => by
  cases e1
  cases e3
  exact ⟨v, e2, q⟩
theorem ev1_ix {p : VEnv → Option D} {env : VEnv} {s : Stp} (h : ev1 (.ix p) env = some s) : ∃ i, p env = some (.int i) ∧ s = .ix i := by
  obtain ⟨i, h2, rfl⟩ := Option.map_eq_some_iff.mp h
  obtain ⟨d, e1, e2⟩ := Option.bind_eq_some_iff.mp h2
  cases asInt_eq e2
  exact ⟨i, e1, rfl⟩
theorem ev1_ky {p : VEnv → Option D} {env : VEnv} {s : Stp} (h : ev1 (.ky p) env = some s) : ∃ d k, p env = some d ∧ asKey d = some k ∧ s = .ky k := by
  obtain ⟨i, h2, rfl⟩ := Option.map_eq_some_iff.mp h
  obtain ⟨d, e1, e2⟩ := Option.bind_eq_some_iff.mp h2
  exact ⟨d, i, e1, e2, rfl⟩
theorem kidV_ix {o : HO} {i : Int} {u : V} (h : kidV G o (.ix i) = some u) : ∃ ws, o = .lst ws ∧ L2.atI ws i = some u := by
  cases o with
  | lst ws => exact ⟨ws, rfl, h⟩
  | _ => cases h
theorem kidV_fl {o : HO} {c f : Str} {u : V} (h : kidV G o (.fl c f) = some u) : ∃ dx fs, o = .ins (G.cl c) dx fs ∧ fs.lookup f = some u := by
  cases o with
  | ins C dx fs =>
    replace h : (if C = G.cl c then fs.lookup f else none) = some u := h
    split at h
    · rename_i e
      subst e
      exact ⟨dx, fs, rfl, h⟩
    · cases h
  | _ => cases h
theorem kidV_ky {o : HO} {k : Key} {u : V} (h : kidV G o (.ky k) = some u) : ∃ kvs, o = .dK kvs ∧ valV kvs k = some u := by
  cases o with
  | dK kvs => exact ⟨kvs, rfl, h⟩
  | _ => cases h
theorem vnt_ix (k : Nat) (ha : PE X a (RNT G z k ps)) (hb : PE X b (RP G z pb)) (hs : PlainIx b := by intro _ _; rfl) (hK : X.K = G.K := by rfl) : PE X (.Subscript a b pos) (RNT G z k (ps ++ [.ix pb])) := peImp (pe_ix ix_list ha hb hs) fun σ H Q ⟨I, ts, dts, env, FT, FS, js, v, u, S, e1, e2, e3, q⟩ => by
  obtain ⟨is, s, h1, h2, h3⟩ := evT_snoc e1
  subst h3
  obtain ⟨i, h4, rfl⟩ := ev1_ix h2
  obtain ⟨a1, o1, n1, n2, n3⟩ := navT_snoc e3
  obtain ⟨ws, rfl, n4⟩ := kidV_ix n3
  refine ⟨I, ts, dts, env, FT, FS, is, v, .ref a1, S, h1, e2, n1, ?_⟩
  refine ⟨I, ts, dts, env, FT, FS, _, S, h4, fun w F ow => ?_⟩
  cases own_int ow
  exact ⟨a1, ws, i, u, rfl, rfl, .of n2, n4, q⟩
theorem vnt_fl (k : Nat) (c : Str) {f : Str} (hc : Cls G.K (G.cl c)) (hn : NoAttr G.K (G.cl c) f) (ha : PE X a (RNT G z k ps)) (hb : attributeBase a f X.env (eval a X.env) = eval a X.env := by rfl) (hK : X.K = G.K := by rfl) : PE X (.Attribute a f pos) (RNT G z k (ps ++ [.fl c f])) := peImp (pe_fld ha hb) fun σ H Q ⟨I, ts, dts, env, FT, FS, js, v, u, S, e1, e2, e3, q⟩ => by
  obtain ⟨is, s, h1, h2, h3⟩ := evT_snoc e1
  cases h2
  subst h3
  obtain ⟨a1, o1, n1, n2, n3⟩ := navT_snoc e3
  obtain ⟨dx, fs, rfl, n4⟩ := kidV_fl n3
  exact ⟨I, ts, dts, env, FT, FS, is, v, .ref a1, S, h1, e2, n1, a1, _, dx, fs, u, rfl, n2, by rw [hK]; exact hc, by rw [hK]; exact hn, n4, q⟩
theorem vnt_ky (k : Nat) (hu : X.A.units + 1 < cLine) (ha : PE X a (RNT G z k ps)) (hb : PE X b (RP G z pb)) (hs : NoSl b := by intro _ _; rfl) : PE X (.Subscript a b pos) (RNT G z k (ps ++ [.ky pb])) := peImp (pe_dget hu ha hb hs) fun σ H Q ⟨I, ts, dts, env, FT, FS, js, v, u, S, e1, e2, e3, q⟩ => by
  obtain ⟨is, s, h1, h2, h3⟩ := evT_snoc e1
  subst h3
  obtain ⟨d, key, h4, h5, rfl⟩ := ev1_ky h2
  obtain ⟨a1, o1, n1, n2, n3⟩ := navT_snoc e3
  obtain ⟨kvs, rfl, n4⟩ := kidV_ky n3
  refine ⟨I, ts, dts, env, FT, FS, is, v, .ref a1, S, h1, e2, n1, ?_⟩
  refine ⟨I, ts, dts, env, FT, FS, _, S, h4, fun w F ow => ?_⟩
  rw [asKey_eq h5 ow]
  exact ⟨a1, u, rfl, by rw [← n4]; exact DGet.k n2, q⟩
/-! what is laid or read -/
theorem of_p (h : PE X e (RP G z pa)) : PE X e (RFo G z (oP pa)) := peImp h fun σ H Q ⟨I, ts, dts, env, FT, FS, S, d, e1, q⟩ => by
  obtain ⟨d0, e2, e3⟩ := Option.bind_eq_some_iff.mp e1
  split at e3
  · rename_i fz
    cases e3
    exact ⟨I, ts, dts, env, FT, FS, d, S, e2, fun v F ow => q v I H _ _ (Same.refl _) (Same.refl _) (S.pushR (Own.rep _ _ _ fz ow).2)⟩
  · cases e3
theorem of_fz (h : PE X e (RFo G z oa)) : PE X e (RFo G z (oFz oa)) := peImp h fun σ H Q ⟨I, ts, dts, env, FT, FS, S, d, e1, q⟩ => by
  obtain ⟨d0, e2, rfl⟩ := Option.map_eq_some_iff.mp e1
  refine ⟨I, ts, dts, env, FT, FS, S, d0, e2, fun v I' H' FT' FS' s1 s2 S' => ?_⟩
  obtain ⟨I2, F2, s3, r2, S3⟩ := S'.giveTop
  exact q v I2 H' _ _ (s1.trans s3) s2 (S3.pushR r2)
theorem ofa_nil : PA X [] (RFa G z oNil) := paImp pa_nil fun σ H Q ⟨I, ts, dts, env, FT, FS, S, ds, e1, q⟩ => by
  cases e1
  exact q [] I H _ _ (Same.refl _) (Same.refl _) S rfl
theorem ofa_cons (ha : PE X a (RFo G z oa)) (hr : PA X es (RFa G z os)) (hs : starEach (a :: es) X.env = (false, eval a X.env) :: starEach es X.env := by rfl) : PA X (a :: es) (RFa G z (oCons oa os)) := paImp (pa_cons ha hr hs) fun σ H Q ⟨I, ts, dts, env, FT, FS, S, ds, e1, q⟩ => by
  obtain ⟨d, e2, e3⟩ := Option.bind_eq_some_iff.mp e1
  obtain ⟨ds', e4, rfl⟩ := Option.map_eq_some_iff.mp e3
  refine ⟨I, ts, dts, env, FT, FS, S, d, e2, fun v I1 H1 FT1 FS1 s1 h1 S1 => ?_⟩
  refine ⟨I1, v :: ts, d :: dts, env, FT1, FS1, S1, ds', e4, fun vs I2 H2 FT2 FS2 s2 h2 S2 n => ?_⟩
  obtain ⟨FT3, S3⟩ := S2.rot n
  exact q (v :: vs) I2 H2 FT3 FS2 (s1.trans s2) (h1.trans h2) S3 (by simp [n])
theorem of_lst (h : PA X es (RFa G z os)) : PE X (.List es pos) (RFo G z (oLst os)) := peImp (pe_lst h) fun σ H Q ⟨I, ts, dts, env, FT, FS, S, d, e1, q⟩ => by
  obtain ⟨ds, e2, e3⟩ := Option.bind_eq_some_iff.mp e1
  split at e3
  · rename_i hz
    cases e3
    refine ⟨I, ts, dts, env, FT, FS, S, ds, e2, fun vs I1 H1 FT1 FS1 s1 h1 S1 n => ⟨by rw [n]; exact hz, fun p hp => ?_⟩⟩
    obtain ⟨FT2, S2⟩ := Stt.pushL n S1 hp
    exact q _ _ _ _ _ s1 (h1.trans (same_upd hp)) S2
  · cases e3
theorem of_tup {x1} (h : PA X es (RFa G z os)) : PE X (.Tuple es x1 pos) (RFo G z (oTup os)) := peImp (pe_tup h) fun σ H Q ⟨I, ts, dts, env, FT, FS, S, d, e1, q⟩ => by
  obtain ⟨ds, e2, e3⟩ := Option.bind_eq_some_iff.mp e1
  split at e3
  · rename_i hz
    cases e3
    refine ⟨I, ts, dts, env, FT, FS, S, ds, e2, fun vs I1 H1 FT1 FS1 s1 h1 S1 n => ⟨by rw [n]; exact hz, fun p hp => ?_⟩⟩
    obtain ⟨I2, FT2, s2, r2, S2⟩ := Stt.giveAll n S1
    obtain ⟨s3, S3⟩ := S2.pushTup r2 hp
    exact q _ _ _ _ _ ((s1.trans s2).trans s3) (h1.trans (same_upd hp)) S3
  · cases e3
theorem of_dk : PE X (.Dict [] [] pos) (RFo G z (oC (.dk true [] []))) := peImp pe_dnewK fun σ H Q ⟨I, ts, dts, env, FT, FS, S, d, e1, q⟩ p hp => by
  cases e1
  obtain ⟨FT', S2⟩ := S.pushDk hp
  exact q _ _ _ _ _ (Same.refl _) (same_upd hp) S2
theorem of_dt : PE X (.Dict [] [] pos) (RFo G z (oC (.dt true [] []))) := peImp pe_dnewT fun σ H Q ⟨I, ts, dts, env, FT, FS, S, d, e1, q⟩ p hp => by
  cases e1
  obtain ⟨FT', S2⟩ := S.pushDt hp
  exact q _ _ _ _ _ (Same.refl _) (same_upd hp) S2
/-! statements -/
theorem vs_tApp (k : Nat) (ho : PE X o (RNT G z k ps)) (ha : PE X a (RFo G z oa)) (hbase : attributeBase o "append" X.env (eval o X.env) = eval o X.env := by rfl)
    (hfew : ((backTo cpos (starEach [a] X.env)).all (fun x => !x.1) && (backToKw cpos (keywordEach [] X.env)).all (fun x => x.1.isSome)
      && decide ([a].length + ([] : List Keyword).length + (if ([] : List Keyword).isEmpty then 0 else 1) < 30)) = true := by rfl)
    (hline : (apos.endLine == cpos.line) = true := by rfl) (hs : starEach [a] X.env = (false, eval a X.env) :: starEach [] X.env := by rfl) (hplain : (backTo cpos (starEach [] X.env)).any (·.1) = false := by rfl)
    (hsw : swapsWith (.Call (.Attribute o "append" apos) [a] [] cpos) none pos.line X.env = pure false := by rfl) : PS X (.Expr (.Call (.Attribute o "append" apos) [a] [] cpos) pos) (RS G z W (sTApp k ps oa)) :=
  psImp (ps_expr (pe_bm PySem.F.plainAttrs_list PySem.F.slot_list_append PySem.F.type_list_append mt_append ho (pa_cons ha pa_nil hs) hbase hfew hline hs hplain) hsw) fun D σ H h => by
    obtain ⟨I, env, FS, S, h⟩ := RS.to h
    unfold sTApp at h
    cases e1 : pathT k ps env with
    | none => rw [e1] at h; exact h.elim
    | some x =>
      obtain ⟨d, is, x⟩ := x
      rw [e1] at h
      obtain ⟨p1, p2, p3⟩ := pathT_eq e1
      replace h : GS G z W I D ((asOL x).bind fun m => (oa env).bind fun r => if m.length < sizeLine then wrT k (d, is, x) (.lst true (m ++ [r])) env else none) := h
      cases e2 : asOL x with
      | none => rw [e2] at h; exact h.elim
      | some m =>
        rw [e2] at h
        cases asOL_eq e2
        replace h : GS G z W I D ((oa env).bind fun r => if m.length < sizeLine then wrT k (d, is, .lst true m) (.lst true (m ++ [r])) env else none) := h
        cases e3 : oa env with
        | none => rw [e3] at h; exact h.elim
        | some r =>
          rw [e3] at h
          replace h : GS G z W I D (if m.length < sizeLine then wrT k (d, is, .lst true m) (.lst true (m ++ [r])) env else none) := h
          split at h
          · rename_i hz
            obtain ⟨v, u, Fu, g1, g2, g3, _⟩ := S.lens p1 p3 (Fx := []) (by simpa using S.nd) (fun b hb => nomatch hb)
            obtain ⟨a0, ws, F', eu, ha0, _⟩ := g3
            subst eu
            refine ⟨I, [], [], env, [], FS, is, v, .ref a0, S, p2, g1, g2, tyL ha0, I, [], [], env, [], FS, S, r, e3, fun v' I2 H' FT2 FS2 s2 hH S6 => ?_⟩
            obtain ⟨ws2, q1, q2, q3⟩ := appT_go S6 s2 p1 p3 g1 (navT_mono hH g2) hz h
            exact ⟨a0, ws2, v', rfl, rfl, q1, q2, q3⟩
          · exact h.elim
theorem vs_tPut (k : Nat) (ho : PE X o (RNT G z k ps)) (hi : PE X b (RP G z pb)) (hv : PE X a (RE G z W f))
    (ha : ∀ v, assign (.Subscript o b apos) X.env v = (do
      let ov ← holding [v] (eval o X.env)
      let iv ← holding [v, ov] (eval b X.env)
      standAt apos
      holding [v, ov, iv] (setItem ov iv v)
      release [v, ov, iv] []) := by intro _; rfl)
    (hs : swapsWithSole [.Subscript o b apos] a pos.line X.env = pure false := by rfl) (hw : swappedStores [.Subscript o b apos] a X.env = pure none := by rfl)
    (h1 : (assignEach [.Subscript o b apos] X.env).map (·.2) = [assign (.Subscript o b apos) X.env] := by rfl) : PS X (.Assign [.Subscript o b apos] a pos) (RS G z W (sTPut k ps pb f)) :=
  psImp (ps_asg hv (pg_sub ho hi set_list ha) hs hw h1) fun D σ H h => by
    obtain ⟨I, env, FS, S, h⟩ := RS.to h
    refine RE.of S (GE.bndS h fun r e' h1 v' I' H' FT' FS' s' S' => ?_)
    cases e1 : pathT k ps e' with
    | none => rw [e1] at h1; exact h1.elim
    | some x =>
      obtain ⟨d, is, x⟩ := x
      rw [e1] at h1
      obtain ⟨p1, p2, p3⟩ := pathT_eq e1
      replace h1 : GS G z W I D ((asOL x).bind fun m => ((pb e').bind asInt).bind fun i => (ixSet m i r).bind fun m' => wrT k (d, is, x) (.lst true m') e') := h1
      cases e2 : asOL x with
      | none => rw [e2] at h1; exact h1.elim
      | some m =>
        rw [e2] at h1
        cases asOL_eq e2
        replace h1 : GS G z W I D (((pb e').bind asInt).bind fun i => (ixSet m i r).bind fun m' => wrT k (d, is, .lst true m) (.lst true m') e') := h1
        cases e3 : (pb e').bind asInt with
        | none => rw [e3] at h1; exact h1.elim
        | some i =>
          rw [e3] at h1
          replace h1 : GS G z W I D ((ixSet m i r).bind fun m' => wrT k (d, is, .lst true m) (.lst true m') e') := h1
          unfold ixSet at h1
          cases e4 : L2.ixN m.length i with
          | none => rw [e4] at h1; exact h1.elim
          | some j =>
            rw [e4] at h1
            obtain ⟨d1, e5, e6⟩ := Option.bind_eq_some_iff.mp e3
            cases asInt_eq e6
            obtain ⟨v, u, Fu, g1, g2, g3, _⟩ := S'.noTemps.lens p1 p3 (Fx := []) (by simpa using S'.noTemps.nd) (fun b hb => nomatch hb)
            obtain ⟨a0, ws, F', eu, ha0, _⟩ := g3
            subst eu
            obtain ⟨ws2, q1, q2, q3⟩ := putT_go S' s' p1 p3 g1 g2 e4 h1
            refine ⟨I', [v'], [r], e', FT', FS', is, v, .ref a0, S', p2, g1, g2, ?_⟩
            refine ⟨I', [v'], [r], e', FT', FS', _, S', e5, fun w F ow => ?_⟩
            cases own_int ow
            exact ⟨a0, ws2, i, j, rfl, rfl, q1, q2, q3⟩
theorem vs_tDput (k : Nat) (hu : X.A.units + 1 < cLine) (ho : PE X o (RNT G z k ps)) (hi : PE X b (RP G z pb)) (hv : PE X a (RE G z W f)) (hs : swapsWith a (some (.Subscript o b pos')) pos.line X.env = pure false := by rfl) : PS X (.Assign [.Subscript o b pos'] a pos) (RS G z W (sTDput k ps pb f)) :=
  psImp (ps_dput hu ho hi hv hs) fun D σ H h => by
    obtain ⟨I, env, FS, S, h⟩ := RS.to h
    refine RE.of S (GE.bndS h fun r e' h1 v' I' H' FT' FS' s' S' => ?_)
    cases e1 : pathT k ps e' with
    | none => rw [e1] at h1; exact h1.elim
    | some x =>
      obtain ⟨d, is, x⟩ := x
      rw [e1] at h1
      obtain ⟨p1, p2, p3⟩ := pathT_eq e1
      replace h1 : GS G z W I D ((pb e').bind fun y => if r.frozen then (putDD x y r).bind fun d' => wrT k (d, is, x) d' e' else none) := h1
      cases e3 : pb e' with
      | none => rw [e3] at h1; exact h1.elim
      | some y =>
        rw [e3] at h1
        replace h1 : GS G z W I D (if r.frozen then (putDD x y r).bind fun d' => wrT k (d, is, x) d' e' else none) := h1
        split at h1
        · rename_i fx
          cases e4 : putDD x y r with
          | none => rw [e4] at h1; exact h1.elim
          | some d' =>
            rw [e4] at h1
            obtain ⟨v, u, Fu, g1, g2, g3, _⟩ := S'.noTemps.lens p1 p3 (Fx := []) (by simpa using S'.noTemps.nd) (fun b hb => nomatch hb)
            refine ⟨I', [v'], [r], e', FT', FS', is, v, u, S', p2, g1, g2, ?_⟩
            refine ⟨I', [v'], [r], e', FT', FS', _, S', e3, fun w F ow => ?_⟩
            obtain ⟨a1, H4, q5, q6, q7⟩ := dputT_go S' s' fx p1 p3 g1 g2 ow e4 h1
            exact ⟨a1, H4, q5, q6, q7⟩
        · exact h1.elim
theorem ve_mvT (k : Nat) (h : PE X e (RNT G z k ps)) : PE X e (RE G z W (vMvT k ps)) := peImp h fun σ H Q h => by
  obtain ⟨I, ts, dts, env, FT, FS, S, h⟩ := RE.to h
  unfold vMvT at h
  cases e1 : pathT k ps env with
  | none => rw [e1] at h; exact h.elim
  | some x =>
    obtain ⟨d, is, x⟩ := x
    rw [e1] at h
    obtain ⟨p1, p2, p3⟩ := pathT_eq e1
    obtain ⟨v, u, I', d', FS', g1, g2, s, rp, t1, S2⟩ := S.freeze p1 p3
    replace h : GE G z W I ts dts σ Q ((setT d is x.fz).map fun d' => .ok x.fz (env.set k (some d'))) := h
    rw [t1] at h
    exact ⟨I, ts, dts, env, FT, FS, is, v, u, S, p2, g1, g2, h u I' H _ _ s (S2.pushR rp)⟩
end
end
section
set_option Elab.async false
set_option linter.all false
set_option maxRecDepth 100000
set_option maxHeartbeats 1000000
/-! ### methods of an instance that is lent; defaults -/
/-- constants as values -/
def cV : D → V
  | .bl b => .bl b
  | .int i => .int i
  | .str x => .str x
  | _ => .non
def isC : D → Bool
  | .non => true
  | .bl _ => true
  | .int _ => true
  | .str _ => true
  | _ => false
def callKC (F : FN) (ags : List Ag) (cs : List D) (e : VEnv) (ds : List D) : Option (Res D) := match (agD e ags ds).bind (fun xs => F (xs ++ cs)) with
  | none => none
  | some (.ret d outs) => if outs.length = (agL ags).length then some (.ok d (agOut e (agL ags) outs)) else none
  | some (.exc c x outs) => if outs.length = (agL ags).length then some (.exc c x (agOut e (agL ags) outs)) else none
def vCallC (F : FN) (ags : List Ag) (cs : List D) : M D := (agM ags).bnd fun ds e => callKC F ags cs e ds
def vMethL (c m : Str) (k : Nat) (F : FN) (ags : List Ag) (cs : List D) : M D := fun e => (e[k]?).join.bind fun d => if insOk c m d = true ∧ cs.all isC = true then vCallC F (.inr k :: ags) cs e else none
/-- receiver frozen -/
def vMethC (c m : Str) (p : VEnv → Option D) (F : FN) (ags : List Ag) (cs : List D) : M D := fun e => (p e).bind fun d => if insOk c m d = true ∧ cs.all isC = true then vCallC F (.inl (vP p) :: ags) cs e else none
def cAg (cs : List D) : List Ag := cs.map fun c => .inl (M.ret c)
section
variable {G : Gx} {z : Zx} {W : WX} {I I' H H' : Hp} {ts : List V} {dts : List D} {σ : L2.St} {env : VEnv} {FT FS : List Addr}
theorem rep_cV {c : D} (h : isC c = true) : Rep G I (cV c) c := by
  cases c <;> first | rfl | cases h
theorem fz_cV {c : D} (h : isC c = true) : c.fz = c := by
  cases c <;> first | rfl | cases h
theorem agD_cAg : ∀ {cs : List D}, cs.all isC = true → agD env (cAg cs) cs = some cs
  | [], _ => rfl
  | c :: cs, h => by
    rw [List.all_cons, Bool.and_eq_true] at h
    show (agD env (cAg cs) cs).map (c.fz :: ·) = _
    rw [agD_cAg h.2, fz_cV h.1]
    rfl
theorem agD_app {cs : List D} (hc : cs.all isC = true) : ∀ {ags : List Ag} {ds xs : List D}, agD env ags ds = some xs → agD env (ags ++ cAg cs) (ds ++ cs) = some (xs ++ cs)
  | [], [], xs, h => by cases h; exact agD_cAg hc
  | .inl f :: r, d :: ds, xs, h => by
    obtain ⟨xs', e, rfl⟩ := Option.map_eq_some_iff.mp (show (agD env r ds).map (d.fz :: ·) = some xs from h)
    show (agD env (r ++ cAg cs) (ds ++ cs)).map (d.fz :: ·) = _
    rw [agD_app hc e]
    rfl
  | .inr k :: r, ds, xs, h => by
    obtain ⟨d, e1, h⟩ := Option.bind_eq_some_iff.mp (show ((env[k]?).join.bind fun d => (agD env r ds).map (d :: ·)) = some xs from h)
    obtain ⟨xs', e, rfl⟩ := Option.map_eq_some_iff.mp h
    show ((env[k]?).join.bind fun d => (agD env (r ++ cAg cs) (ds ++ cs)).map (d :: ·)) = _
    rw [e1, Option.bind_some, agD_app hc e]
    rfl
  | [], _ :: _, xs, h => by cases h
  | .inl f :: r, [], xs, h => by cases h
theorem agL_cAg : ∀ (cs : List D), agL (cAg cs) = []
  | [] => rfl
  | _ :: cs => agL_cAg cs
theorem agP_cAg : ∀ (cs : List D), agP (cAg cs) = cs.map fun _ => false
  | [] => rfl
  | _ :: cs => by
    show false :: agP (cAg cs) = _
    rw [agP_cAg cs]; rfl
theorem agL_app {cs : List D} : ∀ {ags : List Ag}, agL (ags ++ cAg cs) = agL ags
  | [] => agL_cAg cs
  | .inl _ :: r => agL_app (ags := r)
  | .inr k :: r => by
    show k :: agL (r ++ cAg cs) = k :: agL r
    rw [agL_app (ags := r)]
theorem agP_app {cs : List D} : ∀ {ags : List Ag}, agP (ags ++ cAg cs) = agP ags ++ cs.map fun _ => false
  | [] => agP_cAg cs
  | .inl _ :: r => by
    show false :: agP (r ++ cAg cs) = false :: (agP r ++ _)
    rw [agP_app (ags := r)]
  | .inr k :: r => by
    show true :: agP (r ++ cAg cs) = true :: (agP r ++ _)
    rw [agP_app (ags := r)]
theorem agV_cAg : ∀ (cs : List D), agV σ (cAg cs) (cs.map cV) = cs.map cV
  | [] => rfl
  | c :: cs => by
    show cV c :: agV σ (cAg cs) (cs.map cV) = _
    rw [agV_cAg cs]; rfl
theorem agV_app {cs : List D} : ∀ {ags : List Ag} {ds xs : List D} {vs : List V}, agD env ags ds = some xs → vs.length = ds.length → agV σ (ags ++ cAg cs) (vs ++ cs.map cV) = agV σ ags vs ++ cs.map cV
  | [], [], xs, vs, h, n => by
    have : vs = [] := List.length_eq_zero_iff.mp n
    subst this
    exact agV_cAg cs
  | .inl f :: r, d :: ds, xs, vs, h, n => by
    obtain ⟨xs', e, rfl⟩ := Option.map_eq_some_iff.mp (show (agD env r ds).map (d.fz :: ·) = some xs from h)
    match vs, n with
    | v :: vs, n =>
      show v :: agV σ (r ++ cAg cs) (vs ++ cs.map cV) = v :: (agV σ r vs ++ _)
      rw [agV_app e (by simpa using n)]
  | .inr k :: r, ds, xs, vs, h, n => by
    obtain ⟨d, e1, h⟩ := Option.bind_eq_some_iff.mp (show ((env[k]?).join.bind fun d => (agD env r ds).map (d :: ·)) = some xs from h)
    obtain ⟨xs', e, rfl⟩ := Option.map_eq_some_iff.mp h
    show ((σ[k]?).join.getD .non) :: agV σ (r ++ cAg cs) (vs ++ cs.map cV) = _ :: (agV σ r vs ++ _)
    rw [agV_app e n]
  | [], _ :: _, xs, vs, h, n => by cases h
  | .inl f :: r, [], xs, vs, h, n => by cases h
theorem Stt.pushCs {cs : List D} (hc : cs.all isC = true) : ∀ {vs : List V} {ds : List D} {FT : List Addr}, vs.length = ds.length → Stt G z I H (vs ++ ts) (ds ++ dts) σ env FT FS → ∃ FT', Stt G z I H ((vs ++ cs.map cV) ++ ts) ((ds ++ cs) ++ dts) σ env FT' FS := by
  induction cs with
  | nil => exact fun n S => ⟨_, by simpa using S⟩
  | cons c cs ih =>
    intro vs ds FT n S
    rw [List.all_cons, Bool.and_eq_true] at hc
    have key : ∀ {ws : List V} {es : List D} {ts' : List V} {dts' : List D} {F : List Addr}, ws.length = es.length → OwnT G z I H (ws ++ ts') (es ++ dts') F → OwnT G z I H (ws ++ (cV c :: ts')) (es ++ (c :: dts')) F := fun {ws} => by
      induction ws with
      | nil =>
        intro es ts' dts' F n h
        have : es = [] := List.length_eq_zero_iff.mp n.symm
        subst this
        exact ⟨[], F, rfl, Rep.own _ _ (rep_cV hc.1), (fun b hb => nomatch hb), h⟩
      | cons w ws ih2 =>
        intro es ts' dts' F n h
        match es, n with
        | e :: es, n =>
          obtain ⟨F1, F2, q, h1, h2, h3⟩ := h
          exact ⟨F1, F2, q, h1, h2, ih2 (by simpa using n) h3⟩
    have S1 : Stt G z I H ((vs ++ [cV c]) ++ ts) ((ds ++ [c]) ++ dts) σ env FT FS := by
      refine ⟨?_, S.oS, S.nd, S.sub, S.i0, S.ifr, S.fS, S.frame, S.dom⟩
      have := key n S.oT
      simpa using this
    obtain ⟨FT', S2⟩ := ih hc.2 (vs := vs ++ [cV c]) (ds := ds ++ [c]) (by simp [n]) S1
    exact ⟨FT', by simpa using S2⟩
theorem callKC_eq {F : FN} {ags : List Ag} {cs ds : List D} (hc : cs.all isC = true) {xs : List D} (h : agD env ags ds = some xs) : callKC F ags cs env ds = callK F (ags ++ cAg cs) env (ds ++ cs) := by
  unfold callKC callK
  rw [h, agD_app hc h, agL_app]
  rfl
theorem callKC_ok {F : FN} {ags : List Ag} {ds cs : List D} {vs : List V} {Q : VK} {I0 : Hp} (hc : cs.all isC = true) (hl : agL ags = [] ∨ ∃ k, agL ags = [k]) (s0 : Same I0 I) (S : Stt G z I H (vs ++ ts) (ds ++ dts) σ env FT FS) (n : vs.length = ds.length)
    (h : GE G z W I0 ts dts σ Q (callKC F ags cs env ds)) : spOf G F (agP ags ++ cs.map fun _ => false) (agV σ ags vs ++ cs.map cV) H Q (WE W σ) := by
  cases e : agD env ags ds with
  | none =>
    unfold callKC at h
    rw [e] at h
    exact h.elim
  | some xs =>
    rw [callKC_eq hc e] at h
    obtain ⟨FT', S2⟩ := Stt.pushCs hc n S
    have := call_ok (ags := ags ++ cAg cs) (vs := vs ++ cs.map cV) (ds := ds ++ cs) (by rw [agL_app]; exact hl) s0 S2 (by simp [n]) h
    rwa [agP_app, agV_app e n] at this
/-- the arguments behind a receiver that is lent -/
theorem methL_go {Q : VK} {c m : Str} {F : FN} {k : Nat} {ags : List Ag} {cs : List D} (S : Stt G z I H ts dts σ env FT FS) (h : GE G z W I ts dts σ Q (vMethL c m k F ags cs env)) (hl : agL ags = []) : ∃ d v Fv, env[k]? = some (some d) ∧ σ[k]? = some (some v) ∧ Own G I H v d Fv ∧ insOk c m d = true ∧ RAg G z W ags σ H fun vs H2 => spOf G F (true :: agP ags ++ cs.map fun _ => false) (v :: vs ++ cs.map cV) H2 Q (WE W σ) := by
  unfold vMethL at h
  cases e1 : (env[k]?).join with
  | none => rw [e1] at h; exact h.elim
  | some d =>
    rw [e1] at h
    replace h : GE G z W I ts dts σ Q (if insOk c m d = true ∧ cs.all isC = true then vCallC F (.inr k :: ags) cs env else none) := h
    have ek := join_eq e1
    obtain ⟨v, Fv, q1, q2⟩ := S.slot ek
    split at h
    · rename_i hk
      refine ⟨d, v, Fv, ek, q1, q2, hk.1, I, ts, dts, env, FT, FS, S, ?_⟩
      have ha : agM (.inr k :: ags) env = agM ags env := by
        show (match env[k]? with
          | some (some _) => agM ags env
          | _ => none) = _
        rw [ek]
      unfold vCallC M.bnd at h
      rw [ha] at h
      cases e2 : agM ags env with
      | none => rw [e2] at h; exact h.elim
      | some r =>
        rw [e2] at h
        cases r with
        | exc c x e'' => exact h
        | ok ds e'' =>
          intro vs I2 H2 FT2 FS2 s2 S2 n
          have := callKC_ok (ags := .inr k :: ags) (vs := vs) (ds := ds) hk.2 (.inr ⟨k, by show k :: agL ags = _; rw [hl]⟩) s2 S2 n h
          have e3 : agV σ (.inr k :: ags) vs = v :: agV σ ags vs := by
            show ((σ[k]?).join.getD .non) :: agV σ ags vs = _
            rw [q1]; rfl
          rw [e3] at this
          exact this
    · exact h.elim
theorem methC_go {Q : VK} {c m : Str} {F : FN} {p : VEnv → Option D} {ags : List Ag} {cs : List D} (S : Stt G z I H ts dts σ env FT FS) (h : GE G z W I ts dts σ Q (vMethC c m p F ags cs env)) (hl : agL ags = []) : ∃ d, p env = some d ∧ d.frozen = true ∧ insOk c m d = true ∧ ∀ v, Rep G I v d → RAg G z W ags σ H fun vs H2 => spOf G F (false :: agP ags ++ cs.map fun _ => false) (v :: vs ++ cs.map cV) H2 Q (WE W σ) := by
  unfold vMethC at h
  cases e1 : p env with
  | none => rw [e1] at h; exact h.elim
  | some d =>
    rw [e1] at h
    replace h : GE G z W I ts dts σ Q (if insOk c m d = true ∧ cs.all isC = true then vCallC F (.inl (vP p) :: ags) cs env else none) := h
    split at h
    · rename_i hk
      have fz : d.frozen = true := by
        cases q : d.frozen with
        | true => rfl
        | false =>
          unfold vCallC M.bnd agM aCons M.bnd vP at h
          rw [e1] at h
          dsimp only at h
          rw [q] at h
          exact h.elim
      refine ⟨d, rfl, fz, hk.1, fun v rv => ?_⟩
      have hp : vP p env = some (.ok d env) := by
        unfold vP
        rw [e1]
        dsimp only
        rw [if_pos fz]
      have S1 := S.pushR rv
      refine ⟨I, v :: ts, d :: dts, env, FT, FS, S1, ?_⟩
      have ha : agM (.inl (vP p) :: ags) env = match agM ags env with
        | none => none
        | some (.ok ds e') => some (.ok (d :: ds) e')
        | some (.exc c x e') => some (.exc c x e') := by
        show aCons (vP p) (agM ags) env = _
        unfold aCons M.bnd
        rw [hp]
        dsimp only
        cases agM ags env with
        | none => rfl
        | some r => cases r <;> rfl
      unfold vCallC M.bnd at h
      rw [ha] at h
      cases e2 : agM ags env with
      | none => rw [e2] at h; exact h.elim
      | some r =>
        rw [e2] at h
        cases r with
        | exc c x e'' => exact h
        | ok ds e'' =>
          intro vs I2 H2 FT2 FS2 s2 S2 n
          obtain ⟨FT3, S3⟩ := S2.rot n
          exact callKC_ok (ags := .inl (vP p) :: ags) (vs := v :: vs) (ds := d :: ds) hk.2 (.inl hl) s2 S3 (by simp [n]) h
    · exact h.elim
end
section
variable {X : Cx} {G : Gx} {z : Zx} {W : WX} {e a b o : Expr} {es : List Expr} {pa pb po : VEnv → Option D} {f fa fb : M D} {pos apos cpos pos' : Pos} {ms : List Bool} {ps' : List PSt} {ags : List Ag} {cs : List D}
theorem pe_methSD {fd : FuncData} {ps : List Str} {k : Nat} {C g : Addr} {m : Str} {sp : Sp} {E : L2.St → XK} {ta : TE} {t : TA} {pl : Sem Bool} {dvs : List V} {dls : List Value} (he : PE X o ta) (c : Cls X.K C) (hm : Meth X.K C m g) (FO : FnOk X.prog X.w X.K X.mg X.base (L2.CX X.prog X.w) k g fd ps sp) (hr : Room k X.A) (hb : Binds X.K fd ps dls) (hd : Vals dvs dls) (hx : ∀ σ, PassesAt (L2.CX X.prog X.w) X σ (E σ)) (ha : PA X (e :: es) t)
    (hst : starEach (e :: es) X.env = (false, eval e X.env) :: starEach es X.env := by rfl) (hpl : (backTo pos (starEach es X.env)).any (·.1) = false := by rfl)
    (ht : eval (.Call (.Attribute o m apos) (e :: es) [] pos) X.env = (do
      let ov ← eval o X.env
      standAt apos.atName
      let (f, first) ← holding [ov] (getMethod ov m pl)
      callWith pos f first (backTo pos (starEach (e :: es) X.env)) (backToKw pos (keywordEach [] X.env))) := by rfl) :
    PE X (.Call (.Attribute o m apos) (e :: es) [] pos) (fun σ H Q => ta σ H fun x H1 => ∃ a dx fs, x = .ref a ∧ H1 a = some (.ins C dx fs) ∧ fs.lookup m = none ∧ t σ H1 fun vs H2 => sp (x :: vs ++ dvs) H2 Q (E σ)) := by
  refine ⟨fun pins s σ H Q I h => ?_⟩
  refine PySem.W.methodCall_KW (pl := pl) (thn (he.run pins s σ H _ I h) fun u s1 ⟨x, H1, I1, rx, a, dx, fs, ex, ea, l, q⟩ => ?_) ht
  subst ex
  obtain rfl : u = Value.ref a := rx
  refine getmeth_ok I1 ea c hm l ?_
  refine PySem.W.callWith_K (first := [.ref a]) (h₀ := X.base) I1.ok.mod.kin hm.kp (thn (ha.run pos pins s1 σ H1 _ I1 q) fun us s2 ⟨vs, H2, I2, r, q2⟩ => ⟨I2.kIn, ?_⟩) hst hpl
  exact run_fnSD (us := .ref a :: us) (vs := .ref a :: vs) FO hr hb hd (hx σ) I2 (.cons rfl r) q2
theorem pe_meth0D {fd : FuncData} {ps : List Str} {k : Nat} {C g : Addr} {m : Str} {sp : Sp} {E : L2.St → XK} {ta : TE} {pl : Sem Bool} {dvs : List V} {dls : List Value} (he : PE X o ta) (c : Cls X.K C) (hm : Meth X.K C m g) (FO : FnOk X.prog X.w X.K X.mg X.base (L2.CX X.prog X.w) k g fd ps sp) (hr : Room k X.A) (hb : Binds X.K fd ps dls) (hd : Vals dvs dls) (hx : ∀ σ, PassesAt (L2.CX X.prog X.w) X σ (E σ))
    (ht : eval (.Call (.Attribute o m apos) [] [] pos) X.env = (do
      let ov ← eval o X.env
      standAt apos.atName
      let (f, first) ← holding [ov] (getMethod ov m pl)
      callWith pos f first (backTo pos (starEach [] X.env)) (backToKw pos (keywordEach [] X.env))) := by rfl) :
    PE X (.Call (.Attribute o m apos) [] [] pos) (fun σ H Q => ta σ H fun x H1 => ∃ a dx fs, x = .ref a ∧ H1 a = some (.ins C dx fs) ∧ fs.lookup m = none ∧ sp ([x] ++ dvs) H1 Q (E σ)) := by
  refine ⟨fun pins s σ H Q I h => ?_⟩
  refine PySem.W.methodCall_KW (pl := pl) (thn (he.run pins s σ H _ I h) fun u s1 ⟨x, H1, I1, rx, a, dx, fs, ex, ea, l, q⟩ => ?_) ht
  subst ex
  obtain rfl : u = Value.ref a := rx
  refine getmeth_ok I1 ea c hm l ?_
  exact PySem.W.callWith_K0 (first := [.ref a]) I1.kIn hm.kp (run_fnSD (us := [.ref a]) (vs := [.ref a]) FO hr hb hd (hx σ) I1 (.cons rfl .nil) q)
theorem ve_methL (c : Str) {m : Str} (k : Nat) (cs : List D) {Fn : FN} {fa : Addr} {fd : FuncData} {ps : List Str} {lv : Nat} {pl : Sem Bool} {dls : List Value} (hc : Cls X.K (G.cl c)) (hm : Meth X.K (G.cl c) m fa) (FO : FnOk X.prog X.w X.K X.mg X.base (L2.CX X.prog X.w) lv fa fd ps (spOf G Fn (true :: agP ags ++ cs.map fun _ => false))) (hr : Room lv X.A) (hb : Binds X.K fd ps dls) (hd : Vals (cs.map cV) dls) (tk : Takes X W) (ho : PE X o (tVar k))
    (ha : PA X (e :: es) (RAg G z W ags)) (hl : agL ags = [] := by rfl)
    (hst : starEach (e :: es) X.env = (false, eval e X.env) :: starEach es X.env := by rfl) (hpl : (backTo pos (starEach es X.env)).any (·.1) = false := by rfl)
    (ht : eval (.Call (.Attribute o m apos) (e :: es) [] pos) X.env = (do
      let ov ← eval o X.env
      standAt apos.atName
      let (f, first) ← holding [ov] (getMethod ov m pl)
      callWith pos f first (backTo pos (starEach (e :: es) X.env)) (backToKw pos (keywordEach [] X.env))) := by rfl) :
    PE X (.Call (.Attribute o m apos) (e :: es) [] pos) (RE G z W (vMethL c m k Fn ags cs)) := peImp (pe_methSD (pl := pl) ho hc hm FO hr hb hd (fun σ => passAt tk σ) ha hst hpl ht) fun σ H Q h => by
  obtain ⟨I, ts, dts, env, FT, FS, S, h⟩ := RE.to h
  obtain ⟨d, v, Fv, e1, e2, o1, k1, go⟩ := methL_go S h hl
  obtain ⟨a, dx, fs, ev, h1, h2⟩ := own_insM S.sub o1 k1
  exact ⟨v, e2, a, dx, fs, ev, h1, h2, go⟩
theorem ve_methL0 (c : Str) {m : Str} (k : Nat) (cs : List D) {Fn : FN} {fa : Addr} {fd : FuncData} {ps : List Str} {lv : Nat} {pl : Sem Bool} {dls : List Value} (hc : Cls X.K (G.cl c)) (hm : Meth X.K (G.cl c) m fa) (FO : FnOk X.prog X.w X.K X.mg X.base (L2.CX X.prog X.w) lv fa fd ps (spOf G Fn (true :: cs.map fun _ => false))) (hr : Room lv X.A) (hb : Binds X.K fd ps dls) (hd : Vals (cs.map cV) dls) (tk : Takes X W) (ho : PE X o (tVar k))
    (ht : eval (.Call (.Attribute o m apos) [] [] pos) X.env = (do
      let ov ← eval o X.env
      standAt apos.atName
      let (f, first) ← holding [ov] (getMethod ov m pl)
      callWith pos f first (backTo pos (starEach [] X.env)) (backToKw pos (keywordEach [] X.env))) := by rfl) :
    PE X (.Call (.Attribute o m apos) [] [] pos) (RE G z W (vMethL c m k Fn [] cs)) := peImp (pe_meth0D (pl := pl) ho hc hm FO hr hb hd (fun σ => passAt tk σ) ht) fun σ H Q h => by
  obtain ⟨I, ts, dts, env, FT, FS, S, h⟩ := RE.to h
  obtain ⟨d, v, Fv, e1, e2, o1, k1, go⟩ := methL_go S h rfl
  obtain ⟨a, dx, fs, ev, h1, h2⟩ := own_insM S.sub o1 k1
  refine ⟨v, e2, a, dx, fs, ev, h1, h2, ?_⟩
  obtain ⟨I3, ts3, dts3, env3, FT3, FS3, S3, g⟩ := go
  exact g [] I3 H FT3 FS3 (Same.refl _) S3 rfl
theorem ve_methC (c : Str) {m : Str} (cs : List D) {Fn : FN} {fa : Addr} {fd : FuncData} {ps : List Str} {lv : Nat} {pl : Sem Bool} {dls : List Value} (hc : Cls X.K (G.cl c)) (hm : Meth X.K (G.cl c) m fa) (FO : FnOk X.prog X.w X.K X.mg X.base (L2.CX X.prog X.w) lv fa fd ps (spOf G Fn (false :: agP ags ++ cs.map fun _ => false))) (hr : Room lv X.A) (hb : Binds X.K fd ps dls) (hd : Vals (cs.map cV) dls) (tk : Takes X W) (ho : PE X o (RP G z po))
    (ha : PA X (e :: es) (RAg G z W ags)) (hl : agL ags = [] := by rfl)
    (hst : starEach (e :: es) X.env = (false, eval e X.env) :: starEach es X.env := by rfl) (hpl : (backTo pos (starEach es X.env)).any (·.1) = false := by rfl)
    (ht : eval (.Call (.Attribute o m apos) (e :: es) [] pos) X.env = (do
      let ov ← eval o X.env
      standAt apos.atName
      let (f, first) ← holding [ov] (getMethod ov m pl)
      callWith pos f first (backTo pos (starEach (e :: es) X.env)) (backToKw pos (keywordEach [] X.env))) := by rfl) :
    PE X (.Call (.Attribute o m apos) (e :: es) [] pos) (RE G z W (vMethC c m po Fn ags cs)) := peImp (pe_methSD (pl := pl) ho hc hm FO hr hb hd (fun σ => passAt tk σ) ha hst hpl ht) fun σ H Q h => by
  obtain ⟨I, ts, dts, env, FT, FS, S, h⟩ := RE.to h
  obtain ⟨d, e1, fz, k1, go⟩ := methC_go S h hl
  refine ⟨I, ts, dts, env, FT, FS, d, S, e1, fun v F ow => ?_⟩
  obtain ⟨a, dx, fs, ev, h1, h2⟩ := own_insM S.sub ow k1
  exact ⟨a, dx, fs, ev, h1, h2, go v (Own.rep _ _ _ fz ow).2⟩
theorem ve_methC0 (c : Str) {m : Str} (cs : List D) {Fn : FN} {fa : Addr} {fd : FuncData} {ps : List Str} {lv : Nat} {pl : Sem Bool} {dls : List Value} (hc : Cls X.K (G.cl c)) (hm : Meth X.K (G.cl c) m fa) (FO : FnOk X.prog X.w X.K X.mg X.base (L2.CX X.prog X.w) lv fa fd ps (spOf G Fn (false :: cs.map fun _ => false))) (hr : Room lv X.A) (hb : Binds X.K fd ps dls) (hd : Vals (cs.map cV) dls) (tk : Takes X W) (ho : PE X o (RP G z po))
    (ht : eval (.Call (.Attribute o m apos) [] [] pos) X.env = (do
      let ov ← eval o X.env
      standAt apos.atName
      let (f, first) ← holding [ov] (getMethod ov m pl)
      callWith pos f first (backTo pos (starEach [] X.env)) (backToKw pos (keywordEach [] X.env))) := by rfl) :
    PE X (.Call (.Attribute o m apos) [] [] pos) (RE G z W (vMethC c m po Fn [] cs)) := peImp (pe_meth0D (pl := pl) ho hc hm FO hr hb hd (fun σ => passAt tk σ) ht) fun σ H Q h => by
  obtain ⟨I, ts, dts, env, FT, FS, S, h⟩ := RE.to h
  obtain ⟨d, e1, fz, k1, go⟩ := methC_go S h rfl
  refine ⟨I, ts, dts, env, FT, FS, d, S, e1, fun v F ow => ?_⟩
  obtain ⟨a, dx, fs, ev, h1, h2⟩ := own_insM S.sub ow k1
  refine ⟨a, dx, fs, ev, h1, h2, ?_⟩
  obtain ⟨I3, ts3, dts3, env3, FT3, FS3, S3, g⟩ := go v (Own.rep _ _ _ fz ow).2
  exact g [] I3 H FT3 FS3 (Same.refl _) S3 rfl
/-! ### o.f as a target -/
def tgFld (c f : Str) (k : Nat) : Tg := fun d e => (insAt c k e).bind fun r => if r.1.length < 1000 then some (e.set k (some (.ins true c (putN f d r.1 r.2).1 (putN f d r.1 r.2).2))) else none
theorem pg_fld {ta : TE} {fn : Str} (ha : PE X o ta) : PG X (.Attribute o fn pos) (fun y σ H Q => ta σ H fun x H2 => ∃ a C dx fs, x = .ref a ∧ H2 a = some (.ins C dx fs) ∧ Cls X.K C ∧ NoAttr X.K C fn ∧ fs.length < 1000 ∧ Q σ (upd H2 a (.ins C dx (putF fn y fs)))) := by
  refine ⟨fun pins s σ H v u Q I r h => ?_⟩
  refine PySem.W.kas_attr (thn (ha.run pins s σ H _ I h) fun ov s2 ⟨x, H2, I2, rx, a, C, dx, fs, ex, ea, c, n, l, q2⟩ => ?_)
  subst ex
  obtain rfl : ov = Value.ref a := rx
  exact setattr_ok I2 ea c n l r fun s3 I3 => ⟨σ, _, I3, q2⟩
theorem vg_fld (c : Str) (k : Nat) {fn : Str} (hc : Cls G.K (G.cl c)) (hn : NoAttr G.K (G.cl c) fn) (ho : PE X o (tVar k)) (hK : X.K = G.K := by rfl) : PG X (.Attribute o fn pos) (RG G z (tgFld c fn k) []) := pgImp (pg_fld ho) fun v σ H Q ⟨I, ts, dts, env, FT, FS, d, S, h⟩ => by
  unfold tgFld at h
  cases e1 : insAt c k env with
  | none => rw [e1] at h; exact h.elim
  | some r =>
    rw [e1] at h
    dsimp only [Option.bind_some] at h
    split at h
    · exact h.elim
    · rename_i e2
      split at e2
      · rename_i hz
        cases e2
        obtain ⟨ek, el⟩ := insAt_eq e1
        obtain ⟨a0, dx, ws, q1, q2, q3, FT2, FS2, S2⟩ := S.putFld (f := fn) ek el
        refine ⟨.ref a0, q1, a0, _, dx, _, rfl, q2, by rw [hK]; exact hc, by rw [hK]; exact hn, ?_, h σ I _ FT2 FS2 (Out.refl _ _) (Same.refl _) S2⟩
        rw [List.length_zip]
        omega
      · cases e2
/-! ### xs.index(y) -/
def gIndex : D → D → Option D := fun a b => (asLst a).bind fun l => (asFlat b).bind fun y => (asFlats l).bind fun ys => (ys.findIdx? fun q => eqV q y).map fun j => .int (j : Nat)
abbrev pIndex := p2 gIndex
theorem vp_index (ho : PE X o (RP G z po)) (hb : PE X b (RP G z pb)) (hK : X.K = G.K := by rfl) (hbase : attributeBase o "index" X.env (eval o X.env) = eval o X.env := by rfl)
    (hfew : ((backTo cpos (starEach [b] X.env)).all (fun x => !x.1) && (backToKw cpos (keywordEach [] X.env)).all (fun x => x.1.isSome)
      && decide ([b].length + ([] : List Keyword).length + (if ([] : List Keyword).isEmpty then 0 else 1) < 30)) = true := by rfl)
    (hline : (apos.endLine == cpos.line) = true := by rfl) (hs : starEach [b] X.env = (false, eval b X.env) :: starEach [] X.env := by rfl) (hplain : (backTo cpos (starEach [] X.env)).any (·.1) = false := by rfl) : PE X (.Call (.Attribute o "index" apos) [b] [] cpos) (RP G z (pIndex po pb)) :=
  peImp (pe_bm PySem.F.plainAttrs_list PySem.F.slot_list_index PySem.F.type_list_index mt_index ho (pa_cons hb pa_nil hs) hbase hfew hline hs hplain) fun σ H Q ⟨I, ts, dts, env, FT, FS, d, S, e, q⟩ => by
    obtain ⟨d1, e1, e⟩ := Option.bind_eq_some_iff.mp e
    obtain ⟨d2, e2, e⟩ := Option.bind_eq_some_iff.mp e
    obtain ⟨l, e3, e⟩ := Option.bind_eq_some_iff.mp e
    obtain ⟨y, e4, e⟩ := Option.bind_eq_some_iff.mp e
    obtain ⟨ys, e5, e⟩ := Option.bind_eq_some_iff.mp e
    obtain ⟨j, e6, rfl⟩ := Option.map_eq_some_iff.mp e
    obtain ⟨mm, ed⟩ := asLst_eq e3
    subst ed
    refine ⟨I, ts, dts, env, FT, FS, _, S, e1, fun u F1 o1 => ?_⟩
    obtain ⟨a0, ws, F', ev, ha0, ow, _⟩ := own_lst S.sub o1
    subst ev
    refine ⟨by rw [hK]; exact tyL ha0, I, ts, dts, env, FT, FS, _, S, e2, fun w F2 o2 => ?_⟩
    obtain ⟨ew, fw⟩ := asFlat_eq e4 o2
    obtain ⟨ews, fws⟩ := asFlats_eq e5 ow
    subst ew ews
    rw [List.findIdx?_eq_some_iff_getElem] at e6
    obtain ⟨hj, g1, g2⟩ := e6
    rw [hK]
    refine ⟨a0, ws, w, j, ws[j], rfl, rfl, .of ha0, fw, fws, List.getElem?_eq_getElem hj, g1, fun m z' hm hz => ?_, q _ [] ⟨rfl, rfl⟩⟩
    obtain ⟨hml, rfl⟩ := List.getElem?_eq_some_iff.mp hz
    simpa using g2 m hm
/-! ### xs[::-1] -/
def gRevS : D → Option D
  | .lst _ l => some (.lst true l.reverse)
  | .scr l => some (.lst true l.reverse)
  | _ => none
def vRevS (f : M D) : M D := f.bnd fun d => M.opt (gRevS d.fz)
theorem ve_revS {k : Nat} {p1 p2 p3 : Pos} (ha : PE X a (RE G z W fa)) (hK : X.K = G.K := by rfl) : PE X (.Subscript a (.Slice none none (some (.UnaryOp .USub (.Constant (.int 1) k p1) p2)) p3) pos) (RE G z W (vRevS fa)) := peImp (pe_revL ha) fun σ H Q h => by
  obtain ⟨I, ts, dts, env, FT, FS, S, h⟩ := RE.to h
  refine RE.of S (GE.bnd (g := GE G z W I ts dts σ Q) (Same.refl _) h (fun c x e h => h) (fun h => h) fun d1 e1 h1 v I1 H1 FT1 FS1 s1 S1 => ?_)
  obtain ⟨I2, F2, s2, rv, S2⟩ := S1.giveTop
  obtain ⟨r, e4, hq⟩ := GE.optGo h1
  rw [hK]
  generalize d1.fz = d at e4 rv
  cases d with
  | lst m c =>
    cases e4
    obtain ⟨p, ws, ev, h5, r5⟩ := rep_lst rv S2.sub
    refine ⟨p, ws, ev, .of h5, fun q hp => ?_⟩
    obtain ⟨FT', S'⟩ := S2.pushN r5.rev hp
    exact hq _ _ _ _ _ (s1.trans s2) S'
  | scr c =>
    cases e4
    obtain ⟨p, ws, ev, h5, r5⟩ := rv
    refine ⟨p, ws, ev, Same.seq S2.sub h5, fun q hp => ?_⟩
    obtain ⟨FT', S'⟩ := S2.pushN r5.rev hp
    exact hq _ _ _ _ _ (s1.trans s2) S'
  | _ => cases e4
/-! ### all, any of a list of truth values -/
def asBls : List D → Option (List Bool)
  | [] => some []
  | d :: l => (asBl d).bind fun i => (asBls l).map (i :: ·)
def asBlL : D → Option (List Bool)
  | .lst _ l => asBls l
  | _ => none
theorem owns_bls {I H : Hp} : ∀ {l : List D} {ws : List V} {ns : List Bool} {F : List Addr}, Owns G I H ws l F → asBls l = some ns → ws = ns.map V.bl
  | [], [], ns, _, _, e => by cases e; rfl
  | d :: l, w :: ws, ns, _, ⟨F1, F2, _, h, r⟩, e => by
    obtain ⟨i, e1, e2⟩ := Option.bind_eq_some_iff.mp (show (asBl d).bind (fun i => (asBls l).map (i :: ·)) = some ns from e)
    obtain ⟨ns', e3, e4⟩ := Option.map_eq_some_iff.mp e2
    subst e4
    have hw : w = .bl i := by
      cases d with
      | bl b => cases e1; exact h.2
      | _ => cases e1
    rw [List.map_cons, owns_bls r e3, hw]
  | [], _ :: _, _, _, h, _ => h.elim
  | _ :: _, [], _, _, h, _ => h.elim
theorem own_blL {I H : Hp} {v : V} {d : D} {F : List Addr} {ns : List Bool} (s : Same I H) (h : Own G I H v d F) (e : asBlL d = some ns) : ∃ a, v = .ref a ∧ SqL G.K H a (ns.map V.bl) := by
  cases d with
  | lst m l =>
    obtain ⟨a, ws, F', ev, h1, ow, _⟩ := own_lst s h
    rw [← owns_bls ow e]
    exact ⟨a, ev, SqL.of h1⟩
  | _ => cases e
def gAllL : D → Option D := fun d => (asBlL d).map fun ns => .bl (ns.all id)
def gAnyL : D → Option D := fun d => (asBlL d).map fun ns => .bl (ns.any id)
theorem ve_allL {p : Pos} (hc : X.calm = true) (hm : X.mg "all" = none) (ha : PE X a (RE G z W fa)) (hgl : Gl X "all" := by rfl) (hK : X.K = G.K := by rfl)
    (hs : starEach [a] X.env = (false, eval a X.env) :: starEach [] X.env := by rfl) (hpl : (backTo pos (starEach [] X.env)).any (·.1) = false := by rfl) : PE X (.Call (.Name "all" p) [a] [] pos) (RE G z W (vOp1 gAllL fa)) :=
  ve_call1 (cr_all hc) (by
    rw [hK]
    intro I H u d1 d F1 Q s o1 e q
    obtain ⟨ns, e1, e2⟩ := Option.map_eq_some_iff.mp e
    subst e2
    obtain ⟨a, ev, sl⟩ := own_blL s o1 e1
    exact ⟨a, ns, by rw [ev], sl, q _ [] ⟨rfl, rfl⟩⟩) hm (by decide +kernel) ha hgl (by decide) (by decide) hs hpl
theorem ve_anyL {p : Pos} (hc : X.calm = true) (hm : X.mg "any" = none) (ha : PE X a (RE G z W fa)) (hgl : Gl X "any" := by rfl) (hK : X.K = G.K := by rfl)
    (hs : starEach [a] X.env = (false, eval a X.env) :: starEach [] X.env := by rfl) (hpl : (backTo pos (starEach [] X.env)).any (·.1) = false := by rfl) : PE X (.Call (.Name "any" p) [a] [] pos) (RE G z W (vOp1 gAnyL fa)) :=
  ve_call1 (cr_any hc) (by
    rw [hK]
    intro I H u d1 d F1 Q s o1 e q
    obtain ⟨ns, e1, e2⟩ := Option.map_eq_some_iff.mp e
    subst e2
    obtain ⟨a, ev, sl⟩ := own_blL s o1 e1
    exact ⟨a, ns, by rw [ev], sl, q _ [] ⟨rfl, rfl⟩⟩) hm (by decide +kernel) ha hgl (by decide) (by decide) hs hpl
theorem ve_maxLE {p : Pos} (hc : X.calm = true) (hm : X.mg "max" = none) (ha : PE X a (RE G z W fa)) (hgl : Gl X "max" := by rfl) (hK : X.K = G.K := by rfl)
    (hs : starEach [a] X.env = (false, eval a X.env) :: starEach [] X.env := by rfl) (hpl : (backTo pos (starEach [] X.env)).any (·.1) = false := by rfl) : PE X (.Call (.Name "max" p) [a] [] pos) (RE G z W (vOp1 gMaxL fa)) :=
  ve_call1 (cr_max hc) (by
    rw [hK]
    intro I H u d1 d F1 Q s o1 e q
    obtain ⟨ns, e1, e2⟩ := Option.bind_eq_some_iff.mp e
    split at e2
    · cases e2
    rename_i hn
    cases e2
    obtain ⟨a, ev, sl⟩ := own_intL s o1 e1
    have hn : ns ≠ [] := fun h => hn (by rw [h]; rfl)
    refine ⟨a, ns, by rw [ev], sl, List.length_pos_iff.mpr hn, fun m h1 h2 => ?_⟩
    obtain ⟨g1, g2⟩ := maxI_spec hn
    rw [Int.le_antisymm (g2 m h1) (h2 _ g1)]
    exact q _ [] ⟨rfl, rfl⟩) hm (by decide +kernel) ha hgl (by decide) (by decide) hs hpl
/-! ### A..[p] op= v -/
theorem get_list : PGet X (rIxL X.K) := by
  intro pins s σ H x y v u Q I rx ry h
  obtain ⟨p, xs, i, zv, rfl, rfl, hq, he, q⟩ := h
  cases rx
  obtain ⟨t, rfl⟩ := ry
  obtain ⟨its, r, pl, hz⟩ := I.list hq
  obtain ⟨j, h1, h2, h3, h4, h5⟩ := atI_get he
  obtain ⟨w, ew, rw'⟩ := r.get h2
  have hl := r.length
  have hn := line63
  have fin : EP X pins σ Q w s := ⟨zv, H, I, rw', q⟩
  by_cases h0 : 0 ≤ i
  · have hj : i.toNat = j := by
      rw [seqIndex_of h0 h5] at h1
      exact Option.some.inj h1
    exact wpAny_getItem_list pl.isList h0 (by omega) (by rw [hj]; simpa using ew) fin
  · have hj : (i + (its.toArray.size : Int)).toNat = j := by
      rw [seqIndex_neg (by omega) h4] at h1
      rw [List.size_toArray, ← hl]
      exact Option.some.inj h1
    exact wpAny_getItem_list_neg pl.isList (by omega) (by rw [List.size_toArray] <;> omega) (by omega) (by rw [hj]; simpa using ew) fin
def sTAug (g : Int → Int → Int) (k : Nat) (ps : List PSt) (p pv : VEnv → Option D) : M Fl := fun e => (pathT k ps e).bind fun x => (asOL x.2.2).bind fun m => ((p e).bind asInt).bind fun i => (L2.atI m i).bind fun y => (asInt y).bind fun u => ((pv e).bind asInt).bind fun w => (ixSet m i (.int (g u w))).bind fun m' => wrT k x (.lst true m') e
theorem vs_tAug {op : Operator} {g : Int → Int → Int} (hp : PIp X op (ipI g)) (k : Nat) {tpos : Pos} (ho : PE X o (RNT G z k ps')) (hi : PE X b (RP G z pb)) (hv : PE X a (RP G z pa)) (hK : X.K = G.K := by rfl)
    (ha : ∀ ov iv new, augStore b ov iv new = (do holding [new, ov, iv] (setItem ov iv new); release [new, ov, iv] []; pure .next) := by intros; rfl) : PS X (.AugAssign (.Subscript o b tpos) op a pos) (RS G z W (sTAug g k ps' pb pa)) :=
  psImp (ps_augS ho hi get_list hv hp set_list ha) fun D σ H h => by
    obtain ⟨I, env, FS, S, h⟩ := RS.to h
    unfold sTAug at h
    cases e1 : pathT k ps' env with
    | none => rw [e1] at h; exact h.elim
    | some x =>
      obtain ⟨d, is, x⟩ := x
      rw [e1] at h
      obtain ⟨p1, p2, p3⟩ := pathT_eq e1
      replace h : GS G z W I D ((asOL x).bind fun m => ((pb env).bind asInt).bind fun i => (L2.atI m i).bind fun y => (asInt y).bind fun u => ((pa env).bind asInt).bind fun w => (ixSet m i (.int (g u w))).bind fun m' => wrT k (d, is, x) (.lst true m') env) := h
      cases e2 : asOL x with
      | none => rw [e2] at h; exact h.elim
      | some m =>
        rw [e2] at h
        cases asOL_eq e2
        replace h : GS G z W I D (((pb env).bind asInt).bind fun i => (L2.atI m i).bind fun y => (asInt y).bind fun u => ((pa env).bind asInt).bind fun w => (ixSet m i (.int (g u w))).bind fun m' => wrT k (d, is, .lst true m) (.lst true m') env) := h
        cases e3 : (pb env).bind asInt with
        | none => rw [e3] at h; exact h.elim
        | some i =>
          rw [e3] at h
          replace h : GS G z W I D ((L2.atI m i).bind fun y => (asInt y).bind fun u => ((pa env).bind asInt).bind fun w => (ixSet m i (.int (g u w))).bind fun m' => wrT k (d, is, .lst true m) (.lst true m') env) := h
          cases e4 : L2.atI m i with
          | none => rw [e4] at h; exact h.elim
          | some y =>
            rw [e4] at h
            replace h : GS G z W I D ((asInt y).bind fun u => ((pa env).bind asInt).bind fun w => (ixSet m i (.int (g u w))).bind fun m' => wrT k (d, is, .lst true m) (.lst true m') env) := h
            cases e5 : asInt y with
            | none => rw [e5] at h; exact h.elim
            | some u =>
              rw [e5] at h
              cases asInt_eq e5
              replace h : GS G z W I D (((pa env).bind asInt).bind fun w => (ixSet m i (.int (g u w))).bind fun m' => wrT k (d, is, .lst true m) (.lst true m') env) := h
              cases e6 : (pa env).bind asInt with
              | none => rw [e6] at h; exact h.elim
              | some w =>
                rw [e6] at h
                replace h : GS G z W I D ((ixSet m i (.int (g u w))).bind fun m' => wrT k (d, is, .lst true m) (.lst true m') env) := h
                unfold ixSet at h
                cases e7 : L2.ixN m.length i with
                | none => rw [e7] at h; exact h.elim
                | some j =>
                  rw [e7] at h
                  obtain ⟨d1, e8, e9⟩ := Option.bind_eq_some_iff.mp e3
                  cases asInt_eq e9
                  obtain ⟨d2, e10, e11⟩ := Option.bind_eq_some_iff.mp e6
                  cases asInt_eq e11
                  obtain ⟨v, uu, Fu, g1, g2, g3, _⟩ := S.lens p1 p3 (Fx := []) (by simpa using S.nd) (fun b hb => nomatch hb)
                  obtain ⟨a0, ws, F', eu, ha0, _, ow, _⟩ := g3
                  subst eu
                  obtain ⟨wv, F2, ew, ow2⟩ := ow.atI e4
                  cases own_int ow2
                  obtain ⟨ws2, q1, q2, q3⟩ := putT_go (v' := .int (g u w)) (r := .int (g u w)) (S.pushR (v := .int (g u w)) rfl) (Same.refl _) p1 p3 g1 g2 e7 h
                  rw [ha0] at q1
                  cases q1
                  rw [hK]
                  refine ⟨I, [], [], env, [], FS, is, v, .ref a0, S, p2, g1, g2, I, [], [], env, [], FS, _, S, e8, fun w1 F1 o1 => ?_⟩
                  cases own_int o1
                  refine ⟨a0, ws, i, _, rfl, rfl, .of ha0, ew, I, [], [], env, [], FS, _, S, e10, fun w1 F1 o1 => ?_⟩
                  cases own_int o1
                  exact ⟨u, w, rfl, rfl, a0, ws, i, j, rfl, rfl, ha0, q2, q3⟩
end
end
section
set_option Elab.async false
set_option linter.all false
set_option maxRecDepth 100000
set_option maxHeartbeats 1000000
/-! ### the calculus of what stands behind fields -/
section
variable {e : VEnv} {K B C : VEnv → Prop} {R : D → VEnv → Prop} {E : XQ} {f : M D} {k j : Nat} {ps : List PSt} {p pv fa : VEnv → Option D} {ags : List Ag} {cs : List D} {F : FN} {c m : Str} {g : Int → Int → Int} {Q : D → VEnv → Prop}
theorem wrT_go {d y m : D} {is : List Stp} (h : ev (setT d is y) fun d' => st e k (some d') K) : ws (fun e => wrT k (d, is, m) y e) e K B C R E := by
  obtain ⟨d', h1, _, q⟩ := h
  unfold ws wp wrT
  dsimp only
  rw [h1]
  exact q
theorem ws_tApp (h : ev ((e[k]?).join) fun d => ev (evT ps e) fun is => ev (atT d is) fun x => ev (asOL x) fun m => ev (fa e) fun r => m.length < sizeLine ∧ ev (setT d is (.lst true (m ++ [r]))) fun d' => st e k (some d') K) : ws (sTApp k ps fa) e K B C R E := by
  obtain ⟨d, h1, is, h2, x, h3, m, h4, r, h5, hz, h⟩ := h
  have := wrT_go (m := x) (B := B) (C := C) (R := R) (E := E) h
  unfold ws wp sTApp
  dsimp only
  rw [pathT_go h1 h2 h3, Option.bind_some]
  dsimp only
  rw [h4, Option.bind_some, h5, Option.bind_some, if_pos hz]
  exact this
theorem ws_tPut (h : wp f e (fun r e1 => ev ((e1[k]?).join) fun d => ev (evT ps e1) fun is => ev (atT d is) fun x => ev (asOL x) fun m => ev ((p e1).bind asInt) fun i => ev (ixSet m i r) fun m' => ev (setT d is (.lst true m')) fun d' => st e1 k (some d') K) E) : ws (sTPut k ps p f) e K B C R E :=
  wp_bnd (wp_mono h (fun r e1 h1 => by
    obtain ⟨d, h1, is, h2, x, h3, m, h4, i, h5, m', h6, h⟩ := h1
    have := wrT_go (m := x) (B := B) (C := C) (R := R) (E := E) h
    unfold wp
    dsimp only
    rw [pathT_go h1 h2 h3, Option.bind_some]
    dsimp only
    rw [h4, Option.bind_some, h5, Option.bind_some, h6, Option.bind_some]
    exact this) fun _ _ _ h => h)
theorem ws_tDput (h : wp f e (fun r e1 => ev ((e1[k]?).join) fun d => ev (evT ps e1) fun is => ev (atT d is) fun x => ev (p e1) fun y => r.frozen = true ∧ ev (putDD x y r) fun x' => ev (setT d is x') fun d' => st e1 k (some d') K) E) : ws (sTDput k ps p f) e K B C R E :=
  wp_bnd (wp_mono h (fun r e1 h1 => by
    obtain ⟨d, h1, is, h2, x, h3, y, h4, h5, x', h6, h⟩ := h1
    have := wrT_go (m := x) (B := B) (C := C) (R := R) (E := E) h
    unfold wp
    dsimp only
    rw [pathT_go h1 h2 h3, Option.bind_some]
    dsimp only
    rw [h4, Option.bind_some, if_pos h5, h6, Option.bind_some]
    exact this) fun _ _ _ h => h)
theorem ws_tAug (h : ev ((e[k]?).join) fun d => ev (evT ps e) fun is => ev (atT d is) fun x => ev (asOL x) fun m => ev ((p e).bind asInt) fun i => ev ((L2.atI m i).bind asInt) fun u => ev ((pv e).bind asInt) fun w => ev (ixSet m i (.int (g u w))) fun m' => ev (setT d is (.lst true m')) fun d' => st e k (some d') K) : ws (sTAug g k ps p pv) e K B C R E := by
  obtain ⟨d, h1, is, h2, x, h3, m, h4, i, h5, u, h6, w, h7, m', h8, h⟩ := h
  have := wrT_go (m := x) (B := B) (C := C) (R := R) (E := E) h
  obtain ⟨y, h9, h10⟩ := Option.bind_eq_some_iff.mp h6
  unfold ws wp sTAug
  dsimp only
  rw [pathT_go h1 h2 h3, Option.bind_some]
  dsimp only
  rw [h4, Option.bind_some, h5, Option.bind_some, h9, Option.bind_some, h10, Option.bind_some, h7, Option.bind_some, h8, Option.bind_some]
  exact this
theorem wp_MvT (h : ev ((e[k]?).join) fun d => ev (evT ps e) fun is => ev (atT d is) fun x => ev (fzO x) fun y => ev (setT d is y) fun d' => st e k (some d') (Q y)) : wp (vMvT k ps) e Q E := by
  obtain ⟨d, h1, is, h2, x, h3, y, h4, d', h5, _, q⟩ := h
  cases h4
  unfold wp vMvT
  rw [pathT_go h1 h2 h3, Option.bind_some]
  dsimp only
  rw [h5]
  exact q
theorem wp_RevS (h : wp f e (fun d e1 => ev (gRevS d.fz) fun x => Q x e1) E) : wp (vRevS f) e Q E := wp_bnd (wp_mono h (fun d e1 h1 => wp_opt h1) fun _ _ _ h => h)
theorem wp_CallC (h : wp (agM ags) e (fun ds e1 => ev (agD e1 ags ds) fun xs => Fw F (xs ++ cs) (fun d outs => outK e1 (agL ags) outs (Q d)) (fun c x outs => outK e1 (agL ags) outs (E c x))) E) : wp (vCallC F ags cs) e Q E :=
  wp_bnd (wp_mono h (fun ds e1 h1 => by
    obtain ⟨xs, e2, h2⟩ := h1
    show wp (fun e => callKC F ags cs e ds) e1 Q E
    unfold wp callKC
    dsimp only
    rw [e2, Option.bind_some]
    unfold Fw at h2
    split at h2
    · rename_i d outs e3
      rw [e3]
      dsimp only
      rw [if_pos h2.1]
      exact h2.2
    · rename_i c x outs e3
      rw [e3]
      dsimp only
      rw [if_pos h2.1]
      exact h2.2
    · exact h2.elim) fun _ _ _ h => h)
theorem wp_MethL (h : ev ((e[k]?).join) fun d => insOk c m d = true ∧ cs.all isC = true ∧ wp (vCallC F (.inr k :: ags) cs) e Q E) : wp (vMethL c m k F ags cs) e Q E := by
  obtain ⟨d, h1, h2, h3, q⟩ := h
  unfold wp vMethL
  rw [h1, Option.bind_some, if_pos ⟨h2, h3⟩]
  exact q
theorem wp_MethC (h : ev (p e) fun d => insOk c m d = true ∧ cs.all isC = true ∧ wp (vCallC F (.inl (vP p) :: ags) cs) e Q E) : wp (vMethC c m p F ags cs) e Q E := by
  obtain ⟨d, h1, h2, h3, q⟩ := h
  unfold wp vMethC
  rw [h1, Option.bind_some, if_pos ⟨h2, h3⟩]
  exact q
end
section
variable {e : VEnv} {p q : VEnv → Option D} {ps : List PSt} {c f : Str} {ns : List Str} {l : List D} {d x y : D} {is : List Stp} {i : Int} {k : Key} {ks : List Key}
theorem q_evT0 : evT [] e = some [] := rfl
theorem q_evTi : evT (.ix p :: ps) e = ((p e).bind asInt).bind fun i => (evT ps e).map (.ix i :: ·) := by
  show (((p e).bind asInt).map Stp.ix).bind _ = _
  cases (p e).bind asInt <;> rfl
theorem q_evTf : evT (.fl c f :: ps) e = (evT ps e).map (.fl c f :: ·) := rfl
theorem q_evTk : evT (.ky p :: ps) e = ((p e).bind asKey).bind fun i => (evT ps e).map (.ky i :: ·) := by
  show (((p e).bind asKey).map Stp.ky).bind _ = _
  cases (p e).bind asKey <;> rfl
theorem q_psn {a : PSt} {l : List PSt} : [] ++ a :: l = a :: l := rfl
theorem q_psc {a : PSt} {k l : List PSt} : (a :: k) ++ l = a :: (k ++ l) := rfl
def kSetI (ns : List Str) (l : List D) (f : Str) (d : D) : List D := match kIx ns f with
  | some j => l.set j d
  | none => l
theorem kAt_h {n : Str} {a : D} : kAt (n :: ns) (a :: l) n = some a := by
  unfold kAt kIx
  rw [List.findIdx?_cons]
  simp
theorem kAt_t {n : Str} {a : D} (h : n ≠ f) : kAt (n :: ns) (a :: l) f = kAt ns l f := by
  unfold kAt kIx
  rw [List.findIdx?_cons]
  simp [h]
  cases List.findIdx? (fun x => decide (x = f)) ns <;> rfl
theorem kSetI_h {n : Str} {a : D} : kSetI (n :: ns) (a :: l) n d = d :: l := by
  unfold kSetI kIx
  rw [List.findIdx?_cons]
  simp
theorem kSetI_t {n : Str} {a : D} (h : n ≠ f) : kSetI (n :: ns) (a :: l) f d = a :: kSetI ns l f d := by
  unfold kSetI kIx
  rw [List.findIdx?_cons]
  simp [h]
  cases List.findIdx? (fun x => decide (x = f)) ns <;> rfl
theorem q_atT0 : atT d [] = some d := by cases d <;> rfl
theorem q_setT0 : setT d [] x = some x := by cases d <;> rfl
theorem q_atTf : atT (.ins true c ns l) (.fl c f :: is) = (kAt ns l f).bind fun d => atT d is := by
  show ((if c = c then kIx ns f else none)).bind _ = _
  rw [if_pos rfl]
  unfold kAt
  cases kIx ns f <;> rfl
theorem q_setTf : setT (.ins true c ns l) (.fl c f :: is) x = (kAt ns l f).bind fun d => (setT d is x).map fun d' => .ins true c ns (kSetI ns l f d') := by
  show ((if c = c then kIx ns f else none)).bind _ = _
  rw [if_pos rfl]
  unfold kAt kSetI
  cases kIx ns f <;> rfl
theorem atI_ixN {l : List D} : L2.atI l i = (L2.ixN l.length i).bind fun j => l[j]? := by
  unfold L2.atI
  cases L2.ixN l.length i <;> rfl
theorem q_atTi : atT (.lst true l) (.ix i :: is) = (L2.atI l i).bind fun d => atT d is := by
  rw [atI_ixN]
  show (L2.ixN l.length i).bind _ = _
  cases L2.ixN l.length i <;> rfl
theorem q_setTi : setT (.lst true l) (.ix i :: is) x = (L2.atI l i).bind fun d => (setT d is x).bind fun d' => (ixSet l i d').map fun l' => .lst true l' := by
  rw [atI_ixN]
  show (L2.ixN l.length i).bind _ = _
  unfold ixSet
  cases h : L2.ixN l.length i with
  | none => rfl
  | some j =>
    show ((l[j]?).bind fun c => (setT c is x).map fun c' => D.lst true (l.set j c')) = (l[j]?).bind fun d => (setT d is x).bind fun d' => some (D.lst true (l.set j d'))
    cases l[j]? with
    | none => rfl
    | some d =>
      simp only [Option.bind_some]
      cases setT d is x <;> rfl
theorem q_atTk : atT (.dk true ks l) (.ky k :: is) = (kAt ks l k).bind fun d => atT d is := by
  show (kIx ks k).bind _ = _
  unfold kAt
  cases kIx ks k <;> rfl
theorem q_asOL : asOL (.lst true l) = some l := rfl
theorem q_oP : oP p e = (p e).bind fun d => if d.frozen then some d else none := rfl
theorem q_oFz {o : VEnv → Option D} : oFz o e = (o e).map D.fz := rfl
theorem q_oC : oC d e = some d := rfl
theorem q_oNil : oNil e = some [] := rfl
theorem q_oCons {o : VEnv → Option D} {os : VEnv → Option (List D)} : oCons o os e = (o e).bind fun d => (os e).map (d :: ·) := rfl
theorem q_oLst {os : VEnv → Option (List D)} : oLst os e = (os e).bind fun ds => if ds.length ≤ sizeLine then some (.lst true ds) else none := rfl
theorem q_oTup {os : VEnv → Option (List D)} : oTup os e = (os e).bind fun ds => if ds.length ≤ sizeLine then some (.tup (D.fzs ds)) else none := rfl
theorem q_frI {d : D} (h : d.frozen = true) : (if d.frozen then some d else none) = some d := if_pos h
theorem q_szI {l : List D} {a : D} (h : l.length ≤ sizeLine) : (if l.length ≤ sizeLine then some a else none) = some a := if_pos h
theorem q_revS {m : Bool} {l : List D} : gRevS (.lst m l) = some (.lst true l.reverse) := rfl
theorem q_tgF {j : Nat} : tgFld c f j d e = (insAt c j e).bind fun r => if r.1.length < 1000 then some (e.set j (some (.ins true c (putN f d r.1 r.2).1 (putN f d r.1 r.2).2))) else none := rfl
end
end
section
set_option Elab.async false
set_option linter.all false
set_option maxRecDepth 100000
set_option maxHeartbeats 1000000
section
variable {P : Program} {w : World} {G : Gx} {mg : Str → Option Value} {base : Heap}
/-- the rule for a def with defaults -/
theorem vfnD {dvs : List V} {kws : List (Str × V)} {x qual : Str} {st : Stmt} {f : Addr} {fd : FuncData} {N ps : List Str} {k : Nat} {pm ms : List Bool} {body : M Fl} (F : FunD G.K x qual (defArgs st) (defBody st) (defScope st) dvs kws f fd) (S : FnScope N ps (defScope st)) (hp : pm.length = ps.length) (hn : ps.length ≤ N.length) (hms : ms = pm ++ List.replicate (N.length - pm.length) false)
    (hbody : ∀ (cdv : Value) (A : Around) (outer : List Env) (s : Shared) (H : Hp) (E : XK) (z : Zx), Room k (A.deeper (envOfC qual (defScope st) s.heap.objs.size f cdv)) → ZOk z ms →
      PSs (cxOf (L2.CX P w) P w G.K mg base N qual (defScope st) f cdv A outer s H E) (defBody st) (RS G z (fun cls d _ H => E cls d H) body)) : FnOk P w G.K mg base (L2.CX P w) (k + 1) f fd ps (spOf G (runD N.length pm body) pm) := by
  have len : ∀ vs H Q E, spOf G (runD N.length pm body) pm vs H Q E → vs.length = ps.length := by
    intro vs H Q E h
    obtain ⟨I, ds, FL, n, S0, _⟩ := h
    have h1 := S0.lenS
    simp only [List.length_map] at h1
    rw [← hp, ← n, h1.1, h1.2]
  refine F.ok S len (fun cdv A outer s H vs Q E hr h => ?_)
  have hl := len vs H Q E h
  obtain ⟨I, ds, FL, n, S0, h⟩ := h
  have hpv : pm.length = vs.length := by rw [hl, hp]
  have hz : ZOk ⟨H, I, FL, pvOf pm vs ++ List.replicate (N.length - pm.length) none⟩ ms := by
    subst hms
    refine ⟨⟨by simp [pvOf_len hpv], fun k e => ?_⟩, fun k e => ?_⟩
    · by_cases hk : k < pm.length
      · rw [List.getElem?_append_left (by rw [pvOf_len hpv]; exact hk)]
        exact pvOf_getT hpv (by rw [List.getElem?_append_left hk] at e; exact e)
      · rw [List.getElem?_append_right (by omega), List.getElem?_replicate] at e
        split at e <;> cases e
    by_cases hk : k < pm.length
    · rw [List.getElem?_append_left (by rw [pvOf_len hpv]; exact hk)]
      exact pvOf_get hpv (by rw [List.getElem?_append_left hk] at e; exact e)
    · rw [List.getElem?_append_right (by rw [pvOf_len hpv]; omega), pvOf_len hpv, List.getElem?_replicate]
      rw [List.getElem?_append_right (by omega), List.getElem?_replicate] at e
      split at e
      · rename_i c; rw [if_pos c]
      · cases e
  refine ⟨_, hbody cdv A outer s H E ⟨H, I, FL, pvOf pm vs ++ List.replicate (N.length - pm.length) none⟩ hr hz, ?_⟩
  have hstart : L2.start N vs = vs.map some ++ List.replicate (N.length - pm.length) none := by
    unfold L2.start
    rw [hpv]
  have S1 : Stt G ⟨H, I, FL, pvOf pm vs ++ List.replicate (N.length - pm.length) none⟩ I H [] [] (L2.start N vs) (ds.map some ++ List.replicate (N.length - ds.length) none) [] FL := by
    rw [hstart, n]
    exact ⟨rfl, (S0.oS.ext (N.length - pm.length)).zc rfl, S0.nd, S0.sub, S0.i0, S0.ifr, S0.fS, S0.frame, S0.dom⟩
  have back : ∀ {I' H' : Hp} {ts : List V} {dts : List D} {σ' : L2.St} {e : VEnv} {FT' FS' : List Addr} {outs : List D}, Stt G ⟨H, I, FL, pvOf pm vs ++ List.replicate (N.length - pm.length) none⟩ I' H' ts dts σ' e FT' FS' → outsOf pm e = some outs →
      ∃ oe FS2, outE pm outs = some oe ∧ Stt G ⟨H, I, FL, pvOf pm vs⟩ I' H' ts dts (vs.map some) oe FT' FS2 := fun {I' H' ts dts σ' e FT' FS' outs} S' eo => by
    obtain ⟨oe, F2, h1, h2, h3⟩ := OwnS.exit hpv S'.oS eo
    exact ⟨oe, F2, h1, S'.oT.zc rfl, h2.zc rfl, S'.nd.sublist (List.Sublist.append (List.Sublist.refl _) h3), S'.sub, S'.i0, S'.ifr, fun b hb => S'.fS b (h3.subset hb), S'.frame, S'.dom⟩
  refine RS.of S1 ?_
  unfold runD at h
  rw [if_pos n] at h
  cases e : body (ds.map some ++ List.replicate (N.length - ds.length) none) with
  | none => rw [e] at h; exact h
  | some r =>
    rw [e] at h
    cases r with
    | exc c xx e1 =>
      dsimp only at h
      cases eo : outsOf pm e1 with
      | none => rw [eo] at h; exact h.elim
      | some outs =>
        rw [eo] at h
        obtain ⟨oe, h1, h2⟩ := h
        intro σ' dx I' H' FS' s' S' xr
        obtain ⟨oe2, FS2, h3, S2⟩ := back S' eo
        rw [h1] at h3
        cases h3
        exact h2 dx I' H' FS2 s' S2 xr
    | ok fl e1 =>
      cases fl with
      | bk => exact h.elim
      | ct => exact h.elim
      | nx =>
        cases eo : outsOf pm e1 with
        | none => simp only [eo] at h; exact h.elim
        | some outs =>
          simp only [eo] at h
          obtain ⟨oe, h1, h2⟩ := h
          intro σ' I' H' FS' s' S'
          obtain ⟨oe2, FS2, h3, S2⟩ := back S' eo
          rw [h1] at h3
          cases h3
          exact h2 .non I' H' [] FS2 s' (S2.pushR (v := .non) rfl)
      | rt d =>
        cases eo : outsOf pm e1 with
        | none => simp only [eo] at h; exact h.elim
        | some outs =>
          simp only [eo] at h
          obtain ⟨oe, h1, h2⟩ := h
          intro v σ' I' H' FT' FS' s' S'
          obtain ⟨oe2, FS2, h3, S2⟩ := back S' eo
          rw [h1] at h3
          cases h3
          exact h2 v I' H' FT' FS2 s' S2
end
/-- a method with defaults: cs all of them; the calls give n values or all -/
structure DMD (G : Gx) (x qual : Str) (st : Stmt) (ps : List Str) (cs : List D) (f : Addr) (fd : FuncData) : Prop where
  fn : FunD G.K x qual (defArgs st) (defBody st) (defScope st) (cs.map cV) [] f fd
def BD (K : PySem.W.Frag) (fd : FuncData) (ps : List Str) (cs : List D) : Prop := ∃ dls : List Value, Vals (cs.map cV) dls ∧ Binds K fd ps dls
theorem cV_drop {cs : List D} {j : Nat} : (cs.map cV).drop j = (cs.drop j).map cV := by rw [List.map_drop]
section
variable {X : Cx} {G : Gx} {z : Zx} {W : WX} {e a b o : Expr} {es : List Expr} {pa pb po : VEnv → Option D} {f fa fb : M D} {fs : M (List D)} {pos apos cpos pos' : Pos} {ms : List Bool}
/-! ### x[f] = g, f with effects -/
def putEK (k : Nat) (r d : D) (e : VEnv) : Option (Res Fl) := (lstAt k e).bind fun l => (asInt d).bind fun i => (ixSet l i r).map fun l' => .ok .nx (e.set k (some (.lst true l')))
def sPutE (k : Nat) (fi fv : M D) : M Fl := fv.bnd fun r e => match e[k]? with
  | some (some _) => (fi.bnd (putEK k r)) e
  | _ => none
theorem vs_putE (k : Nat) (ho : PE X o (tVar k)) (hi : PE X b (RE G z W fb)) (hv : PE X a (RE G z W f))
    (ha : ∀ v, assign (.Subscript o b apos) X.env v = (do
      let ov ← holding [v] (eval o X.env)
      let iv ← holding [v, ov] (eval b X.env)
      standAt apos
      holding [v, ov, iv] (setItem ov iv v)
      release [v, ov, iv] []) := by intro _; rfl)
    (hs : swapsWithSole [.Subscript o b apos] a pos.line X.env = pure false := by rfl) (hw : swappedStores [.Subscript o b apos] a X.env = pure none := by rfl)
    (h1 : (assignEach [.Subscript o b apos] X.env).map (·.2) = [assign (.Subscript o b apos) X.env] := by rfl) : PS X (.Assign [.Subscript o b apos] a pos) (RS G z W (sPutE k fb f)) :=
  psImp (ps_asg hv (pg_sub ho hi set_list ha) hs hw h1) fun D σ H h => by
    obtain ⟨I, env, FS, S, h⟩ := RS.to h
    refine RE.of S (GE.bndS h fun r e1 h1 v1 I1 H1 FT1 FS1 s1 S1 => ?_)
    cases q0 : e1[k]? with
    | none => rw [q0] at h1; exact h1.elim
    | some oo => cases oo with
      | none => rw [q0] at h1; exact h1.elim
      | some d0 =>
        rw [q0] at h1
        replace h1 : GS G z W I D ((fb.bnd (putEK k r)) e1) := h1
        obtain ⟨v0, F0, q1, _⟩ := S1.slot q0
        refine ⟨v0, q1, RE.of S1 (GE.bndS (h1.weak s1) fun d e2 h2 v2 I2 H2 FT2 FS2 s2 S2 => ?_)⟩
        unfold putEK at h2
        cases e3 : lstAt k e2 with
        | none => rw [e3] at h2; exact h2.elim
        | some l =>
          rw [e3] at h2
          replace h2 : GS G z W I1 D ((asInt d).bind fun i => (ixSet l i r).map fun l' => .ok .nx (e2.set k (some (.lst true l')))) := h2
          cases e4 : asInt d with
          | none => rw [e4] at h2; exact h2.elim
          | some i =>
            rw [e4] at h2
            cases asInt_eq e4
            replace h2 : GS G z W I1 D ((ixSet l i r).map fun l' => .ok .nx (e2.set k (some (.lst true l')))) := h2
            unfold ixSet at h2
            cases e5 : L2.ixN l.length i with
            | none => rw [e5] at h2; exact h2.elim
            | some j =>
              rw [e5] at h2
              have hj := (ixN_seq e5).2.1
              obtain ⟨rv, S3⟩ := S2.popR rfl
              cases (show v2 = .int i from rv)
              obtain ⟨a1, ws, q4, q5, q6, FT4, FS4, S4⟩ := S3.putAt (lstAt_eq e3) hj
              have e7 := S4.noT
              subst e7
              rw [q4] at q1
              cases q1
              exact ⟨a1, ws, i, j, rfl, rfl, q5, by rw [q6]; exact e5, h2 σ I2 _ FS4 s2 S4⟩
/-! ### list(range(..)) -/
def gLRg (a b : Int) : Option D := if -(2 ^ 62) ≤ a ∧ a < 2 ^ 62 ∧ -(2 ^ 62) ≤ b ∧ b < 2 ^ 62 ∧ (b - a).toNat ≤ 2 ^ 24 then some (.lst true (dInts a (b - a).toNat)) else none
def vLRg1 (p : VEnv → Option D) : M D := fun e => ((p e).bind asInt).bind fun n => (gLRg 0 n).map fun d => .ok d e
def vLRg2 (p q : VEnv → Option D) : M D := fun e => ((p e).bind asInt).bind fun m => ((q e).bind asInt).bind fun n => (gLRg m n).map fun d => .ok d e
theorem reps_dInts {I : Hp} (a b : Int) : Reps G I (L2.rgV a b) (dInts a (b - a).toNat) := by
  unfold L2.rgV dInts
  generalize (b - a).toNat = n
  induction (List.range n) with
  | nil => exact True.intro
  | cons x l ih => exact ⟨rfl, ih⟩
theorem lrg_go {I H : Hp} {ts : List V} {dts : List D} {σ : L2.St} {env : VEnv} {FT FS : List Addr} {Q : VK} {m n : Int} (S : Stt G z I H ts dts σ env FT FS) (h : GE G z W I ts dts σ Q ((gLRg m n).map fun d => .ok d env)) : L2.RgOk m n ∧ ∀ q, H q = none → Q (.ref q) (upd H q (.lst (L2.rgV m n))) := by
  unfold gLRg at h
  split at h
  · rename_i c
    refine ⟨c, fun q hq => ?_⟩
    obtain ⟨FT', S2⟩ := S.pushN (reps_dInts (G := G) m n) hq
    exact h _ _ _ _ _ (Same.refl _) S2
  · exact h.elim
theorem ve_lrg1 {p p2 p3 : Pos} (hc : X.calm = true) (hm : X.mg "list" = none) (hm2 : X.mg "range" = none) (ha : PE X a (RP G z pa)) (hgl : Gl X "list" := by rfl) (hgl2 : Gl X "range" := by rfl)
    (na : starEach [a] X.env = (false, eval a X.env) :: starEach [] X.env := by rfl) (nb : starEach [.Call (.Name "range" p2) [a] [] p3] X.env = (false, eval (.Call (.Name "range" p2) [a] [] p3) X.env) :: starEach [] X.env := by rfl) :
    PE X (.Call (.Name "list" p) [.Call (.Name "range" p2) [a] [] p3] [] pos) (RE G z W (vLRg1 pa)) :=
  peImp (L2.pe_listRg hc hgl hm (L2.prg_1 hgl2 hm2 ha na) nb) fun σ H Q h => by
    obtain ⟨I, ts, dts, env, FT, FS, S, h⟩ := RE.to h
    unfold vLRg1 at h
    cases e1 : (pa env).bind asInt with
    | none => rw [e1] at h; exact h.elim
    | some n =>
      rw [e1] at h
      obtain ⟨d, e2, e3⟩ := Option.bind_eq_some_iff.mp e1
      cases asInt_eq e3
      refine ⟨I, ts, dts, env, FT, FS, _, S, e2, fun v F ow => ?_⟩
      cases own_int ow
      exact ⟨n, rfl, lrg_go S h⟩
theorem ve_lrg2 {p p2 p3 : Pos} (hc : X.calm = true) (hm : X.mg "list" = none) (hm2 : X.mg "range" = none) (ha : PE X a (RP G z pa)) (hb : PE X b (RP G z pb)) (hgl : Gl X "list" := by rfl) (hgl2 : Gl X "range" := by rfl)
    (na : starEach [a, b] X.env = (false, eval a X.env) :: starEach [b] X.env := by rfl) (na2 : starEach [b] X.env = (false, eval b X.env) :: starEach [] X.env := by rfl) (hp : (backTo p3 (starEach [b] X.env)).any (·.1) = false := by rfl) (nb : starEach [.Call (.Name "range" p2) [a, b] [] p3] X.env = (false, eval (.Call (.Name "range" p2) [a, b] [] p3) X.env) :: starEach [] X.env := by rfl) :
    PE X (.Call (.Name "list" p) [.Call (.Name "range" p2) [a, b] [] p3] [] pos) (RE G z W (vLRg2 pa pb)) :=
  peImp (L2.pe_listRg hc hgl hm (L2.prg_2 hgl2 hm2 ha hb na na2 hp) nb) fun σ H Q h => by
    obtain ⟨I, ts, dts, env, FT, FS, S, h⟩ := RE.to h
    unfold vLRg2 at h
    cases e1 : (pa env).bind asInt with
    | none => rw [e1] at h; exact h.elim
    | some m =>
      rw [e1] at h
      replace h : GE G z W I ts dts σ Q (((pb env).bind asInt).bind fun n => (gLRg m n).map fun d => .ok d env) := h
      cases e4 : (pb env).bind asInt with
      | none => rw [e4] at h; exact h.elim
      | some n =>
        rw [e4] at h
        obtain ⟨d, e2, e3⟩ := Option.bind_eq_some_iff.mp e1
        cases asInt_eq e3
        obtain ⟨d, e5, e6⟩ := Option.bind_eq_some_iff.mp e4
        cases asInt_eq e6
        refine ⟨I, ts, dts, env, FT, FS, _, S, e2, fun v F ow => ?_⟩
        cases own_int ow
        refine ⟨I, ts, dts, env, FT, FS, _, S, e5, fun v F ow => ?_⟩
        cases own_int ow
        exact ⟨m, n, rfl, rfl, lrg_go S h⟩
/-! ### {k: v} -/
def vDisp1 (p q : VEnv → Option D) : M D := fun e => ((p e).bind asKey).bind fun k => (q e).bind fun d => if d.frozen then some (.ok (.dk true [k] [d]) e) else none
theorem ve_disp1 {keys : List (Option Expr)} {values : List Expr} (h : PPs X pos keys values [(RP G z pa, RP G z pb)]) (hall : keys.all (·.isSome) = true := by rfl) (hl : keys.length = values.length := by rfl) (h0 : keys ≠ [] := by exact List.cons_ne_nil _ _) (h15 : keys.length ≤ 15 := by decide) : PE X (.Dict keys values pos) (RE G z W (vDisp1 pa pb)) := peImp (pe_disp h hall hl h0 h15) fun σ H Q h => by
  obtain ⟨I, ts, dts, env, FT, FS, S, h⟩ := RE.to h
  intro p hp
  unfold vDisp1 at h
  cases e1 : (pa env).bind asKey with
  | none => rw [e1] at h; exact h.elim
  | some key =>
    rw [e1] at h
    replace h : GE G z W I ts dts σ Q ((pb env).bind fun d => if d.frozen then some (.ok (.dk true [key] [d]) env) else none) := h
    cases e4 : pb env with
    | none => rw [e4] at h; exact h.elim
    | some d =>
      rw [e4] at h
      replace h : GE G z W I ts dts σ Q (if d.frozen then some (.ok (.dk true [key] [d]) env) else none) := h
      split at h
      · rename_i fz
        obtain ⟨dk, e2, e3⟩ := Option.bind_eq_some_iff.mp e1
        have S1 := S.newH hp (.dK [])
        refine ⟨I, ts, dts, env, FT, FS, _, S1, e2, fun u Fu ou => ?_⟩
        have eu := asKey_eq e3 ou
        refine ⟨I, ts, dts, env, FT, FS, _, S1, e4, fun v Fv ov => ?_⟩
        have rv := (Own.rep _ _ _ fz ov).2
        refine ⟨upd_same, [(key, v)], by rw [eu]; rfl, by simp, ?_⟩
        rw [upd_upd]
        obtain ⟨n0, nI, nF⟩ := S.new hp
        refine h (.ref p) I _ ([p] ++ FT) FS (Same.refl _) ((S.newH hp _).push (F := [p]) ⟨p, [v], [], rfl, upd_same, rfl, nI, ⟨[], [], rfl, Rep.own _ _ rv, rfl⟩, rfl⟩ (fun b hb => ?_) ?_)
        · rw [show b = p by simpa using hb]; exact n0
        · exact List.nodup_cons.mpr ⟨nF, S.nd⟩
      · exact h.elim
end
section
variable {e : VEnv} {K B C : VEnv → Prop} {R : D → VEnv → Prop} {E : XQ} {f fi : M D} {k : Nat} {p q : VEnv → Option D} {Q : D → VEnv → Prop}
theorem ws_putE (h : wp f e (fun r e1 => ev ((e1[k]?).join) fun _ => wp fi e1 (fun d e2 => ev (lstAt k e2) fun l => ev (asInt d) fun i => ev (ixSet l i r) fun l' => st e2 k (some (.lst true l')) K) E) E) : ws (sPutE k fi f) e K B C R E :=
  wp_bnd (wp_mono h (fun r e1 h1 => by
    obtain ⟨d0, h0, h1⟩ := h1
    have := wp_bnd (k := putEK k r) (Q := fun (r : Fl) e1 => match r with
      | .nx => K e1
      | .bk => B e1
      | .ct => C e1
      | .rt d => R d e1) (wp_mono h1 (fun d e2 h4 => by
        obtain ⟨l, a1, i, a2, l', a3, _, a4⟩ := h4
        unfold wp putEK
        rw [a1, Option.bind_some, a2, Option.bind_some, a3]
        exact a4) fun _ _ _ h => h)
    unfold wp
    dsimp only
    rw [join_eq h0]
    exact this) fun _ _ _ h => h)
theorem wp_LRg1 (h : ev ((p e).bind asInt) fun n => ev (gLRg 0 n) fun d => Q d e) : wp (vLRg1 p) e Q E := by
  obtain ⟨n, h1, d, h2, q⟩ := h
  unfold wp vLRg1
  rw [h1, Option.bind_some, h2]
  exact q
theorem wp_LRg2 (h : ev ((p e).bind asInt) fun m => ev ((q e).bind asInt) fun n => ev (gLRg m n) fun d => Q d e) : wp (vLRg2 p q) e Q E := by
  obtain ⟨m, h0, n, h1, d, h2, q⟩ := h
  unfold wp vLRg2
  rw [h0, Option.bind_some, h1, Option.bind_some, h2]
  exact q
theorem wp_Disp1 (h : ev ((p e).bind asKey) fun k => evf (q e) fun d => Q (.dk true [k] [d]) e) : wp (vDisp1 p q) e Q E := by
  obtain ⟨k, h1, d, h2, f, q⟩ := h
  unfold wp vDisp1
  rw [h1, Option.bind_some, h2, Option.bind_some, if_pos f]
  exact q
theorem q_lrg {a b : Int} (h : -4611686018427387904 ≤ a ∧ a < 4611686018427387904 ∧ -4611686018427387904 ≤ b ∧ b < 4611686018427387904 ∧ (b - a).toNat ≤ 16777216) : gLRg a b = some (.lst true (dInts a (b - a).toNat)) := if_pos (by simpa using h)
end
end
end VL
set_option Elab.async false
set_option linter.all false
set_option maxRecDepth 100000
set_option maxHeartbeats 1000000
/-! sorted(d) of a dict whose keys are ints, at the level of the values -/
namespace L2
open PySem PySem.Spec PyProof.Rows
theorem ints_at : ∀ {us : List Value} {ks : List Int}, us.length = ks.length → (∀ (j : Nat) (v : Value), us[j]? = some v → ∃ (x : Int) (t : Tok), ks[j]? = some x ∧ v = Value.int x t) → Vals (ks.map V.int) us
  | [], [], _, _ => .nil
  | u :: us, k :: ks, hl, h => by
    obtain ⟨x, t, e1, e2⟩ := h 0 u rfl
    have e1' : k = x := Option.some.inj e1
    subst e1'
    subst e2
    refine .cons ⟨t, rfl⟩ (ints_at (by simpa using hl) fun j v e => ?_)
    obtain ⟨x, t, a, b⟩ := h (j + 1) v (by simpa using e)
    exact ⟨x, t, by simpa using a, b⟩
  | [], _ :: _, hl, _ => by simp at hl
  | _ :: _, [], hl, _ => by simp at hl
section
variable {X : Cx}
theorem call_sortedDJ (hcalm : X.calm = true) : CallR X (.builtin "sorted") (fun xs H Q => ∃ (a : Addr) (kvs : List (Key × V)) (ks : List Int), xs = [.ref a] ∧ Rd H a (.dK kvs) ∧ kvs.map (·.1) = ks.map Sum.inl ∧
    ∀ (ys : List Int) (p : Addr), ys.Perm ks → ys.Pairwise (· ≤ ·) → H p = none → Q (.ref p) (upd H p (.lst (ys.map V.int)))) := by
  intro pins s σ H xs us Q I r q
  obtain ⟨a, kvs, ks, ex, hd, hks, q⟩ := q
  subst ex
  obtain ⟨u, eu, rx⟩ := vals1 r
  subst eu
  cases rx
  obtain ⟨z, lo, vs, rel, dd⟩ := dk_rd I.hok hd
  obtain ⟨ep, hat⟩ := dd.dictAt
  have hkeys : vs.map (·.1) = ks.map Sum.inl := rel.keys.symm.trans hks
  have hl : vs.length = ks.length := by
    have e := congrArg List.length hkeys
    rw [List.length_map, List.length_map] at e
    exact e
  have h16 : vs.length ≤ sizeLine := by rw [← rel.length]; exact z
  refine Calls.call_function_entry PyProof.Rows.kind_sorted PyProof.Rows.plain_sorted PyProof.Rows.entry_sorted (PyProof.Rows.args_sorted1 _) ?_
  unfold Builtin.«sorted»
  refine wpAny_bind (m := checkCount "sorted" 1 1 _) (wpAny_pure ?_)
  refine wpAny_bind (PySem.W.kdu_collect (A := X.A.in1) (PySem.W.kdl_dict (knd := mixKind X.prog X.w) (kvs := vs) (ep := ep) lo) (I.ok.hd hcalm) hat h16 fun h' tk acc hk hacc => ?_)
  have hal : acc.toList.length = ks.length := by rw [Array.length_toList, hacc.1, hl]
  have rv : Vals (ks.map V.int) acc.toList := ints_at hal fun j v e => by
    obtain ⟨k, x, e1, e2⟩ := hacc.2 j v (by rw [← Array.getElem?_toList]; exact e)
    have e3 : (vs.map (·.1))[j]? = some k := by rw [List.getElem?_map, e1]; all_goals rfl
    rw [hkeys, List.getElem?_map] at e3
    cases e4 : ks[j]? with
    | none => rw [e4] at e3; cases e3
    | some y =>
      rw [e4] at e3
      have e5 : Sum.inl y = k := Option.some.inj e3
      subst e5
      rcases keyIs_shape (show keyIs (Sum.inl y) v = true from e2) with ⟨i, t, ek, ev⟩ | ⟨zz, t, ek, ev⟩
      · cases ek
        exact ⟨y, t, rfl, ev⟩
      · cases ek
  have hi := rv.ints
  have I1 : Inv X pins σ H { s with heap := h', toks := tk } := I.kept hk
  refine wpAny_bind (wpAny_newList ?_ (by rw [hal, ← hl]; exact h16))
  have hoL : (h'.push (seqObj "list" acc.toList.toArray 0)).get? h'.objs.size = some (seqObj "list" acc.toList.toArray 0) := Heap.get?_push_size _ rfl
  show wpAny _ _ _ _ _ { s with heap := h'.push (seqObj "list" acc.toList.toArray 0), toks := tk }
  refine wpAny_bind (wpAny_holding (wpAny_call_entry PyProof.Rows.slot_list_sort ⟨_, hoL, rfl⟩ PyProof.Rows.entry_list_sort
    (SrtO.list_sort_ord SrtO.swo_int (s := { s with heap := h'.push (seqObj "list" acc.toList.toArray 0), toks := tk }) hoL (by rw [hal, ← hl]; exact h16) (fun h2 => SrtO.ints_sortable hi h2) fun out h1 h2 => ⟨_, rfl, ?_⟩)
    (PyProof.Rows.args_list_sort _)))
  obtain ⟨k1, k2, k3⟩ := SrtO.ints_out hi h1 h2
  obtain ⟨e', he'⟩ := PyProof.Rows.sortedHeap_at (vs := acc.toList) (out := out.toArray) hoL
  have hlen : ((out.map SrtO.iv).map V.int).length ≤ sizeLine := by
    rw [List.length_map, k2.length_eq, ← hl]
    exact h16
  refine wpAny_pure ⟨_, rfl, .ref h'.objs.size, upd H h'.objs.size (.lst ((out.map SrtO.iv).map V.int)), I1.laid (t' := tk) (fun b u e => ?_) (Nat.le_refl _)
    (show ObjOk X.prog X.w _ _ _ (.lst ((out.map SrtO.iv).map V.int)) from ⟨hlen, out, e', vals_of_ints k1, he'⟩), rfl, q _ _ k2 k3 (I1.hok.fresh (Nat.le_refl _))⟩
  have hb : b < h'.objs.size := Heap.lt_size e
  rw [PyProof.Rows.sortedHeap_old (Nat.ne_of_lt hb) (by rw [size_push']; exact Nat.lt_succ_of_lt hb)]
  exact Heap.get?_push_of_some _ e
end
end L2
namespace VL
open PySem PySem.Spec L2
open PyProof.Rows hiding St
/-- rising -/
theorem rising_one : ∀ {a b : List Int}, a.Pairwise (· ≤ ·) → b.Pairwise (· ≤ ·) → a.Perm b → a = b
  | [], b, _, _, p => (List.Perm.nil_eq p)
  | x :: a, [], _, _, p => by cases p.length_eq
  | x :: a, y :: b, ha, hb, p => by
    have h1 := List.pairwise_cons.mp ha
    have h2 := List.pairwise_cons.mp hb
    have e : x = y := by
      have m1 : x ∈ y :: b := p.mem_iff.mp List.mem_cons_self
      have m2 : y ∈ x :: a := p.mem_iff.mpr List.mem_cons_self
      have l1 : y ≤ x := by
        rcases List.mem_cons.mp m1 with q | q
        · omega
        · exact h2.1 x q
      have l2 : x ≤ y := by
        rcases List.mem_cons.mp m2 with q | q
        · omega
        · exact h1.1 y q
      omega
    subst e
    rw [rising_one h1.2 h2.2 (List.perm_cons x |>.mp p)]
def sortI (l : List Int) : List Int := l.mergeSort (fun a b => decide (a ≤ b))
theorem sortI_perm (l : List Int) : (sortI l).Perm l := List.mergeSort_perm _ _
theorem sortI_rising (l : List Int) : (sortI l).Pairwise (· ≤ ·) := by
  have := List.pairwise_mergeSort (le := fun a b : Int => decide (a ≤ b)) (fun a b c h1 h2 => by simp at *; omega) (fun a b => by simp; omega) l
  exact this.imp fun h => by simpa using h
theorem sortI_eq {l ys : List Int} (p : ys.Perm l) (s : ys.Pairwise (· ≤ ·)) : ys = sortI l := rising_one s (sortI_rising l) (p.trans (sortI_perm l).symm)
theorem sortI_len (l : List Int) : (sortI l).length = l.length := (sortI_perm l).length_eq
theorem sortI_mem {l : List Int} {x : Int} : x ∈ sortI l ↔ x ∈ l := (sortI_perm l).mem_iff
def gSortI : D → Option D
  | .lst _ l => (asInts l).map fun ns => .lst true (nums (sortI ns))
  | _ => none
noncomputable def gSortA (d : D) : Option D := match gSortI d with
  | some r => some r
  | none => gSortL d
def keyInts : List Key → Option (List Int)
  | [] => some []
  | .inl x :: l => (keyInts l).map (x :: ·)
  | .inr _ :: _ => none
theorem keyInts_eq : ∀ {l : List Key} {ks : List Int}, keyInts l = some ks → l = ks.map Sum.inl
  | [], ks, h => by cases h; rfl
  | .inl x :: l, ks, h => by
    obtain ⟨ks', e, rfl⟩ := Option.map_eq_some_iff.mp (show (keyInts l).map (x :: ·) = some ks from h)
    rw [List.map_cons, ← keyInts_eq e]
  | .inr _ :: _, _, h => by cases h
def gSortDI : D → Option D
  | .dk _ kk l => if l.length = kk.length then (keyInts kk).map fun ns => .lst true (nums (sortI ns)) else none
  | _ => none
noncomputable def gSortDA (d : D) : Option D := match gSortDI d with
  | some r => some r
  | none => gSortD d
noncomputable def vSortA (f : M D) : M D := f.bnd fun d => M.opt (gSortA d)
noncomputable def vSortDA (f : M D) : M D := f.bnd fun d => M.opt (gSortDA d)
section
variable {X : Cx} {G : Gx} {z : Zx} {W : WX} {e a b o : Expr} {pa pb : VEnv → Option D} {f fa fb : M D} {pos apos cpos : Pos} {I H : Hp} {ts : List V} {dts : List D} {σ : L2.St} {env : VEnv} {FT FS : List Addr}
theorem reps_nums {I : Hp} : ∀ (l : List Int), Reps G I (l.map V.int) (nums l)
  | [] => True.intro
  | _ :: l => ⟨rfl, reps_nums l⟩
theorem ve_sortA {p : Pos} (hm : X.mg "sorted" = none) (ha : PE X a (RE G z W f)) (hgl : Gl X "sorted" := by rfl) (hK : X.K = G.K := by rfl)
    (hs : starEach [a] X.env = (false, eval a X.env) :: starEach [] X.env := by rfl) (hpl : (backTo pos (starEach [] X.env)).any (·.1) = false := by rfl) : PE X (.Call (.Name "sorted" p) [a] [] pos) (RE G z W (vSortA f)) :=
  peImp (pe_callB (CallR.or cr_sortedI cr_sortedS) hgl hm (by decide +kernel) (pa_cons ha pa_nil hs) (by decide) (by decide) hs hpl) fun σ H Q h => by
    obtain ⟨I, ts, dts, env, FT, FS, S, h⟩ := RE.to h
    refine RE.of S (GE.bnd (g := GE G z W I ts dts σ Q) (Same.refl _) h (fun c x e h => h) (fun h => h) fun d1 e1 h1 u I1 H1 FT1 FS1 s1 S1 => ?_)
    obtain ⟨r, e3, hq⟩ := GE.optGo h1
    obtain ⟨Fv, FT3, ev, ov, fv, S3⟩ := S1.pop
    unfold gSortA at e3
    cases e4 : gSortI d1 with
    | some r' =>
      rw [e4] at e3
      cases e3
      cases d1 with
      | lst m l =>
        obtain ⟨ns, e5, e6⟩ := Option.map_eq_some_iff.mp e4
        subst e6
        obtain ⟨a0, ws, F', ea, hsq, ow, _⟩ := own_lst S3.sub ov
        subst ea
        have ew := owns_ints ow e5
        subst ew
        refine .inl ⟨a0, ns, rfl, by rw [hK]; exact .of hsq, fun zs p pm so hp => ?_⟩
        rw [sortI_eq pm so]
        obtain ⟨FT4, S4⟩ := S3.pushN (reps_nums (sortI ns)) hp
        exact hq _ _ _ _ _ s1 S4
      | _ => cases e4
    | none =>
      rw [e4] at e3
      obtain ⟨l, e5, e6⟩ := Option.bind_eq_some_iff.mp e3
      obtain ⟨ys, e7, e8⟩ := Option.bind_eq_some_iff.mp e6
      split at e8
      · rename_i hz
        cases e8
        cases d1 with
        | lst m l' =>
          cases e5
          obtain ⟨a0, ws, F', ea, hsq, ow, _⟩ := own_lst S3.sub ov
          subst ea
          have ew := owns_strs ow e7
          subst ew
          refine .inr ⟨a0, ys, rfl, by rw [hK]; exact .of hsq, hz, fun zs p pm so hp => ?_⟩
          rw [sortT_eq pm so]
          obtain ⟨FT4, S4⟩ := S3.pushTxts (l := sortT ys) hp
          exact hq _ _ _ _ _ s1 S4
        | _ => cases e5
      · cases e8
theorem ve_sortDA {p : Pos} (hc : X.calm = true) (hm : X.mg "sorted" = none) (ha : PE X a (RE G z W f)) (hgl : Gl X "sorted" := by rfl) (hK : X.K = G.K := by rfl)
    (hs : starEach [a] X.env = (false, eval a X.env) :: starEach [] X.env := by rfl) (hpl : (backTo pos (starEach [] X.env)).any (·.1) = false := by rfl) : PE X (.Call (.Name "sorted" p) [a] [] pos) (RE G z W (vSortDA f)) :=
  peImp (pe_callB (CallR.or (call_sortedDJ hc) (call_sortedD hc)) hgl hm (by decide +kernel) (pa_cons ha pa_nil hs) (by decide) (by decide) hs hpl) fun σ H Q h => by
    obtain ⟨I, ts, dts, env, FT, FS, S, h⟩ := RE.to h
    refine RE.of S (GE.bnd (g := GE G z W I ts dts σ Q) (Same.refl _) h (fun c x e h => h) (fun h => h) fun d1 e1 h1 u I1 H1 FT1 FS1 s1 S1 => ?_)
    obtain ⟨r, e3, hq⟩ := GE.optGo h1
    obtain ⟨Fv, FT3, ev, ov, fv, S3⟩ := S1.pop
    unfold gSortDA at e3
    cases e4 : gSortDI d1 with
    | some r' =>
      rw [e4] at e3
      cases e3
      cases d1 with
      | dk m kk l =>
        replace e4 : (if l.length = kk.length then (keyInts kk).map fun ns => D.lst true (nums (sortI ns)) else none) = some r := e4
        split at e4
        · rename_i hl
          obtain ⟨ns, e5, e6⟩ := Option.map_eq_some_iff.mp e4
          subst e6
          obtain ⟨a0, ws, F', ea, ho, n, ow, _⟩ := own_dk S3.sub ov
          subst ea
          refine .inl ⟨a0, kk.zip ws, ns, rfl, .of ho, ?_, fun zs p pm so hp => ?_⟩
          · rw [← keyInts_eq e5, List.map_fst_zip (by omega)]
          rw [sortI_eq pm so]
          obtain ⟨FT4, S4⟩ := S3.pushN (reps_nums (sortI ns)) hp
          exact hq _ _ _ _ _ s1 S4
        · cases e4
      | _ => cases e4
    | none =>
      rw [e4] at e3
      cases d1 with
      | dk m kk l =>
        replace e3 : (if l.length = kk.length then (keyStrs kk).bind fun ks => if ks.length < 64 then some (D.lst true (txts (sortT ks))) else none else none) = some r := e3
        split at e3
        · rename_i hl
          obtain ⟨ks, e6, e7⟩ := Option.bind_eq_some_iff.mp e3
          split at e7
          · rename_i hz
            cases e7
            obtain ⟨a0, ws, F', ea, ho, n, ow, _⟩ := own_dk S3.sub ov
            subst ea
            refine .inr ⟨a0, kk.zip ws, ks, rfl, .of ho, ?_, hz, fun zs p pm so hp => ?_⟩
            · rw [← keyStrs_eq e6, List.map_fst_zip (by omega)]
            rw [sortT_eq pm so]
            obtain ⟨FT4, S4⟩ := S3.pushTxts (l := sortT ks) hp
            exact hq _ _ _ _ _ s1 S4
          · cases e7
        · cases e3
      | _ => cases e3
end
section
variable {e : VEnv} {E : XQ} {Q : D → VEnv → Prop} {f : M D}
theorem wp_SortA (h : wp f e (fun d e1 => ev (gSortA d) fun x => Q x e1) E) : wp (vSortA f) e Q E := wp_bnd (wp_mono h (fun _ _ h1 => wp_opt h1) fun _ _ _ h => h)
theorem wp_SortDA (h : wp f e (fun d e1 => ev (gSortDA d) fun x => Q x e1) E) : wp (vSortDA f) e Q E := wp_bnd (wp_mono h (fun _ _ h1 => wp_opt h1) fun _ _ _ h => h)
theorem gSortA_nums {m : Bool} {l : List Int} : gSortA (.lst m (nums l)) = some (.lst true (nums (sortI l))) := by
  have h : gSortI (.lst m (nums l)) = some (.lst true (nums (sortI l))) := by
    show (asInts (nums l)).map _ = _
    rw [asInts_nums]; rfl
  unfold gSortA
  rw [h]
theorem keyInts_map : ∀ (l : List Int), keyInts (l.map Sum.inl) = some l
  | [] => rfl
  | x :: l => by
    show (keyInts (l.map Sum.inl)).map (x :: ·) = _
    rw [keyInts_map l]; rfl
theorem gSortDA_ints {m : Bool} {l : List Int} {ds : List D} (h : ds.length = l.length) : gSortDA (.dk m (l.map Sum.inl) ds) = some (.lst true (nums (sortI l))) := by
  have h2 : gSortDI (.dk m (l.map Sum.inl) ds) = some (.lst true (nums (sortI l))) := by
    show (if ds.length = (l.map Sum.inl).length then (keyInts (l.map Sum.inl)).map _ else none) = _
    rw [if_pos (by simp [h]), keyInts_map]; rfl
  unfold gSortDA
  rw [h2]
end
end VL
namespace VL
open PySem PySem.Spec L2
open PyProof.Rows hiding St
section
set_option Elab.async false
set_option linter.all false
set_option maxRecDepth 100000
set_option maxHeartbeats 1000000
/-! ### a statement that is never reached -/
noncomputable def sDead : M Fl := fun _ => none
theorem vs_dead {X : Cx} {G : Gx} {z : Zx} {W : WX} {s : Stmt} : PS X s (RS G z W sDead) := ⟨fun pins st σ H D I hq => by
  obtain ⟨I1, env, FS, S, h⟩ := hq
  exact h.elim⟩
/-! ### a method of what a call gives -/
noncomputable def vMethE (c m : Str) (F : FN) (f : M D) (ags : List Ag) : M D := f.bnd fun d e => if insOk c m d = true then (agM ags).bnd (fun ds e2 => callK F (.inl (M.ret d) :: ags) e2 (d :: ds)) e else none
section
variable {X : Cx} {G : Gx} {z : Zx} {W : WX} {o e : Expr} {es : List Expr} {pos apos : Pos} {f : M D} {ags : List Ag}
theorem ve_methE (c : Str) {m : Str} {Fn : FN} {fa : Addr} {fd : FuncData} {ps : List Str} {k : Nat} {pl : Sem Bool} (hc : Cls X.K (G.cl c)) (hm : Meth X.K (G.cl c) m fa) (FO : FnOk X.prog X.w X.K X.mg X.base (L2.CX X.prog X.w) k fa fd ps (spOf G Fn (false :: agP ags))) (hr : Room k X.A) (hb : Binds X.K fd ps []) (tk : Takes X W) (ho : PE X o (RE G z W f))
    (ha : PA X (e :: es) (RAg G z W ags)) (hl : agL ags = [] ∨ ∃ k, agL ags = [k] := by first | exact .inl rfl | exact .inr ⟨_, rfl⟩)
    (hst : starEach (e :: es) X.env = (false, eval e X.env) :: starEach es X.env := by rfl) (hpl : (backTo pos (starEach es X.env)).any (·.1) = false := by rfl)
    (ht : eval (.Call (.Attribute o m apos) (e :: es) [] pos) X.env = (do
      let ov ← eval o X.env
      standAt apos.atName
      let (f, first) ← holding [ov] (getMethod ov m pl)
      callWith pos f first (backTo pos (starEach (e :: es) X.env)) (backToKw pos (keywordEach [] X.env))) := by rfl) :
    PE X (.Call (.Attribute o m apos) (e :: es) [] pos) (RE G z W (vMethE c m Fn f ags)) := peImp (pe_methSS (pl := pl) ho hc hm FO hr hb (fun σ => passAt tk σ) ha hst hpl ht) fun σ H Q h => by
  obtain ⟨I, ts, dts, env, FT, FS, S, h⟩ := RE.to h
  refine RE.of S (GE.bnd (g := GE G z W I ts dts σ Q) (Same.refl _) h (fun c x e h => h) (fun h => h) fun d e1 h1 u I1 H1 FT1 FS1 s1 S1 => ?_)
  obtain ⟨F1, F2, _, ow, _, _⟩ := S1.pop
  replace h1 : GE G z W I ts dts σ Q (if insOk c m d = true then (agM ags).bnd (fun ds e2 => callK Fn (.inl (M.ret d) :: ags) e2 (d :: ds)) e1 else none) := h1
  split at h1
  · rename_i k1
    obtain ⟨a, dx, fs, ev, h2, h3⟩ := own_insM S1.sub ow k1
    refine ⟨a, dx, fs, ev, h2, h3, ?_⟩
    refine ⟨I1, u :: ts, d :: dts, e1, FT1, FS1, S1, ?_⟩
    unfold M.bnd at h1
    cases e2 : agM ags e1 with
    | none => rw [e2] at h1; exact h1.elim
    | some r =>
      rw [e2] at h1
      cases r with
      | exc c x e'' =>
        exact XP.weak h1 s1
      | ok ds e'' =>
        intro vs I2 H2 FT2 FS2 s2 S2 n
        obtain ⟨FT3, S3⟩ := S2.rot n
        exact call_ok (ags := .inl (M.ret d) :: ags) (vs := u :: vs) (ds := d :: ds) hl (s1.trans s2) S3 (by simp [n]) h1
  · exact h1.elim
end
/-! ### a call with keywords, all keyword-only parameters given -/
def iAg (ds : List D) : List Ag := ds.map fun d => .inl (M.ret d)
noncomputable def vCallK (F : FN) (pm : List Bool) (fs : M (List D)) : M D := fs.bnd fun ds e => if pm = List.replicate ds.length false then callK F (iAg ds) e ds else none
theorem agP_iAg : ∀ (ds : List D), agP (iAg ds) = List.replicate ds.length false
  | [] => rfl
  | _ :: ds => congrArg (false :: ·) (agP_iAg ds)
theorem agL_iAg : ∀ (ds : List D), agL (iAg ds) = []
  | [] => rfl
  | _ :: ds => agL_iAg ds
theorem agV_iAg {σ : L2.St} : ∀ {ds : List D} {vs : List V}, vs.length = ds.length → agV σ (iAg ds) vs = vs
  | [], [], _ => rfl
  | _ :: ds, v :: vs, h => congrArg (v :: ·) (agV_iAg (ds := ds) (vs := vs) (Nat.succ.inj h))
section
variable {X : Cx} {k : Nat} {f : Addr} {fd : FuncData} {ps ks : List Str} {sp : Sp} {E : L2.St → XK} {x : Str} {p pos : Pos} {e : Expr} {es : List Expr} {kws : List Keyword} {t : TA}
def tCallKS (sp : Sp) (E : L2.St → XK) (t : TA) : TE := fun σ H Q => t σ H fun vs H1 => sp vs H1 Q (E σ)
theorem pe_callKS (F : FnOk X.prog X.w X.K X.mg X.base (L2.CX X.prog X.w) k f fd ps sp) (hr : Room k X.A) (hg : Gl X x) (hm : X.mg x = some (.ref f)) (hk : PySem.W.keepIn X.K (.ref f) = true) (hb : KBn X.K fd ps (e :: es).length ks gApp gApp) (hx : ∀ σ, PassesAt (L2.CX X.prog X.w) X σ (E σ)) (hkl : kws.length = ks.length)
    (ha : PAK X (e :: es) kws t) (hall : (backToKw pos (keywordEach kws X.env)).all (·.1.isSome) = true := by rfl) (hks : (backToKw pos (keywordEach kws X.env)).filterMap (·.1) = ks := by rfl)
    (hdb : (x == ("__debug__" : Str)) = false := by decide) (he : starEach (e :: es) X.env = (false, eval e X.env) :: starEach es X.env := by rfl)
    (hpl : ((backTo pos (starEach (e :: es) X.env)).any (·.1) || (backToKw pos (keywordEach kws X.env)).any (·.1.isNone)) = false := by rfl) :
    PE X (.Call (.Name x p) (e :: es) kws pos) (tCallKS sp E t) := by
  obtain ⟨ta, tk, h1, h2, h3⟩ := ha.ex
  refine ⟨fun pins s σ H Q I h => ?_⟩
  have h := h3 σ H _ h
  refine wpAny_Call_Name_kw (ld_glob I hg hm ?_ hdb)
  refine PySem.W.callWith_KW (h₀ := X.base) I.ok.mod.kin hk hall (thn (h1.run pos pins s σ H _ I h) fun us s1 ⟨vs, H1, I1, r, q⟩ => ?_) hpl he
  refine thn (h2.run pos pins s1 σ H1 _ I1 q) fun ws s2 ⟨zs, H2, I2, rz, l1, l2, q2⟩ => ⟨I2.kIn, ?_⟩
  rw [hks]
  have r2 := hb.rel r rz
  refine wpAny_call (codeAny_mono (F.run X.A X.stack s2 H2 ⟨us, ks.zip ws⟩ (gApp us ws) (gApp vs zs) Q (E σ) hr I2.env0 (hb.to s2 us ws I2.kIn (r.length.symm.trans l1) (rz.length.symm.trans (l2.trans hkl))) r2 q2) fun r s' hq => ?_)
  cases r with
  | error e => exact hx σ pins _ _ e s' I2 hq
  | ok fl =>
    cases fl with
    | ret u => exact I2.after hq
    | next => exact False.elim hq
    | brk => exact False.elim hq
    | cont => exact False.elim hq
end
section
variable {X : Cx} {G : Gx} {z : Zx} {W : WX} {e : Expr} {es : List Expr} {kws : List Keyword} {pos : Pos} {fs : M (List D)}
theorem ve_callK {F : FN} {fa : Addr} {fd : FuncData} {ps ks : List Str} {k : Nat} {x : Str} {p : Pos} {pm : List Bool} (FO : FnOk X.prog X.w X.K X.mg X.base (L2.CX X.prog X.w) k fa fd ps (spOf G F pm)) (hr : Room k X.A) (hm : X.mg x = some (.ref fa)) (hk : PySem.W.keepIn X.K (.ref fa) = true) (hb : KBn X.K fd ps (e :: es).length ks gApp gApp) (tk : Takes X W) (hkl : kws.length = ks.length)
    (ha : PAK X (e :: es) kws (RA G z W fs)) (hg : Gl X x := by rfl) (hall : (backToKw pos (keywordEach kws X.env)).all (·.1.isSome) = true := by rfl) (hks : (backToKw pos (keywordEach kws X.env)).filterMap (·.1) = ks := by rfl) (hdb : (x == ("__debug__" : Str)) = false := by decide)
    (he : starEach (e :: es) X.env = (false, eval e X.env) :: starEach es X.env := by rfl) (hpl : ((backTo pos (starEach (e :: es) X.env)).any (·.1) || (backToKw pos (keywordEach kws X.env)).any (·.1.isNone)) = false := by rfl) :
    PE X (.Call (.Name x p) (e :: es) kws pos) (RE G z W (vCallK F pm fs)) := peImp (pe_callKS FO hr hg hm hk hb (fun σ => passAt tk σ) hkl ha hall hks hdb he hpl) fun σ H Q h => by
  obtain ⟨I, ts, dts, env, FT, FS, S, h⟩ := RE.to h
  refine RA.of S (GA.bnd (g := GE G z W I ts dts σ Q) (Same.refl _) h (fun c x e h => h) (fun h => h) fun ds e1 h1 vs I1 H1 FT1 FS1 s1 S1 n => ?_)
  replace h1 : GE G z W I ts dts σ Q (if pm = List.replicate ds.length false then callK F (iAg ds) e1 ds else none) := h1
  split at h1
  · rename_i hp
    have := call_ok (ags := iAg ds) (.inl (agL_iAg ds)) s1 S1 n h1
    rw [agP_iAg, ← hp, agV_iAg n] at this
    exact this
  · exact h1.elim
end
/-- a def with keyword-only parameters, all given -/
structure DKK (G : Gx) (mg : Str → Option Value) (x qual : Str) (st : Stmt) (ps ks : List Str) (n : Nat) (f : Addr) (fd : FuncData) : Prop where
  fn : Fun G.K x qual st f fd
  mg : mg x = some (.ref f)
  bk : KBn G.K fd ps n ks gApp gApp
end
section
set_option Elab.async false
set_option linter.all false
set_option maxRecDepth 100000
set_option maxHeartbeats 1000000
local macro_rules | `(tactic| walk_at "vx") => `(tactic| fail "vx")
local macro_rules | `(tactic| walk_at "vb") => `(tactic| first | ((with_reducible apply EB_andI); with_reducible refine EB_and (by walk_at "vb") (by walk_at "vb")) | ((with_reducible apply EB_orI); with_reducible refine EB_or (by walk_at "vb") (by walk_at "vb")) | ((with_reducible apply EB_notI); with_reducible refine EB_not (by walk_at "vb")) | ((with_reducible apply EB_pI); with_reducible refine EB_p (by first | ((with_reducible apply p_chI); with_reducible refine p_ch (by walk_at "ve") (by walk_at "ve") (by walk_at "ve")) | walk_at "ve" | fail "vb")) | fail "vb")
local macro_rules | `(tactic| walk_at "vd") => `(tactic| (first | assumption | omega | (simp only [nums_len, dl_len, dInts_len, q_szl, List.length_append, List.length_take, List.length_drop, List.length_reverse, List.length_set, List.length_dropLast, List.length_map, List.length_cons, List.length_nil]; first | done | omega | fail "vd") | (constructor <;> omega) | (refine ⟨by omega, by omega, by decide⟩) | ((refine id ?_); with_unfolding_all rfl) | decide | (decide +kernel) | fail "vd"))
local macro_rules | `(tactic| walk_at "vq") => `(tactic| (simp (disch := walk_at "vd") only [q_var0, q_varS, q_c, q_p2, q_p1, q_gI, q_gAdd, q_fadd, q_sub, q_mulR, q_mulL, q_div, q_mod, q_pow, q_shl, q_shr, q_gIB, q_gIL, q_neg, q_abs, q_int, q_asInt, q_asBl, q_eqI, q_neI, q_eqS, q_neS, q_eqL, q_neL, q_eqT, q_neT, q_seqL, q_seqT, q_seqS, q_seqK, q_rep1, q_repN, q_intT, q_intF, q_lcm, q_maxL, q_minL, q_sumL, q_din, q_dnotin, q_dix, q_lenD, q_dput, q_eqB, q_neB, q_eqLa, q_neLa, q_tgT, q_tgAn, q_tgAc, q_lenQ, q_ixQ, q_seqQ, q_tupQ, q_fzQ, q_slQ, q_slD, q_catQ, q_isNQ, q_lenL, q_lenT, q_lenS, q_ixL, q_ixT, q_ixS, q_at0, q_at1, q_at2, atI_nums, atI_numsN, atI_dl, atI_dlN, q_get0, q_getS, q_join, q_lst0, q_lstS, q_agDn, q_agDl, q_agDr, q_outn, q_outt, q_outf, q_tg0, q_tgS, q_bdn, q_bds, q_slL, q_slS, q_slT, cut_to, cut_from, cut_mid, q_tupL, q_tupT, q_tupS, q_asLst, q_isE, q_gIsi, q_tyI, q_tyB, q_tyX, q_tyT, q_tyL, q_tyN, q_kit_int_int, q_kit_int_bool, q_kit_bool_bool, q_kit_bool_int, q_kit_tuple_tuple, q_kit_list_list, q_kit_str_str, q_kit_str_int, q_kit_tuple_int, q_kit_NoneType_int, q_kit_list_tuple, q_kit_tuple_list, q_kit_int_tuple, q_kit_NoneType_tuple, q_kit_int_str, q_fzIns, q_gIsN, q_gNotN, q_isNo, q_ins0, q_insS, q_putO, q_putn, q_puth, q_putc, q_fld, q_lkh, q_lkt, q_fzO, q_fzsO, q_fzI, q_fzB, q_fzX, q_fzN, q_fzL, q_fzT, q_fzS, q_fzn, q_fzc, fzs_nums, frozens_nums, fzs_dl, frozens_dl, q_catL, q_catT, q_repL, q_repT, q_ixSet, nums_len, dl_len, dl_app, dl_push, dl_set, nums_app, nums_push, nums_rev, nums_take, nums_drop, nums_dropLast, nums_set, nums_rep, q_bind, q_map, q_isN, q_notN, q_isNn, q_isNi, q_isNb, q_isNx, q_isNt, q_isNl, q_not1, q_not0, Int.reducePow, Int.reduceToNat, Int.reduceNeg]))
local macro_rules | `(tactic| walk_at "ve") => `(tactic| (first | (with_reducible rfl) | (walk_at "vq"; first | done | (with_reducible rfl) | rfl | fail "vq") | walk_at "vx" | fail "ve"))
local macro_rules | `(tactic| walk_at "vf") => `(tactic| (first | rfl | exact froQ | exact froD | (simp only [D.frozen, D.frozens, frozens_nums, frozens_dl, Bool.and_self, Bool.and_true, Bool.true_and, Bool.not_false, froQ, froD]; done) | fail "vf"))
local macro_rules | `(tactic| walk_at "v1") => `(tactic| (first | (with_reducible refine ws_id ?_; first | ((fail_if_success (with_reducible refine ws_seq (f := sIf _ _ _) ?_)); with_reducible refine ws_seq ?_) | with_reducible refine ws_set ?_ | with_reducible refine ws_ret ?_ | with_reducible refine ws_nil ?_ | with_reducible refine ws_if ?_ | with_reducible refine ws_app ?_ | with_reducible refine ws_drop ?_ | with_reducible refine ws_for ?_ | with_reducible refine ws_aug ?_ | with_reducible refine ws_put ?_ | with_reducible refine ws_to ?_ | with_reducible refine ws_raise ?_ | with_reducible refine ws_try ?_ | with_reducible refine ws_retN ?_ | with_reducible refine ws_brk ?_ | with_reducible refine ws_cnt ?_ | with_reducible refine ws_fld ?_ | with_reducible refine ws_rev ?_ | with_reducible refine ws_ext ?_ | with_reducible refine ws_dput ?_ | with_reducible refine ws_par ?_ | fail "v") | (with_reducible refine wp_id ?_; first | with_reducible refine wp_P ?_ | with_reducible refine wp_Call ?_ | with_reducible refine wp_agl ?_ | with_reducible refine wp_agr ?_ | with_reducible refine wp_ag0 ?_ | with_reducible refine wp_tP ?_ | with_reducible refine wp_tE ?_ | with_reducible refine wp_aCons ?_ | with_reducible refine wp_aNil ?_ | with_reducible refine wp_Mv ?_ | with_reducible refine wp_Op ?_ | with_reducible refine wp_tAnd ?_ | with_reducible refine wp_tOr ?_ | with_reducible refine wp_tNot ?_ | with_reducible refine wp_Fz ?_ | with_reducible refine wp_Lc ?_ | with_reducible refine wp_Tup ?_ | with_reducible refine wp_Lst ?_ | with_reducible refine wp_iRange1 ?_ | with_reducible refine wp_iRange2 ?_ | with_reducible refine wp_iSq ?_ | with_reducible refine wp_tYes ?_ | with_reducible refine wp_Gv ?_ | with_reducible refine wp_Op1 ?_ | with_reducible refine wp_Make ?_ | with_reducible refine wp_If ?_ | with_reducible refine wp_Not ?_ | with_reducible refine wp_Sl ?_ | with_reducible refine wp_List ?_ | with_reducible refine wp_ListP ?_ | with_reducible refine wp_Tuple ?_ | with_reducible refine wp_TupleP ?_ | with_reducible refine wp_Cat ?_ | with_reducible refine wp_Rep ?_ | with_reducible refine wp_Pop ?_ | with_reducible refine wp_Dk ?_ | with_reducible refine wp_Dt ?_ | with_reducible refine wp_Meth ?_ | with_reducible refine wp_CallO ?_ | with_reducible refine wp_Rep1 ?_ | ((with_reducible refine wp_andI ?_); with_reducible refine wp_bAnd (by walk_at "vb") ?_) | with_reducible refine wp_And ?_ | ((with_reducible refine wp_orI ?_); with_reducible refine wp_bOr (by walk_at "vb") ?_) | with_reducible refine wp_Or ?_ | fail "v") | (with_reducible refine st_id ?_; first | with_reducible refine st_push ?_ | with_reducible refine st_pushL ?_ | with_reducible refine st_pushT ?_ | with_reducible refine st_rev ?_ | with_reducible refine st_dl ?_ | with_reducible refine st_ext ?_ | with_reducible refine st_fzL ?_ | with_reducible refine st_nil ?_ | ((repeat (with_reducible refine st_s ?_)); (with_reducible refine st_z ?_)) | fail "v") | (with_reducible refine ev_id ?_; first | ((with_reducible refine ev_chI ?_); with_reducible refine ev_ch (by walk_at "ve") (by walk_at "ve") (by walk_at "ve") ?_) | with_reducible refine ev_i (by walk_at "ve") ?_ | fail "v") | (with_reducible refine evf_id ?_; first | ((with_reducible refine evf_chI ?_); with_reducible refine evf_ch (by walk_at "ve") (by walk_at "ve") (by walk_at "ve") ?_) | with_reducible refine evf_i (by walk_at "ve") (by walk_at "vf") ?_ | fail "v") | (with_reducible refine ifb_id ?_; first | with_reducible refine ifb_t ?_ | with_reducible refine ifb_f ?_ | with_reducible refine ifb_rfl ?_ | with_reducible refine ifb_beq ?_ | with_reducible refine ifb_tr ?_ | with_reducible refine ifb_fl ?_ | with_reducible refine ifb_n ?_ | with_reducible refine ifb_and ?_ | with_reducible refine ifb_or ?_ | fail "v") | (with_reducible refine outK_id ?_; first | with_reducible refine outK_ln ?_ | with_reducible refine outK_e ?_ | with_reducible refine outK_r (by with_unfolding_all rfl) ?_ | fail "v") | (with_reducible refine ev2_id ?_; first | with_reducible refine ev2_i (by walk_at "ve") ?_ | fail "v") | (with_reducible refine evR1_id ?_; first | with_reducible refine evR1_i (by walk_at "vd") ?_ | fail "v") | (with_reducible refine evR2_id ?_; first | with_reducible refine evR2_i (by walk_at "vd") ?_ | fail "v") | with_reducible refine wipeS_n ?_ | with_reducible refine wipeS_c ?_ | with_reducible refine mk_i ?_ | with_reducible refine mkx_i ?_ | with_reducible refine par_i ?_ | (with_reducible refine and_id ?_; first | with_reducible refine And.intro (by first | exact frozens_nums | exact frozens_dl | rfl | (with_unfolding_all rfl) | (simp only [nums_len, dl_len, dInts_len, q_szl, List.length_append, List.length_take, List.length_drop, List.length_reverse, List.length_set, List.length_dropLast, List.length_map, List.length_cons, List.length_nil]; first | done | omega | fail "v") | fail "v") ?_ | fail "v") | fail "v"))
local macro_rules | `(tactic| walk_at "vs") => `(tactic| (repeat' walk_at "v1"))
local macro_rules | `(tactic| walk_at "vi") => `(tactic| ((with_reducible refine ws_seq (f := sIf _ _ _) ?_); (with_reducible refine ws_if ?_); walk_at "vs"))
local macro_rules | `(tactic| walk_at "vt") => `(tactic| ((repeat (with_reducible refine st_s ?_)); (with_reducible refine st_z ?_)))
local macro_rules | `(tactic| walk_at "va") => `(tactic| ((with_reducible refine ws_seq ?_); (with_reducible refine ws_set ?_); (with_reducible refine wp_P ?_); walk_at "v1"; walk_at "vt"))
local macro_rules | `(tactic| walk_at "vz") => `(tactic| (repeat' first | walk_at "v1" | with_reducible refine ifb_yes (by first | assumption | omega | fail "z") ?_ | with_reducible refine ifb_no (by first | assumption | omega | fail "z") ?_ | fail "z"))
local macro_rules | `(tactic| walk_at "vj") => `(tactic| ((with_reducible refine ws_seq (f := sIf _ _ _) ?_); (with_reducible refine ws_if ?_); walk_at "vz"))
local macro_rules | `(tactic| walk_at "vn") => `(tactic| simp only [List.set_cons_zero, List.set_cons_succ])
local macro_rules | `(tactic| walk_at "vc") => `(tactic| first | exact ⟨rfl, rfl⟩ | rfl | fail "vc")
section
set_option Elab.async false
set_option linter.all false
set_option maxRecDepth 100000
set_option maxHeartbeats 1000000
/-! _law_cell(script, k): slots 0 script 1 k -/
noncomputable def b__law_cell : M Fl :=
  sSeq (sIf (tP (pLt (pVar 1) (pLen (pVar 0)))) (sRet (vP (pIx (pVar 0) (pVar 1)))) (sNil))
  (sRet (vP (pC (.int 0))))
noncomputable def run__law_cell : FN := runD 2 [false, false] b__law_cell
/-! _law_take(draws, limit): slots 0 draws 1 limit -/
noncomputable def b__law_take : M Fl :=
  sSeq (sIf (tP (pEq (pLen (pVar 0)) (pC (.int 0)))) (sRet (vP (pC (.int 0)))) (sNil))
  (sRet (vMod (vOp1 gInt (vPop 0)) (vP (pVar 1))))
noncomputable def run__law_take : FN := runD 2 [true, false] b__law_take
/-! _law_draws(script, count): slots 0 script 1 count 2 cells 3 found 4 mixed 5 k 6 j 7 cell 8 again -/
noncomputable def b__law_draws : M Fl :=
  sSeq (sSet 2 (vListP (pVar 0)))
  (sSeq (sIf (tP (pEq (pLen (pVar 2)) (pC (.int 0)))) (sSet 2 (vLst (aCons (vP (pC (.int 7))) (aNil)))) (sNil))
  (sSeq (sSet 3 (vLst (aNil)))
  (sSeq (sSet 4 (vP (pC (.int 12345))))
  (sSeq (sFor (iRange1 (aCons (vP (pVar 1)) (aNil))) (tgName 5) (sSeq (sSet 6 (vP (pMod (pVar 5) (pLen (pVar 2)))))
  (sSeq (sSet 7 (vP (pIx (pVar 2) (pVar 6))))
  (sSeq (sSet 4 (vP (pMod (pInt (pAdd (pAdd (pAdd (pMul (pVar 4) (pC (.int 48271))) (pMul (pMod (pInt (pVar 7)) (pC (.int 1000003))) (pC (.int 69621)))) (pMul (pVar 5) (pC (.int 7919)))) (pC (.int 11)))) (pC (.int 2147483647)))))
  (sSeq (sSet 8 (vP (pMod (pInt (pAdd (pAdd (pMul (pVar 4) (pVar 4)) (pMul (pC (.int 31)) (pVar 4))) (pVar 5))) (pC (.int 1000003)))))
  (sIf (tP (pGe (pVar 7) (pPow (pC (.int 10)) (pC (.int 18))))) (sSeq (sApp 3 (vP (pMod (pInt (pVar 7)) (pC (.int 1000)))))
  (sPut 2 (pVar 6) (vP (pDiv (pVar 7) (pC (.int 1000)))))) (sApp 3 (vP (pMod (pInt (pVar 8)) (pC (.int 1000)))))))))))
  (sSeq (sRev 3)
  (sRet (vGv 3)))))))
noncomputable def run__law_draws : FN := runD 9 [false, false] b__law_draws
theorem fr__law_cell {a0 a1 : D} {Q : D → List D → Prop} {X : Str → Option (Str × D) → List D → Prop} (h : ws b__law_cell [some a0, some a1] (fun e => ev (outsOf [false, false] e) (Q .non)) (fun _ => False) (fun _ => False) (fun d e => ev (outsOf [false, false] e) (Q d)) (fun c x e => ev (outsOf [false, false] e) (X c x))) : Fw run__law_cell [a0, a1] Q X := fw_run rfl h
theorem fr__law_take {a0 a1 : D} {Q : D → List D → Prop} {X : Str → Option (Str × D) → List D → Prop} (h : ws b__law_take [some a0, some a1] (fun e => ev (outsOf [true, false] e) (Q .non)) (fun _ => False) (fun _ => False) (fun d e => ev (outsOf [true, false] e) (Q d)) (fun c x e => ev (outsOf [true, false] e) (X c x))) : Fw run__law_take [a0, a1] Q X := fw_run rfl h
theorem fr__law_draws {a0 a1 : D} {Q : D → List D → Prop} {X : Str → Option (Str × D) → List D → Prop} (h : ws b__law_draws [some a0, some a1, none, none, none, none, none, none, none] (fun e => ev (outsOf [false, false] e) (Q .non)) (fun _ => False) (fun _ => False) (fun d e => ev (outsOf [false, false] e) (Q d)) (fun c x e => ev (outsOf [false, false] e) (X c x))) : Fw run__law_draws [a0, a1] Q X := fw_run rfl h
/-! ### the laws' own small defs -/
theorem fw_cell {ns : List Int} {k : Int} (h : 0 ≤ k) : run__law_cell [.scr (nums ns), .int k] = some (.ret (.int (if k < ns.length then gi ns k else 0)) []) := by
  refine fw_get (fr__law_cell ?_)
  unfold b__law_cell
  walk_at "vi"
  refine ifb_d (fun h1 => ?_) fun h1 => ?_
  · walk_at "vs"
    rw [if_pos h1]
    exact ⟨rfl, rfl⟩
  · walk_at "vs"
    rw [if_neg h1]
    exact ⟨rfl, rfl⟩
/-- the draws still there -/
def DrOk (l : List Int) : Prop := (∀ x ∈ l, 0 ≤ x) ∧ l.length ≤ 16777216
theorem fw_take {l : List Int} {k : Int} {Q : D → List D → Prop} {X : Str → Option (Str × D) → List D → Prop} (hl : DrOk l) (hk : 0 < k) (q : ∀ r l', 0 ≤ r → r < k → DrOk l' → Q (.int r) [.lst true (nums l')]) : Fw run__law_take [.lst true (nums l), .int k] Q X := by
  refine fr__law_take ?_
  unfold b__law_take
  walk_at "vi"
  refine ifb_d (fun h1 => ?_) fun h1 => ?_
  · walk_at "vs"
    exact q 0 l (Int.le_refl _) hk hl
  · walk_at "vs"
    obtain ⟨x, hx⟩ : ∃ x, l.getLast? = some x := by
      cases h2 : l.getLast? with
      | none => rw [List.getLast?_eq_none_iff] at h2; subst h2; exact (h1 rfl).elim
      | some x => exact ⟨x, rfl⟩
    refine evf_i (nums_last hx) rfl ?_
    have hm : x ∈ l := List.mem_of_getLast? hx
    walk_at "vs"
    exact q _ _ (Int.emod_nonneg _ (by omega)) (Int.emod_lt_of_pos _ hk) ⟨fun y hy => hl.1 y (List.dropLast_subset l hy), by rw [List.length_dropLast]; have := hl.2; omega⟩

theorem fw_draws {ns : List Int} {n : Int} {Q : D → List D → Prop} {X : Str → Option (Str × D) → List D → Prop} (hn : 0 ≤ n ∧ n ≤ 16777216) (q : ∀ l, DrOk l → l.length = n.toNat → Q (.lst true (nums l)) []) : Fw run__law_draws [.scr (nums ns), .int n] Q X := by
  refine fr__law_draws ?_
  unfold b__law_draws
  walk_at "vs"
  refine ws_seqI (fun e => ∃ cells : List Int, cells ≠ [] ∧ e = [some (.scr (nums ns)), some (.int n), some (.lst true (nums cells)), none, none, none, none, none, none]) ?_ ?_
  · refine ws_if ?_
    walk_at "vs"
    refine ifb_d (fun h1 => ?_) fun h1 => ?_
    · walk_at "vs"
      exact ⟨[7], by simp, rfl⟩
    · walk_at "vs"
      exact ⟨ns, fun h => h1 (by rw [h]; rfl), rfl⟩
  rintro _ ⟨cells, hc, rfl⟩
  walk_at "vs"
  refine ws_forI (fun i e => ∃ (cells found : List Int) (mixed : Int) (a b c d : Option D), e = [some (.scr (nums ns)), some (.int n), some (.lst true (nums cells)), some (.lst true (nums found)), some (.int mixed), a, b, c, d] ∧ cells ≠ [] ∧ found.length = i ∧ (∀ x ∈ found, 0 ≤ x) ∧ 0 ≤ mixed ∧ mixed < 2147483647) ⟨cells, [], 12345, none, none, none, none, rfl, hc, rfl, (fun x h => nomatch h), by omega, by omega⟩ ?_ ?_
  · rintro i d _ hi ⟨cells, found, mixed, a, b, c, d', rfl, hc, hf, hp, hm0, hm1⟩
    obtain ⟨hi1, rfl⟩ := dInts_get hi
    have hl : 0 < (cells.length : Int) := by
      have := List.length_pos_iff.mpr hc
      omega
    have hj0 := Int.emod_nonneg (0 + (i : Int)) (b := (cells.length : Int)) (by omega)
    have hj1 := Int.emod_lt_of_pos (0 + (i : Int)) hl
    walk_at "v1"
    refine ws_seq (ws_setI (fun j => 0 ≤ j ∧ j < (cells.length : Int)) (by walk_at "ve") ⟨hj0, hj1⟩ fun j hj => ?_)
    obtain ⟨hj0, hj1⟩ := hj
    walk_at "vt"; walk_at "va"
    refine ws_seq (ws_setI (fun j => 0 ≤ j ∧ j < 2147483647) (by walk_at "ve") ?_ fun mx hx => ?_)
    · exact ⟨Int.emod_nonneg _ (by omega), Int.emod_lt_of_pos _ (by omega)⟩
    obtain ⟨hx0, hx1⟩ := hx
    walk_at "vt"
    refine ws_seq (ws_setI (fun j => 0 ≤ j) (by walk_at "ve") ?_ fun ag ha => ?_)
    · exact Int.emod_nonneg _ (by omega)
    walk_at "vs"
    refine ifb_d (fun h1 => ?_) fun h1 => ?_
    · walk_at "vs"
      refine ⟨cells.set j.toNat (gi cells j / 1000), found ++ [gi cells j % 1000], mx, _, _, _, _, rfl, ?_, ?_, ?_, hx0, hx1⟩
      · intro h
        have := congrArg List.length h
        rw [List.length_set] at this
        exact hc (List.length_eq_zero_iff.mp this)
      · rw [List.length_append, hf]; rfl
      · intro x hx
        rcases List.mem_append.mp hx with h | h
        · exact hp x h
        · rw [List.mem_singleton.mp h]; exact Int.emod_nonneg _ (by omega)
    · walk_at "vs"
      refine ⟨cells, found ++ [ag % 1000], mx, _, _, _, _, rfl, hc, ?_, ?_, hx0, hx1⟩
      · rw [List.length_append, hf]; rfl
      · intro x hx
        rcases List.mem_append.mp hx with h | h
        · exact hp x h
        · rw [List.mem_singleton.mp h]; exact Int.emod_nonneg _ (by omega)
  · rintro _ ⟨cells, found, mixed, a, b, c, d', rfl, hc, hf, hp, hm0, hm1⟩
    rw [dInts_len] at hf
    walk_at "vs"
    refine q _ ⟨fun x hx => hp x (List.mem_reverse.mp hx), ?_⟩ ?_
    · rw [List.length_reverse]; omega
    · rw [List.length_reverse]; omega
end
section
set_option Elab.async false
set_option linter.all false
set_option maxRecDepth 100000
set_option maxHeartbeats 1000000
/-! repeats(loop, period): slots 0 loop 1 period 2 k -/
noncomputable def b_repeats : M Fl :=
  sSeq (sIf (tP (pNe (pMod (pLen (pVar 0)) (pVar 1)) (pC (.int 0)))) (sRet (vP (pC (.bl false)))) (sNil))
  (sSeq (sFor (iRange2 (aCons (vP (pVar 1)) (aCons (vP (pLen (pVar 0))) (aNil)))) (tgName 2) (sIf (tP (pNe (pIx (pVar 0) (pVar 2)) (pIx (pVar 0) (pSub (pVar 2) (pVar 1))))) (sRet (vP (pC (.bl false)))) (sNil)))
  (sRet (vP (pC (.bl true)))))
noncomputable def run_repeats : FN := runD 3 [false, false] b_repeats
theorem fr_repeats {a0 a1 : D} {Q : D → List D → Prop} {X : Str → Option (Str × D) → List D → Prop} (h : ws b_repeats [some a0, some a1, none] (fun e => ev (outsOf [false, false] e) (Q .non)) (fun _ => False) (fun _ => False) (fun d e => ev (outsOf [false, false] e) (Q d)) (fun c x e => ev (outsOf [false, false] e) (X c x))) : Fw run_repeats [a0, a1] Q X := fw_run rfl h
/-! shortest(head, loop): slots 0 head 1 loop 2 period 3 rest 4 shift 5 begin -/
noncomputable def b_shortest : M Fl :=
  sSeq (sSet 2 (vP (pC (.int 1))))
  (sSeq (sWh (tNot (tE (vCall run_repeats [.inl (vP (pVar 1)), .inl (vP (pVar 2))]))) (sAugAdd 2 (vP (pC (.int 1)))))
  (sSeq (sSet 3 (vP (pLen (pVar 0))))
  (sSeq (sSet 4 (vP (pC (.int 0))))
  (sSeq (sWh (tAnd (tP (pGt (pVar 3) (pC (.int 0)))) (tP (pEq (pIx (pVar 0) (pSub (pVar 3) (pC (.int 1)))) (pIx (pVar 1) (pMod (pSub (pSub (pVar 2) (pC (.int 1))) (pVar 4)) (pVar 2)))))) (sSeq (sAugSub 3 (vP (pC (.int 1))))
  (sSet 4 (vP (pMod (pAdd (pVar 4) (pC (.int 1))) (pVar 2))))))
  (sSeq (sSet 1 (vTuple (vSl (pVar 1) none (some (pVar 2)))))
  (sSeq (sSet 5 (vP (pMod (pSub (pVar 2) (pVar 4)) (pVar 2))))
  (sRet (vTup (aCons (vTuple (vSl (pVar 0) none (some (pVar 3)))) (aCons (vCat (vSl (pVar 1) (some (pVar 5)) none) (vSl (pVar 1) none (some (pVar 5)))) (aNil)))))))))))
noncomputable def run_shortest : FN := runD 6 [false, false] b_shortest
theorem fr_shortest {a0 a1 : D} {Q : D → List D → Prop} {X : Str → Option (Str × D) → List D → Prop} (h : ws b_shortest [some a0, some a1, none, none, none, none] (fun e => ev (outsOf [false, false] e) (Q .non)) (fun _ => False) (fun _ => False) (fun d e => ev (outsOf [false, false] e) (Q d)) (fun c x e => ev (outsOf [false, false] e) (X c x))) : Fw run_shortest [a0, a1] Q X := fw_run rfl h
/-! ### words that come back -/
/-- the letters repeat with period p -/
def Per (w : List Int) (p : Int) : Prop := (w.length : Int) % p = 0 ∧ ∀ k : Int, p ≤ k → k < w.length → gi w k = gi w (k - p)
theorem fw_repeats {c : Bool} {w : List Int} {p : Int} {Q : D → List D → Prop} {X : Str → Option (Str × D) → List D → Prop} (hp : 1 ≤ p) (hs : p ≤ 16777216) (hw : w.length ≤ 16777216) (q : ∀ b, (b = true ↔ Per w p) → Q (.bl b) []) : Fw run_repeats [sq c false (nums w), .int p] Q X := by
  refine fr_repeats ?_
  unfold b_repeats
  walk_at "vi"
  refine ifb_d (fun h1 => ?_) fun h1 => ?_
  · walk_at "vs"
    refine ws_forI (fun i e => (∀ k : Int, p ≤ k → k < p + i → gi w k = gi w (k - p)) ∧ ∃ x, e = [some (sq c false (nums w)), some (.int p), x]) ⟨fun k h2 h3 => by omega, _, rfl⟩ ?_ ?_
    · rintro i d _ hi ⟨hI, x, rfl⟩
      obtain ⟨hi1, rfl⟩ := dInts_get hi
      walk_at "v1"
      refine ws_if ?_
      walk_at "vs"
      refine ifb_d (fun h2 => ?_) fun h2 => ?_
      · walk_at "vs"
        refine ⟨fun k h3 h4 => ?_, _, rfl⟩
        by_cases h5 : k < p + i
        · exact hI k h3 h5
        · have : k = p + i := by omega
          rw [this]; exact h2
      · walk_at "vs"
        refine q false ⟨(fun h => nomatch h), fun h => ?_⟩
        exact (h2 (h.2 (p + i) (by omega) (by omega))).elim
    · rintro e ⟨hI, x, rfl⟩
      rw [dInts_len] at hI
      walk_at "vs"
      refine q true ⟨fun _ => ⟨h1, fun k h3 h4 => hI k h3 (by omega)⟩, fun _ => rfl⟩
  · walk_at "vs"
    exact q false ⟨(fun h => nomatch h), fun h => (h1 h.1).elim⟩
theorem per_self {w : List Int} : Per w w.length := ⟨Int.emod_self, fun k h1 h2 => by omega⟩
theorem per_mod {w : List Int} {p : Int} (hp : 1 ≤ p) (h : Per w p) : ∀ (n : Nat) (k : Int), k.toNat = n → 0 ≤ k → k < w.length → gi w k = gi w (k % p) := by
  intro n
  induction n using Nat.strongRecOn with
  | _ n ih =>
    intro k hk h0 h1
    by_cases h2 : k < p
    · rw [Int.emod_eq_of_lt h0 h2]
    · rw [h.2 k (by omega) h1, ih (k - p).toNat (by omega) (k - p) rfl (by omega) (by omega)]
      congr 1
      rw [Int.sub_emod, Int.emod_self, Int.sub_zero, Int.emod_emod]
theorem per_len {w : List Int} {p : Int} (hp : 1 ≤ p) (hw : w ≠ []) (h : Per w p) : p ≤ w.length := by
  have h0 : 0 < (w.length : Int) := by have := List.length_pos_iff.mpr hw; omega
  exact Int.le_of_dvd h0 (Int.dvd_of_emod_eq_zero h.1)
theorem per_cyc {w : List Int} {p : Int} (hp : 1 ≤ p) (hw : w ≠ []) (h : Per w p) (t : Int) : gi w (t % w.length) = gi w (t % p) := by
  have h0 : 0 < (w.length : Int) := by have := List.length_pos_iff.mpr hw; omega
  rw [per_mod hp h _ (t % w.length) rfl (Int.emod_nonneg _ (by omega)) (Int.emod_lt_of_pos _ h0), Int.emod_emod_of_dvd _ (Int.dvd_of_emod_eq_zero h.1)]
theorem gi_take {w : List Int} {n : Nat} {k : Int} (h0 : 0 ≤ k) (h1 : k < n) : gi (w.take n) k = gi w k := by
  unfold gi
  rw [List.getD_eq_getElem?_getD, List.getD_eq_getElem?_getD, List.getElem?_take, if_pos (by omega)]
theorem gi_drop {w : List Int} {n : Nat} {k : Int} (h0 : 0 ≤ k) : gi (w.drop n) k = gi w (n + k) := by
  unfold gi
  rw [List.getD_eq_getElem?_getD, List.getD_eq_getElem?_getD, List.getElem?_drop]
  congr 2
  omega
theorem gi_appL {w v : List Int} {k : Int} (h0 : 0 ≤ k) (h1 : k < w.length) : gi (w ++ v) k = gi w k := by
  unfold gi
  rw [List.getD_eq_getElem?_getD, List.getD_eq_getElem?_getD, List.getElem?_append_left (by omega)]
theorem gi_appR {w v : List Int} {k : Int} (h1 : (w.length : Int) ≤ k) : gi (w ++ v) k = gi v (k - w.length) := by
  unfold gi
  rw [List.getD_eq_getElem?_getD, List.getD_eq_getElem?_getD, List.getElem?_append_right (by omega)]
  congr 2
  omega
theorem gi_ext {w v : List Int} (hl : w.length = v.length) (h : ∀ k : Int, 0 ≤ k → k < w.length → gi w k = gi v k) : w = v := by
  apply List.ext_getElem hl
  intro i h1 h2
  have := h i (by omega) (by omega)
  unfold gi at this
  rw [Int.toNat_natCast, List.getD_eq_getElem?_getD, List.getD_eq_getElem?_getD, List.getElem?_eq_getElem h1, List.getElem?_eq_getElem h2] at this
  exact this
theorem sub_mod (a b p : Int) : (a - b % p) % p = (a - b) % p := by
  rw [Int.sub_emod, Int.emod_emod, ← Int.sub_emod]
theorem add_mod (a b p : Int) : (a + b % p) % p = (a + b) % p := by
  rw [Int.add_emod, Int.emod_emod, ← Int.add_emod]
theorem mod_add (a b p : Int) : (a % p + b) % p = (a + b) % p := by
  rw [Int.add_emod, Int.emod_emod, ← Int.add_emod]
theorem mod_sub (a b p : Int) : (a % p - b) % p = (a - b) % p := by
  rw [Int.sub_emod, Int.emod_emod, ← Int.sub_emod]
theorem addp_mod (a p : Int) : (a + p) % p = a % p := Int.add_emod_right ..
/-- the letter at a turn -/
def Word (h w : List Int) (t : Int) : Int := if t < h.length then gi h t else gi w ((t - h.length) % w.length)
/-- in normal form -/
structure Nf (h w : List Int) : Prop where
  ne : w ≠ []
  last : h ≠ [] → gi h (h.length - 1) ≠ gi w (w.length - 1)
  prim : ∀ q : Int, 1 ≤ q → q < w.length → (w.length : Int) % q = 0 → ∃ k : Int, 0 ≤ k ∧ k < w.length ∧ gi w k ≠ gi w (k % q)
/-- the middle of shortest: what the second loop leaves -/
structure Mid (h w : List Int) (p r s : Int) : Prop where
  p1 : 1 ≤ p
  pl : p ≤ w.length
  r0 : 0 ≤ r
  rl : r ≤ h.length
  s0 : 0 ≤ s
  sp : s < p
  per : Per w p
  min : ∀ q : Int, 1 ≤ q → q < p → ¬ Per w q
  wd : ∀ t : Int, r ≤ t → Word h w t = gi w ((t - r - s) % p)
theorem Mid.start {h w : List Int} {p : Int} (hw : w ≠ []) (p1 : 1 ≤ p) (per : Per w p) (min : ∀ q : Int, 1 ≤ q → q < p → ¬ Per w q) : Mid h w p h.length 0 :=
  ⟨p1, per_len p1 hw per, by omega, by omega, by omega, by omega, per, min, fun t ht => by
    unfold Word
    rw [if_neg (by omega), per_cyc p1 hw per, Int.sub_zero]⟩
theorem Mid.step {h w : List Int} {p r s : Int} (M : Mid h w p r s) (hr : 0 < r) (he : gi h (r - 1) = gi w ((p - 1 - s) % p)) : Mid h w p (r - 1) ((s + 1) % p) := by
  have hp := M.p1
  refine ⟨M.p1, M.pl, by omega, by have := M.rl; omega, Int.emod_nonneg _ (by omega), Int.emod_lt_of_pos _ (by omega), M.per, M.min, fun t ht => ?_⟩
  rw [sub_mod]
  by_cases h1 : t = r - 1
  · subst h1
    unfold Word
    rw [if_pos (by have := M.rl; omega), he, show r - 1 - (r - 1) - (s + 1) = -1 - s by omega, show p - 1 - s = -1 - s + p by omega, addp_mod]
  · rw [M.wd t (by omega), show t - (r - 1) - (s + 1) = t - r - s by omega]
theorem Mid.done {h w : List Int} {p r s : Int} (M : Mid h w p r s) (he : 0 < r → gi h (r - 1) ≠ gi w ((p - 1 - s) % p)) :
    Nf (h.take r.toNat) ((w.take p.toNat).drop ((p - s) % p).toNat ++ (w.take p.toNat).take ((p - s) % p).toNat) ∧ ∀ t : Int, 0 ≤ t → Word (h.take r.toNat) ((w.take p.toNat).drop ((p - s) % p).toNat ++ (w.take p.toNat).take ((p - s) % p).toNat) t = Word h w t := by
  obtain ⟨p1, pl, r0, rl, s0, sp, per, min, wd⟩ := M
  have b0 : 0 ≤ (p - s) % p := Int.emod_nonneg _ (by omega)
  have b1 : (p - s) % p < p := Int.emod_lt_of_pos _ (by omega)
  have bm : ∀ x : Int, ((p - s) % p + x) % p = (x - s) % p := fun x => by
    rw [mod_add, show p - s + x = x - s + p by omega, addp_mod]
  generalize (p - s) % p = b at b0 b1 bm
  have lw : (((w.take p.toNat).drop b.toNat ++ (w.take p.toNat).take b.toNat).length : Int) = p := by
    rw [List.length_append, List.length_drop, List.length_take, List.length_take, List.length_take]
    omega
  have g : ∀ j : Int, 0 ≤ j → j < p → gi ((w.take p.toNat).drop b.toNat ++ (w.take p.toNat).take b.toNat) j = gi w ((j - s) % p) := fun j j0 j1 => by
    rw [← bm]
    have ld : (((w.take p.toNat).drop b.toNat).length : Int) = p - b := by
      rw [List.length_drop, List.length_take]; omega
    by_cases h1 : j < p - b
    · rw [gi_appL j0 (by omega), gi_drop j0, gi_take (by omega) (by omega), Int.toNat_of_nonneg b0, Int.emod_eq_of_lt (by omega) (by omega)]
    · rw [gi_appR (by omega), gi_take (by omega) (by omega), gi_take (by omega) (by omega), ld]
      congr 1
      rw [show b + j = j - (p - b) + p by omega, addp_mod, Int.emod_eq_of_lt (by omega) (by omega)]
  have lh : ((h.take r.toNat).length : Int) = r := by rw [List.length_take]; omega
  generalize hw' : (w.take p.toNat).drop b.toNat ++ (w.take p.toNat).take b.toNat = w' at lw g
  have ne : w' ≠ [] := fun h => by rw [h] at lw; simp at lw; omega
  refine ⟨⟨ne, fun hn => ?_, fun q q1 q2 q3 => ?_⟩, fun t t0 => ?_⟩
  · have hr : 0 < r := by
      have := List.length_pos_iff.mpr hn
      omega
    rw [lh, lw, gi_take (by omega) (by omega), g (p - 1) (by omega) (by omega)]
    exact he hr
  · rw [lw] at q2 q3 ⊢
    by_cases hall : ∃ k : Int, 0 ≤ k ∧ k < p ∧ gi w' k ≠ gi w' (k % q)
    · exact hall
    · exfalso
      have hq : ∀ k : Int, 0 ≤ k → k < p → gi w' k = gi w' (k % q) := fun k h0 h1 => Classical.byContradiction fun h2 => hall ⟨k, h0, h1, h2⟩
      have hd : q ∣ p := Int.dvd_of_emod_eq_zero q3
      have cy : ∀ x : Int, gi w (x % p) = gi w' ((x + s) % q) := fun x => by
        have h1 := g ((x + s) % p) (Int.emod_nonneg _ (by omega)) (Int.emod_lt_of_pos _ (by omega))
        rw [mod_sub, show x + s - s = x by omega] at h1
        rw [← h1, hq _ (Int.emod_nonneg _ (by omega)) (Int.emod_lt_of_pos _ (by omega)), Int.emod_emod_of_dvd _ hd]
      refine min q q1 q2 ⟨Int.emod_eq_zero_of_dvd (Int.dvd_trans hd (Int.dvd_of_emod_eq_zero per.1)), fun k h1 h2 => ?_⟩
      rw [per_mod p1 per _ k rfl (by omega) h2, per_mod p1 per _ (k - q) rfl (by omega) (by omega), cy, cy]
      congr 1
      rw [show k - q + s = k + s - q by omega, Int.sub_emod_right]
  · show (if t < ((h.take r.toNat).length : Int) then gi (h.take r.toNat) t else gi w' ((t - ((h.take r.toNat).length : Int)) % (w'.length : Int))) = _
    rw [lh, lw]
    by_cases h1 : t < r
    · rw [if_pos h1, gi_take t0 (by omega)]
      unfold Word
      rw [if_pos (by omega)]
    · rw [if_neg h1, g _ (Int.emod_nonneg _ (by omega)) (Int.emod_lt_of_pos _ (by omega)), mod_sub, wd t (by omega)]
theorem fw_shortest {c1 c2 : Bool} {h w : List Int} {Q : D → List D → Prop} {X : Str → Option (Str × D) → List D → Prop} (hw : w ≠ []) (hl : w.length ≤ 16777216) (hh : h.length ≤ 16777216)
    (q : ∀ h' w', Nf h' w' → (∀ t : Int, 0 ≤ t → Word h' w' t = Word h w t) → h'.length ≤ h.length → w'.length ≤ w.length → Q (.tup [.tup (nums h'), .tup (nums w')]) []) : Fw run_shortest [sq c1 false (nums h), sq c2 false (nums w)] Q X := by
  refine fr_shortest ?_
  unfold b_shortest
  have hw0 : 0 < w.length := List.length_pos_iff.mpr hw
  walk_at "vs"
  refine ws_whI (fun n e => ∃ p : Int, 1 ≤ p ∧ p ≤ w.length ∧ n = (w.length - p).toNat ∧ (∀ q : Int, 1 ≤ q → q < p → ¬ Per w q) ∧ e = [some (sq c1 false (nums h)), some (sq c2 false (nums w)), some (.int p), none, none, none]) (w.length - 1) ⟨1, by omega, by omega, by omega, fun q h1 h2 => by omega, rfl⟩ ?_
  rintro n _ ⟨p, p1, p2, rfl, pm, rfl⟩
  walk_at "vs"
  refine fw_repeats p1 (by omega) hl fun b hb => ?_
  walk_at "vs"
  refine ifb_i (fun h1 => ?_) fun h1 => ?_
  rotate_left
  · subst h1
    walk_at "vs"
    have np : ¬ Per w p := fun h => by have := hb.mpr h; cases this
    have nl : p ≠ w.length := fun h => np (h ▸ per_self)
    refine ⟨(w.length - (p + 1)).toNat, by omega, p + 1, by omega, by omega, rfl, fun q q1 q2 hq => ?_, rfl⟩
    by_cases h3 : q < p
    · exact pm q q1 h3 hq
    · exact np (by rwa [show q = p by omega] at hq)
  · subst h1
    have per := hb.mp rfl
    walk_at "vs"
    refine ws_whI (fun n e => ∃ r s : Int, Mid h w p r s ∧ n = r.toNat ∧ e = [some (sq c1 false (nums h)), some (sq c2 false (nums w)), some (.int p), some (.int r), some (.int s), none]) h.length ⟨h.length, 0, Mid.start hw p1 per pm, by omega, rfl⟩ ?_
    rintro n _ ⟨r, s, M, rfl, rfl⟩
    have r0 := M.r0
    have rl := M.rl
    have s0 := M.s0
    have sp := M.sp
    have k0 := Int.emod_nonneg (p - 1 - s) (b := p) (by omega)
    have k1 := Int.emod_lt_of_pos (p - 1 - s) (b := p) (by omega)
    walk_at "vs"
    have fin : (0 < r → gi h (r - 1) ≠ gi w ((p - 1 - s) % p)) → ws (sSeq (sSet 1 (vTuple (vSl (pVar 1) none (some (pVar 2)))))
  (sSeq (sSet 5 (vP (pMod (pSub (pVar 2) (pVar 4)) (pVar 2))))
  (sRet (vTup (aCons (vTuple (vSl (pVar 0) none (some (pVar 3)))) (aCons (vCat (vSl (pVar 1) (some (pVar 5)) none) (vSl (pVar 1) none (some (pVar 5)))) (aNil))))))) [some (sq c1 false (nums h)), some (sq c2 false (nums w)), some (.int p), some (.int r), some (.int s), none] (fun e => ev (outsOf [false, false] e) (Q D.non)) (fun _ => False) (fun _ => False) (fun d e => ev (outsOf [false, false] e) (Q d)) fun c x e => ev (outsOf [false, false] e) (X c x) := fun he => by
      obtain ⟨nf, wd⟩ := M.done he
      have b0 := Int.emod_nonneg (p - s) (b := p) (by omega)
      have b1 := Int.emod_lt_of_pos (p - s) (b := p) (by omega)
      walk_at "vs"
      refine q _ _ nf wd ?_ ?_
      · rw [List.length_take]; omega
      · rw [List.length_append, List.length_drop, List.length_take, List.length_take, List.length_take]; omega
    refine ifb_d (fun h1 => ?_) fun h1 => ?_
    · walk_at "vs"
      refine ifb_d (fun h2 => ?_) fun h2 => ?_
      · walk_at "vs"
        exact ⟨(r - 1).toNat, by omega, r - 1, (s + 1) % p, M.step h1 h2, rfl, rfl⟩
      · exact fin fun _ => h2
    · exact fin fun h => (h1 h).elim
end
section
set_option Elab.async false
set_option linter.all false
set_option maxRecDepth 100000
set_option maxHeartbeats 1000000
/-! make_lasso(head, loop): slots 0 head 1 loop 2 letter -/
noncomputable def b_make_lasso : M Fl :=
  sSeq (sIf (tP (pEq (pLen (pVar 1)) (pC (.int 0)))) (sRaise "EmptyLoop") (sNil))
  (sSeq (sFor (iSq (vCat (vListP (pVar 0)) (vListP (pVar 1)))) (tgName 2) (sIf (tP (pLt (pVar 2) (pC (.int 0)))) (sRaise "InvalidLetter") (sNil)))
  (sRet (vCall run_shortest [.inl (vP (pVar 0)), .inl (vP (pVar 1))])))
noncomputable def run_make_lasso : FN := runD 3 [false, false] b_make_lasso
theorem fr_make_lasso {a0 a1 : D} {Q : D → List D → Prop} {X : Str → Option (Str × D) → List D → Prop} (h : ws b_make_lasso [some a0, some a1, none] (fun e => ev (outsOf [false, false] e) (Q .non)) (fun _ => False) (fun _ => False) (fun d e => ev (outsOf [false, false] e) (Q d)) (fun c x e => ev (outsOf [false, false] e) (X c x))) : Fw run_make_lasso [a0, a1] Q X := fw_run rfl h
/-! letter_in(lasso, turn): slots 0 lasso 1 turn 2 head 3 loop -/
noncomputable def b_letter_in : M Fl :=
  sSeq (sTo (tgTup [tgName 2, tgName 3]) (vP (pVar 0)))
  (sSeq (sIf (tP (pLt (pVar 1) (pLen (pVar 2)))) (sRet (vP (pIx (pVar 2) (pVar 1)))) (sNil))
  (sRet (vP (pIx (pVar 3) (pMod (pSub (pVar 1) (pLen (pVar 2))) (pLen (pVar 3)))))))
noncomputable def run_letter_in : FN := runD 4 [false, false] b_letter_in
theorem fr_letter_in {a0 a1 : D} {Q : D → List D → Prop} {X : Str → Option (Str × D) → List D → Prop} (h : ws b_letter_in [some a0, some a1, none, none] (fun e => ev (outsOf [false, false] e) (Q .non)) (fun _ => False) (fun _ => False) (fun d e => ev (outsOf [false, false] e) (Q d)) (fun c x e => ev (outsOf [false, false] e) (X c x))) : Fw run_letter_in [a0, a1] Q X := fw_run rfl h
/-! letter_at(lasso, turn): slots 0 lasso 1 turn -/
noncomputable def b_letter_at : M Fl :=
  sSeq (sIf (tP (pLt (pVar 1) (pC (.int 0)))) (sRaise "InvalidTurn") (sNil))
  (sRet (vCall run_letter_in [.inl (vP (pVar 0)), .inl (vP (pVar 1))]))
noncomputable def run_letter_at : FN := runD 2 [false, false] b_letter_at
theorem fr_letter_at {a0 a1 : D} {Q : D → List D → Prop} {X : Str → Option (Str × D) → List D → Prop} (h : ws b_letter_at [some a0, some a1] (fun e => ev (outsOf [false, false] e) (Q .non)) (fun _ => False) (fun _ => False) (fun d e => ev (outsOf [false, false] e) (Q d)) (fun c x e => ev (outsOf [false, false] e) (X c x))) : Fw run_letter_at [a0, a1] Q X := fw_run rfl h
/-! suffix(lasso, turns): slots 0 lasso 1 turns 2 head 3 loop 4 begin -/
noncomputable def b_suffix : M Fl :=
  sSeq (sIf (tP (pLt (pVar 1) (pC (.int 0)))) (sRaise "InvalidTurn") (sNil))
  (sSeq (sTo (tgTup [tgName 2, tgName 3]) (vP (pVar 0)))
  (sSeq (sIf (tP (pLe (pVar 1) (pLen (pVar 2)))) (sRet (vCall run_shortest [.inl (vSl (pVar 2) (some (pVar 1)) none), .inl (vP (pVar 3))])) (sNil))
  (sSeq (sSet 4 (vP (pMod (pSub (pVar 1) (pLen (pVar 2))) (pLen (pVar 3)))))
  (sRet (vCall run_shortest [.inl (vTup (aNil)), .inl (vCat (vSl (pVar 3) (some (pVar 4)) none) (vSl (pVar 3) none (some (pVar 4))))])))))
noncomputable def run_suffix : FN := runD 5 [false, false] b_suffix
theorem fr_suffix {a0 a1 : D} {Q : D → List D → Prop} {X : Str → Option (Str × D) → List D → Prop} (h : ws b_suffix [some a0, some a1, none, none, none] (fun e => ev (outsOf [false, false] e) (Q .non)) (fun _ => False) (fun _ => False) (fun d e => ev (outsOf [false, false] e) (Q d)) (fun c x e => ev (outsOf [false, false] e) (X c x))) : Fw run_suffix [a0, a1] Q X := fw_run rfl h
/-! first_difference(first, second): slots 0 first 1 second 2 limit 3 turn -/
noncomputable def b_first_difference : M Fl :=
  sSeq (sSet 2 (vP (pAdd (pAdd (pMax (pLen (pIx (pVar 0) (pC (.int 0)))) (pLen (pIx (pVar 1) (pC (.int 0))))) (pLen (pIx (pVar 0) (pC (.int 1))))) (pLen (pIx (pVar 1) (pC (.int 1)))))))
  (sSeq (sFor (iRange1 (aCons (vP (pVar 2)) (aNil))) (tgName 3) (sIf (tE (vOp gNe (vCall run_letter_in [.inl (vP (pVar 0)), .inl (vP (pVar 3))]) (vCall run_letter_in [.inl (vP (pVar 1)), .inl (vP (pVar 3))]))) (sRet (vP (pVar 3))) (sNil)))
  (sRet (vP (pC .non))))
noncomputable def run_first_difference : FN := runD 4 [false, false] b_first_difference
theorem fr_first_difference {a0 a1 : D} {Q : D → List D → Prop} {X : Str → Option (Str × D) → List D → Prop} (h : ws b_first_difference [some a0, some a1, none, none] (fun e => ev (outsOf [false, false] e) (Q .non)) (fun _ => False) (fun _ => False) (fun d e => ev (outsOf [false, false] e) (Q d)) (fun c x e => ev (outsOf [false, false] e) (X c x))) : Fw run_first_difference [a0, a1] Q X := fw_run rfl h
/-! _law_is_integer(actual): slots 0 actual -/
noncomputable def b__law_is_integer : M Fl :=
  sRet (vAnd (vP (pIsi "int" (pVar 0))) (vNot (vP (pIsi "bool" (pVar 0)))))
noncomputable def run__law_is_integer : FN := runD 1 [false] b__law_is_integer
theorem fr__law_is_integer {a0 : D} {Q : D → List D → Prop} {X : Str → Option (Str × D) → List D → Prop} (h : ws b__law_is_integer [some a0] (fun e => ev (outsOf [false] e) (Q .non)) (fun _ => False) (fun _ => False) (fun d e => ev (outsOf [false] e) (Q d)) (fun c x e => ev (outsOf [false] e) (X c x))) : Fw run__law_is_integer [a0] Q X := fw_run rfl h
/-! _law_integers(actual, low, high): slots 0 actual 1 low 2 high 3 item -/
noncomputable def b__law_integers : M Fl :=
  sSeq (sIf (tNot (tP (pIsi "tuple" (pVar 0)))) (sRet (vP (pC (.bl false)))) (sNil))
  (sSeq (sFor (iSq (vP (pVar 0))) (tgName 3) (sIf (tOr (tNot (tE (vCall run__law_is_integer [.inl (vP (pVar 3))]))) (tOr (tP (pLt (pVar 3) (pVar 1))) (tP (pGe (pVar 3) (pVar 2))))) (sRet (vP (pC (.bl false)))) (sNil)))
  (sRet (vP (pC (.bl true)))))
noncomputable def run__law_integers : FN := runD 4 [false, false, false] b__law_integers
theorem fr__law_integers {a0 a1 a2 : D} {Q : D → List D → Prop} {X : Str → Option (Str × D) → List D → Prop} (h : ws b__law_integers [some a0, some a1, some a2, none] (fun e => ev (outsOf [false, false, false] e) (Q .non)) (fun _ => False) (fun _ => False) (fun d e => ev (outsOf [false, false, false] e) (Q d)) (fun c x e => ev (outsOf [false, false, false] e) (X c x))) : Fw run__law_integers [a0, a1, a2] Q X := fw_run rfl h
/-! _law_normal(lasso): slots 0 lasso 1 head 2 loop 3 period -/
noncomputable def b__law_normal : M Fl :=
  sSeq (sSet 1 (vP (pIx (pVar 0) (pC (.int 0)))))
  (sSeq (sSet 2 (vP (pIx (pVar 0) (pC (.int 1)))))
  (sSeq (sIf (tAnd (tP (pGt (pLen (pVar 1)) (pC (.int 0)))) (tP (pEq (pIx (pVar 1) (pNeg (pC (.int 1)))) (pIx (pVar 2) (pNeg (pC (.int 1))))))) (sRet (vP (pC (.bl false)))) (sNil))
  (sSeq (sFor (iRange2 (aCons (vP (pC (.int 1))) (aCons (vP (pLen (pVar 2))) (aNil)))) (tgName 3) (sIf (tAnd (tP (pEq (pMod (pLen (pVar 2)) (pVar 3)) (pC (.int 0)))) (tE (vOp gEq (vP (pVar 2)) (vRep (vSl (pVar 2) none (some (pVar 3))) (vP (pDiv (pLen (pVar 2)) (pVar 3))))))) (sRet (vP (pC (.bl false)))) (sNil)))
  (sRet (vP (pC (.bl true)))))))
noncomputable def run__law_normal : FN := runD 4 [false] b__law_normal
theorem fr__law_normal {a0 : D} {Q : D → List D → Prop} {X : Str → Option (Str × D) → List D → Prop} (h : ws b__law_normal [some a0, none, none, none] (fun e => ev (outsOf [false] e) (Q .non)) (fun _ => False) (fun _ => False) (fun d e => ev (outsOf [false] e) (Q d)) (fun c x e => ev (outsOf [false] e) (X c x))) : Fw run__law_normal [a0] Q X := fw_run rfl h
/-! _law_is_lasso(actual, letters): slots 0 actual 1 letters -/
noncomputable def b__law_is_lasso : M Fl :=
  sSeq (sIf (tOr (tNot (tP (pIsi "tuple" (pVar 0)))) (tP (pNe (pLen (pVar 0)) (pC (.int 2))))) (sRet (vP (pC (.bl false)))) (sNil))
  (sSeq (sIf (tOr (tNot (tE (vCall run__law_integers [.inl (vP (pIx (pVar 0) (pC (.int 0)))), .inl (vP (pC (.int 0))), .inl (vP (pVar 1))]))) (tNot (tE (vCall run__law_integers [.inl (vP (pIx (pVar 0) (pC (.int 1)))), .inl (vP (pC (.int 0))), .inl (vP (pVar 1))])))) (sRet (vP (pC (.bl false)))) (sNil))
  (sRet (vAnd (vP (pGt (pLen (pIx (pVar 0) (pC (.int 1)))) (pC (.int 0)))) (vCall run__law_normal [.inl (vP (pVar 0))]))))
noncomputable def run__law_is_lasso : FN := runD 2 [false, false] b__law_is_lasso
theorem fr__law_is_lasso {a0 a1 : D} {Q : D → List D → Prop} {X : Str → Option (Str × D) → List D → Prop} (h : ws b__law_is_lasso [some a0, some a1] (fun e => ev (outsOf [false, false] e) (Q .non)) (fun _ => False) (fun _ => False) (fun d e => ev (outsOf [false, false] e) (Q d)) (fun c x e => ev (outsOf [false, false] e) (X c x))) : Fw run__law_is_lasso [a0, a1] Q X := fw_run rfl h
/-! _law_at(lasso, turn): slots 0 lasso 1 turn -/
noncomputable def b__law_at : M Fl :=
  sSeq (sIf (tP (pLt (pVar 1) (pLen (pIx (pVar 0) (pC (.int 0)))))) (sRet (vP (pIx (pIx (pVar 0) (pC (.int 0))) (pVar 1)))) (sNil))
  (sRet (vP (pIx (pIx (pVar 0) (pC (.int 1))) (pMod (pInt (pSub (pVar 1) (pLen (pIx (pVar 0) (pC (.int 0)))))) (pLen (pIx (pVar 0) (pC (.int 1))))))))
noncomputable def run__law_at : FN := runD 2 [false, false] b__law_at
theorem fr__law_at {a0 a1 : D} {Q : D → List D → Prop} {X : Str → Option (Str × D) → List D → Prop} (h : ws b__law_at [some a0, some a1] (fun e => ev (outsOf [false, false] e) (Q .non)) (fun _ => False) (fun _ => False) (fun d e => ev (outsOf [false, false] e) (Q d)) (fun c x e => ev (outsOf [false, false] e) (X c x))) : Fw run__law_at [a0, a1] Q X := fw_run rfl h
/-! _law_lasso(draws, letters, longest): slots 0 draws 1 letters 2 longest 3 head 4 k 5 loop -/
noncomputable def b__law_lasso : M Fl :=
  sSeq (sSet 3 (vLc (iRange1 (aCons (vCall run__law_take [.inr 0, .inl (vP (pAdd (pVar 2) (pC (.int 1))))]) (aNil))) (tgName 4) (tYesM) (vFz (vCall run__law_take [.inr 0, .inl (vP (pVar 1))])) [4]))
  (sSeq (sSet 5 (vLc (iRange1 (aCons (vAdd (vP (pC (.int 1))) (vCall run__law_take [.inr 0, .inl (vP (pVar 2))])) (aNil))) (tgName 4) (tYesM) (vFz (vCall run__law_take [.inr 0, .inl (vP (pVar 1))])) [4]))
  (sRet (vTup (aCons (vTupleP (pVar 3)) (aCons (vTupleP (pVar 5)) (aNil))))))
noncomputable def run__law_lasso : FN := runD 6 [true, false, false] b__law_lasso
theorem fr__law_lasso {a0 a1 a2 : D} {Q : D → List D → Prop} {X : Str → Option (Str × D) → List D → Prop} (h : ws b__law_lasso [some a0, some a1, some a2, none, none, none] (fun e => ev (outsOf [true, false, false] e) (Q .non)) (fun _ => False) (fun _ => False) (fun d e => ev (outsOf [true, false, false] e) (Q d)) (fun c x e => ev (outsOf [true, false, false] e) (X c x))) : Fw run__law_lasso [a0, a1, a2] Q X := fw_run rfl h
/-! _law_same(first, second): slots 0 first 1 second 2 limit 3 turn -/
noncomputable def b__law_same : M Fl :=
  sSeq (sSet 2 (vP (pAdd (pAdd (pMax (pLen (pIx (pVar 0) (pC (.int 0)))) (pLen (pIx (pVar 1) (pC (.int 0))))) (pLen (pIx (pVar 0) (pC (.int 1))))) (pLen (pIx (pVar 1) (pC (.int 1)))))))
  (sSeq (sFor (iRange1 (aCons (vP (pVar 2)) (aNil))) (tgName 3) (sIf (tE (vOp gNe (vCall run__law_at [.inl (vP (pVar 0)), .inl (vP (pVar 3))]) (vCall run__law_at [.inl (vP (pVar 1)), .inl (vP (pVar 3))]))) (sRet (vP (pC (.bl false)))) (sNil)))
  (sRet (vP (pC (.bl true)))))
noncomputable def run__law_same : FN := runD 4 [false, false] b__law_same
theorem fr__law_same {a0 a1 : D} {Q : D → List D → Prop} {X : Str → Option (Str × D) → List D → Prop} (h : ws b__law_same [some a0, some a1, none, none] (fun e => ev (outsOf [false, false] e) (Q .non)) (fun _ => False) (fun _ => False) (fun d e => ev (outsOf [false, false] e) (Q d)) (fun c x e => ev (outsOf [false, false] e) (X c x))) : Fw run__law_same [a0, a1] Q X := fw_run rfl h
/-! check_letters(lasso, letters): slots 0 lasso 1 letters 2 letter -/
noncomputable def b_check_letters : M Fl :=
  sFor (iSq (vCat (vP (pIx (pVar 0) (pC (.int 0)))) (vP (pIx (pVar 0) (pC (.int 1)))))) (tgName 2) (sIf (tP (pGe (pVar 2) (pVar 1))) (sRaise "InvalidLetter") (sNil))
noncomputable def run_check_letters : FN := runD 3 [false, false] b_check_letters
theorem fr_check_letters {a0 a1 : D} {Q : D → List D → Prop} {X : Str → Option (Str × D) → List D → Prop} (h : ws b_check_letters [some a0, some a1, none] (fun e => ev (outsOf [false, false] e) (Q .non)) (fun _ => False) (fun _ => False) (fun d e => ev (outsOf [false, false] e) (Q d)) (fun c x e => ev (outsOf [false, false] e) (X c x))) : Fw run_check_letters [a0, a1] Q X := fw_run rfl h
/-! ### words: periods, the one normal form -/
def Pd (f : Int → Int) (a : Nat) : Prop := ∀ x : Int, f (x + a) = f x
theorem Pd.mul {f : Int → Int} {a : Nat} (h : Pd f a) : ∀ n : Nat, Pd f (a * n)
  | 0 => fun x => by rw [Nat.mul_zero, Int.ofNat_zero, Int.add_zero]
  | n + 1 => fun x => by rw [Nat.mul_succ, Int.natCast_add, ← Int.add_assoc, h, Pd.mul h n]
theorem Pd.sub {f : Int → Int} {a b : Nat} (h : Pd f (a + b)) (k : Pd f b) : Pd f a := fun x => by
  rw [← k (x + a), Int.add_assoc, ← Int.natCast_add, h]
theorem Pd.gcd {f : Int → Int} (m n : Nat) : Pd f m → Pd f n → Pd f (Nat.gcd m n) := by
  induction m, n using Nat.gcd.induction with
  | H0 n => intro _ h; rw [Nat.gcd_zero_left]; exact h
  | H1 m n hm ih =>
    intro h1 h2
    rw [Nat.gcd_rec]
    refine ih ?_ h1
    refine Pd.sub (b := m * (n / m)) ?_ (h1.mul _)
    rw [Nat.add_comm, Nat.div_add_mod]
    exact h2
theorem Pd.neg {f : Int → Int} {a : Nat} (h : Pd f a) (n : Nat) (x : Int) : f (x - (a * n : Nat)) = f x := by
  rw [← h.mul n (x - (a * n : Nat)), Int.sub_add_cancel]
theorem Pd.mod {f : Int → Int} {a : Nat} (ha : 0 < a) (h : Pd f a) {x : Int} (h0 : 0 ≤ x) : f (x % a) = f x := by
  have e : x = x % a + ((a * (x / a).toNat : Nat) : Int) := by
    rw [Int.natCast_mul, Int.toNat_of_nonneg (Int.ediv_nonneg h0 (by omega)), Int.emod_add_mul_ediv]
  rw [← h.mul (x / a).toNat (x % a), ← e]
def Cy (w : List Int) (x : Int) : Int := gi w (x % w.length)
theorem Cy.pd {w : List Int} : Pd (Cy w) w.length := fun x => by
  unfold Cy; rw [addp_mod]
theorem word_cy {h w : List Int} {t : Int} (ht : (h.length : Int) ≤ t) : Word h w t = Cy w (t - h.length) := by
  unfold Word Cy; rw [if_neg (by omega)]
/-- two loops of one word have one length, if they are no repetitions -/
theorem nf_len {h w h' w' : List Int} (n1 : Nf h w) (n2 : Nf h' w') (e : ∀ t : Int, 0 ≤ t → Word h w t = Word h' w' t) : w.length ≤ w'.length := by
  have p1 : 0 < w.length := List.length_pos_iff.mpr n1.ne
  have p2 : 0 < w'.length := List.length_pos_iff.mpr n2.ne
  -- the word goes by w' behind both heads, so w's cycle has its length as a period too
  have per : Pd (Cy w) w'.length := fun x => by
    have hx : ∃ n : Nat, (h.length : Int) + (h'.length : Int) ≤ x + ((w.length * n : Nat) : Int) := by
      refine ⟨h.length + h'.length + x.natAbs, ?_⟩
      have : (h.length + h'.length + x.natAbs) ≤ w.length * (h.length + h'.length + x.natAbs) := Nat.le_mul_of_pos_left _ p1
      omega
    obtain ⟨n, hn⟩ := hx
    have a1 := (Cy.pd (w := w)).mul n x
    have a2 := (Cy.pd (w := w)).mul n (x + w'.length)
    rw [← a1, ← a2]
    generalize hy : x + ((w.length * n : Nat) : Int) = y at hn
    rw [show x + (w'.length : Int) + ((w.length * n : Nat) : Int) = y + w'.length by omega]
    have b1 := word_cy (h := h) (w := w) (t := y + h.length) (by omega)
    have b2 := word_cy (h := h) (w := w) (t := y + w'.length + h.length) (by omega)
    rw [show y + (h.length : Int) - h.length = y by omega] at b1
    rw [show y + (w'.length : Int) + (h.length : Int) - h.length = y + w'.length by omega] at b2
    rw [← b1, ← b2, e _ (by omega), e _ (by omega), word_cy (by omega), word_cy (by omega), show y + (w'.length : Int) + (h.length : Int) - (h'.length : Int) = y + (h.length : Int) - (h'.length : Int) + w'.length by omega, Cy.pd]
  have pg := Pd.gcd _ _ (Cy.pd (w := w)) per
  have g0 : 0 < Nat.gcd w.length w'.length := Nat.gcd_pos_of_pos_left _ p1
  have gl : Nat.gcd w.length w'.length ≤ w'.length := Nat.gcd_le_right _ p2
  refine Nat.le_trans ?_ gl
  refine Nat.le_of_not_lt fun hlt => ?_
  obtain ⟨k, k0, k1, k2⟩ := n1.prim (Nat.gcd w.length w'.length) (by omega) (by omega) (by
    rw [← Int.natCast_emod, Nat.mod_eq_zero_of_dvd (Nat.gcd_dvd_left _ _)]; rfl)
  refine k2 ?_
  have c1 : Cy w k = gi w k := by unfold Cy; rw [Int.emod_eq_of_lt k0 k1]
  have m0 := Int.emod_nonneg k (b := (Nat.gcd w.length w'.length : Int)) (by omega)
  have m1 := Int.emod_lt_of_pos k (show 0 < (Nat.gcd w.length w'.length : Int) by omega)
  have c2 : Cy w (k % (Nat.gcd w.length w'.length : Nat)) = gi w (k % (Nat.gcd w.length w'.length : Nat)) := by unfold Cy; rw [Int.emod_eq_of_lt m0 (by omega)]
  rw [← c1, ← c2, Pd.mod g0 pg k0]
theorem nf_head {h w h' w' : List Int} (n1 : Nf h w) (n2 : Nf h' w') (hl : w.length = w'.length) (e : ∀ t : Int, 0 ≤ t → Word h w t = Word h' w' t) : h'.length ≤ h.length := by
  have p1 : 0 < w.length := List.length_pos_iff.mpr n1.ne
  refine Nat.le_of_not_lt fun hlt => ?_
  have hn : h' ≠ [] := fun x => by rw [x] at hlt; exact Nat.not_lt_zero _ hlt
  refine n2.last hn ?_
  have a1 : Word h' w' (h'.length - 1) = gi h' (h'.length - 1) := by unfold Word; rw [if_pos (by omega)]
  have a2 : Word h' w' (h'.length + w'.length - 1) = gi w' (w'.length - 1) := by
    unfold Word
    rw [if_neg (by omega), show (h'.length : Int) + w'.length - 1 - h'.length = w'.length - 1 by omega, Int.emod_eq_of_lt (by omega) (by omega)]
  rw [← a1, ← a2, ← e _ (by omega), ← e _ (by omega), word_cy (by omega), word_cy (by omega), ← hl, show (h'.length : Int) + w.length - 1 - h.length = h'.length - 1 - h.length + w.length by omega, Cy.pd]
theorem nf_one {h w h' w' : List Int} (n1 : Nf h w) (n2 : Nf h' w') (e : ∀ t : Int, 0 ≤ t → Word h w t = Word h' w' t) : h = h' ∧ w = w' := by
  have hl : w.length = w'.length := Nat.le_antisymm (nf_len n1 n2 e) (nf_len n2 n1 fun t ht => (e t ht).symm)
  have hh : h.length = h'.length := Nat.le_antisymm (nf_head n2 n1 hl.symm fun t ht => (e t ht).symm) (nf_head n1 n2 hl e)
  constructor
  · refine gi_ext hh fun k k0 k1 => ?_
    have := e k k0
    unfold Word at this
    rwa [if_pos k1, if_pos (by omega)] at this
  · refine gi_ext hl fun k k0 k1 => ?_
    have := e (h.length + k) (by omega)
    unfold Word at this
    rwa [if_neg (by omega), if_neg (by omega), ← hh, ← hl, show (h.length : Int) + k - h.length = k by omega, Int.emod_eq_of_lt k0 k1] at this
theorem gi_rot {w : List Int} {b j : Int} (b0 : 0 ≤ b) (b1 : b < w.length) (j0 : 0 ≤ j) (j1 : j < w.length) : gi (w.drop b.toNat ++ w.take b.toNat) j = gi w ((j + b) % w.length) := by
  have ld : ((w.drop b.toNat).length : Int) = w.length - b := by rw [List.length_drop]; omega
  by_cases h1 : j < w.length - b
  · rw [gi_appL j0 (by omega), gi_drop j0, Int.toNat_of_nonneg b0, Int.emod_eq_of_lt (by omega) (by omega), Int.add_comm]
  · rw [gi_appR (by omega), gi_take (by omega) (by omega), ld]
    congr 1
    rw [show j + b = j - (w.length - b) + w.length by omega, addp_mod, Int.emod_eq_of_lt (by omega) (by omega)]
theorem rot_len {w : List Int} {b : Nat} : (w.drop b ++ w.take b).length = w.length := by
  rw [List.length_append, List.length_drop, List.length_take]; omega
theorem word_range {P : Int → Prop} {h w : List Int} (hw : w ≠ []) (h1 : ∀ x ∈ h, P x) (h2 : ∀ x ∈ w, P x) {t : Int} (ht : 0 ≤ t) : P (Word h w t) := by
  have := List.length_pos_iff.mpr hw
  unfold Word
  by_cases h3 : t < h.length
  · rw [if_pos h3]; exact h1 _ (gi_mem ht h3)
  · rw [if_neg h3]; exact h2 _ (gi_mem (Int.emod_nonneg _ (by omega)) (Int.emod_lt_of_pos _ (by omega)))
theorem range_word {P : Int → Prop} {h w : List Int} (hp : ∀ t : Int, 0 ≤ t → P (Word h w t)) : (∀ x ∈ h, P x) ∧ ∀ x ∈ w, P x := by
  constructor
  · intro x hx
    obtain ⟨i, hi, rfl⟩ := List.mem_iff_getElem.mp hx
    have := hp i (by omega)
    unfold Word at this
    rw [if_pos (by omega)] at this
    unfold gi at this
    rwa [Int.toNat_natCast, List.getD_eq_getElem?_getD, List.getElem?_eq_getElem hi] at this
  · intro x hx
    obtain ⟨i, hi, rfl⟩ := List.mem_iff_getElem.mp hx
    have := hp (h.length + i) (by omega)
    unfold Word at this
    rw [if_neg (by omega), show (h.length : Int) + i - h.length = i by omega, Int.emod_eq_of_lt (by omega) (by omega)] at this
    unfold gi at this
    rwa [Int.toNat_natCast, List.getD_eq_getElem?_getD, List.getElem?_eq_getElem hi] at this
theorem cy_mod {w : List Int} (hw : w ≠ []) {t : Int} (h0 : 0 ≤ t) (k : Nat) : Cy w (t % ((w.length * k : Nat) : Int)) = Cy w t := by
  unfold Cy
  rw [Int.emod_emod_of_dvd]
  rw [Int.natCast_mul]
  exact Int.dvd_mul_right ..
/-- the same word, its head longer, its loop repeated -/
theorem word_unroll {h w h' w' : List Int} {m k : Nat} (hw : w ≠ []) (hk : 0 < k) (l1 : h'.length = h.length + m) (l2 : w'.length = k * w.length) (e1 : ∀ t : Int, 0 ≤ t → t < h'.length → gi h' t = Word h w t) (e2 : ∀ t : Int, 0 ≤ t → t < w'.length → gi w' t = Word h w (h'.length + t)) : ∀ t : Int, 0 ≤ t → Word h' w' t = Word h w t := fun t t0 => by
  have p1 : 0 < w.length := List.length_pos_iff.mpr hw
  have p2 : 0 < w'.length := by rw [l2]; exact Nat.mul_pos hk p1
  by_cases h1 : t < h'.length
  · have : Word h' w' t = gi h' t := by unfold Word; rw [if_pos h1]
    rw [this, e1 t t0 h1]
  · have m0 := Int.emod_nonneg (t - h'.length) (b := (w'.length : Int)) (by omega)
    have m1 := Int.emod_lt_of_pos (t - h'.length) (show 0 < (w'.length : Int) by omega)
    have : Word h' w' t = gi w' ((t - h'.length) % w'.length) := by unfold Word; rw [if_neg h1]
    rw [this, e2 _ m0 m1, word_cy (by omega), word_cy (by omega)]
    unfold Cy
    congr 1
    rw [show (h'.length : Int) + (t - h'.length) % w'.length - h.length = (t - h'.length) % w'.length + (h'.length - h.length) by omega, Int.add_emod, Int.emod_emod_of_dvd _ (show (w.length : Int) ∣ w'.length by rw [l2, Int.natCast_mul]; exact Int.dvd_mul_left ..), ← Int.add_emod]
    congr 1; omega

/-! ### the defs of words -/
theorem fw_make {c1 c2 : Bool} {h w : List Int} {Q : D → List D → Prop} {X : Str → Option (Str × D) → List D → Prop} (hl : w.length ≤ 1000) (hh : h.length ≤ 1000)
    (q1 : w = [] → X "EmptyLoop" none []) (q2 : w ≠ [] → (∃ x ∈ h ++ w, x < 0) → X "InvalidLetter" none [])
    (q3 : w ≠ [] → (∀ x ∈ h ++ w, 0 ≤ x) → ∀ h' w', Nf h' w' → (∀ t : Int, 0 ≤ t → Word h' w' t = Word h w t) → h'.length ≤ h.length → w'.length ≤ w.length → Q (.tup [.tup (nums h'), .tup (nums w')]) []) : Fw run_make_lasso [sq c1 false (nums h), sq c2 false (nums w)] Q X := by
  refine fr_make_lasso ?_
  unfold b_make_lasso
  walk_at "vi"
  refine ifb_d (fun h1 => ?_) fun h1 => ?_
  · walk_at "vs"
    exact q1 (List.length_eq_zero_iff.mp (by omega))
  · have hw : w ≠ [] := fun h => h1 (by rw [h]; rfl)
    walk_at "vs"
    refine ws_forI (fun i e => (∀ x ∈ (h ++ w).take i, 0 ≤ x) ∧ ∃ x, e = [some (sq c1 false (nums h)), some (sq c2 false (nums w)), x]) ⟨fun x hx => by simp at hx, _, rfl⟩ ?_ ?_
    · rintro i d _ hi ⟨hI, x, rfl⟩
      obtain ⟨hi1, rfl⟩ := nums_get hi
      walk_at "v1"
      refine ws_if ?_
      walk_at "vs"
      have hg : (h ++ w).getD i 0 ∈ h ++ w := by
        rw [List.getD_eq_getElem?_getD, List.getElem?_eq_getElem hi1]
        exact List.getElem_mem hi1
      refine ifb_d (fun h2 => ?_) fun h2 => ?_
      · walk_at "vs"
        exact q2 hw ⟨_, hg, h2⟩
      · walk_at "vs"
        refine ⟨fun x hx => ?_, _, rfl⟩
        rw [List.take_succ_eq_append_getElem hi1] at hx
        rcases List.mem_append.mp hx with h3 | h3
        · exact hI x h3
        · rw [List.getD_eq_getElem?_getD, List.getElem?_eq_getElem hi1] at h2
          rw [List.mem_singleton.mp h3]
          exact Int.not_lt.mp h2
    · rintro _ ⟨hI, x, rfl⟩
      rw [nums_len, List.take_length] at hI
      walk_at "vs"
      refine fw_shortest hw (by omega) (by omega) fun h' w' nf wd l1 l2 => ?_
      walk_at "vs"
      exact q3 hw hI h' w' nf wd l1 l2
theorem fw_letter_in {c1 c2 : Bool} {h w : List Int} {t : Int} (hw : w ≠ []) (ht : 0 ≤ t) : run_letter_in [.tup [sq c1 false (nums h), sq c2 false (nums w)], .int t] = some (.ret (.int (Word h w t)) []) := by
  refine fw_get (fr_letter_in ?_)
  unfold b_letter_in
  have hw0 : 0 < w.length := List.length_pos_iff.mpr hw
  have m0 := Int.emod_nonneg (t - h.length) (b := (w.length : Int)) (by omega)
  have m1 := Int.emod_lt_of_pos (t - h.length) (b := (w.length : Int)) (by omega)
  walk_at "vs"
  walk_at "vi"
  refine ifb_d (fun h1 => ?_) fun h1 => ?_
  · walk_at "vs"
    refine ⟨?_, rfl⟩
    unfold Word
    rw [if_pos h1]
  · walk_at "vs"
    refine ⟨?_, rfl⟩
    unfold Word
    rw [if_neg h1]
theorem fw_letter_at {c1 c2 : Bool} {h w : List Int} {t : Int} (hw : w ≠ []) (ht : 0 ≤ t) : run_letter_at [.tup [sq c1 false (nums h), sq c2 false (nums w)], .int t] = some (.ret (.int (Word h w t)) []) := by
  refine fw_get (fr_letter_at ?_)
  unfold b_letter_at
  walk_at "vi"
  refine ifb_d (fun h1 => by omega) fun h1 => ?_
  walk_at "vs"
  refine fw_ret (fw_letter_in hw ht) ?_
  walk_at "vs"
  walk_at "vc"
theorem fw_letter_no {d : D} {t : Int} {Q : D → List D → Prop} {X : Str → Option (Str × D) → List D → Prop} (hd : d.frozen = true) (ht : t < 0) (q : X "InvalidTurn" none []) : Fw run_letter_at [d, .int t] Q X := by
  refine fr_letter_at ?_
  unfold b_letter_at
  walk_at "vi"
  refine ifb_d (fun h1 => ?_) fun h1 => (h1 ht).elim
  walk_at "vs"
  exact q
theorem fw_suffix {c1 c2 : Bool} {h w : List Int} {s : Int} {Q : D → List D → Prop} {X : Str → Option (Str × D) → List D → Prop} (hw : w ≠ []) (hl : w.length ≤ 1000) (hh : h.length ≤ 1000) (hs : 0 ≤ s)
    (q : ∀ h' w', Nf h' w' → (∀ t : Int, 0 ≤ t → Word h' w' t = Word h w (t + s)) → h'.length ≤ h.length → w'.length ≤ w.length → Q (.tup [.tup (nums h'), .tup (nums w')]) []) : Fw run_suffix [.tup [sq c1 false (nums h), sq c2 false (nums w)], .int s] Q X := by
  refine fr_suffix ?_
  unfold b_suffix
  have hw0 : 0 < w.length := List.length_pos_iff.mpr hw
  walk_at "vi"
  refine ifb_d (fun h1 => by omega) fun h1 => ?_
  walk_at "vs"
  walk_at "vi"
  refine ifb_d (fun h1 => ?_) fun h1 => ?_
  · walk_at "vs"
    refine fw_shortest hw (by omega) (by rw [List.length_drop]; omega) fun h' w' nf wd l1 l2 => ?_
    walk_at "vs"
    refine q _ _ nf (fun t t0 => ?_) (by rw [List.length_drop] at l1; omega) l2
    rw [wd t t0]
    have ld : ((h.drop s.toNat).length : Int) = h.length - s := by rw [List.length_drop]; omega
    unfold Word
    rw [ld]
    by_cases h2 : t < h.length - s
    · rw [if_pos h2, if_pos (by omega), gi_drop t0, Int.toNat_of_nonneg hs, Int.add_comm]
    · rw [if_neg h2, if_neg (by omega)]
      congr 2
      omega
  · have m0 := Int.emod_nonneg (s - h.length) (b := (w.length : Int)) (by omega)
    have m1 := Int.emod_lt_of_pos (s - h.length) (b := (w.length : Int)) (by omega)
    refine ws_seq (ws_setI (fun j => 0 ≤ j ∧ j < w.length ∧ j = (s - h.length) % w.length) (by walk_at "ve") ⟨m0, m1, rfl⟩ fun b hb => ?_)
    obtain ⟨b0, b1, hb⟩ := hb
    walk_at "vt"
    walk_at "vs"
    refine fw_shortest (c1 := true) (h := []) (w := w.drop b.toNat ++ w.take b.toNat) (fun x => by have := rot_len (w := w) (b := b.toNat); rw [x] at this; simp at this; omega) (by rw [rot_len]; omega) (by simp) fun h' w' nf wd l1 l2 => ?_
    walk_at "vs"
    refine q _ _ nf (fun t t0 => ?_) (by simp at l1; subst l1; simp) (by rw [rot_len] at l2; exact l2)
    rw [wd t t0]
    unfold Word
    rw [rot_len, if_neg (by simp; omega), if_neg (by omega), gi_rot b0 b1 (Int.emod_nonneg _ (by omega)) (Int.emod_lt_of_pos _ (by omega)), mod_add, hb, add_mod]
    congr 2
    simp
    omega
theorem fw_suffix_no {d : D} {t : Int} {Q : D → List D → Prop} {X : Str → Option (Str × D) → List D → Prop} (hd : d.frozen = true) (ht : t < 0) (q : X "InvalidTurn" none []) : Fw run_suffix [d, .int t] Q X := by
  refine fr_suffix ?_
  unfold b_suffix
  walk_at "vi"
  refine ifb_d (fun h1 => ?_) fun h1 => (h1 ht).elim
  walk_at "vs"
  exact q
def Lim (h w h' w' : List Int) : Int := (if (h'.length : Int) > h.length then (h'.length : Int) else h.length) + w.length + w'.length
theorem fw_first_difference {c1 c2 c3 c4 : Bool} {h w h' w' : List Int} {Q : D → List D → Prop} {X : Str → Option (Str × D) → List D → Prop} (hw : w ≠ []) (hw' : w' ≠ []) (l1 : h.length ≤ 1000) (l2 : w.length ≤ 1000) (l3 : h'.length ≤ 1000) (l4 : w'.length ≤ 1000)
    (q1 : (∀ t : Int, 0 ≤ t → t < Lim h w h' w' → Word h w t = Word h' w' t) → Q .non []) (q2 : ∀ t : Int, 0 ≤ t → t < Lim h w h' w' → Word h w t ≠ Word h' w' t → (∀ s : Int, 0 ≤ s → s < t → Word h w s = Word h' w' s) → Q (.int t) []) : Fw run_first_difference [.tup [sq c1 false (nums h), sq c2 false (nums w)], .tup [sq c3 false (nums h'), sq c4 false (nums w')]] Q X := by
  refine fr_first_difference ?_
  unfold b_first_difference
  refine ws_seq (ws_setI (fun j => 0 ≤ j ∧ j < 4000 ∧ j = Lim h w h' w') (by walk_at "ve") ?_ fun lim hlim => ?_)
  · refine ⟨?_, ?_, rfl⟩ <;> split <;> omega
  obtain ⟨j0, j1, jl⟩ := hlim
  rw [← jl] at q1 q2
  walk_at "vs"
  refine ws_forI (fun i e => (∀ s : Int, 0 ≤ s → s < i → Word h w s = Word h' w' s) ∧ ∃ x, e = [some (.tup [sq c1 false (nums h), sq c2 false (nums w)]), some (.tup [sq c3 false (nums h'), sq c4 false (nums w')]), some (.int lim), x]) ⟨fun s h1 h2 => by omega, _, rfl⟩ ?_ ?_
  · rintro i d _ hi ⟨hI, x, rfl⟩
    obtain ⟨hi1, rfl⟩ := dInts_get hi
    rw [Int.zero_add]
    walk_at "v1"
    refine ws_if ?_
    walk_at "vs"
    refine fw_ret (fw_letter_in hw (by omega)) ?_
    walk_at "vs"
    refine fw_ret (fw_letter_in hw' (by omega)) ?_
    walk_at "vs"
    refine ifb_d (fun h2 => ?_) fun h2 => ?_
    · walk_at "vs"
      refine ⟨fun s s0 s1 => ?_, _, rfl⟩
      by_cases h3 : s < i
      · exact hI s s0 h3
      · rw [show s = i by omega]; exact h2
    · walk_at "vs"
      exact q2 i (by omega) (by omega) h2 hI
  · rintro _ ⟨hI, x, rfl⟩
    rw [dInts_len] at hI
    walk_at "vs"
    exact q1 fun t t0 t1 => hI t t0 (by omega)
theorem fw_check_letters {h w : List Int} {n : Int} {Q : D → List D → Prop} {X : Str → Option (Str × D) → List D → Prop} (hl : w.length ≤ 1000) (hh : h.length ≤ 1000)
    (q1 : (∀ x ∈ h ++ w, x < n) → Q .non []) (q2 : (∃ x ∈ h ++ w, n ≤ x) → X "InvalidLetter" none []) : Fw run_check_letters [.tup [.tup (nums h), .tup (nums w)], .int n] Q X := by
  refine fr_check_letters ?_
  unfold b_check_letters
  walk_at "vs"
  refine ws_forI (fun i e => (∀ x ∈ (h ++ w).take i, x < n) ∧ ∃ x, e = [some (.tup [.tup (nums h), .tup (nums w)]), some (.int n), x]) ⟨fun x hx => by simp at hx, _, rfl⟩ ?_ ?_
  · rintro i d _ hi ⟨hI, x, rfl⟩
    obtain ⟨hi1, rfl⟩ := nums_get hi
    have hg : (h ++ w).getD i 0 ∈ h ++ w := by
      rw [List.getD_eq_getElem?_getD, List.getElem?_eq_getElem hi1]
      exact List.getElem_mem hi1
    walk_at "v1"
    refine ws_if ?_
    walk_at "vs"
    refine ifb_d (fun h2 => ?_) fun h2 => ?_
    · walk_at "vs"
      exact q2 ⟨_, hg, h2⟩
    · walk_at "vs"
      refine ⟨fun x hx => ?_, _, rfl⟩
      rw [List.take_succ_eq_append_getElem hi1] at hx
      rcases List.mem_append.mp hx with h3 | h3
      · exact hI x h3
      · rw [List.getD_eq_getElem?_getD, List.getElem?_eq_getElem hi1] at h2
        rw [List.mem_singleton.mp h3]
        exact Int.not_le.mp h2
  · rintro _ ⟨hI, x, rfl⟩
    rw [nums_len, List.take_length] at hI
    walk_at "vs"
    exact q1 hI

/-! ### the laws' defs of words -/
theorem fw_is_integer {i : Int} : run__law_is_integer [.int i] = some (.ret (.bl true) []) := by
  refine fw_get (fr__law_is_integer ?_)
  unfold b__law_is_integer
  walk_at "vs"
  walk_at "vc"
theorem fw_integers {l : List Int} {lo hi : Int} (h : ∀ x ∈ l, lo ≤ x ∧ x < hi) : run__law_integers [.tup (nums l), .int lo, .int hi] = some (.ret (.bl true) []) := by
  refine fw_get (fr__law_integers ?_)
  unfold b__law_integers
  walk_at "vi"
  refine ws_forI (fun i e => ∃ x, e = [some (.tup (nums l)), some (.int lo), some (.int hi), x]) ⟨_, rfl⟩ ?_ ?_
  · rintro i d _ hi ⟨x, rfl⟩
    obtain ⟨hi1, rfl⟩ := nums_get hi
    have hg := h (l.getD i 0) (by
      rw [List.getD_eq_getElem?_getD, List.getElem?_eq_getElem hi1]
      exact List.getElem_mem hi1)
    walk_at "v1"
    refine ws_if ?_
    walk_at "vs"
    refine fw_ret fw_is_integer ?_
    walk_at "vs"
    refine ifb_d (fun h2 => by omega) fun h2 => ?_
    walk_at "vs"
    refine ifb_d (fun h2 => by omega) fun h2 => ?_
    walk_at "vs"
    exact ⟨_, rfl⟩
  · rintro _ ⟨x, rfl⟩
    walk_at "vs"
    walk_at "vc"
theorem gi_rep {l : List Int} : ∀ (n : Nat) (k : Int), 0 ≤ k → k < n * l.length → gi (List.replicate n l).flatten k = gi l (k % l.length)
  | 0, k, h0, h1 => by rw [Int.ofNat_zero, Int.zero_mul] at h1; omega
  | n + 1, k, h0, h1 => by
    rw [List.replicate_succ, List.flatten_cons]
    by_cases h2 : k < l.length
    · rw [gi_appL h0 h2, Int.emod_eq_of_lt h0 h2]
    · rw [gi_appR (by omega), gi_rep n _ (by omega) (by rw [Int.natCast_add, Int.add_mul] at h1; omega), Int.sub_emod_right]
theorem fw_normal {h w : List Int} (nf : Nf h w) (hl : w.length ≤ 1000) : run__law_normal [.tup [.tup (nums h), .tup (nums w)]] = some (.ret (.bl true) []) := by
  refine fw_get (fr__law_normal ?_)
  unfold b__law_normal
  have hw0 : 0 < w.length := List.length_pos_iff.mpr nf.ne
  walk_at "vs"
  refine ws_seqI (fun e => e = [some (.tup [.tup (nums h), .tup (nums w)]), some (.tup (nums h)), some (.tup (nums w)), none]) ?_ ?_
  · refine ws_if ?_
    walk_at "vs"
    refine ifb_d (fun h1 => ?_) fun h1 => ?_
    · walk_at "vs"
      refine ifb_d (fun h2 => ?_) fun h2 => ?_
      · refine absurd ?_ (nf.last fun h => by subst h; simp at h1)
        rw [show (h.length : Int) - 1 = -1 + h.length by omega, show (w.length : Int) - 1 = -1 + w.length by omega]
        exact h2
      · walk_at "vs"
        rfl
    · walk_at "vs"
      rfl
  rintro _ rfl
  walk_at "vs"
  refine ws_forI (fun i e => ∃ x, e = [some (.tup [.tup (nums h), .tup (nums w)]), some (.tup (nums h)), some (.tup (nums w)), x]) ⟨_, rfl⟩ ?_ ?_
  · rintro i d _ hi ⟨x, rfl⟩
    obtain ⟨hi1, rfl⟩ := dInts_get hi
    walk_at "v1"
    refine ws_if ?_
    have q1 : 1 ≤ 1 + (i : Int) := by omega
    have q2 : 1 + (i : Int) < w.length := by omega
    generalize 1 + (i : Int) = q at q1 q2
    walk_at "vs"
    refine ifb_d (fun h1 => ?_) fun h1 => ?_
    · have hd : q ∣ (w.length : Int) := Int.dvd_of_emod_eq_zero h1
      have hk : (w.length : Int) = q * ((w.length : Int) / q) := (Int.mul_ediv_cancel' hd).symm
      have k2 : 2 ≤ (w.length : Int) / q := by
        by_cases h : (w.length : Int) / q < 2
        · have : q * ((w.length : Int) / q) ≤ q * 1 := Int.mul_le_mul_of_nonneg_left (by omega) (by omega)
          omega
        · omega
      have k3 : (w.length : Int) / q ≤ 1000 := Int.le_trans (Int.ediv_le_self _ (by omega)) (by omega)
      have ln : nums (w.take q.toNat) ≠ [] := fun h => by
        have := congrArg List.length h
        rw [nums_len, List.length_take, List.length_nil] at this
        omega
      walk_at "vs"
      refine ifb_d (fun h2 => ?_) fun h2 => ?_
      · obtain ⟨j, j0, j1, j2⟩ := nf.prim q q1 q2 h1
        refine absurd ?_ j2
        have lt : ((w.take q.toNat).length : Int) = q := by rw [List.length_take]; omega
        have e1 : gi w j = gi (List.replicate ((w.length : Int) / q).toNat (w.take q.toNat)).flatten j := congrArg (fun l => gi l j) h2
        rw [e1, gi_rep _ _ j0 (by rw [lt, Int.toNat_of_nonneg (by omega), Int.mul_comm]; omega), lt, gi_take (Int.emod_nonneg _ (by omega)) (by have := Int.emod_lt_of_pos j (show 0 < q by omega); omega)]
      · walk_at "vs"
        exact ⟨_, rfl⟩
    · walk_at "vs"
      exact ⟨_, rfl⟩
  · rintro _ ⟨x, rfl⟩
    walk_at "vs"
    walk_at "vc"
theorem fw_is_lasso {h w : List Int} {hi : Int} (nf : Nf h w) (hl : w.length ≤ 1000) (h1 : ∀ x ∈ h, 0 ≤ x ∧ x < hi) (h2 : ∀ x ∈ w, 0 ≤ x ∧ x < hi) : run__law_is_lasso [.tup [.tup (nums h), .tup (nums w)], .int hi] = some (.ret (.bl true) []) := by
  refine fw_get (fr__law_is_lasso ?_)
  unfold b__law_is_lasso
  have hw0 : 0 < w.length := List.length_pos_iff.mpr nf.ne
  walk_at "vi"
  refine ifb_d (fun h => ?_) fun h => by simp at h
  walk_at "vs"
  walk_at "vi"
  refine fw_ret (fw_integers h1) ?_
  walk_at "vs"
  refine fw_ret (fw_integers h2) ?_
  walk_at "vs"
  refine ifb_d (fun h3 => ?_) fun h3 => by omega
  walk_at "vs"
  refine fw_ret (fw_normal nf hl) ?_
  walk_at "vs"
  walk_at "vc"
theorem fw_at {c1 c2 : Bool} {h w : List Int} {t : Int} (hw : w ≠ []) (ht : 0 ≤ t) : run__law_at [.tup [sq c1 false (nums h), sq c2 false (nums w)], .int t] = some (.ret (.int (Word h w t)) []) := by
  refine fw_get (fr__law_at ?_)
  unfold b__law_at
  have hw0 : 0 < w.length := List.length_pos_iff.mpr hw
  have m0 := Int.emod_nonneg (t - h.length) (b := (w.length : Int)) (by omega)
  have m1 := Int.emod_lt_of_pos (t - h.length) (b := (w.length : Int)) (by omega)
  walk_at "vi"
  refine ifb_d (fun h1 => ?_) fun h1 => ?_
  · walk_at "vs"
    refine ⟨?_, rfl⟩
    unfold Word
    rw [if_pos h1]
  · walk_at "vs"
    refine ⟨?_, rfl⟩
    unfold Word
    rw [if_neg h1]
theorem fw_same {c1 c2 c3 c4 : Bool} {h w h' w' : List Int} (hw : w ≠ []) (hw' : w' ≠ []) (l1 : h.length ≤ 1000) (l2 : w.length ≤ 1000) (l3 : h'.length ≤ 1000) (l4 : w'.length ≤ 1000) (he : ∀ t : Int, 0 ≤ t → Word h' w' t = Word h w t) : run__law_same [.tup [sq c1 false (nums h'), sq c2 false (nums w')], .tup [sq c3 false (nums h), sq c4 false (nums w)]] = some (.ret (.bl true) []) := by
  refine fw_get (fr__law_same ?_)
  unfold b__law_same
  refine ws_seq (ws_setI (fun j => 0 ≤ j ∧ j < 4000) (by walk_at "ve") ?_ fun lim hlim => ?_)
  · split <;> omega
  walk_at "vs"
  refine ws_forI (fun i e => ∃ x, e = [some (.tup [sq c1 false (nums h'), sq c2 false (nums w')]), some (.tup [sq c3 false (nums h), sq c4 false (nums w)]), some (.int lim), x]) ⟨_, rfl⟩ ?_ ?_
  · rintro i d _ hi ⟨x, rfl⟩
    obtain ⟨hi1, rfl⟩ := dInts_get hi
    walk_at "v1"
    refine ws_if ?_
    walk_at "vs"
    refine fw_ret (fw_at hw' (by omega)) ?_
    walk_at "vs"
    refine fw_ret (fw_at hw (by omega)) ?_
    walk_at "vs"
    refine ifb_d (fun h2 => ?_) fun h2 => (h2 (he _ (by omega))).elim
    walk_at "vs"
    exact ⟨_, rfl⟩
  · rintro _ ⟨x, rfl⟩
    walk_at "vs"
    walk_at "vc"
/-- a list of draws -/
theorem lc_take {e : VEnv} {k j : Nat} {pn : VEnv → Option D} {n : Int} {lo : Int} {c : Nat} {l : List Int} {Q : List D → VEnv → Prop} {E : XQ} (hk : (e[k]?).join = some (.lst true (nums l))) (hj : j < e.length) (hjk : j ≠ k) (hl : DrOk l) (hn : 0 < n) (hc : c ≤ 1000000) (hp : ∀ l' y, pn ((e.set k (some (.lst true (nums l')))).set j y) = some (.int n))
    (q : ∀ xs l', DrOk l' → xs.length = c → (∀ x ∈ xs, 0 ≤ x ∧ x < n) → Q (nums xs) ((e.set k (some (.lst true (nums l')))).set j none)) (h0 : e[j]? = some none := by rfl) : wp (lcL (tgName j) tYesM (vFz (vCall run__law_take [.inr k, .inl (vP pn)])) [j] (dInts lo c) []) e Q E := by
  have hke : e[k]? = some (some (.lst true (nums l))) := by
    cases h : e[k]? with
    | none => rw [h] at hk; cases hk
    | some o => rw [h] at hk; cases hk; rfl
  have hkl : k < e.length := (List.getElem?_eq_some_iff.mp hke).1
  refine wp_lcI (fun i acc e1 => ∃ l' xs, DrOk l' ∧ acc = nums xs ∧ xs.length = i ∧ (∀ x ∈ xs, 0 ≤ x ∧ x < n) ∧ e1 = (e.set k (some (.lst true (nums l')))).set j none) ⟨l, [], hl, rfl, rfl, (fun x h => nomatch h), ?_⟩ ?_ ?_
  · rw [set_same_of hke, set_same_of h0]
  · rintro i d _ _ hi ⟨l', xs, hl', rfl, hx, hx2, rfl⟩
    obtain ⟨hi1, rfl⟩ := dInts_get hi
    refine wipeS_c (wipeS_n ⟨by simp only [List.length_set]; exact hj, ?_⟩)
    rw [List.set_set]
    refine ev_i (d := ((e.set k (some (.lst true (nums l')))).set j none).set j (some (.int (lo + i)))) (by unfold tgName; rw [if_pos (by simp only [List.length_set]; exact hj)]) ?_
    rw [List.set_set]
    refine wp_tYes (ifb_t (wp_Fz (wp_Call (wp_agr (ev_i (d := .lst true (nums l')) ?_ (wp_agl (wp_P (evf_i (hp _ _) rfl (wp_ag0 (ev_i (d := [.lst true (nums l'), .int n]) ?_ ?_))))))))))
    · rw [List.getElem?_set_ne (fun h => hjk h), List.getElem?_set_self hkl]; rfl
    · rw [q_agDr, List.getElem?_set_ne (fun h => hjk h), List.getElem?_set_self hkl]; rfl
    · refine fw_take hl' hn fun r l'' r0 r1 hl'' => ?_
      refine outK_r rfl ⟨by simp only [List.length_set]; exact hkl, ?_⟩
      refine ev_i rfl ?_
      refine ⟨?_, wipeS_c (wipeS_n ⟨by simp only [List.length_set]; exact hj, l'', xs ++ [r], hl'', nums_push, by rw [List.length_append, hx]; rfl, fun x hx => ?_, ?_⟩)⟩
      · rw [nums_len, hx, q_szl]; omega
      · rcases List.mem_append.mp hx with h | h
        · exact hx2 x h
        · rw [List.mem_singleton.mp h]; exact ⟨r0, r1⟩
      · rw [List.set_comm _ _ hjk, List.set_set, List.set_set]
  · rintro _ _ ⟨l', xs, hl', rfl, hx, hx2, rfl⟩
    rw [dInts_len] at hx
    exact q _ _ hl' hx hx2
theorem fw_lasso {l : List Int} {n m : Int} {Q : D → List D → Prop} {X : Str → Option (Str × D) → List D → Prop} (hl : DrOk l) (hn : 0 < n) (hm : 0 < m ∧ m ≤ 1000)
    (q : ∀ h w l', DrOk l' → (∀ x ∈ h, 0 ≤ x ∧ x < n) → (∀ x ∈ w, 0 ≤ x ∧ x < n) → (h.length : Int) ≤ m → 1 ≤ w.length → (w.length : Int) ≤ m → Q (.tup [.tup (nums h), .tup (nums w)]) [.lst true (nums l')]) : Fw run__law_lasso [.lst true (nums l), .int n, .int m] Q X := by
  refine fr__law_lasso ?_
  unfold b__law_lasso
  walk_at "vs"
  refine fw_take hl (by omega) fun r l r0 r1 hl => ?_
  walk_at "vs"
  refine lc_take rfl (by simp) (by decide) hl hn (by omega) (fun _ _ => rfl) fun h l hl h1 h2 => ?_
  walk_at "vn"
  walk_at "vs"
  refine fw_take hl (by omega) fun r' l r0' r1' hl => ?_
  walk_at "vs"
  refine lc_take rfl (by simp) (by decide) hl hn (by omega) (fun _ _ => rfl) fun w l hl h3 h4 => ?_
  walk_at "vn"
  walk_at "vs"
  exact q h w l hl h2 h4 (by omega) (by omega) (by omega)
/-- a list by its places -/
def tab (g : Int → Int) (n : Nat) : List Int := (List.range n).map fun (k : Nat) => g k
theorem tab_len {g : Int → Int} {n : Nat} : (tab g n).length = n := by simp [tab]
theorem tab_succ {g : Int → Int} {n : Nat} : nums (tab g n) ++ [.int (g n)] = nums (tab g (n + 1)) := by
  rw [nums_push]; unfold tab; rw [List.range_succ, List.map_append]; rfl
theorem gi_tab {g : Int → Int} {n : Nat} {k : Int} (h0 : 0 ≤ k) (h1 : k < n) : gi (tab g n) k = g k := by
  unfold gi tab
  rw [List.getD_eq_getElem?_getD, List.getElem?_map, List.getElem?_range (by omega)]
  show g (k.toNat : Int) = g k
  rw [Int.toNat_of_nonneg h0]
theorem tab_mem {g : Int → Int} {n : Nat} {x : Int} (h : x ∈ tab g n) : ∃ k : Int, 0 ≤ k ∧ k < n ∧ x = g k := by
  unfold tab at h
  obtain ⟨k, hk, rfl⟩ := List.mem_map.mp h
  exact ⟨k, by omega, by have := List.mem_range.mp hk; omega, rfl⟩
end
section
set_option Elab.async false
set_option linter.all false
set_option maxRecDepth 100000
set_option maxHeartbeats 0
local macro_rules | `(tactic| walk_at "vx") => `(tactic| first | (simp (disch := walk_at "vd") only [q_isiO, q_at3, q_at4, q_ixsSn, q_ixsSc, q_ixs0, q_ixsS, q_var0, q_varS, q_c, q_p2, q_p1, q_gI, q_gAdd, q_fadd, q_sub, q_mulR, q_mulL, q_div, q_mod, q_pow, q_shl, q_shr, q_gIB, q_gIL, q_neg, q_abs, q_int, q_asInt, q_asBl, q_eqI, q_neI, q_eqS, q_neS, q_eqL, q_neL, q_eqT, q_neT, q_seqL, q_seqT, q_seqS, q_seqK, q_rep1, q_repN, q_intT, q_intF, q_lcm, q_maxL, q_minL, q_sumL, q_din, q_dnotin, q_dix, q_lenD, q_dput, q_eqB, q_neB, q_eqLa, q_neLa, q_tgT, q_tgAn, q_tgAc, q_lenQ, q_ixQ, q_seqQ, q_tupQ, q_fzQ, q_slQ, q_slD, q_catQ, q_isNQ, q_lenL, q_lenT, q_lenS, q_ixL, q_ixT, q_ixS, q_at0, q_at1, q_at2, atI_nums, atI_numsN, atI_dl, atI_dlN, q_get0, q_getS, q_join, q_lst0, q_lstS, q_agDn, q_agDl, q_agDr, q_outn, q_outt, q_outf, q_tg0, q_tgS, q_bdn, q_bds, q_slL, q_slS, q_slT, cut_to, cut_from, cut_mid, q_tupL, q_tupT, q_tupS, q_asLst, q_isE, q_gIsi, q_tyI, q_tyB, q_tyX, q_tyT, q_tyL, q_tyN, q_kit_int_int, q_kit_int_bool, q_kit_bool_bool, q_kit_bool_int, q_kit_tuple_tuple, q_kit_list_list, q_kit_str_str, q_kit_str_int, q_kit_tuple_int, q_kit_NoneType_int, q_kit_list_tuple, q_kit_tuple_list, q_kit_int_tuple, q_kit_NoneType_tuple, q_kit_int_str, q_fzIns, q_gIsN, q_gNotN, q_isNo, q_ins0, q_insS, q_putO, q_putn, q_puth, q_putc, q_fld, q_lkh, q_lkt, q_fzO, q_fzsO, q_fzI, q_fzB, q_fzX, q_fzN, q_fzL, q_fzT, q_fzS, q_fzn, q_fzc, fzs_nums, frozens_nums, fzs_dl, frozens_dl, q_catL, q_catT, q_repL, q_repT, q_ixSet, nums_len, dl_len, dl_app, dl_push, dl_set, nums_app, nums_push, nums_rev, nums_take, nums_drop, nums_dropLast, nums_set, nums_rep, q_bind, q_map, q_isN, q_notN, q_isNn, q_isNi, q_isNb, q_isNx, q_isNt, q_isNl, q_not1, q_not0, Int.reducePow, Int.reduceToNat, Int.reduceNeg]; first | done | (with_reducible rfl) | rfl | fail "vx") | rfl)
local macro_rules | `(tactic| walk_at "vbare") => `(tactic| (first | rfl | exact bares_nums | (simp only [D.bare, D.bares, bares_nums, Bool.and_self, Bool.and_true, Bool.true_and]; done) | assumption | fail "vbare"))
local macro_rules | `(tactic| walk_at "vlo") => `(tactic| (first | rfl | exact los_nums | (simp only [D.lo, D.los, los_nums, if_true, D.frozen, D.frozens, frozens_nums, Bool.and_self, Bool.and_true, Bool.true_and, Bool.not_false, froQ, froD]; done) | assumption | fail "vlo"))
local macro_rules | `(tactic| walk_at "vbor") => `(tactic| (repeat first | (with_reducible refine bor_n ?_) | (with_reducible refine bor_b (by walk_at "vbare") ?_) | (with_reducible refine bor_f (by walk_at "vf") ?_) | (exact bor_z) | fail "vbor"))
local macro_rules | `(tactic| walk_at "v1") => `(tactic| (first | with_reducible refine ws_nApp ?_ | with_reducible refine ws_alApp ?_ | with_reducible refine ws_alPut ?_ | with_reducible refine ws_nPut ?_ | with_reducible refine ws_forApp ?_ | with_reducible refine wp_Bor ?_ | with_reducible refine wp_OpV ?_ | with_reducible refine wp_CatF ?_ | with_reducible refine wp_TupO ?_ | (with_reducible refine gLo_id ?_; with_reducible refine gLo_i (by walk_at "vlo") ?_) | (with_reducible refine gBor_id ?_; with_reducible refine gBor_i (by walk_at "vbare") (by walk_at "vbor") ?_) | fail "v1"))
section
set_option Elab.async false
set_option linter.all false
set_option maxRecDepth 100000
set_option maxHeartbeats 0
local macro_rules | `(tactic| walk_at "vx") => `(tactic| first | (simp (disch := (first | decide +kernel | walk_at "vd")) only [q_evT0, q_evTi, q_evTf, q_evTk, q_psn, q_psc, q_atT0, q_atTf, q_atTi, q_atTk, q_setT0, q_setTf, q_setTi, kAt_h, kAt_t, kSetI_h, kSetI_t, q_asOL, q_oP, q_oFz, q_oC, q_oNil, q_oCons, q_oLst, q_oTup, q_frI, q_szI, q_revS, q_tgF, q_isiO, q_at3, q_at4, q_ixsSn, q_ixsSc, q_ixs0, q_ixsS, q_var0, q_varS, q_c, q_p2, q_p1, q_gI, q_gAdd, q_fadd, q_sub, q_mulR, q_mulL, q_div, q_mod, q_pow, q_shl, q_shr, q_gIB, q_gIL, q_neg, q_abs, q_int, q_asInt, q_asBl, q_eqI, q_neI, q_eqS, q_neS, q_eqL, q_neL, q_eqT, q_neT, q_seqL, q_seqT, q_seqS, q_seqK, q_rep1, q_repN, q_intT, q_intF, q_lcm, q_maxL, q_minL, q_sumL, q_din, q_dnotin, q_dix, q_lenD, q_dput, q_eqB, q_neB, q_eqLa, q_neLa, q_tgT, q_tgAn, q_tgAc, q_lenQ, q_ixQ, q_seqQ, q_tupQ, q_fzQ, q_slQ, q_slD, q_catQ, q_isNQ, q_lenL, q_lenT, q_lenS, q_ixL, q_ixT, q_ixS, q_at0, q_at1, q_at2, atI_nums, atI_numsN, atI_dl, atI_dlN, q_get0, q_getS, q_join, q_lst0, q_lstS, q_agDn, q_agDl, q_agDr, q_outn, q_outt, q_outf, q_tg0, q_tgS, q_bdn, q_bds, q_slL, q_slS, q_slT, cut_to, cut_from, cut_mid, q_tupL, q_tupT, q_tupS, q_asLst, q_isE, q_gIsi, q_tyI, q_tyB, q_tyX, q_tyT, q_tyL, q_tyN, q_kit_int_int, q_kit_int_bool, q_kit_bool_bool, q_kit_bool_int, q_kit_tuple_tuple, q_kit_list_list, q_kit_str_str, q_kit_str_int, q_kit_tuple_int, q_kit_NoneType_int, q_kit_list_tuple, q_kit_tuple_list, q_kit_int_tuple, q_kit_NoneType_tuple, q_kit_int_str, q_fzIns, q_gIsN, q_gNotN, q_isNo, q_ins0, q_insS, q_putO, q_putn, q_puth, q_putc, q_fld, q_lkh, q_lkt, q_fzO, q_fzsO, q_fzI, q_fzB, q_fzX, q_fzN, q_fzL, q_fzT, q_fzS, q_fzn, q_fzc, fzs_nums, frozens_nums, fzs_dl, frozens_dl, q_catL, q_catT, q_repL, q_repT, q_ixSet, nums_len, dl_len, dl_app, dl_push, dl_set, nums_app, nums_push, nums_rev, nums_take, nums_drop, nums_dropLast, nums_set, nums_rep, q_bind, q_map, q_isN, q_notN, q_isNn, q_isNi, q_isNb, q_isNx, q_isNt, q_isNl, q_not1, q_not0, Int.reducePow, Int.reduceToNat, Int.reduceNeg]; first | done | (with_reducible rfl) | rfl | fail "vx") | rfl)
local macro_rules | `(tactic| walk_at "v1") => `(tactic| (first | with_reducible refine ws_tApp ?_ | with_reducible refine ws_tPut ?_ | with_reducible refine ws_tDput ?_ | with_reducible refine ws_tAug ?_ | with_reducible refine ws_putE ?_ | with_reducible refine wp_MvT ?_ | with_reducible refine wp_RevS ?_ | with_reducible refine wp_CallC ?_ | with_reducible refine wp_MethL ?_ | with_reducible refine wp_MethC ?_ | with_reducible refine wp_LRg1 ?_ | with_reducible refine wp_LRg2 ?_ | with_reducible refine wp_Disp1 ?_ | with_reducible refine wp_SortA ?_ | with_reducible refine wp_SortDA ?_ | fail "v1"))
section
set_option Elab.async false
set_option linter.all false
set_option maxRecDepth 100000
set_option maxHeartbeats 0
/-! _law_name(draws, k): slots 0 draws 1 k 2 chars 3 name 4 j -/
noncomputable def b__law_name : M Fl :=
  sSeq (sSet 2 (vP (pC (.str "abcdefghijklmnopqrstuvwxyz0123456789"))))
  (sSeq (sSet 3 (vJoin "" (vLc (iRange1 (aCons (vCall run__law_take [.inr 0, .inl (vP (pC (.int 3)))]) (aNil))) (tgName 4) (tYesM) (vOp gIx (vP (pVar 2)) (vCall run__law_take [.inr 0, .inl (vP (pC (.int 36)))])) [4])))
  (sRet (vAdd (vAdd (vOp gIx (vP (pVar 2)) (vCall run__law_take [.inr 0, .inl (vP (pC (.int 26)))])) (vMv 3)) (vP (pIx (pC (.str "xqzjkvbw")) (pVar 1))))))
noncomputable def run__law_name : FN := runD 5 [true, false] b__law_name
theorem fr__law_name {a0 a1 : D} {Q : D → List D → Prop} {X : Str → Option (Str × D) → List D → Prop} (h : ws b__law_name [some a0, some a1, none, none, none] (fun e => ev (outsOf [true, false] e) (Q .non)) (fun _ => False) (fun _ => False) (fun d e => ev (outsOf [true, false] e) (Q d)) (fun c x e => ev (outsOf [true, false] e) (X c x))) : Fw run__law_name [a0, a1] Q X := fw_run rfl h
/-! _law_names(draws, count): slots 0 draws 1 count 2 k -/
noncomputable def b__law_names : M Fl :=
  sRet (vLc (iRange1 (aCons (vP (pVar 1)) (aNil))) (tgName 2) (tYesM) (vFz (vCall run__law_name [.inr 0, .inl (vP (pVar 2))])) [2])
noncomputable def run__law_names : FN := runD 3 [true, false] b__law_names
theorem fr__law_names {a0 a1 : D} {Q : D → List D → Prop} {X : Str → Option (Str × D) → List D → Prop} (h : ws b__law_names [some a0, some a1, none] (fun e => ev (outsOf [true, false] e) (Q .non)) (fun _ => False) (fun _ => False) (fun d e => ev (outsOf [true, false] e) (Q d)) (fun c x e => ev (outsOf [true, false] e) (X c x))) : Fw run__law_names [a0, a1] Q X := fw_run rfl h
/-! _law_leaf(draws, names): slots 0 draws 1 names 2 choice -/
noncomputable def b__law_leaf : M Fl :=
  sSeq (sSet 2 (vCall run__law_take [.inr 0, .inl (vP (pC (.int 12)))]))
  (sSeq (sIf (tOr (tP (pEq (pLen (pVar 1)) (pC (.int 0)))) (tP (pEq (pVar 2) (pC (.int 0))))) (sRet (vTup (aCons (vOp gIx (vLst (aCons (vP (pC (.str "true"))) (aCons (vP (pC (.str "false"))) (aNil)))) (vP (pMod (pVar 2) (pC (.int 2))))) (aNil)))) (sNil))
  (sRet (vTup (aCons (vP (pC (.str "signal"))) (aCons (vOp gIx (vP (pVar 1)) (vCall run__law_take [.inr 0, .inl (vP (pLen (pVar 1)))])) (aNil))))))
noncomputable def run__law_leaf : FN := runD 3 [true, false] b__law_leaf
theorem fr__law_leaf {a0 a1 : D} {Q : D → List D → Prop} {X : Str → Option (Str × D) → List D → Prop} (h : ws b__law_leaf [some a0, some a1, none] (fun e => ev (outsOf [true, false] e) (Q .non)) (fun _ => False) (fun _ => False) (fun d e => ev (outsOf [true, false] e) (Q d)) (fun c x e => ev (outsOf [true, false] e) (X c x))) : Fw run__law_leaf [a0, a1] Q X := fw_run rfl h
/-! _law_formula(draws, names, budget, deep): slots 0 draws 1 names 2 budget 3 deep 4 choice 5 unary 6 operator 7 part 8 left -/
noncomputable def b__law_formula (R__law_formula : FN) : M Fl :=
  sSeq (sSet 4 (vCall run__law_take [.inr 0, .inl (vP (pC (.int 24)))]))
  (sSeq (sIf (tOr (tP (pEq (pVar 3) (pC (.int 0)))) (tP (pLt (pVar 4) (pC (.int 3))))) (sRet (vCall run__law_leaf [.inr 0, .inl (vP (pVar 1))])) (sNil))
  (sSeq (sIf (tAnd (tP (pGt (pVar 2) (pC (.int 0)))) (tP (pLt (pVar 4) (pC (.int 17))))) (sSeq (sSet 5 (vLst (aCons (vP (pC (.str "next"))) (aCons (vP (pC (.str "eventually"))) (aCons (vP (pC (.str "always"))) (aCons (vP (pC (.str "previous"))) (aCons (vP (pC (.str "weak_previous"))) (aCons (vP (pC (.str "once"))) (aCons (vP (pC (.str "historically"))) (aNil))))))))))
  (sSeq (sIf (tP (pLt (pVar 4) (pC (.int 10)))) (sRet (vTup (aCons (vP (pIx (pVar 5) (pSub (pVar 4) (pC (.int 3))))) (aCons (vCall R__law_formula [.inr 0, .inl (vP (pVar 1)), .inl (vP (pSub (pVar 2) (pC (.int 1)))), .inl (vP (pSub (pVar 3) (pC (.int 1))))]) (aNil))))) (sNil))
  (sSeq (sSet 6 (vOp gIx (vLst (aCons (vP (pC (.str "until"))) (aCons (vP (pC (.str "release"))) (aCons (vP (pC (.str "since"))) (aCons (vP (pC (.str "trigger"))) (aCons (vP (pC (.str "weak_until"))) (aCons (vP (pC (.str "until"))) (aCons (vP (pC (.str "since"))) (aNil))))))))) (vP (pSub (pVar 4) (pC (.int 10))))))
  (sSeq (sIf (tAnd (tP (pEq (pVar 3) (pC (.int 1)))) (tP (pEq (pVar 6) (pC (.str "weak_until"))))) (sSet 6 (vP (pC (.str "until")))) (sNil))
  (sSeq (sSet 7 (vCall run__law_take [.inr 0, .inl (vP (pVar 2))]))
  (sSeq (sSet 8 (vCall R__law_formula [.inr 0, .inl (vP (pVar 1)), .inl (vMv 7), .inl (vP (pSub (pVar 3) (pC (.int 1))))]))
  (sRet (vTup (aCons (vP (pVar 6)) (aCons (vMv 8) (aCons (vCall R__law_formula [.inr 0, .inl (vP (pVar 1)), .inl (vP (pSub (pSub (pVar 2) (pC (.int 1))) (pVar 7))), .inl (vP (pSub (pVar 3) (pC (.int 1))))]) (aNil)))))))))))) (sNil))
  (sSeq (sIf (tP (pEq (pMod (pVar 4) (pC (.int 5))) (pC (.int 0)))) (sRet (vTup (aCons (vP (pC (.str "not"))) (aCons (vCall R__law_formula [.inr 0, .inl (vP (pVar 1)), .inl (vP (pVar 2)), .inl (vP (pSub (pVar 3) (pC (.int 1))))]) (aNil))))) (sNil))
  (sSeq (sSet 6 (vOp gIx (vLst (aCons (vP (pC (.str "and"))) (aCons (vP (pC (.str "or"))) (aCons (vP (pC (.str "implies"))) (aCons (vP (pC (.str "iff"))) (aNil)))))) (vP (pMod (pVar 4) (pC (.int 4))))))
  (sSeq (sIf (tAnd (tP (pEq (pVar 3) (pC (.int 1)))) (tP (pEq (pVar 6) (pC (.str "iff"))))) (sSet 6 (vP (pC (.str "and")))) (sNil))
  (sSeq (sSet 7 (vCall run__law_take [.inr 0, .inl (vP (pAdd (pVar 2) (pC (.int 1))))]))
  (sSeq (sSet 8 (vCall R__law_formula [.inr 0, .inl (vP (pVar 1)), .inl (vMv 7), .inl (vP (pSub (pVar 3) (pC (.int 1))))]))
  (sRet (vTup (aCons (vP (pVar 6)) (aCons (vMv 8) (aCons (vCall R__law_formula [.inr 0, .inl (vP (pVar 1)), .inl (vP (pSub (pVar 2) (pVar 7))), .inl (vP (pSub (pVar 3) (pC (.int 1))))]) (aNil)))))))))))))
noncomputable def rg__law_formula : Nat → Nat → FN
  | 0, _ => fun _ => none
  | n + 1, 0 => runD 9 [true, false, false, false] (b__law_formula (rg__law_formula n 0))
  | n + 1, _ => fun _ => none
noncomputable def run__law_formula (n : Nat) : FN := rg__law_formula n 0
theorem fr__law_formula {n : Nat} {a0 a1 a2 a3 : D} {Q : D → List D → Prop} {X : Str → Option (Str × D) → List D → Prop} (h : ws (b__law_formula (run__law_formula n)) [some a0, some a1, some a2, some a3, none, none, none, none, none] (fun e => ev (outsOf [true, false, false, false] e) (Q .non)) (fun _ => False) (fun _ => False) (fun d e => ev (outsOf [true, false, false, false] e) (Q d)) (fun c x e => ev (outsOf [true, false, false, false] e) (X c x))) : Fw (run__law_formula (n + 1)) [a0, a1, a2, a3] Q X := show Fw (runD 9 [true, false, false, false] (b__law_formula (run__law_formula n))) _ Q X from fw_run rfl h
/-! ### formulas -/
inductive U | nt | nx | ev | al | pr | wp | on | hi
inductive B | an | or | im | iff | un | wu | re | si | tr
abbrev nmU : U → Str
  | .nt => "not"
  | .nx => "next"
  | .ev => "eventually"
  | .al => "always"
  | .pr => "previous"
  | .wp => "weak_previous"
  | .on => "once"
  | .hi => "historically"
abbrev nmB : B → Str
  | .an => "and"
  | .or => "or"
  | .im => "implies"
  | .iff => "iff"
  | .un => "until"
  | .wu => "weak_until"
  | .re => "release"
  | .si => "since"
  | .tr => "trigger"
inductive Fm
  | tt
  | ff
  | sg (x : Str)
  | u (o : U) (f : Fm)
  | b (o : B) (f g : Fm)
def eF : Fm → D
  | .tt => .tup [.str "true"]
  | .ff => .tup [.str "false"]
  | .sg x => .tup [.str "signal", .str x]
  | .u o f => .tup [.str (nmU o), eF f]
  | .b o f g => .tup [.str (nmB o), eF f, eF g]
def eN : Fm → D
  | .tt => .ktp (txts ["true"])
  | .ff => .ktp (txts ["false"])
  | .sg x => .tup [.str "signal", .str x]
  | .u o f => .tup [.str (nmU o), eN f]
  | .b o f g => .tup [.str (nmB o), eN f, eN g]
theorem fro_eF : ∀ {f : Fm}, (eF f).frozen = true
  | .tt => rfl
  | .ff => rfl
  | .sg x => rfl
  | .u o f => by
    show (D.frozen (eF f) && true) = true
    rw [fro_eF]; rfl
  | .b o f g => by
    show (D.frozen (eF f) && (D.frozen (eF g) && true)) = true
    rw [fro_eF, fro_eF]; rfl
theorem fz_eF : ∀ {f : Fm}, (eF f).fz = eF f
  | .tt => rfl
  | .ff => rfl
  | .sg x => rfl
  | .u o f => by
    show D.tup [.str (nmU o), D.fz (eF f)] = _
    rw [fz_eF]; rfl
  | .b o f g => by
    show D.tup [.str (nmB o), D.fz (eF f), D.fz (eF g)] = _
    rw [fz_eF, fz_eF]; rfl
theorem fro_eN : ∀ {f : Fm}, (eN f).frozen = true
  | .tt => rfl
  | .ff => rfl
  | .sg x => rfl
  | .u o f => by
    show (D.frozen (eN f) && true) = true
    rw [fro_eN]; rfl
  | .b o f g => by
    show (D.frozen (eN f) && (D.frozen (eN g) && true)) = true
    rw [fro_eN, fro_eN]; rfl
theorem fz_eN : ∀ {f : Fm}, (eN f).fz = eN f
  | .tt => rfl
  | .ff => rfl
  | .sg x => rfl
  | .u o f => by
    show D.tup [.str (nmU o), D.fz (eN f)] = _
    rw [fz_eN]; rfl
  | .b o f g => by
    show D.tup [.str (nmB o), D.fz (eN f), D.fz (eN g)] = _
    rw [fz_eN, fz_eN]; rfl
def dp : Fm → Nat
  | .tt => 1
  | .ff => 1
  | .sg _ => 1
  | .u _ f => dp f + 1
  | .b _ f g => max (dp f) (dp g) + 1
theorem dp_pos : ∀ {f : Fm}, 1 ≤ dp f
  | .tt => Nat.le_refl _
  | .ff => Nat.le_refl _
  | .sg _ => Nat.le_refl _
  | .u _ f => by show 1 ≤ dp f + 1; omega
  | .b _ f g => by show 1 ≤ max (dp f) (dp g) + 1; omega
def dual : B → B
  | .an => .or
  | .or => .an
  | .un => .re
  | .re => .un
  | .si => .tr
  | .tr => .si
  | o => o
def nf : Fm → Bool → Fm
  | .tt, b => if b then .tt else .ff
  | .ff, b => if b then .ff else .tt
  | .sg x, b => if b then .sg x else .u .nt (.sg x)
  | .u .nt f, b => nf f (!b)
  | .u .nx f, b => .u .nx (nf f b)
  | .u .pr f, b => .u (if b then .pr else .wp) (nf f b)
  | .u .wp f, b => .u (if b then .wp else .pr) (nf f b)
  | .u .ev f, b => if b then .b .un .tt (nf f b) else .b .re .ff (nf f b)
  | .u .al f, b => if b then .b .re .ff (nf f b) else .b .un .tt (nf f b)
  | .u .on f, b => if b then .b .si .tt (nf f b) else .b .tr .ff (nf f b)
  | .u .hi f, b => if b then .b .tr .ff (nf f b) else .b .si .tt (nf f b)
  | .b .iff f g, b => .b .or (.b .an (nf f true) (nf g b)) (.b .an (nf f false) (nf g (!b)))
  | .b .im f g, b => if b then .b .or (nf f false) (nf g true) else .b .an (nf f true) (nf g false)
  | .b .wu f g, b => if b then .b .re (nf g true) (.b .or (nf f true) (nf g true)) else .b .un (nf g false) (.b .an (nf f false) (nf g false))
  | .b o f g, b => if b then .b o (nf f true) (nf g true) else .b (dual o) (nf f false) (nf g false)
def tu : U → Bool
  | .nt => false
  | _ => true
def tb : B → Bool
  | .an => false
  | .or => false
  | .im => false
  | .iff => false
  | _ => true
def isT : Fm → Bool
  | .u o _ => tu o
  | .b o _ _ => tb o
  | _ => false
def fkids : Fm → List Fm
  | .u _ f => [f]
  | .b _ f g => [f, g]
  | _ => []
def oneI (b : Bool) : Int := if b = true then 1 else 0
def tc : Fm → Int
  | .tt => 0
  | .ff => 0
  | .sg _ => 0
  | .u o f => oneI (tu o) + tc f
  | .b o f g => oneI (tb o) + tc f + tc g
def lv : Fm → List Str
  | .sg x => [x]
  | .u _ f => lv f
  | .b _ f g => lv f ++ lv g
  | _ => []
/-! ### what the walks need -/
theorem frK {x : Str} : (D.ktp (txts [x])).frozen = true := rfl
theorem fzK {x : Str} : D.fz (.ktp (txts [x])) = .ktp (txts [x]) := (rfl)
theorem ifb_tt {b : Bool} {p q : Prop} (h : b = true) (x : p) : ifb b p q := by subst h; exact x
theorem ifb_ff {b : Bool} {p q : Prop} (h : b = false) (x : q) : ifb b p q := by subst h; exact x
theorem q_int1 {b : Bool} (h : b = true) : gInt (.bl b) = some (.int 1) := by subst h; rfl
theorem q_int0 {b : Bool} (h : b = false) : gInt (.bl b) = some (.int 0) := by subst h; rfl
theorem q_eqSC {x y : Str} {k : Bool} (h : (PyData.strOk x && PyData.strOk y && ((x == y) == k)) = true) : gEq (.str x) (.str y) = some (.bl k) := by
  rw [Bool.and_eq_true, Bool.and_eq_true] at h
  rw [q_eqS h.1.1 h.1.2, eq_of_beq h.2]
theorem pIn_i {p q : VEnv → Option D} {e : VEnv} {x : Str} {d : D} {l : List Str} {k : Bool} (h1 : p e = some (.str x)) (h2 : q e = some d) (h : asSeq d = some (dS l)) (hk : (l.any fun y => y == x) = k) : pIn p q e = some (.bl k) := by
  unfold pIn p2
  rw [h1, h2]
  show (dIn (.str x) d).map D.bl = _
  rw [dIn_dS h, hk]; rfl
theorem pNotIn_i {p q : VEnv → Option D} {e : VEnv} {x : Str} {d : D} {l : List Str} {k : Bool} (h1 : p e = some (.str x)) (h2 : q e = some d) (h : asSeq d = some (dS l)) (hk : (!l.any fun y => y == x) = k) : pNotIn p q e = some (.bl k) := by
  unfold pNotIn p2
  rw [h1, h2]
  show (dIn (.str x) d).map (fun k => D.bl (!k)) = _
  rw [dIn_dS h, ← hk]; rfl
theorem in2 {x a b : Str} : gIn (.str x) (.tup [.str a, .str b]) = some (.bl (a == x || b == x)) := by
  rw [q_inC (l := [a, b]) rfl rfl]
  simp [List.any_cons]
theorem in5 {x a b c d e : Str} : gIn (.str x) (.tup [.str a, .str b, .str c, .str d, .str e]) = some (.bl (a == x || b == x || c == x || d == x || e == x)) := by
  rw [q_inC (l := [a, b, c, d, e]) rfl rfl]
  simp [List.any_cons, Bool.or_assoc]
theorem in3 {x a b c : Str} : gIn (.str x) (.tup [.str a, .str b, .str c]) = some (.bl (a == x || b == x || c == x)) := by
  rw [q_inC (l := [a, b, c]) rfl rfl]
  simp [List.any_cons, Bool.or_assoc]
theorem in4 {x a b c d : Str} : gIn (.str x) (.tup [.str a, .str b, .str c, .str d]) = some (.bl (a == x || b == x || c == x || d == x)) := by
  rw [q_inC (l := [a, b, c, d]) rfl rfl]
  simp [List.any_cons, Bool.or_assoc]
theorem in6 {x a b c d e f : Str} : gIn (.str x) (.tup [.str a, .str b, .str c, .str d, .str e, .str f]) = some (.bl (a == x || b == x || c == x || d == x || e == x || f == x)) := by
  rw [q_inC (l := [a, b, c, d, e, f]) rfl rfl]
  simp [List.any_cons, Bool.or_assoc]
theorem inK {x : Str} {l : List Str} : dIn (.str x) (.ktp (txts l)) = some (l.any fun y => y == x) := dIn_dS rfl
theorem q_pIn {p q : VEnv → Option D} {e : VEnv} : pIn p q e = (p e).bind fun x => (q e).bind fun y => (dIn x y).map .bl := (rfl)
theorem q_pNotIn {p q : VEnv → Option D} {e : VEnv} : pNotIn p q e = (p e).bind fun x => (q e).bind fun y => (dIn x y).map fun k => .bl (!k) := (rfl)
theorem dixS {m : Bool} {ks : List Key} {l : List D} {x : Str} : gDix (.dk m ks l) (.str x) = kAt ks l (.inr x) := (rfl)
theorem cutF1 {a b : D} : cutD [a, b] (some 1) none = [b] := (rfl)
theorem cutF2 {a b c : D} : cutD [a, b, c] (some 1) none = [b, c] := (rfl)
local macro_rules | `(tactic| walk_at "vx") => `(tactic| (simp (disch := (first | decide +kernel | walk_at "vd")) only [fz_eF, fz_eN, fzK, List.length_cons, List.length_nil, q_pIn, q_pNotIn, inK, in2, in5, dixS, q_eqSC (k := true), q_eqSC (k := false), cutF1, cutF2, q_int1, q_int0, q_at3, q_at4, q_var0, q_varS, q_c, q_p2, q_p1, q_gI, q_gAdd, q_fadd, q_sub, q_mod, q_gIB, q_int, q_asInt, q_asBl, q_eqI, q_neI, q_seqL, q_seqT, q_seqS, q_seqK, q_eqB, q_neB, q_lenL, q_lenT, q_ixL, q_ixT, q_at0, q_at1, q_at2, q_get0, q_getS, q_join, q_lst0, q_lstS, q_agDn, q_agDl, q_agDr, q_outn, q_outt, q_outf, q_tg0, q_tgS, q_bdn, q_bds, q_slT, q_tupL, q_tupT, q_asLst, q_isE, q_fzO, q_fzsO, q_fzI, q_fzB, q_fzX, q_fzN, q_fzL, q_fzT, q_fzn, q_fzc, fzs_dl, frozens_dl, q_bind, q_map]; first | done | (with_reducible rfl) | rfl | fail "vx"))
local macro_rules | `(tactic| walk_at "ve") => `(tactic| (first | (with_reducible rfl) | walk_at "vx" | fail "ve"))
local macro_rules | `(tactic| walk_at "vf") => `(tactic| (first | exact fro_eF | exact fro_eN | exact frK | (simp only [D.frozen, D.frozens, fro_eF, fro_eN, frozens_dl, Bool.and_self, Bool.and_true, Bool.true_and, Bool.not_false]; done) | fail "vf"))
local macro_rules | `(tactic| walk_at "v1") => `(tactic| first | (with_reducible refine ifb_id ?_; first | with_reducible refine ifb_tt (by decide +kernel) ?_ | with_reducible refine ifb_ff (by decide +kernel) ?_ | fail "v1") | (with_reducible refine ws_id ?_; first | with_reducible refine ws_forC ?_ | with_reducible refine ws_forN ?_ | fail "v1") | (with_reducible refine wp_id ?_; first | with_reducible refine wp_Join ?_ | with_reducible refine wp_SortL ?_ | with_reducible refine wp_SortD ?_ | with_reducible refine wp_DispS ?_ | fail "v1") | fail "v1")
local macro_rules | `(tactic| walk_at "vI") => `(tactic| ((with_reducible refine ws_seq (f := sIf _ _ _) ?_); (with_reducible refine ws_if ?_)))
theorem bl_c {Q : D → List D → Prop} {b k : Bool} {o : List D} (q : Q (.bl k) o) (h : b = k) : Q (.bl b) o := by subst h; exact q
structure NmsOk (ns : List Str) : Prop where
  nd : ns.Nodup
  ok : ∀ x ∈ ns, PyData.strOk x = true
  ln : ns.length ≤ 8
/-! ### the names drawn -/
def one (c : Nat) : Str := ⟨#[c]⟩
theorem join_ok {cs : List Nat} (h : cs.length ≤ 2) (hc : ∀ c ∈ cs, c < 1114112) : PyData.strOk (Txt.join "" (cs.map one)) = true ∧ (Txt.join "" (cs.map one)).length ≤ 2 ∧ (((cs.map one).map (·.length)).sum + (cs.map one).length * ("" : Str).length ≤ 16777216) := by
  have e0 : ("" : Str) = ⟨#[]⟩ := by decide +kernel
  rw [e0]
  match cs, h, hc with
  | [], _, _ => exact ⟨by decide +kernel, by decide +kernel, by decide +kernel⟩
  | [a], _, hc =>
    have ha := hc a (by simp)
    refine ⟨?_, Nat.le_succ 1, by show 1 + 0 + 1 * 0 ≤ 16777216; omega⟩
    show (#[a] : Array Nat).all (fun c => decide (c < 1114112)) = true
    simp [ha]
  | [a, b], _, hc =>
    have ha := hc a (by simp)
    have hb := hc b (by simp)
    refine ⟨?_, Nat.le_refl 2, by show 1 + (1 + 0) + 2 * 0 ≤ 16777216; omega⟩
    show (#[a] ++ #[] ++ #[b] : Array Nat).all (fun c => decide (c < 1114112)) = true
    simp [ha, hb]
  | _ :: _ :: _ :: _, h, _ => simp only [List.length_cons] at h; omega
def lastC (x : Str) : Option Nat := x.cps.toList.getLast?
def tbl (k : Nat) : Nat := ("xqzjkvbw" : Str).cps.toList.getD k 0
theorem tbl_inj {i j : Nat} (hi : i < 8) (hj : j < 8) (h : tbl i = tbl j) : i = j := by
  have hh : ∀ i, i < 8 → ∀ j, j < 8 → tbl i = tbl j → i = j := by decide +kernel
  exact hh i hi j hj h
theorem last_app {x : Str} {k : Int} : lastC (x ++ chr "xqzjkvbw" k) = some (tbl k.toNat) := by
  show (x.cps ++ (chr "xqzjkvbw" k).cps).toList.getLast? = _
  rw [Array.toList_append]
  show (x.cps.toList ++ [tbl k.toNat]).getLast? = _
  rw [List.getLast?_concat]
theorem chr_lt {x : Str} {i : Int} (h : PyData.strOk x = true) : x.cps.toList.getD i.toNat 0 < 1114112 := by
  have h := strOk_chr (i := i) h
  have h : (#[x.cps.toList.getD i.toNat 0] : Array Nat).all (fun c => decide (c < 1114112)) = true := h
  simpa using h
abbrev CH : Str := "abcdefghijklmnopqrstuvwxyz0123456789"
theorem ch_ok : PyData.strOk CH = true := by decide +kernel
theorem ch_len : CH.length = 36 := by decide +kernel
theorem xq_ok : PyData.strOk ("xqzjkvbw" : Str) = true := by decide +kernel
theorem xq_len : ("xqzjkvbw" : Str).length = 8 := by decide +kernel
theorem ch_ix {i : Int} (h0 : 0 ≤ i) (h1 : i < 36) : gIx (.str CH) (.int i) = some (.str (chr CH i)) := gIx_chr (by rw [ch_len]; decide) h0 (by rw [ch_len]; exact h1)
theorem xq_ix {i : Int} (h0 : 0 ≤ i) (h1 : i < 8) : gIx (.str "xqzjkvbw") (.int i) = some (.str (chr "xqzjkvbw" i)) := gIx_chr (by rw [xq_len]; decide) h0 (by rw [xq_len]; exact h1)
theorem len_app {x y : Str} : (x ++ y).length = x.length + y.length := Array.size_append
theorem fw_name {dr : List Int} {k : Nat} {Q : D → List D → Prop} {X : Str → Option (Str × D) → List D → Prop} (hd : DrOk dr) (hk : k < 8) (q : ∀ x dr', PyData.strOk x = true → lastC x = some (tbl k) → DrOk dr' → Q (.str x) [.lst true (nums dr')]) : Fw run__law_name [.lst true (nums dr), .int k] Q X := by
  refine fr__law_name ?_
  unfold b__law_name
  walk_at "vs"
  refine fw_take hd (by omega) fun r dr1 r0 r1 hd1 => ?_
  clear hd
  walk_at "vs"
  refine wp_lcI (fun i acc e => ∃ cs dr, acc = dS (cs.map one) ∧ cs.length = i ∧ (∀ c ∈ cs, c < 1114112) ∧ DrOk dr ∧ e = [some (.lst true (nums dr)), some (.int k), some (.str CH), none, none]) ⟨[], dr1, rfl, rfl, (fun _ h => nomatch h), hd1, rfl⟩ ?_ ?_
  · rintro i d _ _ hi ⟨cs, dr, rfl, hl, hc, hd, rfl⟩
    obtain ⟨hi1, rfl⟩ := dInts_get hi
    walk_at "vs"
    refine fw_take hd (by omega) fun s dr1 s0 s1 hd1 => ?_
    walk_at "vs"
    refine evf_i (ch_ix s0 s1) rfl ?_
    have hln : (dl D.str (cs.map one)).length = i := by rw [dl_len, List.length_map]; exact hl
    refine ⟨by rw [hln]; show i < 16777216; omega, ?_⟩
    walk_at "vs"
    refine ⟨cs ++ [CH.cps.toList.getD s.toNat 0], dr1, ?_, by simp [hl], ?_, hd1, rfl⟩
    · rw [List.map_append]; exact dl_push
    · intro c hcc
      rcases List.mem_append.mp hcc with h | h
      · exact hc c h
      · rw [List.mem_singleton.mp h]; exact chr_lt ch_ok
  rintro _ _ ⟨cs, dr, rfl, hl, hc, hd, rfl⟩
  rw [dInts_len] at hl
  obtain ⟨j1, j2, j3⟩ := join_ok (cs := cs) (by omega) hc
  refine ev_i (gJoin_dS j3) ?_
  generalize Txt.join "" (cs.map one) = mid at j1 j2
  walk_at "vs"
  refine fw_take hd (by omega) fun s dr1 s0 s1 hd1 => ?_
  walk_at "vs"
  refine evf_i (ch_ix s0 (by omega)) rfl ?_
  walk_at "vs"
  have c1 : (chr CH s).length = 1 := rfl
  have c2 : (chr "xqzjkvbw" (k : Int)).length = 1 := rfl
  refine evf_i (gStrAdd_i (by rw [c1]; show 1 + mid.length ≤ 16777216; omega)) rfl ?_
  walk_at "vs"
  refine evf_i (xq_ix (i := (k : Int)) (by omega) (by omega)) rfl ?_
  refine evf_i (gStrAdd_i (by rw [c2, len_app, c1]; show 1 + mid.length + 1 ≤ 16777216; omega)) rfl ?_
  walk_at "vs"
  refine q _ _ (strOk_app (strOk_app (strOk_chr ch_ok) j1) (strOk_chr xq_ok)) ?_ hd1
  rw [last_app]; rfl
theorem fw_names {dr : List Int} {n : Int} {Q : D → List D → Prop} {X : Str → Option (Str × D) → List D → Prop} (hd : DrOk dr) (h1 : 1 ≤ n) (h3 : n ≤ 8) (q : ∀ ns dr', NmsOk ns → (ns.length : Int) = n → DrOk dr' → Q (.lst true (dS ns)) [.lst true (nums dr')]) : Fw run__law_names [.lst true (nums dr), .int n] Q X := by
  refine fr__law_names ?_
  unfold b__law_names
  walk_at "vs"
  refine wp_lcI (fun i acc e => ∃ ns dr, acc = dS ns ∧ ns.length = i ∧ (∀ x ∈ ns, PyData.strOk x = true ∧ ∃ j, j < i ∧ lastC x = some (tbl j)) ∧ ns.Nodup ∧ DrOk dr ∧ e = [some (.lst true (nums dr)), some (.int n), none]) ⟨[], dr, rfl, rfl, (fun _ h => nomatch h), List.nodup_nil, hd, rfl⟩ ?_ ?_
  · rintro i d _ _ hi ⟨ns, dr, rfl, hl, hx, hn, hd, rfl⟩
    obtain ⟨hi1, rfl⟩ := dInts_get hi
    rw [Int.zero_add]
    walk_at "vs"
    refine fw_name hd (by omega) fun x dr1 hk hlst hd1 => ?_
    walk_at "vs"
    refine ⟨ns ++ [x], dr1, dl_push, by simp [hl], ?_, ?_, hd1, rfl⟩
    · intro y hy
      rcases List.mem_append.mp hy with h | h
      · obtain ⟨a, j, b, c⟩ := hx y h
        exact ⟨a, j, by omega, c⟩
      · rw [List.mem_singleton.mp h]; exact ⟨hk, i, by omega, hlst⟩
    · rw [List.nodup_append]
      refine ⟨hn, by simp, ?_⟩
      intro a ha b hb e
      rw [List.mem_singleton.mp hb] at e
      subst e
      obtain ⟨_, j, b, c⟩ := hx _ ha
      rw [hlst] at c
      have := tbl_inj (i := i) (j := j) (by omega) (by omega) (Option.some.inj c)
      omega
  rintro _ _ ⟨ns, dr, rfl, hl, hx, hn, hd, rfl⟩
  rw [dInts_len] at hl
  walk_at "vs"
  exact q ns dr ⟨hn, fun x h => (hx x h).1, by omega⟩ (by omega) hd
/-! ### the formulas drawn -/
theorem fw_leaf {ns : List Str} {dr : List Int} {Q : D → List D → Prop} {X : Str → Option (Str × D) → List D → Prop} (h1 : 1 ≤ ns.length) (hd : DrOk dr) (q : ∀ f dr', dp f ≤ 1 → (lv f).length ≤ 1 → (∀ x ∈ lv f, x ∈ ns) → DrOk dr' → Q (eF f) [.lst true (nums dr')]) : Fw run__law_leaf [.lst true (nums dr), .lst false (dS ns)] Q X := by
  refine fr__law_leaf ?_
  unfold b__law_leaf
  have hz : (dl D.str ns).length = ns.length := dl_len
  walk_at "vs"
  refine fw_take hd (by omega) fun r dr1 r0 r1 hd1 => ?_
  walk_at "vs"
  refine ws_seqI (fun e => e = [some (.lst true (nums dr1)), some (.lst false (dS ns)), some (.int r)]) ?_ ?_
  · refine ws_if ?_
    walk_at "vs"
    refine ifb_no (by show ¬ ((dl D.str ns).length : Int) = 0; omega) ?_
    walk_at "vs"
    refine ifb_d (fun c => ?_) fun c => ?_
    · subst c
      walk_at "vs"
      rw [show (0 : Int) % 2 = 0 from rfl]
      walk_at "vs"
      exact q .tt dr1 (Nat.le_refl 1) (Nat.zero_le 1) (fun _ h => nomatch h) hd1
    · walk_at "vs"
      rfl
  rintro _ rfl
  walk_at "vs"
  refine fw_take hd1 (by show (0 : Int) < ((dl D.str ns).length : Int); omega) fun s dr2 s0 s1 hd2 => ?_
  replace s1 : s < ns.length := by rw [← hz]; exact s1
  walk_at "vs"
  walk_at "vs"
  exact q (.sg (gd ns s)) dr2 (Nat.le_refl 1) (Nat.le_refl 1) (fun x h => by rw [List.mem_singleton.mp h]; exact gd_mem s0 s1) hd2
theorem un_ix {i : Int} (h0 : 0 ≤ i) (h1 : i < 7) : ∃ o : U, L2.atI [D.str "next", .str "eventually", .str "always", .str "previous", .str "weak_previous", .str "once", .str "historically"] i = some (.str (nmU o)) := by
  obtain rfl | rfl | rfl | rfl | rfl | rfl | rfl : i = 0 ∨ i = 1 ∨ i = 2 ∨ i = 3 ∨ i = 4 ∨ i = 5 ∨ i = 6 := by omega
  · exact ⟨.nx, rfl⟩
  · exact ⟨.ev, rfl⟩
  · exact ⟨.al, rfl⟩
  · exact ⟨.pr, rfl⟩
  · exact ⟨.wp, rfl⟩
  · exact ⟨.on, rfl⟩
  · exact ⟨.hi, rfl⟩
theorem bi_ix {i : Int} (h0 : 0 ≤ i) (h1 : i < 7) : ∃ o : B, L2.atI [D.str "until", .str "release", .str "since", .str "trigger", .str "weak_until", .str "until", .str "since"] i = some (.str (nmB o)) := by
  obtain rfl | rfl | rfl | rfl | rfl | rfl | rfl : i = 0 ∨ i = 1 ∨ i = 2 ∨ i = 3 ∨ i = 4 ∨ i = 5 ∨ i = 6 := by omega
  · exact ⟨.un, rfl⟩
  · exact ⟨.re, rfl⟩
  · exact ⟨.si, rfl⟩
  · exact ⟨.tr, rfl⟩
  · exact ⟨.wu, rfl⟩
  · exact ⟨.un, rfl⟩
  · exact ⟨.si, rfl⟩
theorem lo_ix {i : Int} (h0 : 0 ≤ i) (h1 : i < 4) : ∃ o : B, L2.atI [D.str "and", .str "or", .str "implies", .str "iff"] i = some (.str (nmB o)) := by
  obtain rfl | rfl | rfl | rfl : i = 0 ∨ i = 1 ∨ i = 2 ∨ i = 3 := by omega
  · exact ⟨.an, rfl⟩
  · exact ⟨.or, rfl⟩
  · exact ⟨.im, rfl⟩
  · exact ⟨.iff, rfl⟩
theorem wr_ix {i : Int} (h0 : 0 ≤ i) (h1 : i < 6) : ∃ o : U, L2.atI [D.str "not", .str "always", .str "once", .str "historically", .str "weak_previous", .str "next"] i = some (.str (nmU o)) := by
  obtain rfl | rfl | rfl | rfl | rfl | rfl : i = 0 ∨ i = 1 ∨ i = 2 ∨ i = 3 ∨ i = 4 ∨ i = 5 := by omega
  · exact ⟨.nt, rfl⟩
  · exact ⟨.al, rfl⟩
  · exact ⟨.on, rfl⟩
  · exact ⟨.hi, rfl⟩
  · exact ⟨.wp, rfl⟩
  · exact ⟨.nx, rfl⟩
theorem ok_B {o : B} : PyData.strOk (nmB o) = true := by cases o <;> decide +kernel
theorem ok_wu : PyData.strOk ("weak_until" : Str) = true := by decide +kernel
theorem ok_iff : PyData.strOk ("iff" : Str) = true := by decide +kernel
theorem fw_formula {ns : List Str} (h1 : 1 ≤ ns.length) : ∀ (n m : Nat) {d bu : Int} {dr : List Int} {Q : D → List D → Prop} {X : Str → Option (Str × D) → List D → Prop}, m + 1 ≤ n → d = m → 0 ≤ bu → bu ≤ 100 → DrOk dr → (∀ f dr', dp f ≤ m + 1 → (lv f).length ≤ 2 ^ m → (∀ x ∈ lv f, x ∈ ns) → DrOk dr' → Q (eF f) [.lst true (nums dr')]) → Fw (run__law_formula n) [.lst true (nums dr), .lst false (dS ns), .int bu, .int d] Q X
  | 0, m, d, bu, dr, Q, X, hm, _, _, _, _, _ => by omega
  | n + 1, m, d, bu, dr, Q, X, hm, hdm, b0, b1, hd, q => by
    refine fr__law_formula ?_
    unfold b__law_formula
    walk_at "vs"
    refine fw_take hd (by omega) fun r dr1 r0 r1 hd1 => ?_
    clear hd
    walk_at "vs"
    have leaf : ∀ f dr', dp f ≤ 1 → (lv f).length ≤ 1 → (∀ x ∈ lv f, x ∈ ns) → DrOk dr' → Q (eF f) [.lst true (nums dr')] := fun f dr' a b c e => q f dr' (by omega) (by have := Nat.one_le_two_pow (n := m); omega) c e
    refine ws_seqI (fun e => 1 ≤ m ∧ 3 ≤ r ∧ e = [some (.lst true (nums dr1)), some (.lst false (dS ns)), some (.int bu), some (.int d), some (.int r), none, none, none, none]) ?_ ?_
    · refine ws_if ?_
      walk_at "vs"
      refine ifb_d (fun c => ?_) fun c => ?_
      · walk_at "vs"
        refine fw_leaf h1 hd1 fun f dr' a b c e => ?_
        walk_at "vs"
        exact leaf f dr' a b c e
      · walk_at "vs"
        refine ifb_d (fun c2 => ?_) fun c2 => ?_
        · walk_at "vs"
          refine fw_leaf h1 hd1 fun f dr' a b c e => ?_
          walk_at "vs"
          exact leaf f dr' a b c e
        · walk_at "vs"
          exact ⟨by omega, by omega, rfl⟩
    rintro _ ⟨m1, r3, rfl⟩
    obtain ⟨m, rfl⟩ : ∃ k, m = k + 1 := ⟨m - 1, by omega⟩
    have p2 : 2 ^ (m + 1) = 2 * 2 ^ m := by rw [Nat.pow_succ]; omega
    have qu : ∀ (o : U) f dr', dp f ≤ m + 1 → (lv f).length ≤ 2 ^ m → (∀ x ∈ lv f, x ∈ ns) → DrOk dr' → Q (.tup [.str (nmU o), eF f]) [.lst true (nums dr')] := fun o f dr' a b c e => q (.u o f) dr' (by simp only [dp]; omega) (by simp only [lv]; omega) c e
    have qb : ∀ (o : B) f g dr', dp f ≤ m + 1 → (lv f).length ≤ 2 ^ m → (∀ x ∈ lv f, x ∈ ns) → dp g ≤ m + 1 → (lv g).length ≤ 2 ^ m → (∀ x ∈ lv g, x ∈ ns) → DrOk dr' → Q (.tup [.str (nmB o), eF f, eF g]) [.lst true (nums dr')] := fun o f g dr' a b c a2 b2 c2 e => q (.b o f g) dr' (by simp only [dp]; omega) (by simp only [lv, List.length_append]; omega) (fun x hx => by
      simp only [lv, List.mem_append] at hx
      exact hx.elim (c x) (c2 x)) e
    refine ws_seqI (fun e => e = [some (.lst true (nums dr1)), some (.lst false (dS ns)), some (.int bu), some (.int d), some (.int r), none, none, none, none]) ?_ ?_
    · refine ws_if ?_
      walk_at "vs"
      refine ifb_d (fun c1 => ?_) fun c1 => ?_
      · walk_at "vs"
        refine ifb_d (fun c2 => ?_) fun c2 => ?_
        · walk_at "vs"
          walk_at "vi"
          refine ifb_d (fun c3 => ?_) fun c3 => ?_
          · walk_at "vs"
            obtain ⟨o, ho⟩ := un_ix (i := r - 3) (by omega) (by omega)
            refine evf_i (d := .str (nmU o)) ho rfl ?_
            walk_at "vs"
            refine fw_formula h1 n m (by omega) (by omega) (by omega) (by omega) hd1 fun f dr' a b c e => ?_
            walk_at "vs"
            exact qu o f dr' a b c e
          · walk_at "vs"
            obtain ⟨o, ho⟩ := bi_ix (i := r - 10) (by omega) (by omega)
            refine evf_i (d := .str (nmB o)) ho rfl ?_
            walk_at "vs"
            have hok := ok_B (o := o)
            have hw := ok_wu
            refine ws_seqI (fun e => ∃ o : B, e = [some (.lst true (nums dr1)), some (.lst false (dS ns)), some (.int bu), some (.int d), some (.int r), some (.lst true [D.str "next", .str "eventually", .str "always", .str "previous", .str "weak_previous", .str "once", .str "historically"]), some (.str (nmB o)), none, none]) ?_ ?_
            · refine ws_if ?_
              walk_at "vs"
              refine ifb_d (fun c4 => ?_) fun c4 => ?_
              · walk_at "vs"
                refine ifb_i (fun c5 => ?_) fun c5 => ?_
                · walk_at "vs"
                  exact ⟨.un, rfl⟩
                · walk_at "vs"
                  exact ⟨o, rfl⟩
              · walk_at "vs"
                exact ⟨o, rfl⟩
            clear hok ho o
            rintro _ ⟨o, rfl⟩
            walk_at "vs"
            refine fw_take hd1 (by omega) fun s dr2 s0 s1 hd2 => ?_
            walk_at "vs"
            refine fw_formula h1 n m (by omega) (by omega) (by omega) (by omega) hd2 fun f dr3 a b c e => ?_
            walk_at "vs"
            refine fw_formula h1 n m (by omega) (by omega) (by omega) (by omega) e fun g dr4 a2 b2 c2 e2 => ?_
            walk_at "vs"
            exact qb o f g dr4 a b c a2 b2 c2 e2
        · walk_at "vs"
          rfl
      · walk_at "vs"
        rfl
    rintro _ rfl
    walk_at "vi"
    refine ifb_d (fun c3 => ?_) fun c3 => ?_
    · walk_at "vs"
      refine fw_formula h1 n m (by omega) (by omega) (by omega) (by omega) hd1 fun f dr' a b c e => ?_
      walk_at "vs"
      exact qu .nt f dr' a b c e
    · walk_at "vs"
      obtain ⟨o, ho⟩ := lo_ix (i := r % 4) (by omega) (by omega)
      refine evf_i (d := .str (nmB o)) ho rfl ?_
      walk_at "vs"
      have hok := ok_B (o := o)
      have hw := ok_iff
      refine ws_seqI (fun e => ∃ o : B, e = [some (.lst true (nums dr1)), some (.lst false (dS ns)), some (.int bu), some (.int d), some (.int r), none, some (.str (nmB o)), none, none]) ?_ ?_
      · refine ws_if ?_
        walk_at "vs"
        refine ifb_d (fun c4 => ?_) fun c4 => ?_
        · walk_at "vs"
          refine ifb_i (fun c5 => ?_) fun c5 => ?_
          · walk_at "vs"
            exact ⟨.an, rfl⟩
          · walk_at "vs"
            exact ⟨o, rfl⟩
        · walk_at "vs"
          exact ⟨o, rfl⟩
      clear hok ho o
      rintro _ ⟨o, rfl⟩
      walk_at "vs"
      refine fw_take hd1 (by omega) fun s dr2 s0 s1 hd2 => ?_
      walk_at "vs"
      refine fw_formula h1 n m (by omega) (by omega) (by omega) (by omega) hd2 fun f dr3 a b c e => ?_
      walk_at "vs"
      refine fw_formula h1 n m (by omega) (by omega) (by omega) (by omega) e fun g dr4 a2 b2 c2 e2 => ?_
      walk_at "vs"
      exact qb o f g dr4 a b c a2 b2 c2 e2
end
end
end
end
section
set_option Elab.async false
set_option linter.all false
set_option maxRecDepth 100000
set_option maxHeartbeats 1000000
def mt_InvalidSpec : Str → Option Bool := fun c => List.lookup c [(("InvalidSpec" : Str), true)]
/-! is_name(word): slots 0 word 1 char -/
noncomputable def b_is_name : M Fl :=
  sSeq (sIf (tOr (tP (pEq (pVar 0) (pC (.str "")))) (tOr (tP (pNotInS (pIx (pVar 0) (pC (.int 0))) (pC (.str "abcdefghijklmnopqrstuvwxyz")))) (tP (pIn (pVar 0) (pC (.ktp (txts ["true", "false", "exists", "forall"]))))))) (sRet (vP (pC (.bl false)))) (sNil))
  (sSeq (sFor (iStrM (vP (pVar 0))) (tgName 1) (sIf (tAnd (tP (pNotInS (pVar 1) (pC (.str "abcdefghijklmnopqrstuvwxyz")))) (tP (pNotInS (pVar 1) (pC (.str "0123456789"))))) (sRet (vP (pC (.bl false)))) (sNil)))
  (sRet (vP (pC (.bl true)))))
noncomputable def run_is_name : FN := runD 2 [false] b_is_name
theorem fr_is_name {a0 : D} {Q : D → List D → Prop} {X : Str → Option (Str × D) → List D → Prop} (h : ws b_is_name [some a0, none] (fun e => ev (outsOf [false] e) (Q .non)) (fun _ => False) (fun _ => False) (fun d e => ev (outsOf [false] e) (Q d)) (fun c x e => ev (outsOf [false] e) (X c x))) : Fw run_is_name [a0] Q X := fw_run rfl h
/-! Spec.__init__(self, inputs, outputs, lead, assumptions, guarantees, negated): slots 0 self 1 inputs 2 outputs 3 lead 4 assumptions 5 guarantees 6 negated 7 valid 8 known 9 name -/
noncomputable def b_Spec___init__ : M Fl :=
  sSeq (sSet 7 (vAnd (vP (pLe (pLen (pVar 1)) (pC (.int 3)))) (vAnd (vP (pLe (pLen (pVar 2)) (pC (.int 3)))) (vP (pCh gLe gLe (pNeg (pC (.int 3))) (pVar 3) (pC (.int 2)))))))
  (sSeq (sSet 8 (vLst (aNil)))
  (sSeq (sFor (iSq (vCat (vListP (pVar 1)) (vListP (pVar 2)))) (tgName 9) (sSeq (sSet 7 (vAnd (vP (pVar 7)) (vAnd (vCall run_is_name [.inl (vP (pVar 9))]) (vP (pNotIn (pVar 9) (pVar 8))))))
  (sApp 8 (vP (pVar 9)))))
  (sSeq (sIf (tNot (tP (pVar 7))) (sRaise "InvalidSpec") (sNil))
  (sSeq (sFld "Spec" "inputs" 0 (vTupleP (pVar 1)))
  (sSeq (sFld "Spec" "outputs" 0 (vTupleP (pVar 2)))
  (sSeq (sFld "Spec" "lead" 0 (vP (pVar 3)))
  (sSeq (sFld "Spec" "assumptions" 0 (vTupleP (pVar 4)))
  (sSeq (sFld "Spec" "guarantees" 0 (vTupleP (pVar 5)))
  (sFld "Spec" "negated" 0 (vP (pVar 6)))))))))))
noncomputable def run_Spec___init__ : FN := runD 10 [true, false, false, false, false, false, false] b_Spec___init__
theorem fr_Spec___init__ {a0 a1 a2 a3 a4 a5 a6 : D} {Q : D → List D → Prop} {X : Str → Option (Str × D) → List D → Prop} (h : ws b_Spec___init__ [some a0, some a1, some a2, some a3, some a4, some a5, some a6, none, none, none] (fun e => ev (outsOf [true, false, false, false, false, false, false] e) (Q .non)) (fun _ => False) (fun _ => False) (fun d e => ev (outsOf [true, false, false, false, false, false, false] e) (Q d)) (fun c x e => ev (outsOf [true, false, false, false, false, false, false] e) (X c x))) : Fw run_Spec___init__ [a0, a1, a2, a3, a4, a5, a6] Q X := fw_run rfl h
/-! Spec.signals(self): slots 0 self -/
noncomputable def b_Spec_signals : M Fl :=
  sRet (vCat (vP (pFld "Spec" "inputs" (pVar 0))) (vP (pFld "Spec" "outputs" (pVar 0))))
noncomputable def run_Spec_signals : FN := runD 1 [false] b_Spec_signals
theorem fr_Spec_signals {a0 : D} {Q : D → List D → Prop} {X : Str → Option (Str × D) → List D → Prop} (h : ws b_Spec_signals [some a0] (fun e => ev (outsOf [false] e) (Q .non)) (fun _ => False) (fun _ => False) (fun d e => ev (outsOf [false] e) (Q d)) (fun c x e => ev (outsOf [false] e) (X c x))) : Fw run_Spec_signals [a0] Q X := fw_run rfl h
/-! dual(spec): slots 0 spec -/
noncomputable def b_dual : M Fl :=
  sRet (vMake run_Spec___init__ "Spec" [true, false, false, false, false, false, false] (aCons (vP (pFld "Spec" "outputs" (pVar 0))) (aCons (vP (pFld "Spec" "inputs" (pVar 0))) (aCons (vP (pSub (pNeg (pC (.int 1))) (pFld "Spec" "lead" (pVar 0)))) (aCons (vP (pFld "Spec" "assumptions" (pVar 0))) (aCons (vP (pFld "Spec" "guarantees" (pVar 0))) (aCons (vNot (vP (pFld "Spec" "negated" (pVar 0)))) (aNil))))))))
noncomputable def run_dual : FN := runD 1 [false] b_dual
theorem fr_dual {a0 : D} {Q : D → List D → Prop} {X : Str → Option (Str × D) → List D → Prop} (h : ws b_dual [some a0] (fun e => ev (outsOf [false] e) (Q .non)) (fun _ => False) (fun _ => False) (fun d e => ev (outsOf [false] e) (Q d)) (fun c x e => ev (outsOf [false] e) (X c x))) : Fw run_dual [a0] Q X := fw_run rfl h
/-! _law_property(draws, names, budget, deep, share): slots 0 draws 1 names 2 budget 3 deep 4 share 5 hidden 6 formula -/
noncomputable def b__law_property : M Fl :=
  sSeq (sIf (tE (vOp (gIB fun i j => decide (j ≤ i)) (vCall run__law_take [.inr 0, .inl (vP (pC (.int 12)))]) (vP (pVar 4)))) (sRet (vCall (run__law_formula 40) [.inr 0, .inl (vP (pVar 1)), .inl (vP (pVar 2)), .inl (vP (pVar 3))])) (sNil))
  (sSeq (sSet 5 (vSlE (vTup (aCons (vP (pC (.str "h1"))) (aCons (vP (pC (.str "k2"))) (aNil)))) none (some (vAdd (vP (pC (.int 1))) (vDiv (vCall run__law_take [.inr 0, .inl (vP (pC (.int 5)))]) (vP (pC (.int 4))))))))
  (sSeq (sSet 6 (vCall (run__law_formula 40) [.inr 0, .inl (vCat (vListP (pVar 1)) (vListP (pVar 5))), .inl (vP (pMin (pVar 2) (pC (.int 2)))), .inl (vP (pVar 3))]))
  (sRet (vTup (aCons (vOp gIx (vLst (aCons (vP (pC (.str "exists"))) (aCons (vP (pC (.str "forall"))) (aNil)))) (vCall run__law_take [.inr 0, .inl (vP (pC (.int 2)))])) (aCons (vMv 5) (aCons (vMv 6) (aNil))))))))
noncomputable def run__law_property : FN := runD 7 [true, false, false, false, false] b__law_property
theorem fr__law_property {a0 a1 a2 a3 a4 : D} {Q : D → List D → Prop} {X : Str → Option (Str × D) → List D → Prop} (h : ws b__law_property [some a0, some a1, some a2, some a3, some a4, none, none] (fun e => ev (outsOf [true, false, false, false, false] e) (Q .non)) (fun _ => False) (fun _ => False) (fun d e => ev (outsOf [true, false, false, false, false] e) (Q d)) (fun c x e => ev (outsOf [true, false, false, false, false] e) (X c x))) : Fw run__law_property [a0, a1, a2, a3, a4] Q X := fw_run rfl h
/-! _law_outcome(inputs, outputs, lead, assumptions, guarantees, negated, short): slots 0 inputs 1 outputs 2 lead 3 assumptions 4 guarantees 5 negated 6 short -/
noncomputable def b__law_outcome : M Fl :=
  sTry (sSeq (sIf (tAnd (tP (pVar 6)) (tNot (tP (pVar 5)))) (sRet (vMakeD run_Spec___init__ "Spec" [true, false, false, false, false, false, false] false (aCons (vP (pVar 0)) (aCons (vP (pVar 1)) (aCons (vP (pVar 2)) (aCons (vP (pVar 3)) (aCons (vP (pVar 4)) (aNil)))))))) (sNil))
  (sRet (vMake run_Spec___init__ "Spec" [true, false, false, false, false, false, false] (aCons (vP (pVar 0)) (aCons (vP (pVar 1)) (aCons (vP (pVar 2)) (aCons (vP (pVar 3)) (aCons (vP (pVar 4)) (aCons (vP (pVar 5)) (aNil)))))))))) [{ mt := mt_InvalidSpec, sl := none, su := fun c xx => sRet (vP (pC .non)) }]
noncomputable def run__law_outcome : FN := runD 7 [false, false, false, false, false, false, false] b__law_outcome
theorem fr__law_outcome {a0 a1 a2 a3 a4 a5 a6 : D} {Q : D → List D → Prop} {X : Str → Option (Str × D) → List D → Prop} (h : ws b__law_outcome [some a0, some a1, some a2, some a3, some a4, some a5, some a6] (fun e => ev (outsOf [false, false, false, false, false, false, false] e) (Q .non)) (fun _ => False) (fun _ => False) (fun d e => ev (outsOf [false, false, false, false, false, false, false] e) (Q d)) (fun c x e => ev (outsOf [false, false, false, false, false, false, false] e) (X c x))) : Fw run__law_outcome [a0, a1, a2, a3, a4, a5, a6] Q X := fw_run rfl h
/-! _law_is_spec(spec, inputs, outputs, lead, assumptions, guarantees, negated): slots 0 spec 1 inputs 2 outputs 3 lead 4 assumptions 5 guarantees 6 negated -/
noncomputable def b__law_is_spec : M Fl :=
  sSeq (sIf (tOr (tNot (tP (pIsiO "Spec" (pVar 0)))) (tOr (tE (vOp gNe (vP (pFld "Spec" "inputs" (pVar 0))) (vTupleP (pVar 1)))) (tE (vOp gNe (vP (pFld "Spec" "outputs" (pVar 0))) (vTupleP (pVar 2)))))) (sRet (vP (pC (.bl false)))) (sNil))
  (sSeq (sIf (tOr (tNot (tE (vCall run__law_is_integer [.inl (vP (pFld "Spec" "lead" (pVar 0)))]))) (tP (pNe (pFld "Spec" "lead" (pVar 0)) (pVar 3)))) (sRet (vP (pC (.bl false)))) (sNil))
  (sSeq (sIf (tOr (tNot (tP (pIsi "bool" (pFld "Spec" "negated" (pVar 0))))) (tP (pNe (pFld "Spec" "negated" (pVar 0)) (pVar 6)))) (sRet (vP (pC (.bl false)))) (sNil))
  (sSeq (sIf (tOr (tNot (tP (pIsiK "tuple" (pFld "Spec" "assumptions" (pVar 0))))) (tNot (tP (pIsiK "tuple" (pFld "Spec" "guarantees" (pVar 0)))))) (sRet (vP (pC (.bl false)))) (sNil))
  (sSeq (sIf (tOr (tE (vOp gNe (vP (pFld "Spec" "assumptions" (pVar 0))) (vTupleP (pVar 4)))) (tE (vOp gNe (vP (pFld "Spec" "guarantees" (pVar 0))) (vTupleP (pVar 5))))) (sRet (vP (pC (.bl false)))) (sNil))
  (sRet (vAnd (vOp1 (gIsiK "tuple") (vProp "Spec" "signals" (pVar 0) run_Spec_signals)) (vOp gEq (vProp "Spec" "signals" (pVar 0) run_Spec_signals) (vCat (vTupleP (pVar 1)) (vTupleP (pVar 2))))))))))
noncomputable def run__law_is_spec : FN := runD 7 [false, false, false, false, false, false, false] b__law_is_spec
theorem fr__law_is_spec {a0 a1 a2 a3 a4 a5 a6 : D} {Q : D → List D → Prop} {X : Str → Option (Str × D) → List D → Prop} (h : ws b__law_is_spec [some a0, some a1, some a2, some a3, some a4, some a5, some a6] (fun e => ev (outsOf [false, false, false, false, false, false, false] e) (Q .non)) (fun _ => False) (fun _ => False) (fun d e => ev (outsOf [false, false, false, false, false, false, false] e) (Q d)) (fun c x e => ev (outsOf [false, false, false, false, false, false, false] e) (X c x))) : Fw run__law_is_spec [a0, a1, a2, a3, a4, a5, a6] Q X := fw_run rfl h
/-! law(script): slots 0 script 1 draws 2 names 3 inputs 4 outputs 5 lead 6 assumptions 7 k 8 guarantees 9 negated 10 spoilt 11 bad 12 passed 13 spec 14 other -/
noncomputable def b_law : M Fl :=
  sSeq (sSet 1 (vCall run__law_draws [.inl (vP (pVar 0)), .inl (vP (pC (.int 200)))]))
  (sSeq (sSet 2 (vCall run__law_names [.inr 1, .inl (vP (pC (.int 6)))]))
  (sSeq (sSet 3 (vSlE (vMv 2) none (some (vCall run__law_take [.inr 1, .inl (vP (pC (.int 4)))]))))
  (sSeq (sSet 4 (vSlE (vMv 2) (some (vP (pC (.int 3)))) (some (vAdd (vP (pC (.int 3))) (vCall run__law_take [.inr 1, .inl (vP (pC (.int 4)))])))))
  (sSeq (sSet 5 (vSub (vCall run__law_take [.inr 1, .inl (vP (pC (.int 6)))]) (vP (pC (.int 3)))))
  (sSeq (sSet 6 (vLc (iRange1 (aCons (vCall run__law_take [.inr 1, .inl (vP (pC (.int 3)))]) (aNil))) (tgName 7) (tYesM) (vFz (vCall (run__law_formula 40) [.inr 1, .inl (vCat (vMv 3) (vMv 4)), .inl (vP (pC (.int 2))), .inl (vP (pC (.int 2)))])) [7]))
  (sSeq (sSet 8 (vLc (iRange1 (aCons (vCall run__law_take [.inr 1, .inl (vP (pC (.int 3)))]) (aNil))) (tgName 7) (tYesM) (vFz (vCall run__law_property [.inr 1, .inl (vCat (vMv 3) (vMv 4)), .inl (vP (pC (.int 2))), .inl (vP (pC (.int 2))), .inl (vP (pC (.int 3)))])) [7]))
  (sSeq (sSet 9 (vOp gEq (vCall run__law_take [.inr 1, .inl (vP (pC (.int 2)))]) (vP (pC (.int 0)))))
  (sSeq (sSet 10 (vCall run__law_take [.inr 1, .inl (vP (pC (.int 15)))]))
  (sSeq (sIf (tP (pEq (pVar 10) (pC (.int 0)))) (sSet 3 (vLst (aCons (vP (pC (.str "a1"))) (aCons (vP (pC (.str "b1"))) (aCons (vP (pC (.str "c1"))) (aCons (vP (pC (.str "d1"))) (aNil))))))) (sNil))
  (sSeq (sIf (tP (pEq (pVar 10) (pC (.int 1)))) (sSet 4 (vLst (aCons (vP (pC (.str "a1"))) (aCons (vP (pC (.str "b1"))) (aCons (vP (pC (.str "c1"))) (aCons (vP (pC (.str "d1"))) (aNil))))))) (sNil))
  (sSeq (sIf (tP (pEq (pVar 10) (pC (.int 2)))) (sSeq (sSet 11 (vLst (aCons (vP (pC (.str ""))) (aCons (vP (pC (.str "A"))) (aCons (vP (pC (.str "1a"))) (aCons (vP (pC (.str "a b"))) (aCons (vP (pC (.str "true"))) (aCons (vP (pC (.str "exists"))) (aCons (vP (pC (.str "a_b"))) (aCons (vP (pC (.str "aB"))) (aCons (vP (pC (.str "false"))) (aCons (vP (pC (.str "forall"))) (aCons (vP (pC (.str " a"))) (aCons (vP (pC (.str "a-"))) (aNil)))))))))))))))
  (sSet 3 (vCat (vSl (pVar 3) none (some (pC (.int 2)))) (vLst (aCons (vOp gIx (vMv 11) (vCall run__law_take [.inr 1, .inl (vP (pC (.int 12)))])) (aNil)))))) (sNil))
  (sSeq (sIf (tP (pEq (pVar 10) (pC (.int 3)))) (sSeq (sSet 4 (vCat (vSl (pVar 4) none (some (pC (.int 2)))) (vSlE (vCat (vCat (vMv 3) (vMv 4)) (vLst (aCons (vP (pC (.str "a1"))) (aNil)))) none (some (vP (pC (.int 1)))))))
  (sSeq (sSet 3 (vSlE (vCat (vMv 3) (vLst (aCons (vP (pC (.str "a1"))) (aNil)))) none (some (vP (pC (.int 1))))))
  (sSet 4 (vCat (vSl (pVar 4) none (some (pC (.int 2)))) (vMv 3))))) (sNil))
  (sSeq (sIf (tP (pLt (pVar 10) (pC (.int 4)))) (sSeq (sSet 6 (vLst (aNil)))
  (sSet 8 (vLst (aNil)))) (sNil))
  (sSeq (sIf (tP (pEq (pVar 10) (pC (.int 4)))) (sSet 5 (vOp gIx (vLst (aCons (vP (pNeg (pC (.int 4)))) (aCons (vP (pC (.int 3))) (aCons (vP (pC (.int 10))) (aNil))))) (vCall run__law_take [.inr 1, .inl (vP (pC (.int 3)))]))) (sNil))
  (sSeq (sSet 12 (vLst (aCons (vListP (pVar 3)) (aCons (vListP (pVar 4)) (aCons (vListP (pVar 6)) (aCons (vListP (pVar 8)) (aNil)))))))
  (sSeq (sSet 13 (vBor 12 (vCall run__law_outcome [.inl (vP (pIx (pVar 12) (pC (.int 0)))), .inl (vP (pIx (pVar 12) (pC (.int 1)))), .inl (vP (pVar 5)), .inl (vP (pIx (pVar 12) (pC (.int 2)))), .inl (vP (pIx (pVar 12) (pC (.int 3)))), .inl (vP (pVar 9)), .inl (vOp gEq (vCall run__law_take [.inr 1, .inl (vP (pC (.int 2)))]) (vP (pC (.int 0))))])))
  (sSeq (sIf (tE (vOpV gNe 12 (vLst (aCons (vMv 3) (aCons (vMv 4) (aCons (vMv 6) (aCons (vMv 8) (aNil)))))))) (sRet (vP (pC (.bl false)))) (sNil))
  (sSeq (sIf (tP (pLt (pVar 10) (pC (.int 5)))) (sRet (vP (pIsN (pVar 13)))) (sNil))
  (sSeq (sNApp 12 ([] ++ [pC (.int 0)]) (vP (pC (.str "late"))))
  (sSeq (sNApp 12 ([] ++ [pC (.int 2)]) (vTup (aCons (vP (pC (.str "true"))) (aNil))))
  (sSeq (sNApp 12 ([] ++ [pC (.int 3)]) (vTup (aCons (vP (pC (.str "false"))) (aNil))))
  (sSeq (sIf (tNot (tE (vCall run__law_is_spec [.inl (vMv 13), .inl (vMv 3), .inl (vMv 4), .inl (vP (pVar 5)), .inl (vMv 6), .inl (vMv 8), .inl (vP (pVar 9))]))) (sRet (vP (pC (.bl false)))) (sNil))
  (sSeq (sSet 14 (vCall run_dual [.inl (vMv 13)]))
  (sSeq (sIf (tNot (tE (vCall run__law_is_spec [.inl (vMv 14), .inl (vMv 4), .inl (vMv 3), .inl (vP (pSub (pNeg (pC (.int 1))) (pVar 5))), .inl (vMv 6), .inl (vMv 8), .inl (vNot (vP (pVar 9)))]))) (sRet (vP (pC (.bl false)))) (sNil))
  (sRet (vCall run__law_is_spec [.inl (vCall run_dual [.inl (vMv 14)]), .inl (vMv 3), .inl (vMv 4), .inl (vP (pVar 5)), .inl (vMv 6), .inl (vMv 8), .inl (vP (pVar 9))]))))))))))))))))))))))))))
noncomputable def run_law : FN := runD 15 [false] b_law
theorem fr_law {a0 : D} {Q : D → List D → Prop} {X : Str → Option (Str × D) → List D → Prop} (h : ws b_law [some a0, none, none, none, none, none, none, none, none, none, none, none, none, none, none] (fun e => ev (outsOf [false] e) (Q .non)) (fun _ => False) (fun _ => False) (fun d e => ev (outsOf [false] e) (Q d)) (fun c x e => ev (outsOf [false] e) (X c x))) : Fw run_law [a0] Q X := fw_run rfl h
end
section
set_option Elab.async false
set_option linter.all false
set_option maxRecDepth 100000
set_option maxHeartbeats 0
local macro_rules | `(tactic| walk_at "vx") => `(tactic| fail "vx")
local macro_rules | `(tactic| walk_at "vb") => `(tactic| first | ((with_reducible apply EB_andI); with_reducible refine EB_and (by walk_at "vb") (by walk_at "vb")) | ((with_reducible apply EB_orI); with_reducible refine EB_or (by walk_at "vb") (by walk_at "vb")) | ((with_reducible apply EB_notI); with_reducible refine EB_not (by walk_at "vb")) | ((with_reducible apply EB_pI); with_reducible refine EB_p (by first | ((with_reducible apply p_chI); with_reducible refine p_ch (by walk_at "ve") (by walk_at "ve") (by walk_at "ve")) | walk_at "ve" | fail "vb")) | fail "vb")
local macro_rules | `(tactic| walk_at "vd") => `(tactic| (first | assumption | omega | (simp only [nums_len, dl_len, dInts_len, q_szl, List.length_append, List.length_take, List.length_drop, List.length_reverse, List.length_set, List.length_dropLast, List.length_map, List.length_cons, List.length_nil]; first | done | omega | fail "vd") | (constructor <;> omega) | (refine ⟨by omega, by omega, by decide⟩) | ((refine id ?_); with_unfolding_all rfl) | decide | (decide +kernel) | fail "vd"))
local macro_rules | `(tactic| walk_at "vq") => `(tactic| (simp (disch := walk_at "vd") only [q_var0, q_varS, q_c, q_p2, q_p1, q_gI, q_gAdd, q_fadd, q_sub, q_mulR, q_mulL, q_div, q_mod, q_pow, q_shl, q_shr, q_gIB, q_gIL, q_neg, q_abs, q_int, q_asInt, q_asBl, q_eqI, q_neI, q_eqS, q_neS, q_eqL, q_neL, q_eqT, q_neT, q_seqL, q_seqT, q_seqS, q_seqK, q_rep1, q_repN, q_intT, q_intF, q_lcm, q_maxL, q_minL, q_sumL, q_din, q_dnotin, q_dix, q_lenD, q_dput, q_eqB, q_neB, q_eqLa, q_neLa, q_tgT, q_tgAn, q_tgAc, q_lenQ, q_ixQ, q_seqQ, q_tupQ, q_fzQ, q_slQ, q_slD, q_catQ, q_isNQ, q_lenL, q_lenT, q_lenS, q_ixL, q_ixT, q_ixS, q_at0, q_at1, q_at2, atI_nums, atI_numsN, atI_dl, atI_dlN, q_get0, q_getS, q_join, q_lst0, q_lstS, q_agDn, q_agDl, q_agDr, q_outn, q_outt, q_outf, q_tg0, q_tgS, q_bdn, q_bds, q_slL, q_slS, q_slT, cut_to, cut_from, cut_mid, q_tupL, q_tupT, q_tupS, q_asLst, q_isE, q_gIsi, q_tyI, q_tyB, q_tyX, q_tyT, q_tyL, q_tyN, q_kit_int_int, q_kit_int_bool, q_kit_bool_bool, q_kit_bool_int, q_kit_tuple_tuple, q_kit_list_list, q_kit_str_str, q_kit_str_int, q_kit_tuple_int, q_kit_NoneType_int, q_kit_list_tuple, q_kit_tuple_list, q_kit_int_tuple, q_kit_NoneType_tuple, q_kit_int_str, q_fzIns, q_gIsN, q_gNotN, q_isNo, q_ins0, q_insS, q_putO, q_putn, q_puth, q_putc, q_fld, q_lkh, q_lkt, q_fzO, q_fzsO, q_fzI, q_fzB, q_fzX, q_fzN, q_fzL, q_fzT, q_fzS, q_fzn, q_fzc, fzs_nums, frozens_nums, fzs_dl, frozens_dl, q_catL, q_catT, q_repL, q_repT, q_ixSet, nums_len, dl_len, dl_app, dl_push, dl_set, nums_app, nums_push, nums_rev, nums_take, nums_drop, nums_dropLast, nums_set, nums_rep, q_bind, q_map, q_isN, q_notN, q_isNn, q_isNi, q_isNb, q_isNx, q_isNt, q_isNl, q_not1, q_not0, Int.reducePow, Int.reduceToNat, Int.reduceNeg]))
local macro_rules | `(tactic| walk_at "ve") => `(tactic| (first | (with_reducible rfl) | (walk_at "vq"; first | done | (with_reducible rfl) | rfl | fail "vq") | walk_at "vx" | fail "ve"))
local macro_rules | `(tactic| walk_at "vf") => `(tactic| (first | rfl | exact froQ | exact froD | (simp only [D.frozen, D.frozens, frozens_nums, frozens_dl, Bool.and_self, Bool.and_true, Bool.true_and, Bool.not_false, froQ, froD]; done) | fail "vf"))
local macro_rules | `(tactic| walk_at "v1") => `(tactic| (first | (with_reducible refine ws_id ?_; first | ((fail_if_success (with_reducible refine ws_seq (f := sIf _ _ _) ?_)); with_reducible refine ws_seq ?_) | with_reducible refine ws_set ?_ | with_reducible refine ws_ret ?_ | with_reducible refine ws_nil ?_ | with_reducible refine ws_if ?_ | with_reducible refine ws_app ?_ | with_reducible refine ws_drop ?_ | with_reducible refine ws_for ?_ | with_reducible refine ws_aug ?_ | with_reducible refine ws_put ?_ | with_reducible refine ws_to ?_ | with_reducible refine ws_raise ?_ | with_reducible refine ws_try ?_ | with_reducible refine ws_retN ?_ | with_reducible refine ws_brk ?_ | with_reducible refine ws_cnt ?_ | with_reducible refine ws_fld ?_ | with_reducible refine ws_rev ?_ | with_reducible refine ws_ext ?_ | with_reducible refine ws_dput ?_ | with_reducible refine ws_par ?_ | fail "v") | (with_reducible refine wp_id ?_; first | with_reducible refine wp_P ?_ | with_reducible refine wp_Call ?_ | with_reducible refine wp_agl ?_ | with_reducible refine wp_agr ?_ | with_reducible refine wp_ag0 ?_ | with_reducible refine wp_tP ?_ | with_reducible refine wp_tE ?_ | with_reducible refine wp_aCons ?_ | with_reducible refine wp_aNil ?_ | with_reducible refine wp_Mv ?_ | with_reducible refine wp_Op ?_ | with_reducible refine wp_tAnd ?_ | with_reducible refine wp_tOr ?_ | with_reducible refine wp_tNot ?_ | with_reducible refine wp_Fz ?_ | with_reducible refine wp_Lc ?_ | with_reducible refine wp_Tup ?_ | with_reducible refine wp_Lst ?_ | with_reducible refine wp_iRange1 ?_ | with_reducible refine wp_iRange2 ?_ | with_reducible refine wp_iSq ?_ | with_reducible refine wp_tYes ?_ | with_reducible refine wp_Gv ?_ | with_reducible refine wp_Op1 ?_ | with_reducible refine wp_Make ?_ | with_reducible refine wp_If ?_ | with_reducible refine wp_Not ?_ | with_reducible refine wp_Sl ?_ | with_reducible refine wp_List ?_ | with_reducible refine wp_ListP ?_ | with_reducible refine wp_Tuple ?_ | with_reducible refine wp_TupleP ?_ | with_reducible refine wp_Cat ?_ | with_reducible refine wp_Rep ?_ | with_reducible refine wp_Pop ?_ | with_reducible refine wp_Dk ?_ | with_reducible refine wp_Dt ?_ | with_reducible refine wp_Meth ?_ | with_reducible refine wp_CallO ?_ | with_reducible refine wp_Rep1 ?_ | ((with_reducible refine wp_andI ?_); with_reducible refine wp_bAnd (by walk_at "vb") ?_) | with_reducible refine wp_And ?_ | ((with_reducible refine wp_orI ?_); with_reducible refine wp_bOr (by walk_at "vb") ?_) | with_reducible refine wp_Or ?_ | fail "v") | (with_reducible refine st_id ?_; first | with_reducible refine st_push ?_ | with_reducible refine st_pushL ?_ | with_reducible refine st_pushT ?_ | with_reducible refine st_rev ?_ | with_reducible refine st_dl ?_ | with_reducible refine st_ext ?_ | with_reducible refine st_fzL ?_ | with_reducible refine st_nil ?_ | ((repeat (with_reducible refine st_s ?_)); (with_reducible refine st_z ?_)) | fail "v") | (with_reducible refine ev_id ?_; first | ((with_reducible refine ev_chI ?_); with_reducible refine ev_ch (by walk_at "ve") (by walk_at "ve") (by walk_at "ve") ?_) | with_reducible refine ev_i (by walk_at "ve") ?_ | fail "v") | (with_reducible refine evf_id ?_; first | ((with_reducible refine evf_chI ?_); with_reducible refine evf_ch (by walk_at "ve") (by walk_at "ve") (by walk_at "ve") ?_) | with_reducible refine evf_i (by walk_at "ve") (by walk_at "vf") ?_ | fail "v") | (with_reducible refine ifb_id ?_; first | with_reducible refine ifb_t ?_ | with_reducible refine ifb_f ?_ | with_reducible refine ifb_rfl ?_ | with_reducible refine ifb_beq ?_ | with_reducible refine ifb_tr ?_ | with_reducible refine ifb_fl ?_ | with_reducible refine ifb_n ?_ | with_reducible refine ifb_and ?_ | with_reducible refine ifb_or ?_ | fail "v") | (with_reducible refine outK_id ?_; first | with_reducible refine outK_ln ?_ | with_reducible refine outK_e ?_ | with_reducible refine outK_r (by with_unfolding_all rfl) ?_ | fail "v") | (with_reducible refine ev2_id ?_; first | with_reducible refine ev2_i (by walk_at "ve") ?_ | fail "v") | (with_reducible refine evR1_id ?_; first | with_reducible refine evR1_i (by walk_at "vd") ?_ | fail "v") | (with_reducible refine evR2_id ?_; first | with_reducible refine evR2_i (by walk_at "vd") ?_ | fail "v") | with_reducible refine wipeS_n ?_ | with_reducible refine wipeS_c ?_ | with_reducible refine mk_i ?_ | with_reducible refine mkx_i ?_ | with_reducible refine par_i ?_ | (with_reducible refine and_id ?_; first | with_reducible refine And.intro (by first | exact frozens_nums | exact frozens_dl | rfl | (with_unfolding_all rfl) | (simp only [nums_len, dl_len, dInts_len, q_szl, List.length_append, List.length_take, List.length_drop, List.length_reverse, List.length_set, List.length_dropLast, List.length_map, List.length_cons, List.length_nil]; first | done | omega | fail "v") | fail "v") ?_ | fail "v") | fail "v"))
local macro_rules | `(tactic| walk_at "vs") => `(tactic| (repeat' walk_at "v1"))
local macro_rules | `(tactic| walk_at "vi") => `(tactic| ((with_reducible refine ws_seq (f := sIf _ _ _) ?_); (with_reducible refine ws_if ?_); walk_at "vs"))
local macro_rules | `(tactic| walk_at "vt") => `(tactic| ((repeat (with_reducible refine st_s ?_)); (with_reducible refine st_z ?_)))
local macro_rules | `(tactic| walk_at "va") => `(tactic| ((with_reducible refine ws_seq ?_); (with_reducible refine ws_set ?_); (with_reducible refine wp_P ?_); walk_at "v1"; walk_at "vt"))
local macro_rules | `(tactic| walk_at "vz") => `(tactic| (repeat' first | walk_at "v1" | with_reducible refine ifb_yes (by first | assumption | omega | fail "z") ?_ | with_reducible refine ifb_no (by first | assumption | omega | fail "z") ?_ | fail "z"))
local macro_rules | `(tactic| walk_at "vj") => `(tactic| ((with_reducible refine ws_seq (f := sIf _ _ _) ?_); (with_reducible refine ws_if ?_); walk_at "vz"))
local macro_rules | `(tactic| walk_at "vn") => `(tactic| simp only [List.set_cons_zero, List.set_cons_succ])
local macro_rules | `(tactic| walk_at "vc") => `(tactic| first | exact ⟨rfl, rfl⟩ | rfl | fail "vc")
section
set_option Elab.async false
set_option linter.all false
set_option maxRecDepth 100000
set_option maxHeartbeats 0
local macro_rules | `(tactic| walk_at "vx") => `(tactic| first | (simp (disch := walk_at "vd") only [q_isiO, q_at3, q_at4, q_ixsSn, q_ixsSc, q_ixs0, q_ixsS, q_var0, q_varS, q_c, q_p2, q_p1, q_gI, q_gAdd, q_fadd, q_sub, q_mulR, q_mulL, q_div, q_mod, q_pow, q_shl, q_shr, q_gIB, q_gIL, q_neg, q_abs, q_int, q_asInt, q_asBl, q_eqI, q_neI, q_eqS, q_neS, q_eqL, q_neL, q_eqT, q_neT, q_seqL, q_seqT, q_seqS, q_seqK, q_rep1, q_repN, q_intT, q_intF, q_lcm, q_maxL, q_minL, q_sumL, q_din, q_dnotin, q_dix, q_lenD, q_dput, q_eqB, q_neB, q_eqLa, q_neLa, q_tgT, q_tgAn, q_tgAc, q_lenQ, q_ixQ, q_seqQ, q_tupQ, q_fzQ, q_slQ, q_slD, q_catQ, q_isNQ, q_lenL, q_lenT, q_lenS, q_ixL, q_ixT, q_ixS, q_at0, q_at1, q_at2, atI_nums, atI_numsN, atI_dl, atI_dlN, q_get0, q_getS, q_join, q_lst0, q_lstS, q_agDn, q_agDl, q_agDr, q_outn, q_outt, q_outf, q_tg0, q_tgS, q_bdn, q_bds, q_slL, q_slS, q_slT, cut_to, cut_from, cut_mid, q_tupL, q_tupT, q_tupS, q_asLst, q_isE, q_gIsi, q_tyI, q_tyB, q_tyX, q_tyT, q_tyL, q_tyN, q_kit_int_int, q_kit_int_bool, q_kit_bool_bool, q_kit_bool_int, q_kit_tuple_tuple, q_kit_list_list, q_kit_str_str, q_kit_str_int, q_kit_tuple_int, q_kit_NoneType_int, q_kit_list_tuple, q_kit_tuple_list, q_kit_int_tuple, q_kit_NoneType_tuple, q_kit_int_str, q_fzIns, q_gIsN, q_gNotN, q_isNo, q_ins0, q_insS, q_putO, q_putn, q_puth, q_putc, q_fld, q_lkh, q_lkt, q_fzO, q_fzsO, q_fzI, q_fzB, q_fzX, q_fzN, q_fzL, q_fzT, q_fzS, q_fzn, q_fzc, fzs_nums, frozens_nums, fzs_dl, frozens_dl, q_catL, q_catT, q_repL, q_repT, q_ixSet, nums_len, dl_len, dl_app, dl_push, dl_set, nums_app, nums_push, nums_rev, nums_take, nums_drop, nums_dropLast, nums_set, nums_rep, q_bind, q_map, q_isN, q_notN, q_isNn, q_isNi, q_isNb, q_isNx, q_isNt, q_isNl, q_not1, q_not0, Int.reducePow, Int.reduceToNat, Int.reduceNeg]; first | done | (with_reducible rfl) | rfl | fail "vx") | rfl)
local macro_rules | `(tactic| walk_at "vbare") => `(tactic| (first | rfl | exact bares_nums | (simp only [D.bare, D.bares, bares_nums, Bool.and_self, Bool.and_true, Bool.true_and]; done) | assumption | fail "vbare"))
local macro_rules | `(tactic| walk_at "vlo") => `(tactic| (first | rfl | exact los_nums | (simp only [D.lo, D.los, los_nums, if_true, D.frozen, D.frozens, frozens_nums, Bool.and_self, Bool.and_true, Bool.true_and, Bool.not_false, froQ, froD]; done) | assumption | fail "vlo"))
local macro_rules | `(tactic| walk_at "vbor") => `(tactic| (repeat first | (with_reducible refine bor_n ?_) | (with_reducible refine bor_b (by walk_at "vbare") ?_) | (with_reducible refine bor_f (by walk_at "vf") ?_) | (exact bor_z) | fail "vbor"))
local macro_rules | `(tactic| walk_at "v1") => `(tactic| (first | with_reducible refine ws_nApp ?_ | with_reducible refine ws_alApp ?_ | with_reducible refine ws_alPut ?_ | with_reducible refine ws_nPut ?_ | with_reducible refine ws_forApp ?_ | with_reducible refine wp_Bor ?_ | with_reducible refine wp_OpV ?_ | with_reducible refine wp_CatF ?_ | with_reducible refine wp_TupO ?_ | (with_reducible refine gLo_id ?_; with_reducible refine gLo_i (by walk_at "vlo") ?_) | (with_reducible refine gBor_id ?_; with_reducible refine gBor_i (by walk_at "vbare") (by walk_at "vbor") ?_) | fail "v1"))
section
set_option Elab.async false
set_option linter.all false
set_option maxRecDepth 100000
set_option maxHeartbeats 0
local macro_rules | `(tactic| walk_at "vx") => `(tactic| first | (simp (disch := (first | decide +kernel | walk_at "vd")) only [q_evT0, q_evTi, q_evTf, q_evTk, q_psn, q_psc, q_atT0, q_atTf, q_atTi, q_atTk, q_setT0, q_setTf, q_setTi, kAt_h, kAt_t, kSetI_h, kSetI_t, q_asOL, q_oP, q_oFz, q_oC, q_oNil, q_oCons, q_oLst, q_oTup, q_frI, q_szI, q_revS, q_tgF, q_isiO, q_at3, q_at4, q_ixsSn, q_ixsSc, q_ixs0, q_ixsS, q_var0, q_varS, q_c, q_p2, q_p1, q_gI, q_gAdd, q_fadd, q_sub, q_mulR, q_mulL, q_div, q_mod, q_pow, q_shl, q_shr, q_gIB, q_gIL, q_neg, q_abs, q_int, q_asInt, q_asBl, q_eqI, q_neI, q_eqS, q_neS, q_eqL, q_neL, q_eqT, q_neT, q_seqL, q_seqT, q_seqS, q_seqK, q_rep1, q_repN, q_intT, q_intF, q_lcm, q_maxL, q_minL, q_sumL, q_din, q_dnotin, q_dix, q_lenD, q_dput, q_eqB, q_neB, q_eqLa, q_neLa, q_tgT, q_tgAn, q_tgAc, q_lenQ, q_ixQ, q_seqQ, q_tupQ, q_fzQ, q_slQ, q_slD, q_catQ, q_isNQ, q_lenL, q_lenT, q_lenS, q_ixL, q_ixT, q_ixS, q_at0, q_at1, q_at2, atI_nums, atI_numsN, atI_dl, atI_dlN, q_get0, q_getS, q_join, q_lst0, q_lstS, q_agDn, q_agDl, q_agDr, q_outn, q_outt, q_outf, q_tg0, q_tgS, q_bdn, q_bds, q_slL, q_slS, q_slT, cut_to, cut_from, cut_mid, q_tupL, q_tupT, q_tupS, q_asLst, q_isE, q_gIsi, q_tyI, q_tyB, q_tyX, q_tyT, q_tyL, q_tyN, q_kit_int_int, q_kit_int_bool, q_kit_bool_bool, q_kit_bool_int, q_kit_tuple_tuple, q_kit_list_list, q_kit_str_str, q_kit_str_int, q_kit_tuple_int, q_kit_NoneType_int, q_kit_list_tuple, q_kit_tuple_list, q_kit_int_tuple, q_kit_NoneType_tuple, q_kit_int_str, q_fzIns, q_gIsN, q_gNotN, q_isNo, q_ins0, q_insS, q_putO, q_putn, q_puth, q_putc, q_fld, q_lkh, q_lkt, q_fzO, q_fzsO, q_fzI, q_fzB, q_fzX, q_fzN, q_fzL, q_fzT, q_fzS, q_fzn, q_fzc, fzs_nums, frozens_nums, fzs_dl, frozens_dl, q_catL, q_catT, q_repL, q_repT, q_ixSet, nums_len, dl_len, dl_app, dl_push, dl_set, nums_app, nums_push, nums_rev, nums_take, nums_drop, nums_dropLast, nums_set, nums_rep, q_bind, q_map, q_isN, q_notN, q_isNn, q_isNi, q_isNb, q_isNx, q_isNt, q_isNl, q_not1, q_not0, Int.reducePow, Int.reduceToNat, Int.reduceNeg]; first | done | (with_reducible rfl) | rfl | fail "vx") | rfl)
local macro_rules | `(tactic| walk_at "v1") => `(tactic| (first | with_reducible refine ws_tApp ?_ | with_reducible refine ws_tPut ?_ | with_reducible refine ws_tDput ?_ | with_reducible refine ws_tAug ?_ | with_reducible refine ws_putE ?_ | with_reducible refine wp_MvT ?_ | with_reducible refine wp_RevS ?_ | with_reducible refine wp_CallC ?_ | with_reducible refine wp_MethL ?_ | with_reducible refine wp_MethC ?_ | with_reducible refine wp_LRg1 ?_ | with_reducible refine wp_LRg2 ?_ | with_reducible refine wp_Disp1 ?_ | with_reducible refine wp_SortA ?_ | with_reducible refine wp_SortDA ?_ | fail "v1"))
section
set_option Elab.async false
set_option linter.all false
set_option maxRecDepth 100000
set_option maxHeartbeats 0
theorem takeG {α : Type} [Inhabited α] {l : List α} {i : Nat} (h : i < l.length) : l.take (i + 1) = l.take i ++ [l.getD i default] := by
  rw [List.take_succ, List.getElem?_eq_getElem h, List.getD_eq_getElem?_getD, List.getElem?_eq_getElem h]; rfl
theorem p2_g {g : D → D → Option D} {pa pb : VEnv → Option D} {e : VEnv} {a b : D} {r : Option D} (ha : pa e = some a) (hb : pb e = some b) (h : g a b = r) : p2 g pa pb e = r := by
  unfold p2
  rw [ha, hb]; exact h
theorem wp_tPv {p : VEnv → Option D} {e : VEnv} {b : Bool} {Q : Bool → VEnv → Prop} {E : XQ} (h : p e = some (.bl b)) (k : Q b e) : wp (tP p) e Q E := wp_tP (ev_i (d := b) (by rw [h]; rfl) k)
def LOW : List Nat := ("abcdefghijklmnopqrstuvwxyz" : Str).cps.toList
def DIG : List Nat := ("0123456789" : Str).cps.toList
def RES : List Str := ["true", "false", "exists", "forall"]
def isNm (x : Str) : Bool := match x.cps.toList with
  | [] => false
  | c :: l => decide (c ∈ LOW) && (!(RES.any fun y => y == x) && (c :: l).all fun c => decide (c ∈ LOW) || decide (c ∈ DIG))
theorem str_nil {x : Str} (h : x.cps.toList = []) : x = "" := by
  have e0 : ("" : Str) = ⟨#[]⟩ := by decide +kernel
  rw [e0]
  cases x with
  | mk a =>
    have : a = #[] := by rw [← Array.toList_inj]; exact h
    rw [this]
theorem str_cons {x : Str} {c : Nat} {l : List Nat} (h : x.cps.toList = c :: l) : (x == "") = false := by
  cases hb : (x == "") with
  | false => rfl
  | true =>
    have := eq_of_beq hb
    subst this
    have e : ("" : Str).cps.toList = [] := by decide +kernel
    rw [e] at h
    cases h
theorem signs_get {x : Str} {i : Nat} {d : D} (h : (signs x)[i]? = some d) : i < x.cps.toList.length ∧ d = .str ⟨#[x.cps.toList.getD i 0]⟩ := by
  unfold signs at h
  rw [List.getElem?_map] at h
  obtain ⟨c, e1, e2⟩ := Option.map_eq_some_iff.mp h
  obtain ⟨hi, e3⟩ := List.getElem?_eq_some_iff.mp e1
  subst e2
  refine ⟨hi, ?_⟩
  rw [List.getD_eq_getElem?_getD, e1]; rfl
theorem pNotInS_i {p q : VEnv → Option D} {e : VEnv} {c : Nat} {y : Str} (h1 : p e = some (.str ⟨#[c]⟩)) (h2 : q e = some (.str y)) : pNotInS p q e = some (.bl (!decide (c ∈ y.cps.toList))) := p2_g h1 h2 rfl
theorem fw_is_name {x : Str} {Q : D → List D → Prop} {X : Str → Option (Str × D) → List D → Prop} (ok : PyData.strOk x = true) (hl : x.length ≤ 1000) (q : Q (.bl (isNm x)) []) : Fw run_is_name [.str x] Q X := by
  with_reducible refine fr_is_name ?_
  unfold b_is_name
  with_reducible refine ws_seq ?_
  with_reducible refine ws_if ?_
  with_reducible refine wp_tOr ?_
  with_reducible refine wp_tPv (b := x == "") ?_ ?_
  · exact p2_g rfl rfl (q_eqS ok (by decide +kernel))
  cases hx : x.cps.toList with
  | nil =>
    have hq : isNm x = false := by unfold isNm; rw [hx]
    rw [hq] at q
    rw [str_nil hx, beq_self_eq_true]
    with_reducible refine ifb_t ?_
    with_reducible refine ifb_t ?_
    walk_at "vs"
    exact q
  | cons c l =>
    have hlen : x.length = l.length + 1 := by
      show x.cps.size = _
      rw [← Array.length_toList, hx]; rfl
    have hq : isNm x = (decide (c ∈ LOW) && (!(RES.any fun y => y == x) && (c :: l).all fun c => decide (c ∈ LOW) || decide (c ∈ DIG))) := by
      unfold isNm
      rw [hx]
    rw [str_cons hx]
    with_reducible refine ifb_f ?_
    with_reducible refine wp_tOr ?_
    with_reducible refine wp_tPv (b := !decide (c ∈ LOW)) ?_ ?_
    · refine pNotInS_i (c := c) ?_ rfl
      refine p2_g (a := .str x) (b := .int 0) rfl rfl ?_
      rw [gIx_chr (by rw [q_szl]; omega) (Int.le_refl 0) (by omega)]
      show some (D.str ⟨#[x.cps.toList.getD 0 0]⟩) = _
      rw [hx]; rfl
    cases h1 : decide (c ∈ LOW)
    · rw [hq, h1] at q
      rw [Bool.not_false]
      with_reducible refine ifb_t ?_
      with_reducible refine ifb_t ?_
      walk_at "vs"
      exact q
    rw [Bool.not_true]
    with_reducible refine ifb_f ?_
    with_reducible refine wp_tPv (b := RES.any fun y => y == x) ?_ ?_
    · exact pIn_i rfl rfl (l := RES) rfl rfl
    cases h2 : RES.any fun y => y == x
    rotate_left
    · rw [hq, h1, h2] at q
      with_reducible refine ifb_t ?_
      walk_at "vs"
      exact q
    rw [h1, h2] at hq
    with_reducible refine ifb_f ?_
    with_reducible refine ws_nil ?_
    with_reducible refine ws_seq ?_
    with_reducible refine ws_for ?_
    with_reducible refine wp_iStr ?_
    walk_at "vs"
    refine ev_i (d := x) rfl ?_
    have hall : isNm x = x.cps.toList.all fun c => decide (c ∈ LOW) || decide (c ∈ DIG) := by
      rw [hq, hx]; rfl
    refine ws_forI (fun i e => ∃ y, ((x.cps.toList.take i).all fun c => decide (c ∈ LOW) || decide (c ∈ DIG)) = true ∧ e = [some (.str x), y]) ⟨none, rfl, rfl⟩ ?_ ?_
    · rintro i d _ hi ⟨y, hy, rfl⟩
      obtain ⟨hi1, rfl⟩ := signs_get hi
      have htk : x.cps.toList.take (i + 1) = x.cps.toList.take i ++ [x.cps.toList.getD i 0] := takeG (α := Nat) hi1
      have hm : x.cps.toList.getD i 0 ∈ x.cps.toList := getD_mem (α := Nat) hi1
      generalize x.cps.toList.getD i 0 = k at htk hm
      walk_at "vs"
      with_reducible refine ev_i (d := !decide (k ∈ LOW)) ?_ ?_
      · rw [pNotInS_i (c := k) rfl rfl]; rfl
      cases k1 : decide (k ∈ LOW)
      rotate_left
      · rw [Bool.not_true]
        with_reducible refine ifb_f ?_
        with_reducible refine ifb_f ?_
        walk_at "vs"
        exact ⟨_, by rw [htk, List.all_append, hy, List.all_cons, k1]; rfl, rfl⟩
      rw [Bool.not_false]
      with_reducible refine ifb_t ?_
      with_reducible refine wp_tPv (b := !decide (k ∈ DIG)) ?_ ?_
      · exact pNotInS_i (c := k) rfl rfl
      cases k2 : decide (k ∈ DIG)
      rotate_left
      · rw [Bool.not_true]
        with_reducible refine ifb_f ?_
        walk_at "vs"
        exact ⟨_, by rw [htk, List.all_append, hy, List.all_cons, k1, k2]; rfl, rfl⟩
      · rw [Bool.not_false]
        with_reducible refine ifb_t ?_
        walk_at "vs"
        have hf : isNm x = false := by
          cases hb : isNm x with
          | false => rfl
          | true =>
            rw [hall] at hb
            have := List.all_eq_true.mp hb k hm
            rw [k1, k2] at this
            cases this
        rw [hf] at q
        exact q
    · rintro _ ⟨y, hy, rfl⟩
      have hlen2 : (signs x).length = x.cps.toList.length := by unfold signs; rw [List.length_map]
      rw [hlen2, List.take_length, ← hall] at hy
      rw [hy] at q
      walk_at "vs"
      exact q
end
section
set_option Elab.async false
set_option linter.all false
set_option maxRecDepth 100000
set_option maxHeartbeats 0
local macro_rules | `(tactic| walk_at "vx") => `(tactic| (simp (disch := (first | decide +kernel | walk_at "vd")) only [fz_eF, fz_eN, fzK, List.length_cons, List.length_nil, q_pIn, q_pNotIn, inK, in2, in5, dixS, q_eqSC (k := true), q_eqSC (k := false), cutF1, cutF2, q_int1, q_int0, q_at3, q_at4, q_var0, q_varS, q_c, q_p2, q_p1, q_gI, q_gAdd, q_fadd, q_sub, q_mod, q_gIB, q_int, q_asInt, q_asBl, q_eqI, q_neI, q_seqL, q_seqT, q_seqS, q_seqK, q_eqB, q_neB, q_lenL, q_lenT, q_ixL, q_ixT, q_at0, q_at1, q_at2, q_get0, q_getS, q_join, q_lst0, q_lstS, q_agDn, q_agDl, q_agDr, q_outn, q_outt, q_outf, q_tg0, q_tgS, q_bdn, q_bds, q_slT, q_tupL, q_tupT, q_asLst, q_isE, q_fzO, q_fzsO, q_fzI, q_fzB, q_fzX, q_fzN, q_fzL, q_fzT, q_fzn, q_fzc, fzs_dl, frozens_dl, q_bind, q_map]; first | done | (with_reducible rfl) | rfl | fail "vx"))
local macro_rules | `(tactic| walk_at "ve") => `(tactic| (first | (with_reducible rfl) | walk_at "vx" | fail "ve"))
local macro_rules | `(tactic| walk_at "vf") => `(tactic| (first | exact fro_eF | exact fro_eN | exact frK | (simp only [D.frozen, D.frozens, fro_eF, fro_eN, frozens_dl, Bool.and_self, Bool.and_true, Bool.true_and, Bool.not_false]; done) | fail "vf"))
local macro_rules | `(tactic| walk_at "v1") => `(tactic| first | (with_reducible refine ifb_id ?_; first | with_reducible refine ifb_tt (by decide +kernel) ?_ | with_reducible refine ifb_ff (by decide +kernel) ?_ | fail "v1") | (with_reducible refine ws_id ?_; first | with_reducible refine ws_forC ?_ | with_reducible refine ws_forN ?_ | fail "v1") | (with_reducible refine wp_id ?_; first | with_reducible refine wp_Join ?_ | with_reducible refine wp_SortL ?_ | with_reducible refine wp_SortD ?_ | with_reducible refine wp_DispS ?_ | fail "v1") | fail "v1")
local macro_rules | `(tactic| walk_at "vI") => `(tactic| ((with_reducible refine ws_seq (f := sIf _ _ _) ?_); (with_reducible refine ws_if ?_)))
/-- names of signals, all different -/
structure NG (ns : List Str) : Prop where
  nd : ns.Nodup
  ok : ∀ x ∈ ns, PyData.strOk x = true
  nm : ∀ x ∈ ns, isNm x = true
  le : ∀ x ∈ ns, x.length ≤ 4
  ln : ns.length ≤ 8
def CHL : List Nat := CH.cps.toList
theorem chl_len : CHL.length = 36 := by decide +kernel
theorem chl_in : (CHL.all fun c => decide (c ∈ LOW) || decide (c ∈ DIG)) = true := by decide +kernel
theorem ch_low : ∀ s < 26, CHL.getD s 0 ∈ LOW := by decide +kernel
theorem tbl_low : ∀ k < 8, tbl k ∈ LOW := by decide +kernel
theorem res_last : ∀ k < 8, (RES.all fun y => !(decide (lastC y = some (tbl k)))) = true := by decide +kernel
theorem join_cps {cs : List Nat} (h : cs.length ≤ 2) : (Txt.join "" (cs.map one)).cps.toList = cs := by
  have e0 : ("" : Str) = ⟨#[]⟩ := by decide +kernel
  rw [e0]
  match cs, h with
  | [], _ => rfl
  | [a], _ => rfl
  | [a, b], _ => rfl
  | _ :: _ :: _ :: _, h => simp only [List.length_cons] at h; omega
theorem cps_app {x y : Str} : (x ++ y).cps.toList = x.cps.toList ++ y.cps.toList := Array.toList_append
theorem nm_ok {s : Int} {k : Nat} {mid : Str} {cs : List Nat} (s0 : 0 ≤ s) (s1 : s < 26) (hk : k < 8) (hm : mid.cps.toList = cs) (hc : ∀ c ∈ cs, c ∈ CHL) : isNm ((chr CH s ++ mid) ++ chr "xqzjkvbw" (k : Int)) = true := by
  have hl : lastC ((chr CH s ++ mid) ++ chr "xqzjkvbw" (k : Int)) = some (tbl k) := by rw [last_app]; rfl
  have e : ((chr CH s ++ mid) ++ chr "xqzjkvbw" (k : Int)).cps.toList = CHL.getD s.toNat 0 :: (cs ++ [tbl k]) := by
    rw [cps_app, cps_app, hm]; rfl
  have h1 : CHL.getD s.toNat 0 ∈ LOW := ch_low s.toNat (by omega)
  have h3 := tbl_low k hk
  have h2 : (RES.any fun y => y == (chr CH s ++ mid) ++ chr "xqzjkvbw" (k : Int)) = false := by
    rw [List.any_eq_false]
    intro y hy hb
    have hb := eq_of_beq hb
    have := List.all_eq_true.mp (res_last k hk) y hy
    rw [hb, hl] at this
    simp at this
  unfold isNm
  rw [e]
  dsimp only
  rw [h2, decide_eq_true h1, List.all_cons, List.all_append, List.all_cons, decide_eq_true h1, decide_eq_true h3]
  have h4 : (cs.all fun c => decide (c ∈ LOW) || decide (c ∈ DIG)) = true := List.all_eq_true.mpr fun c h => List.all_eq_true.mp chl_in c (hc c h)
  rw [h4]
  rfl
theorem fw_name2 {dr : List Int} {k : Nat} {Q : D → List D → Prop} {X : Str → Option (Str × D) → List D → Prop} (hd : DrOk dr) (hk : k < 8) (q : ∀ x dr', PyData.strOk x = true → isNm x = true → x.length ≤ 4 → lastC x = some (tbl k) → DrOk dr' → Q (.str x) [.lst true (nums dr')]) : Fw run__law_name [.lst true (nums dr), .int k] Q X := by
  refine fr__law_name ?_
  unfold b__law_name
  walk_at "vs"
  refine fw_take hd (by omega) fun r dr1 r0 r1 hd1 => ?_
  clear hd
  walk_at "vs"
  refine wp_lcI (fun i acc e => ∃ cs dr, acc = dS (cs.map one) ∧ cs.length = i ∧ (∀ c ∈ cs, c < 1114112 ∧ c ∈ CHL) ∧ DrOk dr ∧ e = [some (.lst true (nums dr)), some (.int k), some (.str CH), none, none]) ⟨[], dr1, rfl, rfl, (fun _ h => nomatch h), hd1, rfl⟩ ?_ ?_
  · rintro i d _ _ hi ⟨cs, dr, rfl, hl, hc, hd, rfl⟩
    obtain ⟨hi1, rfl⟩ := dInts_get hi
    walk_at "vs"
    refine fw_take hd (by omega) fun s dr1 s0 s1 hd1 => ?_
    walk_at "vs"
    refine evf_i (ch_ix s0 s1) rfl ?_
    have hln : (dl D.str (cs.map one)).length = i := by rw [dl_len, List.length_map]; exact hl
    refine ⟨by rw [hln]; show i < 16777216; omega, ?_⟩
    walk_at "vs"
    refine ⟨cs ++ [CH.cps.toList.getD s.toNat 0], dr1, ?_, by simp [hl], ?_, hd1, rfl⟩
    · rw [List.map_append]; exact dl_push
    · intro c hcc
      rcases List.mem_append.mp hcc with h | h
      · exact hc c h
      · rw [List.mem_singleton.mp h]; exact ⟨chr_lt ch_ok, getD_mem (α := Nat) (by show s.toNat < CHL.length; rw [chl_len]; omega)⟩
  rintro _ _ ⟨cs, dr, rfl, hl, hc, hd, rfl⟩
  rw [dInts_len] at hl
  obtain ⟨j1, j2, j3⟩ := join_ok (cs := cs) (by omega) fun c h => (hc c h).1
  have j4 := join_cps (cs := cs) (by omega)
  refine ev_i (gJoin_dS j3) ?_
  generalize Txt.join "" (cs.map one) = mid at j1 j2 j4
  walk_at "vs"
  refine fw_take hd (by omega) fun s dr1 s0 s1 hd1 => ?_
  walk_at "vs"
  refine evf_i (ch_ix s0 (by omega)) rfl ?_
  walk_at "vs"
  have c1 : (chr CH s).length = 1 := rfl
  have c2 : (chr "xqzjkvbw" (k : Int)).length = 1 := rfl
  refine evf_i (gStrAdd_i (by rw [c1]; show 1 + mid.length ≤ 16777216; omega)) rfl ?_
  walk_at "vs"
  refine evf_i (xq_ix (i := (k : Int)) (by omega) (by omega)) rfl ?_
  refine evf_i (gStrAdd_i (by rw [c2, len_app, c1]; show 1 + mid.length + 1 ≤ 16777216; omega)) rfl ?_
  walk_at "vs"
  refine q _ _ (strOk_app (strOk_app (strOk_chr ch_ok) j1) (strOk_chr xq_ok)) (nm_ok s0 s1 hk j4 fun c h => (hc c h).2) ?_ ?_ hd1
  · rw [len_app, len_app, c1, c2]; omega
  · rw [last_app]; rfl
theorem fw_names2 {dr : List Int} {n : Int} {Q : D → List D → Prop} {X : Str → Option (Str × D) → List D → Prop} (hd : DrOk dr) (h1 : 1 ≤ n) (h3 : n ≤ 8) (q : ∀ ns dr', NG ns → (ns.length : Int) = n → DrOk dr' → Q (.lst true (dS ns)) [.lst true (nums dr')]) : Fw run__law_names [.lst true (nums dr), .int n] Q X := by
  refine fr__law_names ?_
  unfold b__law_names
  walk_at "vs"
  refine wp_lcI (fun i acc e => ∃ ns dr, acc = dS ns ∧ ns.length = i ∧ (∀ x ∈ ns, (PyData.strOk x = true ∧ isNm x = true ∧ x.length ≤ 4) ∧ ∃ j, j < i ∧ lastC x = some (tbl j)) ∧ ns.Nodup ∧ DrOk dr ∧ e = [some (.lst true (nums dr)), some (.int n), none]) ⟨[], dr, rfl, rfl, (fun _ h => nomatch h), List.nodup_nil, hd, rfl⟩ ?_ ?_
  · rintro i d _ _ hi ⟨ns, dr, rfl, hl, hx, hn, hd, rfl⟩
    obtain ⟨hi1, rfl⟩ := dInts_get hi
    rw [Int.zero_add]
    walk_at "vs"
    refine fw_name2 hd (by omega) fun x dr1 hk hnm hlen hlst hd1 => ?_
    walk_at "vs"
    refine ⟨ns ++ [x], dr1, dl_push, by simp [hl], ?_, ?_, hd1, rfl⟩
    · intro y hy
      rcases List.mem_append.mp hy with h | h
      · obtain ⟨a, j, b, c⟩ := hx y h
        exact ⟨a, j, by omega, c⟩
      · rw [List.mem_singleton.mp h]; exact ⟨⟨hk, hnm, hlen⟩, i, by omega, hlst⟩
    · rw [List.nodup_append]
      refine ⟨hn, by simp, ?_⟩
      intro a ha b hb e
      rw [List.mem_singleton.mp hb] at e
      subst e
      obtain ⟨_, j, b, c⟩ := hx _ ha
      rw [hlst] at c
      have := tbl_inj (i := i) (j := j) (by omega) (by omega) (Option.some.inj c)
      omega
  rintro _ _ ⟨ns, dr, rfl, hl, hx, hn, hd, rfl⟩
  rw [dInts_len] at hl
  walk_at "vs"
  exact q ns dr ⟨hn, fun x h => (hx x h).1.1, fun x h => (hx x h).1.2.1, fun x h => (hx x h).1.2.2, by omega⟩ (by omega) hd
end
section
set_option Elab.async false
set_option linter.all false
set_option maxRecDepth 100000
set_option maxHeartbeats 0
local macro_rules | `(tactic| walk_at "vx") => `(tactic| (simp (disch := (first | decide +kernel | walk_at "vd")) only [fz_eF, fz_eN, fzK, List.length_cons, List.length_nil, q_pIn, q_pNotIn, inK, in2, in5, dixS, q_eqSC (k := true), q_eqSC (k := false), cutF1, cutF2, q_int1, q_int0, q_at3, q_at4, q_var0, q_varS, q_c, q_p2, q_p1, q_gI, q_gAdd, q_fadd, q_sub, q_mod, q_gIB, q_int, q_asInt, q_asBl, q_eqI, q_neI, q_seqL, q_seqT, q_seqS, q_seqK, q_eqB, q_neB, q_lenL, q_lenT, q_ixL, q_ixT, q_at0, q_at1, q_at2, q_get0, q_getS, q_join, q_lst0, q_lstS, q_agDn, q_agDl, q_agDr, q_outn, q_outt, q_outf, q_tg0, q_tgS, q_bdn, q_bds, q_slT, q_tupL, q_tupT, q_asLst, q_isE, q_fzO, q_fzsO, q_fzI, q_fzB, q_fzX, q_fzN, q_fzL, q_fzT, q_fzn, q_fzc, fzs_dl, frozens_dl, q_bind, q_map]; first | done | (with_reducible rfl) | rfl | fail "vx"))
local macro_rules | `(tactic| walk_at "ve") => `(tactic| (first | (with_reducible rfl) | walk_at "vx" | fail "ve"))
local macro_rules | `(tactic| walk_at "vf") => `(tactic| (first | exact fro_eF | exact fro_eN | exact frK | (simp only [D.frozen, D.frozens, fro_eF, fro_eN, frozens_dl, Bool.and_self, Bool.and_true, Bool.true_and, Bool.not_false]; done) | fail "vf"))
local macro_rules | `(tactic| walk_at "v1") => `(tactic| first | (with_reducible refine ifb_id ?_; first | with_reducible refine ifb_tt (by decide +kernel) ?_ | with_reducible refine ifb_ff (by decide +kernel) ?_ | fail "v1") | (with_reducible refine ws_id ?_; first | with_reducible refine ws_forC ?_ | with_reducible refine ws_forN ?_ | fail "v1") | (with_reducible refine wp_id ?_; first | with_reducible refine wp_Join ?_ | with_reducible refine wp_SortL ?_ | with_reducible refine wp_SortD ?_ | with_reducible refine wp_DispS ?_ | fail "v1") | fail "v1")
local macro_rules | `(tactic| walk_at "vI") => `(tactic| ((with_reducible refine ws_seq (f := sIf _ _ _) ?_); (with_reducible refine ws_if ?_)))
local macro_rules | `(tactic| walk_at "v1") => `(tactic| first | with_reducible refine wp_SlE ?_ | with_reducible refine wp_bdN ?_ | with_reducible refine wp_bdS ?_ | with_reducible refine wp_optS ?_ | fail "v1")
/-- a property's value -/
structure PrD (d : D) : Prop where
  fro : d.frozen = true
  fz : d.fz = d
  de : ∀ n, 20 ≤ n → DE n d d true
  bare : d.bare = true
theorem ok_U2 {o : U} : PyData.strOk (nmU o) = true := by cases o <;> decide +kernel
theorem de_ee : ∀ {g : Fm} {n : Nat}, dp g ≤ n → (∀ x ∈ lv g, PyData.strOk x = true) → DE n (eF g) (eF g) true
  | g, 0, h, _ => by have := dp_pos (f := g); omega
  | .tt, n + 1, _, _ => DE.to (DE.tup (DEs.cons (DE.str (i := "true") (j := "true") (by decide +kernel) (by decide +kernel)) DEs.nil)) (by decide +kernel)
  | .ff, n + 1, _, _ => DE.to (DE.tup (DEs.cons (DE.str (i := "false") (j := "false") (by decide +kernel) (by decide +kernel)) DEs.nil)) (by decide +kernel)
  | .sg x, n + 1, _, hx => by
    have h := hx x (by simp [lv])
    exact DE.to (DE.tup (DEs.cons (DE.str (i := "signal") (j := "signal") (by decide +kernel) (by decide +kernel)) (DEs.cons (DE.str h h) DEs.nil))) (by simp)
  | .u o f, n + 1, h, hx => by
    have ih := de_ee (g := f) (n := n) (by simp only [dp] at h; omega) (by simpa only [lv] using hx)
    exact DE.to (DE.tup (DEs.cons (DE.str ok_U2 ok_U2) (DEs.cons ih DEs.nil))) (by simp)
  | .b o f g, n + 1, h, hx => by
    have ih := de_ee (g := f) (n := n) (by simp only [dp] at h; omega) (fun x c => hx x (by simp only [lv, List.mem_append]; exact .inl c))
    have ig := de_ee (g := g) (n := n) (by simp only [dp] at h; omega) (fun x c => hx x (by simp only [lv, List.mem_append]; exact .inr c))
    exact DE.to (DE.tup (DEs.cons (DE.str ok_B ok_B) (DEs.cons ih (DEs.cons ig DEs.nil)))) (by simp)
theorem bare_eF : ∀ {f : Fm}, (eF f).bare = true
  | .tt => rfl
  | .ff => rfl
  | .sg x => rfl
  | .u o f => by
    show (D.bare (eF f) && true) = true
    rw [bare_eF]; rfl
  | .b o f g => by
    show (D.bare (eF f) && (D.bare (eF g) && true)) = true
    rw [bare_eF, bare_eF]; rfl
theorem prd_f {f : Fm} (h : dp f ≤ 8) (hx : ∀ x ∈ lv f, PyData.strOk x = true) : PrD (eF f) := ⟨fro_eF, fz_eF, fun n hn => de_ee (by omega) hx, bare_eF⟩
theorem fw_leaf0 {ns : List Str} {dr : List Int} {Q : D → List D → Prop} {X : Str → Option (Str × D) → List D → Prop} (h8 : ns.length ≤ 100) (hd : DrOk dr) (q : ∀ f dr', dp f ≤ 1 → (lv f).length ≤ 1 → (∀ x ∈ lv f, x ∈ ns) → DrOk dr' → Q (eF f) [.lst true (nums dr')]) : Fw run__law_leaf [.lst true (nums dr), .lst false (dS ns)] Q X := by
  refine fr__law_leaf ?_
  unfold b__law_leaf
  have hz : (dl D.str ns).length = ns.length := dl_len
  walk_at "vs"
  refine fw_take hd (by omega) fun r dr1 r0 r1 hd1 => ?_
  walk_at "vs"
  have two : ∀ k : Int, k = 0 ∨ k = 1 → ∃ f, dp f ≤ 1 ∧ (lv f).length ≤ 1 ∧ (∀ x ∈ lv f, x ∈ ns) ∧ ∃ y, gIx (.lst true [.str "true", .str "false"]) (.int k) = some (.str y) ∧ .tup [.str y] = eF f := fun k hk => by
    rcases hk with rfl | rfl
    · exact ⟨.tt, Nat.le_refl 1, Nat.zero_le 1, (fun _ h => nomatch h), "true", rfl, rfl⟩
    · exact ⟨.ff, Nat.le_refl 1, Nat.zero_le 1, (fun _ h => nomatch h), "false", rfl, rfl⟩
  refine ws_seqI (fun e => 1 ≤ ns.length ∧ e = [some (.lst true (nums dr1)), some (.lst false (dS ns)), some (.int r)]) ?_ ?_
  · refine ws_if ?_
    walk_at "vs"
    refine ifb_d (fun c => ?_) fun c => ?_
    · walk_at "vs"
      obtain ⟨f, f1, f2, f3, y, f4, f5⟩ := two (r % 2) (by omega)
      refine evf_i f4 rfl ?_
      walk_at "vs"
      rw [f5]
      exact q f dr1 f1 f2 f3 hd1
    · have c : ¬ ((dl D.str ns).length : Int) = 0 := c
      walk_at "vs"
      refine ifb_d (fun c => ?_) fun c => ?_
      · walk_at "vs"
        obtain ⟨f, f1, f2, f3, y, f4, f5⟩ := two (r % 2) (by omega)
        refine evf_i f4 rfl ?_
        walk_at "vs"
        rw [f5]
        exact q f dr1 f1 f2 f3 hd1
      · walk_at "vs"
        exact ⟨by omega, rfl⟩
  rintro _ ⟨h1, rfl⟩
  walk_at "vs"
  refine fw_take hd1 (by show (0 : Int) < ((dl D.str ns).length : Int); omega) fun s dr2 s0 s1 hd2 => ?_
  replace s1 : s < ns.length := by rw [← hz]; exact s1
  walk_at "vs"
  walk_at "vs"
  exact q (.sg (gd ns s)) dr2 (Nat.le_refl 1) (Nat.le_refl 1) (fun x h => by rw [List.mem_singleton.mp h]; exact gd_mem s0 s1) hd2
theorem fw_formula0 {ns : List Str} (h8 : ns.length ≤ 100) : ∀ (n m : Nat) {d bu : Int} {dr : List Int} {Q : D → List D → Prop} {X : Str → Option (Str × D) → List D → Prop}, m + 1 ≤ n → d = m → 0 ≤ bu → bu ≤ 100 → DrOk dr → (∀ f dr', dp f ≤ m + 1 → (lv f).length ≤ 2 ^ m → (∀ x ∈ lv f, x ∈ ns) → DrOk dr' → Q (eF f) [.lst true (nums dr')]) → Fw (run__law_formula n) [.lst true (nums dr), .lst false (dS ns), .int bu, .int d] Q X
  | 0, m, d, bu, dr, Q, X, hm, _, _, _, _, _ => by omega
  | n + 1, m, d, bu, dr, Q, X, hm, hdm, b0, b1, hd, q => by
    refine fr__law_formula ?_
    unfold b__law_formula
    walk_at "vs"
    refine fw_take hd (by omega) fun r dr1 r0 r1 hd1 => ?_
    clear hd
    walk_at "vs"
    have leaf : ∀ f dr', dp f ≤ 1 → (lv f).length ≤ 1 → (∀ x ∈ lv f, x ∈ ns) → DrOk dr' → Q (eF f) [.lst true (nums dr')] := fun f dr' a b c e => q f dr' (by omega) (by have := Nat.one_le_two_pow (n := m); omega) c e
    refine ws_seqI (fun e => 1 ≤ m ∧ 3 ≤ r ∧ e = [some (.lst true (nums dr1)), some (.lst false (dS ns)), some (.int bu), some (.int d), some (.int r), none, none, none, none]) ?_ ?_
    · refine ws_if ?_
      walk_at "vs"
      refine ifb_d (fun c => ?_) fun c => ?_
      · walk_at "vs"
        refine fw_leaf0 h8 hd1 fun f dr' a b c e => ?_
        walk_at "vs"
        exact leaf f dr' a b c e
      · walk_at "vs"
        refine ifb_d (fun c2 => ?_) fun c2 => ?_
        · walk_at "vs"
          refine fw_leaf0 h8 hd1 fun f dr' a b c e => ?_
          walk_at "vs"
          exact leaf f dr' a b c e
        · walk_at "vs"
          exact ⟨by omega, by omega, rfl⟩
    rintro _ ⟨m1, r3, rfl⟩
    obtain ⟨m, rfl⟩ : ∃ k, m = k + 1 := ⟨m - 1, by omega⟩
    have p2 : 2 ^ (m + 1) = 2 * 2 ^ m := by rw [Nat.pow_succ]; omega
    have qu : ∀ (o : U) f dr', dp f ≤ m + 1 → (lv f).length ≤ 2 ^ m → (∀ x ∈ lv f, x ∈ ns) → DrOk dr' → Q (.tup [.str (nmU o), eF f]) [.lst true (nums dr')] := fun o f dr' a b c e => q (.u o f) dr' (by simp only [dp]; omega) (by simp only [lv]; omega) c e
    have qb : ∀ (o : B) f g dr', dp f ≤ m + 1 → (lv f).length ≤ 2 ^ m → (∀ x ∈ lv f, x ∈ ns) → dp g ≤ m + 1 → (lv g).length ≤ 2 ^ m → (∀ x ∈ lv g, x ∈ ns) → DrOk dr' → Q (.tup [.str (nmB o), eF f, eF g]) [.lst true (nums dr')] := fun o f g dr' a b c a2 b2 c2 e => q (.b o f g) dr' (by simp only [dp]; omega) (by simp only [lv, List.length_append]; omega) (fun x hx => by
      simp only [lv, List.mem_append] at hx
      exact hx.elim (c x) (c2 x)) e
    refine ws_seqI (fun e => e = [some (.lst true (nums dr1)), some (.lst false (dS ns)), some (.int bu), some (.int d), some (.int r), none, none, none, none]) ?_ ?_
    · refine ws_if ?_
      walk_at "vs"
      refine ifb_d (fun c1 => ?_) fun c1 => ?_
      · walk_at "vs"
        refine ifb_d (fun c2 => ?_) fun c2 => ?_
        · walk_at "vs"
          walk_at "vi"
          refine ifb_d (fun c3 => ?_) fun c3 => ?_
          · walk_at "vs"
            obtain ⟨o, ho⟩ := un_ix (i := r - 3) (by omega) (by omega)
            refine evf_i (d := .str (nmU o)) ho rfl ?_
            walk_at "vs"
            refine fw_formula0 h8 n m (by omega) (by omega) (by omega) (by omega) hd1 fun f dr' a b c e => ?_
            walk_at "vs"
            exact qu o f dr' a b c e
          · walk_at "vs"
            obtain ⟨o, ho⟩ := bi_ix (i := r - 10) (by omega) (by omega)
            refine evf_i (d := .str (nmB o)) ho rfl ?_
            walk_at "vs"
            have hok := ok_B (o := o)
            have hw := ok_wu
            refine ws_seqI (fun e => ∃ o : B, e = [some (.lst true (nums dr1)), some (.lst false (dS ns)), some (.int bu), some (.int d), some (.int r), some (.lst true [D.str "next", .str "eventually", .str "always", .str "previous", .str "weak_previous", .str "once", .str "historically"]), some (.str (nmB o)), none, none]) ?_ ?_
            · refine ws_if ?_
              walk_at "vs"
              refine ifb_d (fun c4 => ?_) fun c4 => ?_
              · walk_at "vs"
                refine ifb_i (fun c5 => ?_) fun c5 => ?_
                · walk_at "vs"
                  exact ⟨.un, rfl⟩
                · walk_at "vs"
                  exact ⟨o, rfl⟩
              · walk_at "vs"
                exact ⟨o, rfl⟩
            clear hok ho o
            rintro _ ⟨o, rfl⟩
            walk_at "vs"
            refine fw_take hd1 (by omega) fun s dr2 s0 s1 hd2 => ?_
            walk_at "vs"
            refine fw_formula0 h8 n m (by omega) (by omega) (by omega) (by omega) hd2 fun f dr3 a b c e => ?_
            walk_at "vs"
            refine fw_formula0 h8 n m (by omega) (by omega) (by omega) (by omega) e fun g dr4 a2 b2 c2 e2 => ?_
            walk_at "vs"
            exact qb o f g dr4 a b c a2 b2 c2 e2
        · walk_at "vs"
          rfl
      · walk_at "vs"
        rfl
    rintro _ rfl
    walk_at "vi"
    refine ifb_d (fun c3 => ?_) fun c3 => ?_
    · walk_at "vs"
      refine fw_formula0 h8 n m (by omega) (by omega) (by omega) (by omega) hd1 fun f dr' a b c e => ?_
      walk_at "vs"
      exact qu .nt f dr' a b c e
    · walk_at "vs"
      obtain ⟨o, ho⟩ := lo_ix (i := r % 4) (by omega) (by omega)
      refine evf_i (d := .str (nmB o)) ho rfl ?_
      walk_at "vs"
      have hok := ok_B (o := o)
      have hw := ok_iff
      refine ws_seqI (fun e => ∃ o : B, e = [some (.lst true (nums dr1)), some (.lst false (dS ns)), some (.int bu), some (.int d), some (.int r), none, some (.str (nmB o)), none, none]) ?_ ?_
      · refine ws_if ?_
        walk_at "vs"
        refine ifb_d (fun c4 => ?_) fun c4 => ?_
        · walk_at "vs"
          refine ifb_i (fun c5 => ?_) fun c5 => ?_
          · walk_at "vs"
            exact ⟨.an, rfl⟩
          · walk_at "vs"
            exact ⟨o, rfl⟩
        · walk_at "vs"
          exact ⟨o, rfl⟩
      clear hok ho o
      rintro _ ⟨o, rfl⟩
      walk_at "vs"
      refine fw_take hd1 (by omega) fun s dr2 s0 s1 hd2 => ?_
      walk_at "vs"
      refine fw_formula0 h8 n m (by omega) (by omega) (by omega) (by omega) hd2 fun f dr3 a b c e => ?_
      walk_at "vs"
      refine fw_formula0 h8 n m (by omega) (by omega) (by omega) (by omega) e fun g dr4 a2 b2 c2 e2 => ?_
      walk_at "vs"
      exact qb o f g dr4 a b c a2 b2 c2 e2
theorem des_dS : ∀ {l : List Str}, (∀ x ∈ l, PyData.strOk x = true) → ∀ n, DEs n (dS l) (dS l) true
  | [], _, _ => DEs.nil
  | x :: l, hx, n => by
    have h1 := hx x (List.mem_cons_self ..)
    exact DEs.cons (k := true) (DE.to (DE.str h1 h1) (by simp)) (des_dS (fun y hy => hx y (List.mem_cons_of_mem _ hy)) n)
theorem fros_dS : ∀ {l : List Str}, D.frozens (dS l) = true
  | [] => rfl
  | x :: l => by
    show (true && D.frozens (dS l)) = true
    rw [fros_dS]; rfl
theorem fzs_dS : ∀ {l : List Str}, D.fzs (dS l) = dS l
  | [] => rfl
  | x :: l => by
    show D.str x :: D.fzs (dS l) = _
    rw [fzs_dS]; rfl
theorem bares_dS : ∀ {l : List Str}, D.bares (dS l) = true
  | [] => rfl
  | x :: l => by
    show (true && D.bares (dS l)) = true
    rw [bares_dS]; rfl
theorem prd_q {a : Str} {hs : List Str} {f : Fm} (ha : PyData.strOk a = true) (hh : ∀ x ∈ hs, PyData.strOk x = true) (h : dp f ≤ 8) (hx : ∀ x ∈ lv f, PyData.strOk x = true) : PrD (.tup [.str a, .tup (dS hs), eF f]) := by
  refine ⟨?_, ?_, fun n hn => ?_, ?_⟩
  · show (true && (D.frozens (dS hs) && ((eF f).frozen && true))) = true
    rw [fros_dS, fro_eF]; rfl
  · show D.tup [.str a, .tup (D.fzs (dS hs)), (eF f).fz] = _
    rw [fzs_dS, fz_eF]
  · obtain ⟨n, rfl⟩ : ∃ k, n = k + 2 := ⟨n - 2, by omega⟩
    exact DE.to (DE.tup (DEs.cons (DE.str ha ha) (DEs.cons (DE.tup (des_dS hh n)) (DEs.cons (de_ee (by omega) hx) DEs.nil)))) (by simp)
  · show (true && (D.bares (dS hs) && ((eF f).bare && true))) = true
    rw [bares_dS, bare_eF]; rfl
theorem fw_property {ns : List Str} {dr : List Int} {Q : D → List D → Prop} {X : Str → Option (Str × D) → List D → Prop} (h8 : ns.length ≤ 50) (hok : ∀ x ∈ ns, PyData.strOk x = true) (hd : DrOk dr) (q : ∀ d dr', PrD d → DrOk dr' → Q d [.lst true (nums dr')]) : Fw run__law_property [.lst true (nums dr), .lst false (dS ns), .int 2, .int 2, .int 3] Q X := by
  refine fr__law_property ?_
  unfold b__law_property
  have hz : (dl D.str ns).length = ns.length := dl_len
  walk_at "vs"
  with_reducible refine ws_seq ?_
  with_reducible refine ws_if ?_
  walk_at "vs"
  refine fw_take hd (by omega) fun r dr1 r0 r1 hd1 => ?_
  walk_at "vs"
  refine ifb_d (fun c => ?_) fun c => ?_
  · walk_at "vs"
    refine fw_formula0 (by omega) 40 2 (by decide) rfl (by omega) (by omega) hd1 fun f dr2 f1 f2 f3 hd2 => ?_
    walk_at "vs"
    exact q _ _ (prd_f (by omega) fun x hx => hok x (f3 x hx)) hd2
  walk_at "vs"
  refine fw_take hd1 (by omega) fun t dr2 t0 t1 hd2 => ?_
  walk_at "vs"
  obtain ⟨hs, hs1, hs2, hs3⟩ : ∃ hs : List Str, (∀ x ∈ hs, PyData.strOk x = true) ∧ hs.length ≤ 2 ∧ cutD [D.str "h1", D.str "k2"] none (some (1 + t / 4)) = dS hs := by
    rcases (show t / 4 = 0 ∨ t / 4 = 1 by omega) with h | h
    · rw [h]; exact ⟨["h1"], by decide +kernel, by decide, rfl⟩
    · rw [h]; exact ⟨["h1", "k2"], by decide +kernel, by decide, rfl⟩
  rw [hs3]
  refine ⟨fros_dS, ?_⟩
  have hcat : gCat (D.fz (.lst true (dS ns))) (D.fz (.lst true (dS hs))) = some (.lst true (dS (ns ++ hs))) := by
    show gCat (.lst false (D.fzs (dS ns))) (.lst false (D.fzs (dS hs))) = _
    have hln : (dS ns).length + (dS hs).length ≤ sizeLine := by
      rw [show (dS ns).length = ns.length from dl_len, show (dS hs).length = hs.length from dl_len, q_szl]; omega
    rw [fzs_dS, fzs_dS, q_catL hln]
    show some (D.lst true (dS ns ++ dS hs)) = _
    exact congrArg (fun l => some (D.lst true l)) (List.map_append ..).symm
  refine ev_i hcat ?_
  have hl2 : (ns ++ hs).length ≤ 100 := by rw [List.length_append]; omega
  have hok2 : ∀ x ∈ ns ++ hs, PyData.strOk x = true := fun x hx => (List.mem_append.mp hx).elim (hok x) (hs1 x)
  generalize ns ++ hs = n2 at hl2 hok2
  walk_at "vs"
  have hfz : D.fzs (dS n2) = dS n2 := fzs_dS
  try rw [hfz]
  refine fw_formula0 hl2 40 2 (by decide) rfl (by omega) (by omega) hd2 fun f dr3 f1 f2 f3 hd3 => ?_
  walk_at "vs"
  refine fw_take hd3 (by omega) fun u dr4 u0 u1 hd4 => ?_
  walk_at "vs"
  obtain ⟨a, ha, hq⟩ : ∃ a : Str, PyData.strOk a = true ∧ gIx (.lst true [.str "exists", .str "forall"]) (.int u) = some (.str a) := by
    rcases (show u = 0 ∨ u = 1 by omega) with rfl | rfl
    · exact ⟨"exists", by decide +kernel, rfl⟩
    · exact ⟨"forall", by decide +kernel, rfl⟩
  with_reducible refine evf_i hq rfl ?_
  walk_at "vs"
  have hfz2 : D.fzs (dS hs) = dS hs := fzs_dS
  try rw [hfz2]
  exact q _ _ (prd_q ha hs1 (by omega) fun x hx => hok2 x (f3 x hx)) hd4
end
section
set_option Elab.async false
set_option linter.all false
set_option maxRecDepth 100000
set_option maxHeartbeats 0
theorem wp_MakeD {fs : M (List D)} {e : VEnv} {Q : D → VEnv → Prop} {E : XQ} {F : FN} {c : Str} {pm : List Bool} {b : Bool} (h : wp fs e (fun ds e1 => pm = true :: List.replicate (ds ++ [D.bl b]).length false ∧ ev (fzsO (ds ++ [D.bl b])) fun xs => Fw F (.ins true c [] [] :: xs) (fun d o => ∃ x, d = .non ∧ o = [x] ∧ Q x e1) (fun c' x o => ∃ y, o = [y] ∧ E c' x e1)) E) : wp (vMakeD F c pm b fs) e Q E := by
  have eq : vMakeD F c pm b fs = vMake F c pm (fs.bnd fun ds => M.ret (ds ++ [.bl b])) := by
    funext e
    unfold vMakeD vMake M.bnd M.ret
    cases fs e with
    | none => rfl
    | some r => cases r <;> rfl
  rw [eq]
  exact wp_Make (wp_bnd (wp_mono h (fun _ _ h => wp_ret h) fun _ _ _ h => h))
local macro_rules | `(tactic| walk_at "vx") => `(tactic| (simp (disch := (first | decide +kernel | walk_at "vd")) only [fz_eF, fz_eN, fzK, List.length_cons, List.length_nil, q_pIn, q_pNotIn, inK, in2, in5, dixS, q_eqSC (k := true), q_eqSC (k := false), cutF1, cutF2, q_int1, q_int0, q_at3, q_at4, q_var0, q_varS, q_c, q_p2, q_p1, q_gI, q_gAdd, q_fadd, q_sub, q_mod, q_gIB, q_int, q_asInt, q_asBl, q_eqI, q_neI, q_seqL, q_seqT, q_seqS, q_seqK, q_eqB, q_neB, q_lenL, q_lenT, q_ixL, q_ixT, q_at0, q_at1, q_at2, q_get0, q_getS, q_join, q_lst0, q_lstS, q_agDn, q_agDl, q_agDr, q_outn, q_outt, q_outf, q_tg0, q_tgS, q_bdn, q_bds, q_slT, q_tupL, q_tupT, q_asLst, q_isE, q_fzO, q_fzsO, q_fzI, q_fzB, q_fzX, q_fzN, q_fzL, q_fzT, q_fzn, q_fzc, fzs_dl, frozens_dl, q_bind, q_map]; first | done | (with_reducible rfl) | rfl | fail "vx"))
local macro_rules | `(tactic| walk_at "ve") => `(tactic| (first | (with_reducible rfl) | walk_at "vx" | fail "ve"))
local macro_rules | `(tactic| walk_at "vf") => `(tactic| (first | exact fro_eF | exact fro_eN | exact frK | (simp only [D.frozen, D.frozens, fro_eF, fro_eN, frozens_dl, Bool.and_self, Bool.and_true, Bool.true_and, Bool.not_false]; done) | fail "vf"))
local macro_rules | `(tactic| walk_at "v1") => `(tactic| first | (with_reducible refine ifb_id ?_; first | with_reducible refine ifb_tt (by decide +kernel) ?_ | with_reducible refine ifb_ff (by decide +kernel) ?_ | fail "v1") | (with_reducible refine ws_id ?_; first | with_reducible refine ws_forC ?_ | with_reducible refine ws_forN ?_ | fail "v1") | (with_reducible refine wp_id ?_; first | with_reducible refine wp_Join ?_ | with_reducible refine wp_SortL ?_ | with_reducible refine wp_SortD ?_ | with_reducible refine wp_DispS ?_ | fail "v1") | fail "v1")
local macro_rules | `(tactic| walk_at "vI") => `(tactic| ((with_reducible refine ws_seq (f := sIf _ _ _) ?_); (with_reducible refine ws_if ?_)))
local macro_rules | `(tactic| walk_at "v1") => `(tactic| first | with_reducible refine wp_SlE ?_ | with_reducible refine wp_bdN ?_ | with_reducible refine wp_bdS ?_ | with_reducible refine wp_optS ?_ | with_reducible refine wp_Prop ?_ | with_reducible refine wp_MakeD ?_ | fail "v1")
abbrev SPF : List Str := ["inputs", "outputs", "lead", "assumptions", "guarantees", "negated"]
abbrev spT (b : Bool) (ins outs : List Str) (lead : Int) (as gs : List D) (neg : Bool) : D := .ins b "Spec" SPF [.tup (dS ins), .tup (dS outs), .int lead, .tup as, .tup gs, .bl neg]
structure SpOk (ins outs : List Str) (lead : Int) : Prop where
  i3 : ins.length ≤ 3
  o3 : outs.length ≤ 3
  l0 : -3 ≤ lead
  l1 : lead ≤ 2
  nm : ∀ x ∈ ins ++ outs, isNm x = true
  nd : (ins ++ outs).Nodup
theorem dS_get {l : List Str} {i : Nat} {d : D} (h : (dS l)[i]? = some d) : i < l.length ∧ d = .str (l.getD i default) := dl_get h
--L
theorem fw_spec_initL {ins outs : List Str} {lead : Int} {as gs : List D} {neg : Bool} {Q : D → List D → Prop} {X : Str → Option (Str × D) → List D → Prop} (hi : ins.length ≤ 10) (ho : outs.length ≤ 10) (hs : ∀ x ∈ ins ++ outs, PyData.strOk x = true ∧ x.length ≤ 1000) (ha : as.length ≤ 10) (hg : gs.length ≤ 10) (hfa : D.frozens as = true) (hfg : D.frozens gs = true)
    (q1 : SpOk ins outs lead → Q .non [spT true ins outs lead as gs neg]) (q2 : ¬ SpOk ins outs lead → X "InvalidSpec" none [.ins true "Spec" [] []]) :
    Fw run_Spec___init__ [.ins true "Spec" [] [], .lst false (dS ins), .lst false (dS outs), .int lead, .lst false as, .lst false gs, .bl neg] Q X := by
  with_reducible refine fr_Spec___init__ ?_
  unfold b_Spec___init__
  have hil : (dS ins).length = ins.length := dl_len
  have hol : (dS outs).length = outs.length := dl_len
  walk_at "vs"
  have hb0 : (decide (((dS ins).length : Int) ≤ 3) && (decide (((dS outs).length : Int) ≤ 3) && (decide (-3 ≤ lead) && decide (lead ≤ 2)))) = true ↔ ins.length ≤ 3 ∧ outs.length ≤ 3 ∧ -3 ≤ lead ∧ lead ≤ 2 := by
    rw [hil, hol]
    simp only [Bool.and_eq_true, decide_eq_true_eq]
    omega
  generalize (decide (((dS ins).length : Int) ≤ 3) && (decide (((dS outs).length : Int) ≤ 3) && (decide (-3 ≤ lead) && decide (lead ≤ 2)))) = b0 at hb0
  have hall : (ins ++ outs).length ≤ 20 := by rw [List.length_append]; omega
  generalize hA : ins ++ outs = al at hs hall
  refine ws_forI (fun i e => ∃ (b : Bool) (y9 : Option D), (b = true ↔ b0 = true ∧ (∀ x ∈ al.take i, isNm x = true) ∧ (al.take i).Nodup) ∧ e = [some (.ins true "Spec" [] []), some (.lst false (dS ins)), some (.lst false (dS outs)), some (.int lead), some (.lst false as), some (.lst false gs), some (.bl neg), some (.bl b), some (.lst true (dS (al.take i))), y9]) ⟨b0, none, by simp, rfl⟩ ?_ ?_
  · rintro i d _ hi ⟨b, y9, hb, rfl⟩
    obtain ⟨hi1, rfl⟩ := dS_get hi
    have htk : al.take (i + 1) = al.take i ++ [al.getD i default] := takeG (α := Str) hi1
    have hm : al.getD i default ∈ al := getD_mem (α := Str) hi1
    generalize al.getD i default = x at htk hm
    have hx := hs x hm
    have hln : (dl D.str (al.take i)).length < sizeLine := by
      rw [dl_len, List.length_take, q_szl]; omega
    rw [htk]
    have fin : ∀ b2 : Bool, (b2 = true ↔ b = true ∧ isNm x = true ∧ x ∉ al.take i) → ∃ (b3 : Bool) (y9 : Option D), (b3 = true ↔ b0 = true ∧ (∀ y ∈ al.take i ++ [x], isNm y = true) ∧ (al.take i ++ [x]).Nodup) ∧ ([some (.ins true "Spec" [] []), some (.lst false (dS ins)), some (.lst false (dS outs)), some (.int lead), some (.lst false as), some (.lst false gs), some (.bl neg), some (.bl b2), some (.lst true (dS (al.take i) ++ [.str x])), some (.str x)] : VEnv) = [some (.ins true "Spec" [] []), some (.lst false (dS ins)), some (.lst false (dS outs)), some (.int lead), some (.lst false as), some (.lst false gs), some (.bl neg), some (.bl b3), some (.lst true (dS (al.take i ++ [x]))), y9] := fun b2 h2 => by
      refine ⟨b2, some (.str x), ?_, by rw [show dS (al.take i) ++ [D.str x] = dS (al.take i ++ [x]) from dl_push]⟩
      rw [h2, hb]
      constructor
      · rintro ⟨⟨h1, h3, h4⟩, h5, h6⟩
        refine ⟨h1, fun y hy => ?_, ?_⟩
        · rcases List.mem_append.mp hy with k | k
          · exact h3 y k
          · rw [List.mem_singleton.mp k]; exact h5
        · rw [List.nodup_append]
          refine ⟨h4, by simp, fun a ha c hc e => ?_⟩
          rw [List.mem_singleton.mp hc] at e
          exact h6 (e ▸ ha)
      · rintro ⟨h1, h3, h4⟩
        rw [List.nodup_append] at h4
        exact ⟨⟨h1, fun y hy => h3 y (List.mem_append_left _ hy), h4.1⟩, h3 x (List.mem_append_right _ (List.mem_singleton.mpr rfl)), fun k => h4.2.2 x k x (List.mem_singleton.mpr rfl) rfl⟩
    cases b with
    | false =>
      walk_at "vs"
      exact fin false (by simp)
    | true =>
      walk_at "vs"
      refine fw_is_name hx.1 hx.2 ?_
      cases hn : isNm x with
      | false =>
        rw [hn] at fin
        walk_at "vs"
        exact fin false (by simp)
      | true =>
        rw [hn] at fin
        walk_at "vs"
        refine evf_i (d := .bl (!(al.take i).any fun y => y == x)) (pNotIn_i (l := al.take i) rfl rfl rfl rfl) rfl ?_
        walk_at "vs"
        refine fin _ ?_
        rw [Bool.not_eq_true', List.any_eq_false]
        refine ⟨fun h => ⟨rfl, rfl, fun k => h x k (beq_self_eq_true x)⟩, fun h y hy e => h.2.2 ?_⟩
        rw [← eq_of_beq e]; exact hy
  rintro _ ⟨b, y9, hb, rfl⟩
  have hal : (dl D.str al).length = al.length := dl_len
  rw [hal, List.take_length] at hb
  have hok : b = true ↔ SpOk ins outs lead := by
    rw [hb, hb0]
    constructor
    · rintro ⟨⟨h1, h2, h3, h4⟩, h5, h6⟩
      exact ⟨h1, h2, h3, h4, by rw [hA]; exact h5, by rw [hA]; exact h6⟩
    · rintro ⟨h1, h2, h3, h4, h5, h6⟩
      rw [hA] at h5 h6
      exact ⟨⟨h1, h2, h3, h4⟩, h5, h6⟩
  cases b with
  | false =>
    walk_at "vi"
    exact q2 fun k => by have := hok.mpr k; cases this
  | true =>
    have q1 := q1 (hok.mp rfl)
    walk_at "vi"
    refine evf_i (d := .tup as) rfl hfa ?_
    walk_at "vs"
    refine evf_i (d := .tup gs) rfl hfg ?_
    walk_at "vs"
    exact q1
--E
theorem fw_spec_initT {ins outs : List Str} {lead : Int} {as gs : List D} {neg : Bool} {Q : D → List D → Prop} {X : Str → Option (Str × D) → List D → Prop} (hi : ins.length ≤ 10) (ho : outs.length ≤ 10) (hs : ∀ x ∈ ins ++ outs, PyData.strOk x = true ∧ x.length ≤ 1000) (ha : as.length ≤ 10) (hg : gs.length ≤ 10) (hfa : D.frozens as = true) (hfg : D.frozens gs = true)
    (q1 : SpOk ins outs lead → Q .non [spT true ins outs lead as gs neg]) (q2 : ¬ SpOk ins outs lead → X "InvalidSpec" none [.ins true "Spec" [] []]) :
    Fw run_Spec___init__ [.ins true "Spec" [] [], .tup (dS ins), .tup (dS outs), .int lead, .tup as, .tup gs, .bl neg] Q X := by
  with_reducible refine fr_Spec___init__ ?_
  unfold b_Spec___init__
  have hil : (dS ins).length = ins.length := dl_len
  have hol : (dS outs).length = outs.length := dl_len
  walk_at "vs"
  have hb0 : (decide (((dS ins).length : Int) ≤ 3) && (decide (((dS outs).length : Int) ≤ 3) && (decide (-3 ≤ lead) && decide (lead ≤ 2)))) = true ↔ ins.length ≤ 3 ∧ outs.length ≤ 3 ∧ -3 ≤ lead ∧ lead ≤ 2 := by
    rw [hil, hol]
    simp only [Bool.and_eq_true, decide_eq_true_eq]
    omega
  generalize (decide (((dS ins).length : Int) ≤ 3) && (decide (((dS outs).length : Int) ≤ 3) && (decide (-3 ≤ lead) && decide (lead ≤ 2)))) = b0 at hb0
  have hall : (ins ++ outs).length ≤ 20 := by rw [List.length_append]; omega
  generalize hA : ins ++ outs = al at hs hall
  refine ws_forI (fun i e => ∃ (b : Bool) (y9 : Option D), (b = true ↔ b0 = true ∧ (∀ x ∈ al.take i, isNm x = true) ∧ (al.take i).Nodup) ∧ e = [some (.ins true "Spec" [] []), some (.tup (dS ins)), some (.tup (dS outs)), some (.int lead), some (.tup as), some (.tup gs), some (.bl neg), some (.bl b), some (.lst true (dS (al.take i))), y9]) ⟨b0, none, by simp, rfl⟩ ?_ ?_
  · rintro i d _ hi ⟨b, y9, hb, rfl⟩
    obtain ⟨hi1, rfl⟩ := dS_get hi
    have htk : al.take (i + 1) = al.take i ++ [al.getD i default] := takeG (α := Str) hi1
    have hm : al.getD i default ∈ al := getD_mem (α := Str) hi1
    generalize al.getD i default = x at htk hm
    have hx := hs x hm
    have hln : (dl D.str (al.take i)).length < sizeLine := by
      rw [dl_len, List.length_take, q_szl]; omega
    rw [htk]
    have fin : ∀ b2 : Bool, (b2 = true ↔ b = true ∧ isNm x = true ∧ x ∉ al.take i) → ∃ (b3 : Bool) (y9 : Option D), (b3 = true ↔ b0 = true ∧ (∀ y ∈ al.take i ++ [x], isNm y = true) ∧ (al.take i ++ [x]).Nodup) ∧ ([some (.ins true "Spec" [] []), some (.tup (dS ins)), some (.tup (dS outs)), some (.int lead), some (.tup as), some (.tup gs), some (.bl neg), some (.bl b2), some (.lst true (dS (al.take i) ++ [.str x])), some (.str x)] : VEnv) = [some (.ins true "Spec" [] []), some (.tup (dS ins)), some (.tup (dS outs)), some (.int lead), some (.tup as), some (.tup gs), some (.bl neg), some (.bl b3), some (.lst true (dS (al.take i ++ [x]))), y9] := fun b2 h2 => by
      refine ⟨b2, some (.str x), ?_, by rw [show dS (al.take i) ++ [D.str x] = dS (al.take i ++ [x]) from dl_push]⟩
      rw [h2, hb]
      constructor
      · rintro ⟨⟨h1, h3, h4⟩, h5, h6⟩
        refine ⟨h1, fun y hy => ?_, ?_⟩
        · rcases List.mem_append.mp hy with k | k
          · exact h3 y k
          · rw [List.mem_singleton.mp k]; exact h5
        · rw [List.nodup_append]
          refine ⟨h4, by simp, fun a ha c hc e => ?_⟩
          rw [List.mem_singleton.mp hc] at e
          exact h6 (e ▸ ha)
      · rintro ⟨h1, h3, h4⟩
        rw [List.nodup_append] at h4
        exact ⟨⟨h1, fun y hy => h3 y (List.mem_append_left _ hy), h4.1⟩, h3 x (List.mem_append_right _ (List.mem_singleton.mpr rfl)), fun k => h4.2.2 x k x (List.mem_singleton.mpr rfl) rfl⟩
    cases b with
    | false =>
      walk_at "vs"
      exact fin false (by simp)
    | true =>
      walk_at "vs"
      refine fw_is_name hx.1 hx.2 ?_
      cases hn : isNm x with
      | false =>
        rw [hn] at fin
        walk_at "vs"
        exact fin false (by simp)
      | true =>
        rw [hn] at fin
        walk_at "vs"
        refine evf_i (d := .bl (!(al.take i).any fun y => y == x)) (pNotIn_i (l := al.take i) rfl rfl rfl rfl) rfl ?_
        walk_at "vs"
        refine fin _ ?_
        rw [Bool.not_eq_true', List.any_eq_false]
        refine ⟨fun h => ⟨rfl, rfl, fun k => h x k (beq_self_eq_true x)⟩, fun h y hy e => h.2.2 ?_⟩
        rw [← eq_of_beq e]; exact hy
  rintro _ ⟨b, y9, hb, rfl⟩
  have hal : (dl D.str al).length = al.length := dl_len
  rw [hal, List.take_length] at hb
  have hok : b = true ↔ SpOk ins outs lead := by
    rw [hb, hb0]
    constructor
    · rintro ⟨⟨h1, h2, h3, h4⟩, h5, h6⟩
      exact ⟨h1, h2, h3, h4, by rw [hA]; exact h5, by rw [hA]; exact h6⟩
    · rintro ⟨h1, h2, h3, h4, h5, h6⟩
      rw [hA] at h5 h6
      exact ⟨⟨h1, h2, h3, h4⟩, h5, h6⟩
  cases b with
  | false =>
    walk_at "vi"
    exact q2 fun k => by have := hok.mpr k; cases this
  | true =>
    have q1 := q1 (hok.mp rfl)
    walk_at "vi"
    refine evf_i (d := .tup as) rfl hfa ?_
    walk_at "vs"
    refine evf_i (d := .tup gs) rfl hfg ?_
    walk_at "vs"
    exact q1
theorem des_P : ∀ {l : List D}, (∀ d ∈ l, PrD d) → ∀ n, 20 ≤ n → DEs n l l true
  | [], _, _, _ => DEs.nil
  | d :: l, h, n, hn => DEs.cons (k := true) ((h d (List.mem_cons_self ..)).de n hn) (des_P (fun c hc => h c (List.mem_cons_of_mem _ hc)) n hn)
theorem fros_P : ∀ {l : List D}, (∀ d ∈ l, PrD d) → D.frozens l = true
  | [], _ => rfl
  | d :: l, h => by
    show (d.frozen && D.frozens l) = true
    rw [(h d (List.mem_cons_self ..)).fro, fros_P fun c hc => h c (List.mem_cons_of_mem _ hc)]; rfl
theorem fzs_P : ∀ {l : List D}, (∀ d ∈ l, PrD d) → D.fzs l = l
  | [], _ => rfl
  | d :: l, h => by
    show d.fz :: D.fzs l = _
    rw [(h d (List.mem_cons_self ..)).fz, fzs_P fun c hc => h c (List.mem_cons_of_mem _ hc)]
/-- the parts of a specification -/
structure SpP (ins outs : List Str) (as gs : List D) : Prop where
  hi : ins.length ≤ 10
  ho : outs.length ≤ 10
  hs : ∀ x ∈ ins ++ outs, PyData.strOk x = true ∧ x.length ≤ 1000
  ha : as.length ≤ 10
  hg : gs.length ≤ 10
  pa : ∀ d ∈ as, PrD d
  pg : ∀ d ∈ gs, PrD d
theorem SpP.swap {ins outs : List Str} {as gs : List D} (h : SpP ins outs as gs) : SpP outs ins as gs := ⟨h.ho, h.hi, fun x hx => h.hs x (by rw [List.mem_append] at hx ⊢; exact hx.symm), h.ha, h.hg, h.pa, h.pg⟩
theorem SpOk.dual {ins outs : List Str} {lead : Int} (h : SpOk ins outs lead) : SpOk outs ins (-1 - lead) := ⟨h.o3, h.i3, by have := h.l1; omega, by have := h.l0; omega, fun x hx => h.nm x (by rw [List.mem_append] at hx ⊢; exact hx.symm), (List.perm_append_comm.nodup_iff).mp h.nd⟩
theorem fw_outcome {ins outs : List Str} {lead : Int} {as gs : List D} {neg sh : Bool} {Q : D → List D → Prop} {X : Str → Option (Str × D) → List D → Prop} (h : SpP ins outs as gs)
    (q1 : SpOk ins outs lead → Q (spT true ins outs lead as gs neg) []) (q2 : ¬ SpOk ins outs lead → Q .non []) :
    Fw run__law_outcome [.lst false (dS ins), .lst false (dS outs), .int lead, .lst false as, .lst false gs, .bl neg, .bl sh] Q X := by
  with_reducible refine fr__law_outcome ?_
  unfold b__law_outcome
  have hfa := fros_P h.pa
  have hfg := fros_P h.pg
  walk_at "vs"
  have hlA : D.frozen (.lst false as) = true := by show (!false && D.frozens as) = true; rw [hfa]; rfl
  have hlG : D.frozen (.lst false gs) = true := by show (!false && D.frozens gs) = true; rw [hfg]; rfl
  have hzA : D.fzs as = as := fzs_P h.pa
  have hzG : D.fzs gs = gs := fzs_P h.pg
  with_reducible refine ws_seq ?_
  with_reducible refine ws_if ?_
  cases sh
  · walk_at "vs"
    refine evf_i (d := .lst false as) rfl hlA ?_
    walk_at "vs"
    refine evf_i (d := .lst false gs) rfl hlG ?_
    walk_at "vs"
    rw [hzA, hzG]
    with_reducible refine fw_spec_initL h.hi h.ho h.hs h.ha h.hg hfa hfg (fun ok => ?_) fun no => ?_
    · refine ⟨_, rfl, rfl, ?_⟩
      walk_at "vs"
      exact q1 ok
    · refine ⟨_, rfl, ?_⟩
      refine th_yes0 rfl ?_
      walk_at "vs"
      exact q2 no
  · cases neg
    · walk_at "vs"
      refine evf_i (d := .lst false as) rfl hlA ?_
      walk_at "vs"
      refine evf_i (d := .lst false gs) rfl hlG ?_
      walk_at "vs"
      have e2 : D.fzs ([D.lst false (dS ins), D.lst false (dS outs), D.int lead, D.lst false as, D.lst false gs] ++ [D.bl false]) = [.lst false (dS ins), .lst false (dS outs), .int lead, .lst false as, .lst false gs, .bl false] := by
        show [D.lst false (D.fzs (dS ins)), .lst false (D.fzs (dS outs)), .int lead, .lst false (D.fzs as), .lst false (D.fzs gs), .bl false] = _
        rw [fzs_dS, fzs_dS, hzA, hzG]
      rw [e2]
      with_reducible refine fw_spec_initL h.hi h.ho h.hs h.ha h.hg hfa hfg (fun ok => ?_) fun no => ?_
      · refine ⟨_, rfl, rfl, ?_⟩
        walk_at "vs"
        exact q1 ok
      · refine ⟨_, rfl, ?_⟩
        refine th_yes0 rfl ?_
        walk_at "vs"
        exact q2 no
    · walk_at "vs"
      refine evf_i (d := .lst false as) rfl hlA ?_
      walk_at "vs"
      refine evf_i (d := .lst false gs) rfl hlG ?_
      walk_at "vs"
      rw [hzA, hzG]
      with_reducible refine fw_spec_initL h.hi h.ho h.hs h.ha h.hg hfa hfg (fun ok => ?_) fun no => ?_
      · refine ⟨_, rfl, rfl, ?_⟩
        walk_at "vs"
        exact q1 ok
      · refine ⟨_, rfl, ?_⟩
        refine th_yes0 rfl ?_
        walk_at "vs"
        exact q2 no
theorem fw_signals {ins outs : List Str} {lead : Int} {as gs : List D} {neg : Bool} {Q : D → List D → Prop} {X : Str → Option (Str × D) → List D → Prop} (h : SpP ins outs as gs) (q : Q (.tup (dS (ins ++ outs))) []) : Fw run_Spec_signals [spT false ins outs lead as gs neg] Q X := by
  with_reducible refine fr_Spec_signals ?_
  unfold b_Spec_signals
  have hi := h.hi
  have ho := h.ho
  have hfa := fros_P h.pa
  have hfg := fros_P h.pg
  have hil : (dS ins).length = ins.length := dl_len
  have hol : (dS outs).length = outs.length := dl_len
  walk_at "vs"
  exact q
theorem fw_dual {ins outs : List Str} {lead : Int} {as gs : List D} {neg : Bool} {Q : D → List D → Prop} {X : Str → Option (Str × D) → List D → Prop} (h : SpP ins outs as gs) (ok : SpOk ins outs lead) (q : Q (spT true outs ins (-1 - lead) as gs (!neg)) []) : Fw run_dual [spT false ins outs lead as gs neg] Q X := by
  with_reducible refine fr_dual ?_
  unfold b_dual
  have hfa := fros_P h.pa
  have hfg := fros_P h.pg
  have hzA : D.fzs as = as := fzs_P h.pa
  have hzG : D.fzs gs = gs := fzs_P h.pg
  walk_at "vs"
  refine evf_i (d := .tup as) rfl hfa ?_
  walk_at "vs"
  refine evf_i (d := .tup gs) rfl hfg ?_
  walk_at "vs"
  rw [hzA, hzG]
  with_reducible refine fw_spec_initT h.ho h.hi h.swap.hs h.ha h.hg hfa hfg (fun _ => ?_) fun no => absurd ok.dual no
  refine ⟨_, rfl, rfl, ?_⟩
  walk_at "vs"
  exact q
theorem fw_isint {n : Int} {Q : D → List D → Prop} {X : Str → Option (Str × D) → List D → Prop} (q : Q (.bl true) []) : Fw run__law_is_integer [.int n] Q X := by
  with_reducible refine fr__law_is_integer ?_
  unfold b__law_is_integer
  walk_at "vs"
  exact q
theorem fw_is_spec {ins outs : List Str} {lead : Int} {as gs : List D} {neg : Bool} {Q : D → List D → Prop} {X : Str → Option (Str × D) → List D → Prop} (h : SpP ins outs as gs) (q : Q (.bl true) []) : Fw run__law_is_spec [spT false ins outs lead as gs neg, .lst false (dS ins), .lst false (dS outs), .int lead, .lst false as, .lst false gs, .bl neg] Q X := by
  with_reducible refine fr__law_is_spec ?_
  unfold b__law_is_spec
  have hfa := fros_P h.pa
  have hfg := fros_P h.pg
  have hi := h.hi
  have ho := h.ho
  have hzA : D.fzs as = as := fzs_P h.pa
  have hzG : D.fzs gs = gs := fzs_P h.pg
  have hil : (dS ins).length = ins.length := dl_len
  have hol : (dS outs).length = outs.length := dl_len
  have e1 : ∀ l : List Str, (∀ x ∈ l, PyData.strOk x = true) → gNe (.tup (dS l)) (.tup (dS l)) = some (.bl false) := fun l hl => q_ne (DE.tup (n := 63) (des_dS hl 63))
  have e2 : ∀ l : List Str, (∀ x ∈ l, PyData.strOk x = true) → gEq (.tup (dS l)) (.tup (dS l)) = some (.bl true) := fun l hl => q_eq (DE.tup (n := 63) (des_dS hl 63))
  have e3 : ∀ l : List D, (∀ d ∈ l, PrD d) → gNe (.tup l) (.tup l) = some (.bl false) := fun l hl => q_ne (DE.tup (n := 63) (des_P hl 63 (by decide)))
  walk_at "vs"
  walk_at "vi"
  refine evf_i (e1 ins fun x hx => (h.hs x (List.mem_append_left _ hx)).1) rfl ?_
  walk_at "vs"
  refine evf_i (e1 outs fun x hx => (h.hs x (List.mem_append_right _ hx)).1) rfl ?_
  walk_at "vs"
  walk_at "vi"
  refine fw_isint ?_
  walk_at "vs"
  walk_at "vi"
  walk_at "vi"
  with_reducible refine ev_i (d := true) ?_ ?_
  · rfl
  walk_at "vs"
  with_reducible refine ev_i (d := true) ?_ ?_
  · rfl
  walk_at "vs"
  walk_at "vi"
  refine evf_i (d := .tup as) rfl hfa ?_
  walk_at "vs"
  refine evf_i (d := .tup as) rfl hfa ?_
  walk_at "vs"
  refine evf_i (e3 as h.pa) rfl ?_
  walk_at "vs"
  refine evf_i (d := .tup gs) rfl hfg ?_
  walk_at "vs"
  refine evf_i (d := .tup gs) rfl hfg ?_
  walk_at "vs"
  refine evf_i (e3 gs h.pg) rfl ?_
  walk_at "vs"
  have hfS : D.frozen (spT false ins outs lead as gs neg) = true := by
    simp only [D.frozen, D.frozens, fros_dS, hfa, hfg, Bool.and_self, Bool.and_true, Bool.not_false]
  have hzS : D.fz (spT false ins outs lead as gs neg) = spT false ins outs lead as gs neg := by
    simp only [D.fz, D.fzs, fzs_dS, hzA, hzG]
  refine evf_i (d := spT false ins outs lead as gs neg) rfl hfS ?_
  walk_at "vs"
  rw [hzS]
  with_reducible refine fw_signals h ?_
  walk_at "vs"
  refine evf_i (d := .bl true) rfl rfl ?_
  walk_at "vs"
  refine evf_i (d := spT false ins outs lead as gs neg) rfl hfS ?_
  walk_at "vs"
  rw [hzS]
  with_reducible refine fw_signals h ?_
  walk_at "vs"
  refine evf_i (e2 (ins ++ outs) fun x hx => (h.hs x hx).1) rfl ?_
  walk_at "vs"
  exact q
end
section
set_option Elab.async false
set_option linter.all false
set_option maxRecDepth 100000
set_option maxHeartbeats 0
local macro_rules | `(tactic| walk_at "vx") => `(tactic| (simp (disch := (first | decide +kernel | walk_at "vd")) only [fz_eF, fz_eN, fzK, List.length_cons, List.length_nil, q_pIn, q_pNotIn, inK, in2, in5, dixS, q_eqSC (k := true), q_eqSC (k := false), cutF1, cutF2, q_int1, q_int0, q_at3, q_at4, q_var0, q_varS, q_c, q_p2, q_p1, q_gI, q_gAdd, q_fadd, q_sub, q_mod, q_gIB, q_int, q_asInt, q_asBl, q_eqI, q_neI, q_seqL, q_seqT, q_seqS, q_seqK, q_eqB, q_neB, q_lenL, q_lenT, q_ixL, q_ixT, q_at0, q_at1, q_at2, q_get0, q_getS, q_join, q_lst0, q_lstS, q_agDn, q_agDl, q_agDr, q_outn, q_outt, q_outf, q_tg0, q_tgS, q_bdn, q_bds, q_slT, q_tupL, q_tupT, q_asLst, q_isE, q_fzO, q_fzsO, q_fzI, q_fzB, q_fzX, q_fzN, q_fzL, q_fzT, q_fzn, q_fzc, fzs_dl, frozens_dl, q_bind, q_map]; first | done | (with_reducible rfl) | rfl | fail "vx"))
local macro_rules | `(tactic| walk_at "ve") => `(tactic| (first | (with_reducible rfl) | walk_at "vx" | fail "ve"))
local macro_rules | `(tactic| walk_at "vf") => `(tactic| (first | exact fro_eF | exact fro_eN | exact frK | (simp only [D.frozen, D.frozens, fro_eF, fro_eN, frozens_dl, Bool.and_self, Bool.and_true, Bool.true_and, Bool.not_false]; done) | fail "vf"))
local macro_rules | `(tactic| walk_at "v1") => `(tactic| first | (with_reducible refine ifb_id ?_; first | with_reducible refine ifb_tt (by decide +kernel) ?_ | with_reducible refine ifb_ff (by decide +kernel) ?_ | fail "v1") | (with_reducible refine ws_id ?_; first | with_reducible refine ws_forC ?_ | with_reducible refine ws_forN ?_ | fail "v1") | (with_reducible refine wp_id ?_; first | with_reducible refine wp_Join ?_ | with_reducible refine wp_SortL ?_ | with_reducible refine wp_SortD ?_ | with_reducible refine wp_DispS ?_ | fail "v1") | fail "v1")
local macro_rules | `(tactic| walk_at "vI") => `(tactic| ((with_reducible refine ws_seq (f := sIf _ _ _) ?_); (with_reducible refine ws_if ?_)))
local macro_rules | `(tactic| walk_at "v1") => `(tactic| first | with_reducible refine wp_SlE ?_ | with_reducible refine wp_bdN ?_ | with_reducible refine wp_bdS ?_ | with_reducible refine wp_optS ?_ | with_reducible refine wp_Prop ?_ | with_reducible refine wp_MakeD ?_ | fail "v1")
theorem bares_P : ∀ {l : List D}, (∀ d ∈ l, PrD d) → D.bares l = true
  | [], _ => rfl
  | d :: l, h => by
    show (d.bare && D.bares l) = true
    rw [(h d (List.mem_cons_self ..)).bare, bares_P fun c hc => h c (List.mem_cons_of_mem _ hc)]; rfl
theorem lo_fro : ∀ {d : D}, (∀ m l, d ≠ .lst m l) → d.frozen = true → d.lo = true
  | .lst m l, h, _ => absurd rfl (h m l)
  | .tup _, _, h => h
  | .ktp _, _, h => h
  | .scr _, _, h => h
  | .ins _ _ _ _, _, h => h
  | .dk _ _ _, _, h => h
  | .dt _ _ _, _, h => h
  | .otp _, _, h => h
  | .int _, _, h => h
  | .bl _, _, h => h
  | .str _, _, h => h
  | .non, _, h => h
  | .cst _, _, h => h
theorem lo_of : ∀ {d : D}, d.frozen = true → d.lo = true
  | .lst true l, h => by cases h
  | .lst false l, h => by
    show D.frozens l = true
    have h : (!false && D.frozens l) = true := h
    simpa using h
  | .tup _, h => h
  | .ktp _, h => h
  | .scr _, h => h
  | .ins _ _ _ _, h => h
  | .dk _ _ _, h => h
  | .dt _ _ _, h => h
  | .otp _, h => h
  | .int _, h => h
  | .bl _, h => h
  | .str _, h => h
  | .non, h => h
  | .cst _, h => h
theorem los_P : ∀ {l : List D}, D.frozens l = true → D.los l = true
  | [], _ => rfl
  | d :: l, h => by
    have h : (d.frozen && D.frozens l) = true := h
    rw [Bool.and_eq_true] at h
    show (d.lo && D.los l) = true
    rw [lo_of h.1, los_P h.2]; rfl
theorem los_snoc : ∀ {l : List D} {d : D}, D.los l = true → d.lo = true → D.los (l ++ [d]) = true
  | [], d, _, h => by
    show (d.lo && true) = true
    rw [h]; rfl
  | c :: l, d, h, k => by
    have h : (c.lo && D.los l) = true := h
    rw [Bool.and_eq_true] at h
    show (c.lo && D.los (l ++ [d])) = true
    rw [h.1, los_snoc h.2 k]; rfl
theorem bor_x {e e' : VEnv} {d : D} (f : d.bare = true ∨ d.frozen = true) (h : bor e e') : bor (some d :: e) (some d :: e') := ⟨f.imp id fun k => ⟨k, rfl⟩, h⟩
theorem sl_or {m : Bool} {l : List D} (hb : D.bares l = true) (hf : D.frozens l = true) : D.bare (.lst m l) = true ∨ D.frozen (.lst m l) = true := by
  cases m
  · exact .inr (by show (!false && D.frozens l) = true; rw [hf]; rfl)
  · exact .inl (by show (true && D.bares l) = true; rw [hb]; rfl)
theorem bor_w {e e' : VEnv} {y : D} {w : Bool} (f : y.frozen = true) (h : bor e e') : bor ((if w then some y else none) :: e) ((if w then some y else none) :: e') := by
  cases w
  · exact bor_n h
  · exact bor_f f h
local macro_rules | `(tactic| walk_at "vf") => `(tactic| (first | assumption | fail "vf"))
local macro_rules | `(tactic| walk_at "vbor") => `(tactic| (first | assumption | fail "vbor"))
/-- the rest of the law -/
theorem ws_tail {ns0 dr : List Int} {ins outs : List Str} {lead sp : Int} {as gs : List D} {neg m3 m4 m6 m8 : Bool} {y2 y11 : D} {w11 : Bool} {K B C : VEnv → Prop} {R : D → VEnv → Prop} {E : XQ} (hd : DrOk dr) (h : SpP ins outs as gs) (f2 : y2.frozen = true) (f11 : y11.frozen = true)
    (no : sp < 5 → ¬ SpOk ins outs lead) (yes : 5 ≤ sp → SpOk ins outs lead) (q : ∀ e1, e1.length = 15 → R (.bl true) e1) :
    ws (sSeq (sSet 12 (vLst (aCons (vListP (pVar 3)) (aCons (vListP (pVar 4)) (aCons (vListP (pVar 6)) (aCons (vListP (pVar 8)) (aNil)))))))
  (sSeq (sSet 13 (vBor 12 (vCall run__law_outcome [.inl (vP (pIx (pVar 12) (pC (.int 0)))), .inl (vP (pIx (pVar 12) (pC (.int 1)))), .inl (vP (pVar 5)), .inl (vP (pIx (pVar 12) (pC (.int 2)))), .inl (vP (pIx (pVar 12) (pC (.int 3)))), .inl (vP (pVar 9)), .inl (vOp gEq (vCall run__law_take [.inr 1, .inl (vP (pC (.int 2)))]) (vP (pC (.int 0))))])))
  (sSeq (sIf (tE (vOpV gNe 12 (vLst (aCons (vMv 3) (aCons (vMv 4) (aCons (vMv 6) (aCons (vMv 8) (aNil)))))))) (sRet (vP (pC (.bl false)))) (sNil))
  (sSeq (sIf (tP (pLt (pVar 10) (pC (.int 5)))) (sRet (vP (pIsN (pVar 13)))) (sNil))
  (sSeq (sNApp 12 ([] ++ [pC (.int 0)]) (vP (pC (.str "late"))))
  (sSeq (sNApp 12 ([] ++ [pC (.int 2)]) (vTup (aCons (vP (pC (.str "true"))) (aNil))))
  (sSeq (sNApp 12 ([] ++ [pC (.int 3)]) (vTup (aCons (vP (pC (.str "false"))) (aNil))))
  (sSeq (sIf (tNot (tE (vCall run__law_is_spec [.inl (vMv 13), .inl (vMv 3), .inl (vMv 4), .inl (vP (pVar 5)), .inl (vMv 6), .inl (vMv 8), .inl (vP (pVar 9))]))) (sRet (vP (pC (.bl false)))) (sNil))
  (sSeq (sSet 14 (vCall run_dual [.inl (vMv 13)]))
  (sSeq (sIf (tNot (tE (vCall run__law_is_spec [.inl (vMv 14), .inl (vMv 4), .inl (vMv 3), .inl (vP (pSub (pNeg (pC (.int 1))) (pVar 5))), .inl (vMv 6), .inl (vMv 8), .inl (vNot (vP (pVar 9)))]))) (sRet (vP (pC (.bl false)))) (sNil))
  (sRet (vCall run__law_is_spec [.inl (vCall run_dual [.inl (vMv 14)]), .inl (vMv 3), .inl (vMv 4), .inl (vP (pVar 5)), .inl (vMv 6), .inl (vMv 8), .inl (vP (pVar 9))])))))))))))) [some (.scr (nums ns0)), some (.lst true (nums dr)), some y2, some (.lst m3 (dS ins)), some (.lst m4 (dS outs)), some (.int lead), some (.lst m6 as), none, some (.lst m8 gs), some (.bl neg), some (.int sp), (if w11 then some y11 else none), none, none, none] K B C R E := by
  have hfa := fros_P h.pa
  have hfg := fros_P h.pg
  have hi := h.hi
  have ho := h.ho
  have ha := h.ha
  have hg := h.hg
  have hzA : D.fzs as = as := fzs_P h.pa
  have hzG : D.fzs gs = gs := fzs_P h.pg
  have hil : (dS ins).length = ins.length := dl_len
  have hol : (dS outs).length = outs.length := dl_len
  walk_at "vs"
  refine ⟨hfa, ?_⟩
  walk_at "vs"
  refine ⟨hfg, ?_⟩
  walk_at "vs"
  have hlo : D.lo (.lst true [.lst true (dS ins), .lst true (dS outs), .lst true as, .lst true gs]) = true := by
    show (D.los (dS ins) && (D.los (dS outs) && (D.los as && (D.los gs && true)))) = true
    rw [los_P fros_dS, los_P fros_dS, los_P hfa, los_P hfg]; rfl
  have hlA : D.frozen (.lst false as) = true := by show (!false && D.frozens as) = true; rw [hfa]; rfl
  have hlG : D.frozen (.lst false gs) = true := by show (!false && D.frozens gs) = true; rw [hfg]; rfl
  have hfz : D.fz (.lst true [.lst true (dS ins), .lst true (dS outs), .lst true as, .lst true gs]) = .lst false [.lst false (dS ins), .lst false (dS outs), .lst false as, .lst false gs] := by
    show D.lst false [.lst false (D.fzs (dS ins)), .lst false (D.fzs (dS outs)), .lst false (D.fzs as), .lst false (D.fzs gs)] = _
    rw [fzs_dS, fzs_dS, hzA, hzG]
  with_reducible refine gLo_i hlo ?_
  refine ev_i (show fzO _ = some (D.lst false [.lst false (dS ins), .lst false (dS outs), .lst false as, .lst false gs]) from congrArg some hfz) ?_
  walk_at "vs"
  refine fw_take hd (by omega) fun s dr2 s0 s1 hd2 => ?_
  walk_at "vs"
  rw [hzA, hzG]
  have hbor : ∀ dr3 : List Int, bor [some (.scr (nums ns0)), some (.lst true (nums dr)), some y2, some (.lst m3 (dS ins)), some (.lst m4 (dS outs)), some (.int lead), some (.lst m6 as), none, some (.lst m8 gs), some (.bl neg), some (.int sp), (if w11 then some y11 else none), some (.lst true [.lst true (dS ins), .lst true (dS outs), .lst true as, .lst true gs]), none, none] [some (.scr (nums ns0)), some (.lst true (nums dr3)), some y2, some (.lst m3 (dS ins)), some (.lst m4 (dS outs)), some (.int lead), some (.lst m6 as), none, some (.lst m8 gs), some (.bl neg), some (.int sp), (if w11 then some y11 else none), none, none, none] := fun dr3 =>
    bor_f frozens_nums (bor_b (by show (true && D.bares (nums dr3)) = true; rw [bares_nums]; rfl) (bor_f f2 (bor_x (sl_or bares_dS fros_dS) (bor_x (sl_or bares_dS fros_dS) (bor_f rfl (bor_x (sl_or (bares_P h.pa) hfa) (bor_n (bor_x (sl_or (bares_P h.pg) hfg) (bor_f rfl (bor_f rfl (bor_w f11 (bor_n (bor_n (bor_n bor_z))))))))))))))
  have hbS : D.bare (spT true ins outs lead as gs neg) = true := by
    simp only [D.bare, D.bares, bares_dS, bares_P h.pa, bares_P h.pg, Bool.and_self]
  have hb2 := hbor dr2
  have hsI : ∀ x ∈ ins, PyData.strOk x = true := fun x hx => (h.hs x (List.mem_append_left _ hx)).1
  have hsO : ∀ x ∈ outs, PyData.strOk x = true := fun x hx => (h.hs x (List.mem_append_right _ hx)).1
  have hne : gNe (.lst true [.lst true (dS ins), .lst true (dS outs), .lst true as, .lst true gs]) (.lst true [.lst false (dS ins), .lst false (dS outs), .lst false as, .lst false gs]) = some (.bl false) :=
    q_ne (DE.lst (n := 63) (DEs.cons (k := true) (DE.lst (n := 62) (des_dS hsI 62)) (DEs.cons (k := true) (DE.lst (n := 62) (des_dS hsO 62)) (DEs.cons (k := true) (DE.lst (n := 62) (des_P h.pa 62 (by decide))) (DEs.cons (k := true) (DE.lst (n := 62) (des_P h.pg 62 (by decide))) DEs.nil)))))
  with_reducible refine fw_outcome h (fun ok => ?_) fun nok => ?_
  rotate_left
  · have hsp : sp < 5 := by
      false_or_by_contra
      exact nok (yes (by omega))
    walk_at "vs"
    walk_at "vi"
    rw [hzA, hzG]
    refine evf_i hne rfl ?_
    walk_at "vs"
    walk_at "vi"
    refine ifb_d (fun _ => ?_) fun c => absurd hsp c
    walk_at "vs"
    exact q _ rfl
  · have hsp : ¬ sp < 5 := fun k => no k ok
    walk_at "vs"
    walk_at "vi"
    rw [hzA, hzG]
    refine evf_i hne rfl ?_
    walk_at "vs"
    walk_at "vi"
    refine ifb_d (fun c => absurd c hsp) fun _ => ?_
    walk_at "vs"
    have hfI : D.frozen (.lst false (dl D.str ins)) = true := by show (!false && D.frozens (dS ins)) = true; rw [fros_dS]; rfl
    have hfO : D.frozen (.lst false (dl D.str outs)) = true := by show (!false && D.frozens (dS outs)) = true; rw [fros_dS]; rfl
    have hborB : ∀ d12 : Option D, bor [some (.scr (nums ns0)), some (.lst true (nums dr2)), some y2, some (.lst false (dl D.str ins)), some (.lst false (dl D.str outs)), some (.int lead), some (.lst false as), none, some (.lst false gs), some (.bl neg), some (.int sp), (if w11 then some y11 else none), d12, some (spT true ins outs lead as gs neg), none] [some (.scr (nums ns0)), some (.lst true (nums dr2)), some y2, some (.lst false (dl D.str ins)), some (.lst false (dl D.str outs)), some (.int lead), some (.lst false as), none, some (.lst false gs), some (.bl neg), some (.int sp), (if w11 then some y11 else none), none, some (spT true ins outs lead as gs neg), none] := fun d12 =>
      bor_f frozens_nums (bor_b (by show (true && D.bares (nums dr2)) = true; rw [bares_nums]; rfl) (bor_f f2 (bor_f hfI (bor_f hfO (bor_f rfl (bor_f hlA (bor_n (bor_f hlG (bor_f rfl (bor_f rfl (bor_w f11 (bor_n (bor_b hbS (bor_n bor_z))))))))))))))
    have l1 : D.los (dS ins ++ [D.str "late"]) = true := los_snoc (los_P fros_dS) rfl
    have l2 : D.los (as ++ [D.tup [D.str "true"]]) = true := los_snoc (los_P hfa) rfl
    have hbA := hborB (some (D.lst true [D.lst true (dS ins), D.lst true (dS outs), D.lst true as, D.lst true gs]))
    refine ev_i (show leaf (D.lst true [D.lst true (dS ins), D.lst true (dS outs), D.lst true as, D.lst true gs]) [0] = some (dS ins) from rfl) ?_
    walk_at "vs"
    refine ev_i (show treeSet (D.lst true [D.lst true (dS ins), D.lst true (dS outs), D.lst true as, D.lst true gs]) [0] (D.lst true (dS ins ++ [D.str "late"])) = some (D.lst true [D.lst true (dS ins ++ [D.str "late"]), D.lst true (dS outs), D.lst true as, D.lst true gs]) from rfl) ?_
    have hlo1 : D.lo (D.lst true [D.lst true (dS ins ++ [D.str "late"]), D.lst true (dS outs), D.lst true as, D.lst true gs]) = true := by
      show (D.los (dS ins ++ [D.str "late"]) && (D.los (dS outs) && (D.los as && (D.los gs && true)))) = true
      rw [l1, los_P fros_dS, los_P hfa, los_P hfg]; rfl
    have hbA1 := hborB (some (D.lst true [D.lst true (dS ins ++ [D.str "late"]), D.lst true (dS outs), D.lst true as, D.lst true gs]))
    walk_at "vs"
    refine ev_i (show leaf (D.lst true [D.lst true (dS ins ++ [D.str "late"]), D.lst true (dS outs), D.lst true as, D.lst true gs]) [2] = some as from rfl) ?_
    walk_at "vs"
    refine ev_i (show treeSet (D.lst true [D.lst true (dS ins ++ [D.str "late"]), D.lst true (dS outs), D.lst true as, D.lst true gs]) [2] (D.lst true (as ++ [D.tup [D.str "true"]])) = some (D.lst true [D.lst true (dS ins ++ [D.str "late"]), D.lst true (dS outs), D.lst true (as ++ [D.tup [D.str "true"]]), D.lst true gs]) from rfl) ?_
    have hlo2 : D.lo (D.lst true [D.lst true (dS ins ++ [D.str "late"]), D.lst true (dS outs), D.lst true (as ++ [D.tup [D.str "true"]]), D.lst true gs]) = true := by
      show (D.los (dS ins ++ [D.str "late"]) && (D.los (dS outs) && (D.los (as ++ [D.tup [D.str "true"]]) && (D.los gs && true)))) = true
      rw [l1, los_P fros_dS, l2, los_P hfg]; rfl
    have hbA2 := hborB (some (D.lst true [D.lst true (dS ins ++ [D.str "late"]), D.lst true (dS outs), D.lst true (as ++ [D.tup [D.str "true"]]), D.lst true gs]))
    walk_at "vs"
    refine ev_i (show leaf (D.lst true [D.lst true (dS ins ++ [D.str "late"]), D.lst true (dS outs), D.lst true (as ++ [D.tup [D.str "true"]]), D.lst true gs]) [3] = some gs from rfl) ?_
    walk_at "vs"
    refine ev_i (show treeSet (D.lst true [D.lst true (dS ins ++ [D.str "late"]), D.lst true (dS outs), D.lst true (as ++ [D.tup [D.str "true"]]), D.lst true gs]) [3] (D.lst true (gs ++ [D.tup [D.str "false"]])) = some (D.lst true [D.lst true (dS ins ++ [D.str "late"]), D.lst true (dS outs), D.lst true (as ++ [D.tup [D.str "true"]]), D.lst true (gs ++ [D.tup [D.str "false"]])]) from rfl) ?_
    generalize D.lst true [D.lst true (dS ins ++ [D.str "late"]), D.lst true (dS outs), D.lst true (as ++ [D.tup [D.str "true"]]), D.lst true (gs ++ [D.tup [D.str "false"]])] = P12
    clear hbA hbA1 hbA2 hlo1 hlo2 hborB hb2 hbor
    walk_at "vs"
    walk_at "vi"
    have hz : ∀ (b : Bool) (i o : List Str) (l : Int) (n : Bool), D.fz (spT b i o l as gs n) = spT false i o l as gs n := fun b i o l n => by
      simp only [D.fz, D.fzs, fzs_dS, hzA, hzG]
    simp only [hz, hzA, hzG]
    with_reducible refine fw_is_spec h ?_
    walk_at "vs"
    simp only [hz, hzA, hzG]
    with_reducible refine fw_dual h ok ?_
    walk_at "vs"
    walk_at "vi"
    simp only [hz, hzA, hzG]
    with_reducible refine fw_is_spec h.swap ?_
    walk_at "vs"
    simp only [hz, hzA, hzG]
    with_reducible refine fw_dual h.swap ok.dual ?_
    walk_at "vs"
    simp only [hz, hzA, hzG]
    rw [show -1 - (-1 - lead) = lead by omega, Bool.not_not]
    with_reducible refine fw_is_spec h ?_
    walk_at "vs"
    exact q _ rfl
theorem ws_tail0 {ns0 dr : List Int} {ins outs : List Str} {lead sp : Int} {as gs : List D} {neg m3 m4 m6 m8 : Bool} {y2 : D} {K B C : VEnv → Prop} {R : D → VEnv → Prop} {E : XQ} (hd : DrOk dr) (h : SpP ins outs as gs) (f2 : y2.frozen = true)
    (no : sp < 5 → ¬ SpOk ins outs lead) (yes : 5 ≤ sp → SpOk ins outs lead) (q : ∀ e1, e1.length = 15 → R (.bl true) e1) :
    ws (sSeq (sSet 12 (vLst (aCons (vListP (pVar 3)) (aCons (vListP (pVar 4)) (aCons (vListP (pVar 6)) (aCons (vListP (pVar 8)) (aNil)))))))
  (sSeq (sSet 13 (vBor 12 (vCall run__law_outcome [.inl (vP (pIx (pVar 12) (pC (.int 0)))), .inl (vP (pIx (pVar 12) (pC (.int 1)))), .inl (vP (pVar 5)), .inl (vP (pIx (pVar 12) (pC (.int 2)))), .inl (vP (pIx (pVar 12) (pC (.int 3)))), .inl (vP (pVar 9)), .inl (vOp gEq (vCall run__law_take [.inr 1, .inl (vP (pC (.int 2)))]) (vP (pC (.int 0))))])))
  (sSeq (sIf (tE (vOpV gNe 12 (vLst (aCons (vMv 3) (aCons (vMv 4) (aCons (vMv 6) (aCons (vMv 8) (aNil)))))))) (sRet (vP (pC (.bl false)))) (sNil))
  (sSeq (sIf (tP (pLt (pVar 10) (pC (.int 5)))) (sRet (vP (pIsN (pVar 13)))) (sNil))
  (sSeq (sNApp 12 ([] ++ [pC (.int 0)]) (vP (pC (.str "late"))))
  (sSeq (sNApp 12 ([] ++ [pC (.int 2)]) (vTup (aCons (vP (pC (.str "true"))) (aNil))))
  (sSeq (sNApp 12 ([] ++ [pC (.int 3)]) (vTup (aCons (vP (pC (.str "false"))) (aNil))))
  (sSeq (sIf (tNot (tE (vCall run__law_is_spec [.inl (vMv 13), .inl (vMv 3), .inl (vMv 4), .inl (vP (pVar 5)), .inl (vMv 6), .inl (vMv 8), .inl (vP (pVar 9))]))) (sRet (vP (pC (.bl false)))) (sNil))
  (sSeq (sSet 14 (vCall run_dual [.inl (vMv 13)]))
  (sSeq (sIf (tNot (tE (vCall run__law_is_spec [.inl (vMv 14), .inl (vMv 4), .inl (vMv 3), .inl (vP (pSub (pNeg (pC (.int 1))) (pVar 5))), .inl (vMv 6), .inl (vMv 8), .inl (vNot (vP (pVar 9)))]))) (sRet (vP (pC (.bl false)))) (sNil))
  (sRet (vCall run__law_is_spec [.inl (vCall run_dual [.inl (vMv 14)]), .inl (vMv 3), .inl (vMv 4), .inl (vP (pVar 5)), .inl (vMv 6), .inl (vMv 8), .inl (vP (pVar 9))])))))))))))) [some (.scr (nums ns0)), some (.lst true (nums dr)), some y2, some (.lst m3 (dS ins)), some (.lst m4 (dS outs)), some (.int lead), some (.lst m6 as), none, some (.lst m8 gs), some (.bl neg), some (.int sp), none, none, none, none] K B C R E := ws_tail (w11 := false) (y11 := y2) hd h f2 f2 no yes q
theorem ws_tail1 {ns0 dr : List Int} {ins outs : List Str} {lead sp : Int} {as gs : List D} {neg m3 m4 m6 m8 : Bool} {y2 y11 : D} {K B C : VEnv → Prop} {R : D → VEnv → Prop} {E : XQ} (hd : DrOk dr) (h : SpP ins outs as gs) (f2 : y2.frozen = true) (f11 : y11.frozen = true)
    (no : sp < 5 → ¬ SpOk ins outs lead) (yes : 5 ≤ sp → SpOk ins outs lead) (q : ∀ e1, e1.length = 15 → R (.bl true) e1) :
    ws (sSeq (sSet 12 (vLst (aCons (vListP (pVar 3)) (aCons (vListP (pVar 4)) (aCons (vListP (pVar 6)) (aCons (vListP (pVar 8)) (aNil)))))))
  (sSeq (sSet 13 (vBor 12 (vCall run__law_outcome [.inl (vP (pIx (pVar 12) (pC (.int 0)))), .inl (vP (pIx (pVar 12) (pC (.int 1)))), .inl (vP (pVar 5)), .inl (vP (pIx (pVar 12) (pC (.int 2)))), .inl (vP (pIx (pVar 12) (pC (.int 3)))), .inl (vP (pVar 9)), .inl (vOp gEq (vCall run__law_take [.inr 1, .inl (vP (pC (.int 2)))]) (vP (pC (.int 0))))])))
  (sSeq (sIf (tE (vOpV gNe 12 (vLst (aCons (vMv 3) (aCons (vMv 4) (aCons (vMv 6) (aCons (vMv 8) (aNil)))))))) (sRet (vP (pC (.bl false)))) (sNil))
  (sSeq (sIf (tP (pLt (pVar 10) (pC (.int 5)))) (sRet (vP (pIsN (pVar 13)))) (sNil))
  (sSeq (sNApp 12 ([] ++ [pC (.int 0)]) (vP (pC (.str "late"))))
  (sSeq (sNApp 12 ([] ++ [pC (.int 2)]) (vTup (aCons (vP (pC (.str "true"))) (aNil))))
  (sSeq (sNApp 12 ([] ++ [pC (.int 3)]) (vTup (aCons (vP (pC (.str "false"))) (aNil))))
  (sSeq (sIf (tNot (tE (vCall run__law_is_spec [.inl (vMv 13), .inl (vMv 3), .inl (vMv 4), .inl (vP (pVar 5)), .inl (vMv 6), .inl (vMv 8), .inl (vP (pVar 9))]))) (sRet (vP (pC (.bl false)))) (sNil))
  (sSeq (sSet 14 (vCall run_dual [.inl (vMv 13)]))
  (sSeq (sIf (tNot (tE (vCall run__law_is_spec [.inl (vMv 14), .inl (vMv 4), .inl (vMv 3), .inl (vP (pSub (pNeg (pC (.int 1))) (pVar 5))), .inl (vMv 6), .inl (vMv 8), .inl (vNot (vP (pVar 9)))]))) (sRet (vP (pC (.bl false)))) (sNil))
  (sRet (vCall run__law_is_spec [.inl (vCall run_dual [.inl (vMv 14)]), .inl (vMv 3), .inl (vMv 4), .inl (vP (pVar 5)), .inl (vMv 6), .inl (vMv 8), .inl (vP (pVar 9))])))))))))))) [some (.scr (nums ns0)), some (.lst true (nums dr)), some y2, some (.lst m3 (dS ins)), some (.lst m4 (dS outs)), some (.int lead), some (.lst m6 as), none, some (.lst m8 gs), some (.bl neg), some (.int sp), some y11, none, none, none] K B C R E := ws_tail (w11 := true) hd h f2 f11 no yes q
end
section
set_option Elab.async false
set_option linter.all false
set_option maxRecDepth 100000
set_option maxHeartbeats 0
local macro_rules | `(tactic| walk_at "vx") => `(tactic| (simp (disch := (first | decide +kernel | walk_at "vd")) only [fz_eF, fz_eN, fzK, List.length_cons, List.length_nil, q_pIn, q_pNotIn, inK, in2, in5, dixS, q_eqSC (k := true), q_eqSC (k := false), cutF1, cutF2, q_int1, q_int0, q_at3, q_at4, q_var0, q_varS, q_c, q_p2, q_p1, q_gI, q_gAdd, q_fadd, q_sub, q_mod, q_gIB, q_int, q_asInt, q_asBl, q_eqI, q_neI, q_seqL, q_seqT, q_seqS, q_seqK, q_eqB, q_neB, q_lenL, q_lenT, q_ixL, q_ixT, q_at0, q_at1, q_at2, q_get0, q_getS, q_join, q_lst0, q_lstS, q_agDn, q_agDl, q_agDr, q_outn, q_outt, q_outf, q_tg0, q_tgS, q_bdn, q_bds, q_slT, q_tupL, q_tupT, q_asLst, q_isE, q_fzO, q_fzsO, q_fzI, q_fzB, q_fzX, q_fzN, q_fzL, q_fzT, q_fzn, q_fzc, fzs_dl, frozens_dl, q_bind, q_map]; first | done | (with_reducible rfl) | rfl | fail "vx"))
local macro_rules | `(tactic| walk_at "ve") => `(tactic| (first | (with_reducible rfl) | walk_at "vx" | fail "ve"))
local macro_rules | `(tactic| walk_at "vf") => `(tactic| (first | exact fro_eF | exact fro_eN | exact frK | (simp only [D.frozen, D.frozens, fro_eF, fro_eN, frozens_dl, Bool.and_self, Bool.and_true, Bool.true_and, Bool.not_false]; done) | fail "vf"))
local macro_rules | `(tactic| walk_at "v1") => `(tactic| first | (with_reducible refine ifb_id ?_; first | with_reducible refine ifb_tt (by decide +kernel) ?_ | with_reducible refine ifb_ff (by decide +kernel) ?_ | fail "v1") | (with_reducible refine ws_id ?_; first | with_reducible refine ws_forC ?_ | with_reducible refine ws_forN ?_ | fail "v1") | (with_reducible refine wp_id ?_; first | with_reducible refine wp_Join ?_ | with_reducible refine wp_SortL ?_ | with_reducible refine wp_SortD ?_ | with_reducible refine wp_DispS ?_ | fail "v1") | fail "v1")
local macro_rules | `(tactic| walk_at "vI") => `(tactic| ((with_reducible refine ws_seq (f := sIf _ _ _) ?_); (with_reducible refine ws_if ?_)))
local macro_rules | `(tactic| walk_at "v1") => `(tactic| first | with_reducible refine wp_SlE ?_ | with_reducible refine wp_bdN ?_ | with_reducible refine wp_bdS ?_ | with_reducible refine wp_optS ?_ | with_reducible refine wp_Prop ?_ | with_reducible refine wp_MakeD ?_ | fail "v1")
theorem slS {m : Bool} {l : List Str} {lo hi : Option Int} : gSl (.lst m (dS l)) lo hi = some (.lst true (cutD (dS l) lo hi)) := q_slD (b := false)
theorem cutS_to {l : List Str} {k : Int} (h0 : 0 ≤ k) : cutD (dS l) none (some k) = dS (l.take k.toNat) := by
  unfold cutD HT.sIx
  dsimp only
  rw [if_neg (by omega), List.drop_zero, Nat.sub_zero, show dS l = dl D.str l from rfl, dl_take, dl_len]
  by_cases h : k.toNat ≤ l.length
  · rw [Nat.min_eq_left h]
  · rw [Nat.min_eq_right (by omega), List.take_of_length_le (by omega), List.take_of_length_le (by omega)]
theorem cutS_mid {l : List Str} {k : Int} (h0 : 0 ≤ k) (h3 : 3 ≤ l.length) : cutD (dS l) (some 3) (some (3 + k)) = dS ((l.drop 3).take k.toNat) := by
  unfold cutD HT.sIx
  dsimp only
  rw [if_neg (by omega), if_neg (by omega), show dS l = dl D.str l from rfl, dl_drop, dl_take, dl_len, show (3 : Int).toNat = 3 from rfl, Nat.min_eq_left h3]
  by_cases h : 3 + k.toNat ≤ l.length
  · rw [show (3 + k).toNat = 3 + k.toNat by omega, Nat.min_eq_left h, Nat.add_sub_cancel_left]
  · rw [show (3 + k).toNat = 3 + k.toNat by omega, Nat.min_eq_right (by omega), List.take_of_length_le (by rw [List.length_drop]; exact Nat.le_refl _), List.take_of_length_le (by rw [List.length_drop]; omega)]
theorem fzS {m : Bool} {l : List Str} : D.fz (.lst m (dS l)) = .lst false (dS l) := by
  show D.lst false (D.fzs (dS l)) = _
  rw [fzs_dS]
theorem gSlS {m : Bool} {l : List Str} {k : Int} (h0 : 0 ≤ k) : gSl (D.fz (.lst m (dS l))) none (some k) = some (.lst true (dS (l.take k.toNat))) := by rw [fzS, slS, cutS_to h0]
theorem gCatS {m m' : Bool} {a b : List Str} (h : a.length + b.length ≤ 1000) : gCat (D.fz (.lst m (dS a))) (D.fz (.lst m' (dS b))) = some (.lst true (dS (a ++ b))) := by
  have hln : (dS a).length + (dS b).length ≤ sizeLine := by
    rw [show (dS a).length = a.length from dl_len, show (dS b).length = b.length from dl_len, q_szl]; omega
  rw [fzS, fzS, q_catL hln]
  exact congrArg (fun l => some (D.lst true l)) (List.map_append ..).symm
abbrev BAD : List Str := ["", "A", "1a", "a b", "true", "exists", "a_b", "aB", "false", "forall", " a", "a-"]
theorem bad_ok : ∀ y ∈ BAD, PyData.strOk y = true ∧ y.length ≤ 1000 ∧ isNm y = false := by decide +kernel
theorem bad_ix {t : Int} (h0 : 0 ≤ t) (h1 : t < 12) : ∃ y ∈ BAD, gIx (.lst false (dS BAD)) (.int t) = some (.str y) := by
  rcases (show t = 0 ∨ t = 1 ∨ t = 2 ∨ t = 3 ∨ t = 4 ∨ t = 5 ∨ t = 6 ∨ t = 7 ∨ t = 8 ∨ t = 9 ∨ t = 10 ∨ t = 11 by omega) with rfl | rfl | rfl | rfl | rfl | rfl | rfl | rfl | rfl | rfl | rfl | rfl <;> exact ⟨_, by simp, rfl⟩
theorem fw_main {ns0 : List Int} {Q : D → List D → Prop} {X : Str → Option (Str × D) → List D → Prop} (q : Q (.bl true) []) : Fw run_law [.scr (nums ns0)] Q X := by
  with_reducible refine fr_law ?_
  unfold b_law
  walk_at "vs"
  rw [show D.fz (.scr (nums ns0)) = .scr (nums ns0) by simp only [D.fz, fzs_nums]]
  refine fw_draws ⟨by omega, by omega⟩ fun dr hdr _ => ?_
  walk_at "vs"
  refine fw_names2 hdr (by omega) (by omega) fun ns dr hN hl hdr => ?_
  walk_at "vs"
  refine fw_take hdr (by omega) fun k1 dr a0 a1 hdr => ?_
  walk_at "vs"
  have hzn : D.fz (.lst false (dl D.str ns)) = .lst false (dS ns) := by
    show D.lst false (D.fzs (dS ns)) = _
    rw [fzs_dS]
  have hlen6 : ns.length = 6 := by omega
  refine ev_i (show gSl _ none (some k1) = some (D.lst true (dS (ns.take k1.toNat))) by rw [hzn, slS, cutS_to a0]) ?_
  walk_at "vs"
  refine fw_take hdr (by omega) fun k2 dr b0 b1 hdr => ?_
  walk_at "vs"
  refine ev_i (show gSl _ (some 3) (some (3 + k2)) = some (D.lst true (dS ((ns.drop 3).take k2.toNat))) by rw [hzn, slS, cutS_mid b0 (by omega)]) ?_
  walk_at "vs"
  refine fw_take hdr (by omega) fun ld dr c0 c1 hdr => ?_
  walk_at "vs"
  have hsub : (ns.take k1.toNat ++ (ns.drop 3).take k2.toNat).Sublist ns := by
    have e : ns.take k1.toNat = (ns.take 3).take k1.toNat := by rw [List.take_take, Nat.min_eq_left (by omega)]
    rw [e]
    have := List.Sublist.append (List.take_sublist k1.toNat (ns.take 3)) (List.take_sublist k2.toNat (ns.drop 3))
    rw [List.take_append_drop] at this
    exact this
  have hi3 : (ns.take k1.toNat).length ≤ 3 := by rw [List.length_take]; omega
  have ho3 : ((ns.drop 3).take k2.toNat).length ≤ 3 := by rw [List.length_take]; omega
  have hall := fun x hx => hsub.subset hx (a := x)
  have hnd : (ns.take k1.toNat ++ (ns.drop 3).take k2.toNat).Nodup := hN.nd.sublist hsub
  generalize ns.take k1.toNat = ins at hi3 hall hnd hsub
  generalize (ns.drop 3).take k2.toNat = outs at ho3 hall hnd hsub
  have l0 : -3 ≤ ld - 3 := by omega
  have l1 : ld - 3 ≤ 2 := by omega
  generalize ld - 3 = lead at l0 l1
  have hstr : ∀ x ∈ ins ++ outs, PyData.strOk x = true := fun x hx => hN.ok x (hall x hx)
  have hlo : (ins ++ outs).length ≤ 6 := by rw [List.length_append]; omega
  have f2 : D.frozen (D.lst false (dl D.str ns)) = true := by show (!false && D.frozens (dS ns)) = true; rw [fros_dS]; rfl
  generalize D.lst false (dl D.str ns) = y2 at f2
  refine fw_take hdr (by omega) fun n1 dr d0 d1 hdr => ?_
  walk_at "vs"
  have hcat : ∀ m3 m4 : Bool, gCat (D.fz (.lst m3 (dS ins))) (D.fz (.lst m4 (dS outs))) = some (.lst true (dS (ins ++ outs))) := fun m3 m4 => by
    show gCat (.lst false (D.fzs (dS ins))) (.lst false (D.fzs (dS outs))) = _
    have hln : (dS ins).length + (dS outs).length ≤ sizeLine := by
      rw [show (dS ins).length = ins.length from dl_len, show (dS outs).length = outs.length from dl_len, q_szl]; omega
    rw [fzs_dS, fzs_dS, q_catL hln]
    exact congrArg (fun l => some (D.lst true l)) (List.map_append ..).symm
  have hzc : D.fzs (dS (ins ++ outs)) = dS (ins ++ outs) := fzs_dS
  refine wp_lcI (fun i acc e => ∃ dr m3 m4, DrOk dr ∧ acc.length = i ∧ (∀ d ∈ acc, PrD d) ∧ e = [some (.scr (nums ns0)), some (.lst true (nums dr)), some y2, some (.lst m3 (dS ins)), some (.lst m4 (dS outs)), some (.int lead), none, none, none, none, none, none, none, none, none]) ⟨dr, true, true, hdr, rfl, (fun d h => nomatch h), rfl⟩ ?_ ?_
  · clear hdr
    clear dr
    rintro i d acc _ hi ⟨dr, m3, m4, hdr, hal, hpa, rfl⟩
    obtain ⟨hi1, rfl⟩ := dInts_get hi
    walk_at "vs"
    refine fw_formula0 (by omega) 40 2 (by decide) rfl (by omega) (by omega) hdr fun f dr g1 g2 g3 hdr => ?_
    walk_at "vs"
    have hp : PrD (eF f) := prd_f (by omega) fun x hx => hstr x (g3 x hx)
    refine ⟨dr, false, false, hdr, by rw [List.length_append, hal]; rfl, fun d hd => ?_, rfl⟩
    rcases List.mem_append.mp hd with k | k
    · exact hpa d k
    · rw [List.mem_singleton.mp k]; exact hp
  clear hdr
  clear dr
  rintro as _ ⟨dr, m3, m4, hdr, hal, hpa, rfl⟩
  rw [dInts_len] at hal
  walk_at "vs"
  refine fw_take hdr (by omega) fun n2 dr e0 e1 hdr => ?_
  walk_at "vs"
  refine wp_lcI (fun i acc e => ∃ dr m3 m4, DrOk dr ∧ acc.length = i ∧ (∀ d ∈ acc, PrD d) ∧ e = [some (.scr (nums ns0)), some (.lst true (nums dr)), some y2, some (.lst m3 (dS ins)), some (.lst m4 (dS outs)), some (.int lead), some (.lst true as), none, none, none, none, none, none, none, none]) ⟨dr, m3, m4, hdr, rfl, (fun d h => nomatch h), rfl⟩ ?_ ?_
  · clear hdr
    clear dr m3 m4
    rintro i d acc _ hi ⟨dr, m3, m4, hdr, hal, hpa, rfl⟩
    obtain ⟨hi1, rfl⟩ := dInts_get hi
    walk_at "vs"
    refine fw_property (by omega) hstr hdr fun d dr hp hdr => ?_
    walk_at "vs"
    rw [hp.fz]
    refine ⟨dr, false, false, hdr, by rw [List.length_append, hal]; rfl, fun d hd => ?_, rfl⟩
    rcases List.mem_append.mp hd with k | k
    · exact hpa d k
    · rw [List.mem_singleton.mp k]; exact hp
  clear hdr
  clear dr
  rintro gs _ ⟨dr, m3', m4', hdr, hgl, hpg, rfl⟩
  rw [dInts_len] at hgl
  walk_at "vs"
  refine fw_take hdr (by omega) fun sn dr f0 f1 hdr => ?_
  walk_at "vs"
  refine fw_take hdr (by omega) fun sp dr p0 p1 hdr => ?_
  walk_at "vs"
  have hout : ∀ e1 : VEnv, e1.length = 15 → ev (outsOf [false] e1) (Q (.bl true)) := fun e1 h1 => by
    cases e1 with
    | nil => cases h1
    | cons a l => exact ⟨[], rfl, q⟩
  have h0 : SpP ins outs as gs := ⟨by omega, by omega, fun x hx => ⟨hstr x hx, by have := hN.le x (hall x hx); omega⟩, by omega, by omega, hpa, hpg⟩
  have ok0 : SpOk ins outs lead := ⟨hi3, ho3, l0, l1, fun x hx => hN.nm x (hall x hx), hnd⟩
  generalize decide (sn = 0) = neg
  have hP : ∀ (i o : List Str), i.length ≤ 10 → o.length ≤ 10 → (∀ x ∈ i ++ o, PyData.strOk x = true ∧ x.length ≤ 1000) → SpP i o (nums []) (nums []) := fun i o h1 h2 h3 => ⟨h1, h2, h3, Nat.zero_le _, Nat.zero_le _, (fun _ h => nomatch h), (fun _ h => nomatch h)⟩
  have hab : ∀ x ∈ (["a1", "b1", "c1", "d1"] : List Str), PyData.strOk x = true ∧ x.length ≤ 1000 := by decide +kernel
  rcases (show sp = 0 ∨ sp = 1 ∨ sp = 2 ∨ sp = 3 ∨ sp = 4 ∨ 5 ≤ sp by omega) with rfl | rfl | rfl | rfl | rfl | h5
  · walk_at "vi"
    walk_at "vi"
    walk_at "vi"
    walk_at "vi"
    walk_at "vi"
    walk_at "vI"
    with_reducible refine wp_tPv (b := false) ?_ ?_
    · exact p2_g rfl rfl (by rw [q_eqI]; rfl)
    with_reducible refine ifb_f ?_
    with_reducible refine ws_nil ?_
    rw [show [D.str "a1", D.str "b1", D.str "c1", D.str "d1"] = dS ["a1", "b1", "c1", "d1"] from rfl]
    with_reducible refine ws_tail0 (ns0 := ns0) (sp := 0) hdr (hP ["a1", "b1", "c1", "d1"] outs (by decide) h0.ho fun x hx => (List.mem_append.mp hx).elim (hab x) fun k => h0.hs x (List.mem_append_right _ k)) f2 (fun _ k => absurd k.i3 (by decide)) (fun k => absurd k (by decide)) fun e1 h1 => ?_
    exact hout e1 h1
  · walk_at "vi"
    walk_at "vi"
    walk_at "vi"
    walk_at "vi"
    walk_at "vi"
    walk_at "vI"
    with_reducible refine wp_tPv (b := false) ?_ ?_
    · exact p2_g rfl rfl (by rw [q_eqI]; rfl)
    with_reducible refine ifb_f ?_
    with_reducible refine ws_nil ?_
    rw [show [D.str "a1", D.str "b1", D.str "c1", D.str "d1"] = dS ["a1", "b1", "c1", "d1"] from rfl]
    with_reducible refine ws_tail0 (ns0 := ns0) (sp := 1) hdr (hP ins ["a1", "b1", "c1", "d1"] h0.hi (by decide) fun x hx => (List.mem_append.mp hx).elim (fun k => h0.hs x (List.mem_append_left _ k)) (hab x)) f2 (fun _ k => absurd k.o3 (by decide)) (fun k => absurd k (by decide)) fun e1 h1 => ?_
    exact hout e1 h1
  · walk_at "vi"
    walk_at "vi"
    walk_at "vi"
    refine ev_i (show gSl _ none (some 2) = some (D.lst true (dS (ins.take 2))) by rw [slS, cutS_to (by decide)]; rfl) ?_
    walk_at "vs"
    refine fw_take hdr (by omega) fun t dr t0 t1 hdr => ?_
    walk_at "vs"
    obtain ⟨y, hyB, hy⟩ := bad_ix t0 t1
    obtain ⟨y1, y2', y3⟩ := bad_ok y hyB
    refine evf_i (d := .str y) hy rfl ?_
    walk_at "vs"
    have hl2 : (ins.take 2).length ≤ 2 := by rw [List.length_take]; omega
    have hm2 : ∀ x ∈ ins.take 2, x ∈ ins := fun x hx => List.mem_of_mem_take hx
    generalize ins.take 2 = i2 at hl2 hm2
    walk_at "vi"
    walk_at "vi"
    walk_at "vI"
    with_reducible refine wp_tPv (b := false) ?_ ?_
    · exact p2_g rfl rfl (by rw [q_eqI]; rfl)
    with_reducible refine ifb_f ?_
    with_reducible refine ws_nil ?_
    with_reducible refine ws_tail1 (ns0 := ns0) (sp := 2) (ins := i2 ++ [y]) hdr (hP (i2 ++ [y]) outs (by rw [List.length_append, List.length_singleton]; omega) h0.ho fun x hx => ?_) f2 ?_ (fun _ k => ?_) (fun k => absurd k (by decide)) fun e1 h1 => ?_
    · rcases List.mem_append.mp hx with k | k
      · rcases List.mem_append.mp k with k | k
        · exact h0.hs x (List.mem_append_left _ (hm2 x k))
        · rw [List.mem_singleton.mp k]; exact ⟨y1, y2'⟩
      · exact h0.hs x (List.mem_append_right _ k)
    · rfl
    · have := k.nm y (List.mem_append_left _ (List.mem_append_right _ (List.mem_singleton.mpr rfl)))
      rw [y3] at this
      cases this
    exact hout e1 h1
  · walk_at "vi"
    walk_at "vi"
    walk_at "vi"
    walk_at "vi"
    refine ev_i (show gSl _ none (some 2) = some (D.lst true (dS (outs.take 2))) by rw [slS, cutS_to (by decide)]; rfl) ?_
    walk_at "vs"
    refine ev_i (d := D.lst true (dS ((ins ++ outs ++ [("a1" : Str)]).take 1))) (gSlS (k := 1) (by decide)) ?_
    refine ev_i (d := D.lst true (dS (outs.take 2 ++ (ins ++ outs ++ [("a1" : Str)]).take 1))) (gCatS ?_) ?_
    · rw [List.length_take, List.length_take]; omega
    walk_at "vs"
    refine ev_i (d := D.lst true (dS ((ins ++ [("a1" : Str)]).take 1))) (gSlS (k := 1) (by decide)) ?_
    walk_at "vs"
    have hmem : ∀ x ∈ outs.take 2 ++ (ins ++ outs ++ [("a1" : Str)]).take 1, PyData.strOk x = true ∧ x.length ≤ 1000 := fun x hx => by
      rcases List.mem_append.mp hx with k | k
      · exact h0.hs x (List.mem_append_right _ (List.mem_of_mem_take k))
      · rcases List.mem_append.mp (List.mem_of_mem_take k) with k | k
        · exact h0.hs x k
        · rw [List.mem_singleton.mp k]; exact hab "a1" (by simp)
    have hmem1 : ∀ x ∈ (ins ++ [("a1" : Str)]).take 1, PyData.strOk x = true ∧ x.length ≤ 1000 := fun x hx => by
      rcases List.mem_append.mp (List.mem_of_mem_take hx) with k | k
      · exact h0.hs x (List.mem_append_left _ k)
      · rw [List.mem_singleton.mp k]; exact hab "a1" (by simp)
    have hone : ((ins ++ [("a1" : Str)]).take 1).length = 1 := by rw [List.length_take, List.length_append, List.length_singleton]; omega
    generalize outs.take 2 ++ (ins ++ outs ++ [("a1" : Str)]).take 1 = O1 at hmem
    generalize (ins ++ [("a1" : Str)]).take 1 = I1 at hmem1 hone
    refine ev_i (show gSl _ none (some 2) = some (D.lst true (dS (O1.take 2))) by rw [slS, cutS_to (by decide)]; rfl) ?_
    walk_at "vs"
    have ho2 : (O1.take 2).length ≤ 2 := by rw [List.length_take]; omega
    have hmem2 : ∀ x ∈ O1.take 2, PyData.strOk x = true ∧ x.length ≤ 1000 := fun x hx => hmem x (List.mem_of_mem_take hx)
    generalize O1.take 2 = O2 at ho2 hmem2
    walk_at "vi"
    walk_at "vI"
    with_reducible refine wp_tPv (b := false) ?_ ?_
    · exact p2_g rfl rfl (by rw [q_eqI]; rfl)
    with_reducible refine ifb_f ?_
    with_reducible refine ws_nil ?_
    with_reducible refine ws_tail0 (ns0 := ns0) (sp := 3) (ins := I1) (outs := O2 ++ I1) hdr (hP I1 (O2 ++ I1) (by omega) (by rw [List.length_append]; omega) fun x hx => ?_) f2 (fun _ k => ?_) (fun k => absurd k (by decide)) fun e1 h1 => ?_
    · rcases List.mem_append.mp hx with k | k
      · exact hmem1 x k
      · exact (List.mem_append.mp k).elim (hmem2 x) (hmem1 x)
    · obtain ⟨x, hx⟩ := List.length_eq_one_iff.mp hone
      have hn := (List.nodup_append.mp k.nd).2.2 x (by rw [hx]; exact List.mem_singleton.mpr rfl) x (List.mem_append_right _ (by rw [hx]; exact List.mem_singleton.mpr rfl))
      exact hn rfl
    exact hout e1 h1
  · walk_at "vi"
    walk_at "vi"
    walk_at "vi"
    walk_at "vi"
    walk_at "vi"
    walk_at "vi"
    refine fw_take hdr (by omega) fun t dr t0 t1 hdr => ?_
    walk_at "vs"
    obtain ⟨x, hx, hno⟩ : ∃ x : Int, gIx (.lst true [.int (-4), .int 3, .int 10]) (.int t) = some (.int x) ∧ ¬ (-3 ≤ x ∧ x ≤ 2) := by
      rcases (show t = 0 ∨ t = 1 ∨ t = 2 by omega) with rfl | rfl | rfl
      · exact ⟨-4, rfl, by omega⟩
      · exact ⟨3, rfl, by omega⟩
      · exact ⟨10, rfl, by omega⟩
    with_reducible refine evf_i hx rfl ?_
    walk_at "vt"
    with_reducible refine ws_tail0 (ns0 := ns0) (sp := 4) hdr h0 f2 (fun _ k => absurd ⟨k.l0, k.l1⟩ hno) (fun k => absurd k (by decide)) fun e1 h1 => ?_
    exact hout e1 h1
  · walk_at "vi"
    refine ifb_no (by omega) ?_
    walk_at "vs"
    walk_at "vi"
    refine ifb_no (by omega) ?_
    walk_at "vs"
    walk_at "vi"
    refine ifb_no (by omega) ?_
    walk_at "vs"
    walk_at "vi"
    refine ifb_no (by omega) ?_
    walk_at "vs"
    walk_at "vi"
    refine ifb_no (by omega) ?_
    walk_at "vs"
    walk_at "vi"
    refine ifb_no (by omega) ?_
    with_reducible refine ws_nil ?_
    with_reducible refine ws_tail0 (ns0 := ns0) (sp := sp) hdr h0 f2 (fun k => by omega) (fun _ => ok0) fun e1 h1 => ?_
    exact hout e1 h1
theorem law_true : LawTrue run_law := fun ns hns => by
  have main : Fw run_law [.scr (nums ns)] (fun d o => d = .bl true ∧ o = []) (fun _ _ _ => False) := fw_main ⟨rfl, rfl⟩
  exact fw_get main
end
end
end
end
section
set_option Elab.async false
set_option linter.all false
set_option maxRecDepth 100000
set_option maxHeartbeats 1000000
def topS (i : Nat) : Stmt := PySem.Challenge.pw_promiseplay_k46_spec_and_dual.main.body.getD i (.Pass ⟨0, 0, 0, 0⟩)
abbrev s_is_name : Stmt := topS 7
abbrev N_is_name : List Str := ["word", "char"]
abbrev P_is_name : List Str := ["word"]
theorem sc_is_name : FnScope N_is_name P_is_name (defScope s_is_name) := ⟨rfl, rfl, rfl, by decide +kernel, rfl, by decide +kernel, by decide +kernel⟩
abbrev s_Spec___init__ : Stmt := inClass (topS 9) 0
abbrev N_Spec___init__ : List Str := ["self", "inputs", "outputs", "lead", "assumptions", "guarantees", "negated", "valid", "known", "name"]
abbrev P_Spec___init__ : List Str := ["self", "inputs", "outputs", "lead", "assumptions", "guarantees", "negated"]
theorem sc_Spec___init__ : FnScope N_Spec___init__ P_Spec___init__ (defScope s_Spec___init__) := ⟨rfl, rfl, rfl, by decide +kernel, rfl, by decide +kernel, by decide +kernel⟩
abbrev s_Spec_signals : Stmt := inClass (topS 9) 1
abbrev N_Spec_signals : List Str := ["self"]
abbrev P_Spec_signals : List Str := ["self"]
theorem sc_Spec_signals : FnScope N_Spec_signals P_Spec_signals (defScope s_Spec_signals) := ⟨rfl, rfl, rfl, by decide +kernel, rfl, by decide +kernel, by decide +kernel⟩
abbrev s_dual : Stmt := topS 10
abbrev N_dual : List Str := ["spec"]
abbrev P_dual : List Str := ["spec"]
theorem sc_dual : FnScope N_dual P_dual (defScope s_dual) := ⟨rfl, rfl, rfl, by decide +kernel, rfl, by decide +kernel, by decide +kernel⟩
abbrev s__law_draws : Stmt := topS 12
abbrev N__law_draws : List Str := ["script", "count", "cells", "found", "mixed", "k", "j", "cell", "again"]
abbrev P__law_draws : List Str := ["script", "count"]
theorem sc__law_draws : FnScope N__law_draws P__law_draws (defScope s__law_draws) := ⟨rfl, rfl, rfl, by decide +kernel, rfl, by decide +kernel, by decide +kernel⟩
abbrev s__law_take : Stmt := topS 13
abbrev N__law_take : List Str := ["draws", "limit"]
abbrev P__law_take : List Str := ["draws", "limit"]
theorem sc__law_take : FnScope N__law_take P__law_take (defScope s__law_take) := ⟨rfl, rfl, rfl, by decide +kernel, rfl, by decide +kernel, by decide +kernel⟩
abbrev s__law_is_integer : Stmt := topS 14
abbrev N__law_is_integer : List Str := ["actual"]
abbrev P__law_is_integer : List Str := ["actual"]
theorem sc__law_is_integer : FnScope N__law_is_integer P__law_is_integer (defScope s__law_is_integer) := ⟨rfl, rfl, rfl, by decide +kernel, rfl, by decide +kernel, by decide +kernel⟩
abbrev s__law_name : Stmt := topS 15
abbrev N__law_name : List Str := ["draws", "k", "chars", "name", "j"]
abbrev P__law_name : List Str := ["draws", "k"]
theorem sc__law_name : FnScope N__law_name P__law_name (defScope s__law_name) := ⟨rfl, rfl, rfl, by decide +kernel, rfl, by decide +kernel, by decide +kernel⟩
abbrev s__law_names : Stmt := topS 16
abbrev N__law_names : List Str := ["draws", "count", "k"]
abbrev P__law_names : List Str := ["draws", "count"]
theorem sc__law_names : FnScope N__law_names P__law_names (defScope s__law_names) := ⟨rfl, rfl, rfl, by decide +kernel, rfl, by decide +kernel, by decide +kernel⟩
abbrev s__law_leaf : Stmt := topS 17
abbrev N__law_leaf : List Str := ["draws", "names", "choice"]
abbrev P__law_leaf : List Str := ["draws", "names"]
theorem sc__law_leaf : FnScope N__law_leaf P__law_leaf (defScope s__law_leaf) := ⟨rfl, rfl, rfl, by decide +kernel, rfl, by decide +kernel, by decide +kernel⟩
abbrev s__law_formula : Stmt := topS 18
abbrev N__law_formula : List Str := ["draws", "names", "budget", "deep", "choice", "unary", "operator", "part", "left"]
abbrev P__law_formula : List Str := ["draws", "names", "budget", "deep"]
theorem sc__law_formula : FnScope N__law_formula P__law_formula (defScope s__law_formula) := ⟨rfl, rfl, rfl, by decide +kernel, rfl, by decide +kernel, by decide +kernel⟩
abbrev s__law_property : Stmt := topS 19
abbrev N__law_property : List Str := ["draws", "names", "budget", "deep", "share", "hidden", "formula"]
abbrev P__law_property : List Str := ["draws", "names", "budget", "deep", "share"]
theorem sc__law_property : FnScope N__law_property P__law_property (defScope s__law_property) := ⟨rfl, rfl, rfl, by decide +kernel, rfl, by decide +kernel, by decide +kernel⟩
abbrev s__law_outcome : Stmt := topS 20
abbrev N__law_outcome : List Str := ["inputs", "outputs", "lead", "assumptions", "guarantees", "negated", "short"]
abbrev P__law_outcome : List Str := ["inputs", "outputs", "lead", "assumptions", "guarantees", "negated", "short"]
theorem sc__law_outcome : FnScope N__law_outcome P__law_outcome (defScope s__law_outcome) := ⟨rfl, rfl, rfl, by decide +kernel, rfl, by decide +kernel, by decide +kernel⟩
abbrev s__law_is_spec : Stmt := topS 21
abbrev N__law_is_spec : List Str := ["spec", "inputs", "outputs", "lead", "assumptions", "guarantees", "negated"]
abbrev P__law_is_spec : List Str := ["spec", "inputs", "outputs", "lead", "assumptions", "guarantees", "negated"]
theorem sc__law_is_spec : FnScope N__law_is_spec P__law_is_spec (defScope s__law_is_spec) := ⟨rfl, rfl, rfl, by decide +kernel, rfl, by decide +kernel, by decide +kernel⟩
abbrev s_law : Stmt := topS 22
abbrev N_law : List Str := ["script", "draws", "names", "inputs", "outputs", "lead", "assumptions", "k", "guarantees", "negated", "spoilt", "bad", "passed", "spec", "other"]
abbrev P_law : List Str := ["script"]
theorem sc_law : FnScope N_law P_law (defScope s_law) := ⟨rfl, rfl, rfl, by decide +kernel, rfl, by decide +kernel, by decide +kernel⟩
/-- what the top has written -/
structure Txt (G : Gx) (mg : Str → Option Value) (fa : Nat → Addr) (fd : Nat → FuncData) (ca : Nat → Addr) : Prop where
  d_is_name : DK G mg "is_name" "is_name" s_is_name P_is_name (fa 0) (fd 0)
  d_Spec___init__ : DMK G "__init__" "Spec.__init__" s_Spec___init__ P_Spec___init__ ["negated"] false 6 (fa 1) (fd 1)
  d_Spec_signals : DM G "signals" "Spec.signals" s_Spec_signals P_Spec_signals (fa 2) (fd 2)
  d_dual : DK G mg "dual" "dual" s_dual P_dual (fa 3) (fd 3)
  d__law_draws : DK G mg "_law_draws" "_law_draws" s__law_draws P__law_draws (fa 4) (fd 4)
  d__law_take : DK G mg "_law_take" "_law_take" s__law_take P__law_take (fa 5) (fd 5)
  d__law_is_integer : DK G mg "_law_is_integer" "_law_is_integer" s__law_is_integer P__law_is_integer (fa 6) (fd 6)
  d__law_name : DK G mg "_law_name" "_law_name" s__law_name P__law_name (fa 7) (fd 7)
  d__law_names : DK G mg "_law_names" "_law_names" s__law_names P__law_names (fa 8) (fd 8)
  d__law_leaf : DK G mg "_law_leaf" "_law_leaf" s__law_leaf P__law_leaf (fa 9) (fd 9)
  d__law_formula : DK G mg "_law_formula" "_law_formula" s__law_formula P__law_formula (fa 10) (fd 10)
  d__law_property : DK G mg "_law_property" "_law_property" s__law_property P__law_property (fa 11) (fd 11)
  d__law_outcome : DK G mg "_law_outcome" "_law_outcome" s__law_outcome P__law_outcome (fa 12) (fd 12)
  d__law_is_spec : DK G mg "_law_is_spec" "_law_is_spec" s__law_is_spec P__law_is_spec (fa 13) (fd 13)
  d_law : DK G mg "law" "law" s_law P_law (fa 14) (fd 14)
  g_Spec : mg "Spec" = some (.ref (G.cl "Spec"))
  cls_Spec : Cls G.K (G.cl "Spec")
  f_Spec_assumptions : NoAttr G.K (G.cl "Spec") "assumptions"
  f_Spec_guarantees : NoAttr G.K (G.cl "Spec") "guarantees"
  f_Spec_inputs : NoAttr G.K (G.cl "Spec") "inputs"
  f_Spec_lead : NoAttr G.K (G.cl "Spec") "lead"
  f_Spec_negated : NoAttr G.K (G.cl "Spec") "negated"
  f_Spec_outputs : NoAttr G.K (G.cl "Spec") "outputs"
  io_Spec : IsO G.K (G.cl "Spec")
  mk_Spec : Mk G.K (G.cl "Spec") (fa 1)
  p_Spec_signals : ∃ p, PropOf G.K (G.cl "Spec") "signals" p (fa 2)
  kt_RESERVED : KT G.K mg "RESERVED" ["true", "false", "exists", "forall"]
  c_DIGITS : ∃ t, mg "DIGITS" = some (.str "0123456789" t)
  c_LOWER : ∃ t, mg "LOWER" = some (.str "abcdefghijklmnopqrstuvwxyz" t)
  x_InvalidSpec : ExK G mg "InvalidSpec" (ca 0)
  n_bool : mg "bool" = none
  n_int : mg "int" = none
  n_isinstance : mg "isinstance" = none
  n_len : mg "len" = none
  n_list : mg "list" = none
  n_min : mg "min" = none
  n_range : mg "range" = none
  n_tuple : mg "tuple" = none
  mt_InvalidSpec : ∀ c b, mt_InvalidSpec c = some b → PySem.W.exmOne G.K (G.ev c) (.ref (ca 0)) = some b
theorem zAt_pv {z : Zx} {ad : Addr} {i : Nat} (h : z.pv[i]? = some none) : (zAt z ad (some i)).pv[i]? = some (some (.ref ad)) := by
  have hl := (List.getElem?_eq_some_iff.mp h).1
  show (z.pv.set i (some (.ref ad)))[i]? = _
  simp [hl]
section
variable {P : Program} {w : World} {G : Gx} {mg : Str → Option Value} {base : Heap} {fa : Nat → Addr} {fd : Nat → FuncData} {ca : Nat → Addr}
theorem ok_is_name (T : Txt G mg fa fd ca) : FnOk P w G.K mg base (L2.CX P w) 1 (fa 0) (fd 0) P_is_name (spOf G run_is_name [false]) :=
  vfn (ms := [false, false]) T.d_is_name.fn sc_is_name rfl (by decide) rfl fun cdv A outer s H E z hr hz =>
    (vs_cons (vs_if (PW.pt (vw_or (vt_pc (vp_eq hr.units (vp_var 0 (pv 0)) vp_str)) (vw_or (vt_pc (vp_notInS (vp_ix (vp_var 0 (pv 0)) vp_int) (vp_globS T.c_LOWER))) (vw_or1 (vt_pc (vp_in (vp_var 0 (pv 0)) (vp_globK T.kt_RESERVED))))))) (vs_one (vs_ret (ve_p vp_bl))) vs_nil)
      (vs_cons (vs_for (passes_of rfl) rfl (vi_str (ve_p (vp_var 0 (pv 0)))) (vg_name 1 hz sc_is_name.nd) (vs_one (vs_if (PW.pt (vw_and (vt_pc (vp_notInS (vp_var 1 (pv 1)) (vp_globS T.c_LOWER))) (vw_and1 (vt_pc (vp_notInS (vp_var 1 (pv 1)) (vp_globS T.c_DIGITS)))))) (vs_one (vs_ret (ve_p vp_bl))) vs_nil)))
      (vs_one (vs_ret (ve_p vp_bl)))))
theorem ok_Spec___init__ (T : Txt G mg fa fd ca) : FnOk P w G.K mg base (L2.CX P w) 2 (fa 1) (fd 1) P_Spec___init__ (spOf G run_Spec___init__ [true, false, false, false, false, false, false]) :=
  vfn (ms := [true, false, false, false, false, false, false, false, false, false]) T.d_Spec___init__.fn sc_Spec___init__ rfl (by decide) rfl fun cdv A outer s H E z hr hz =>
    (vs_cons (vs_set 7 hz sc_Spec___init__.nd (ve_and (ve_p (vp_le (vp_len T.n_len (vp_var 1 (pv 1))) vp_int)) (ve_and (ve_p (vp_le (vp_len T.n_len (vp_var 2 (pv 2))) vp_int)) (ve_one (ve_p (vp_chLeLe (vp_neg vp_int) (vp_var 3 (pv 3)) vp_int))))))
      (vs_cons (vs_set 8 hz sc_Spec___init__.nd (ve_lst va_nil))
      (vs_cons (vs_for (passes_of rfl) rfl (vi_sq (ve_cat (ve_listP T.n_list (vp_var 1 (pv 1))) (ve_listP T.n_list (vp_var 2 (pv 2))))) (vg_name 9 hz sc_Spec___init__.nd) (vs_cons (vs_set 7 hz sc_Spec___init__.nd (ve_and (ve_p (vp_var 7 (pv 7))) (ve_and (ve_call (ok_is_name T) (hr.mono (by decide)) T.d_is_name.mg T.d_is_name.fn.kp T.d_is_name.bd (takes_of rfl rfl rfl rfl) (vag_v (ve_p (vp_var 9 (pv 9))) vag_nil)) (ve_one (ve_p (vp_notIn (vp_var 9 (pv 9)) (vp_var 8 (pv 8))))))))
      (vs_one (vs_append 8 (pv 8) (ve_p (vp_var 9 (pv 9)))))))
      (vs_cons (vs_if (vt_not (vt_p (vp_var 7 (pv 7)))) (vs_one (vs_raiseC T.x_InvalidSpec rfl (takes_of rfl rfl rfl rfl))) vs_nil)
      (vs_cons (vs_fld "Spec" 0 T.cls_Spec T.f_Spec_inputs (pv 0) (ve_tupleP T.n_tuple (vp_var 1 (pv 1))))
      (vs_cons (vs_fld "Spec" 0 T.cls_Spec T.f_Spec_outputs (pv 0) (ve_tupleP T.n_tuple (vp_var 2 (pv 2))))
      (vs_cons (vs_fld "Spec" 0 T.cls_Spec T.f_Spec_lead (pv 0) (ve_p (vp_var 3 (pv 3))))
      (vs_cons (vs_fld "Spec" 0 T.cls_Spec T.f_Spec_assumptions (pv 0) (ve_tupleP T.n_tuple (vp_var 4 (pv 4))))
      (vs_cons (vs_fld "Spec" 0 T.cls_Spec T.f_Spec_guarantees (pv 0) (ve_tupleP T.n_tuple (vp_var 5 (pv 5))))
      (vs_one (vs_fld "Spec" 0 T.cls_Spec T.f_Spec_negated (pv 0) (ve_p (vp_var 6 (pv 6))))))))))))))
theorem ok_Spec_signals (T : Txt G mg fa fd ca) : FnOk P w G.K mg base (L2.CX P w) 1 (fa 2) (fd 2) P_Spec_signals (spOf G run_Spec_signals [false]) :=
  vfn (ms := [false]) T.d_Spec_signals.fn sc_Spec_signals rfl (by decide) rfl fun cdv A outer s H E z hr hz =>
    (vs_one (vs_ret (ve_cat (ve_p (vp_fld "Spec" T.cls_Spec T.f_Spec_inputs (vp_var 0 (pv 0)))) (ve_p (vp_fld "Spec" T.cls_Spec T.f_Spec_outputs (vp_var 0 (pv 0)))))))
theorem ok_dual (T : Txt G mg fa fd ca) : FnOk P w G.K mg base (L2.CX P w) 4 (fa 3) (fd 3) P_dual (spOf G run_dual [false]) :=
  vfn (ms := [false]) T.d_dual.fn sc_dual rfl (by decide) rfl fun cdv A outer s H E z hr hz =>
    (vs_one (vs_ret (ve_makeK (c := "Spec") T.mk_Spec (ok_Spec___init__ T) (hr.mono (by decide)) T.g_Spec T.d_Spec___init__.bk (takes_of rfl rfl rfl rfl) rfl (pak_cons (ve_p (vp_fld "Spec" T.cls_Spec T.f_Spec_outputs (vp_var 0 (pv 0)))) (pak_cons (ve_p (vp_fld "Spec" T.cls_Spec T.f_Spec_inputs (vp_var 0 (pv 0)))) (pak_cons (ve_p (vp_sub (vp_neg vp_int) (vp_fld "Spec" T.cls_Spec T.f_Spec_lead (vp_var 0 (pv 0))))) (pak_cons (ve_p (vp_fld "Spec" T.cls_Spec T.f_Spec_assumptions (vp_var 0 (pv 0)))) (pak_cons (ve_p (vp_fld "Spec" T.cls_Spec T.f_Spec_guarantees (vp_var 0 (pv 0)))) (pak_one (ve_not (ve_p (vp_fld "Spec" T.cls_Spec T.f_Spec_negated (vp_var 0 (pv 0))))))))))))))
theorem ok__law_draws (T : Txt G mg fa fd ca) : FnOk P w G.K mg base (L2.CX P w) 1 (fa 4) (fd 4) P__law_draws (spOf G run__law_draws [false, false]) :=
  vfn (ms := [false, false, false, false, false, false, false, false, false]) T.d__law_draws.fn sc__law_draws rfl (by decide) rfl fun cdv A outer s H E z hr hz =>
    (vs_cons (vs_set 2 hz sc__law_draws.nd (ve_listP T.n_list (vp_var 0 (pv 0))))
      (vs_cons (vs_if (vt_pc (vp_eq hr.units (vp_len T.n_len (vp_var 2 (pv 2))) vp_int)) (vs_one (vs_set 2 hz sc__law_draws.nd (ve_lst (va_cons (ve_p vp_int) va_nil)))) vs_nil)
      (vs_cons (vs_set 3 hz sc__law_draws.nd (ve_lst va_nil))
      (vs_cons (vs_set 4 hz sc__law_draws.nd (ve_p vp_int))
      (vs_cons (vs_for (passes_of rfl) rfl (vi_range1 T.n_range (va_cons (ve_p (vp_var 1 (pv 1))) va_nil)) (vg_name 5 hz sc__law_draws.nd) (vs_cons (vs_set 6 hz sc__law_draws.nd (ve_p (vp_mod (vp_var 5 (pv 5)) (vp_len T.n_len (vp_var 2 (pv 2))))))
      (vs_cons (vs_set 7 hz sc__law_draws.nd (ve_p (vp_ix (vp_var 2 (pv 2)) (vp_var 6 (pv 6)))))
      (vs_cons (vs_set 4 hz sc__law_draws.nd (ve_p (vp_mod (vp_toInt T.n_int (vp_add (vp_add (vp_add (vp_mul (vp_var 4 (pv 4)) vp_int) (vp_mul (vp_mod (vp_toInt T.n_int (vp_var 7 (pv 7))) vp_int) vp_int)) (vp_mul (vp_var 5 (pv 5)) vp_int)) vp_int)) vp_int)))
      (vs_cons (vs_set 8 hz sc__law_draws.nd (ve_p (vp_mod (vp_toInt T.n_int (vp_add (vp_add (vp_mul (vp_var 4 (pv 4)) (vp_var 4 (pv 4))) (vp_mul vp_int (vp_var 4 (pv 4)))) (vp_var 5 (pv 5)))) vp_int)))
      (vs_one (vs_if (vt_pc (vp_ge (vp_var 7 (pv 7)) (vp_pow vp_int vp_int))) (vs_cons (vs_append 3 (pv 3) (ve_p (vp_mod (vp_toInt T.n_int (vp_var 7 (pv 7))) vp_int)))
      (vs_one (vs_put 2 (pv 2) (vp_var 6 (pv 6)) (ve_p (vp_div (vp_var 7 (pv 7)) vp_int))))) (vs_one (vs_append 3 (pv 3) (ve_p (vp_mod (vp_toInt T.n_int (vp_var 8 (pv 8))) vp_int)))))))))))
      (vs_cons (vs_reverse 3 (pv 3))
      (vs_one (vs_ret (ve_gv 3 hz (pv 3))))))))))
theorem ok__law_take (T : Txt G mg fa fd ca) : FnOk P w G.K mg base (L2.CX P w) 1 (fa 5) (fd 5) P__law_take (spOf G run__law_take [true, false]) :=
  vfn (ms := [true, false]) T.d__law_take.fn sc__law_take rfl (by decide) rfl fun cdv A outer s H E z hr hz =>
    (vs_cons (vs_if (vt_pc (vp_eq hr.units (vp_len T.n_len (vp_var 0 (pv 0))) vp_int)) (vs_one (vs_ret (ve_p vp_int))) vs_nil)
      (vs_one (vs_ret (ve_mod (ve_toInt T.n_int (ve_pop 0 (pv 0))) (ve_p (vp_var 1 (pv 1)))))))
theorem ok__law_is_integer (T : Txt G mg fa fd ca) : FnOk P w G.K mg base (L2.CX P w) 1 (fa 6) (fd 6) P__law_is_integer (spOf G run__law_is_integer [false]) :=
  vfn (ms := [false]) T.d__law_is_integer.fn sc__law_is_integer rfl (by decide) rfl fun cdv A outer s H E z hr hz =>
    (vs_one (vs_ret (ve_and (ve_p (vp_isi "int" T.n_isinstance T.n_int (by decide +kernel) (vp_var 0 (pv 0)))) (ve_one (ve_not (ve_p (vp_isi "bool" T.n_isinstance T.n_bool (by decide +kernel) (vp_var 0 (pv 0)))))))))
theorem ok__law_name (T : Txt G mg fa fd ca) : FnOk P w G.K mg base (L2.CX P w) 2 (fa 7) (fd 7) P__law_name (spOf G run__law_name [true, false]) :=
  vfn (ms := [true, false, false, false, false]) T.d__law_name.fn sc__law_name rfl (by decide) rfl fun cdv A outer s H E z hr hz =>
    (vs_cons (vs_set 2 hz sc__law_name.nd (ve_p vp_str))
      (vs_cons (vs_set 3 hz sc__law_name.nd (ve_join "" (ve_lc [("j", 4)] hz rfl sc__law_name.nd (vi_range1 T.n_range (va_cons (ve_call (ok__law_take T) (hr.mono (by decide)) T.d__law_take.mg T.d__law_take.fn.kp T.d__law_take.bd (takes_of rfl rfl rfl rfl) (vag_l 0 (pv 0) (vag_v (ve_p vp_int) vag_nil))) va_nil)) (blkOk_by (N := N__law_name) (sc := defScope s__law_name) (by decide +kernel)) (fun _ _ _ _ _ => (vg_name 4 hz sc__law_name.nd)) (fun _ _ _ _ _ => vts_nil) (fun _ _ _ _ _ => (ve_ix (ve_p (vp_var 2 (pv 2))) (ve_call (ok__law_take T) (hr.mono (by decide)) T.d__law_take.mg T.d__law_take.fn.kp T.d__law_take.bd takes0 (vag_l 0 (pv 0) (vag_v (ve_p vp_int) vag_nil))))))))
      (vs_one (vs_ret (ve_add (ve_add (ve_ix (ve_p (vp_var 2 (pv 2))) (ve_call (ok__law_take T) (hr.mono (by decide)) T.d__law_take.mg T.d__law_take.fn.kp T.d__law_take.bd (takes_of rfl rfl rfl rfl) (vag_l 0 (pv 0) (vag_v (ve_p vp_int) vag_nil)))) (ve_mv 3 hz (pv 3))) (ve_p (vp_ix vp_str (vp_var 1 (pv 1)))))))))
theorem ok__law_names (T : Txt G mg fa fd ca) : FnOk P w G.K mg base (L2.CX P w) 3 (fa 8) (fd 8) P__law_names (spOf G run__law_names [true, false]) :=
  vfn (ms := [true, false, false]) T.d__law_names.fn sc__law_names rfl (by decide) rfl fun cdv A outer s H E z hr hz =>
    (vs_one (vs_ret (ve_lc [("k", 2)] hz rfl sc__law_names.nd (vi_range1 T.n_range (va_cons (ve_p (vp_var 1 (pv 1))) va_nil)) (blkOk_by (N := N__law_names) (sc := defScope s__law_names) (by decide +kernel)) (fun _ _ _ _ _ => (vg_name 2 hz sc__law_names.nd)) (fun _ _ _ _ _ => vts_nil) (fun _ _ _ _ _ => (ve_fz (ve_call (ok__law_name T) (hr.mono (by decide)) T.d__law_name.mg T.d__law_name.fn.kp T.d__law_name.bd takes0 (vag_l 0 (pv 0) (vag_v (ve_p (vp_var 2 (pv 2))) vag_nil))))))))
theorem ok__law_leaf (T : Txt G mg fa fd ca) : FnOk P w G.K mg base (L2.CX P w) 2 (fa 9) (fd 9) P__law_leaf (spOf G run__law_leaf [true, false]) :=
  vfn (ms := [true, false, false]) T.d__law_leaf.fn sc__law_leaf rfl (by decide) rfl fun cdv A outer s H E z hr hz =>
    (vs_cons (vs_set 2 hz sc__law_leaf.nd (ve_call (ok__law_take T) (hr.mono (by decide)) T.d__law_take.mg T.d__law_take.fn.kp T.d__law_take.bd (takes_of rfl rfl rfl rfl) (vag_l 0 (pv 0) (vag_v (ve_p vp_int) vag_nil))))
      (vs_cons (vs_if (PW.pt (vw_or (vt_pc (vp_eq hr.units (vp_len T.n_len (vp_var 1 (pv 1))) vp_int)) (vw_or1 (vt_pc (vp_eq hr.units (vp_var 2 (pv 2)) vp_int))))) (vs_one (vs_ret (ve_tup (va_cons (ve_ix (ve_lst (va_cons (ve_p vp_str) (va_cons (ve_p vp_str) va_nil))) (ve_p (vp_mod (vp_var 2 (pv 2)) vp_int))) va_nil)))) vs_nil)
      (vs_one (vs_ret (ve_tup (va_cons (ve_p vp_str) (va_cons (ve_ix (ve_p (vp_var 1 (pv 1))) (ve_call (ok__law_take T) (hr.mono (by decide)) T.d__law_take.mg T.d__law_take.fn.kp T.d__law_take.bd (takes_of rfl rfl rfl rfl) (vag_l 0 (pv 0) (vag_v (ve_p (vp_len T.n_len (vp_var 1 (pv 1)))) vag_nil)))) va_nil)))))))
theorem okg__law_formula (T : Txt G mg fa fd ca) : ∀ n : Nat, FnOk P w G.K mg base (L2.CX P w) (3 + n) (fa 10) (fd 10) P__law_formula (spOf G (run__law_formula n) [true, false, false, false])
  | 0 => ok_none
  | n + 1 => by
    obtain ih__law_formula := okg__law_formula T n
    have o__law_formula : FnOk P w G.K mg base (L2.CX P w) (3 + (n + 1)) (fa 10) (fd 10) P__law_formula (spOf G (run__law_formula ((n + 1))) [true, false, false, false]) := vfn (ms := [true, false, false, false, false, false, false, false, false]) T.d__law_formula.fn sc__law_formula rfl (by decide) rfl fun cdv A outer s H E z hr hz =>
      (vs_cons (vs_set 4 hz sc__law_formula.nd (ve_call (ok__law_take T) (hr.mono (Nat.le_trans (m := 3) (by decide) (Nat.le_add_right _ _))) T.d__law_take.mg T.d__law_take.fn.kp T.d__law_take.bd (takes_of rfl rfl rfl rfl) (vag_l 0 (pv 0) (vag_v (ve_p vp_int) vag_nil))))
      (vs_cons (vs_if (PW.pt (vw_or (vt_pc (vp_eq hr.units (vp_var 3 (pv 3)) vp_int)) (vw_or1 (vt_pc (vp_lt (vp_var 4 (pv 4)) vp_int))))) (vs_one (vs_ret (ve_call (ok__law_leaf T) (hr.mono (Nat.le_trans (m := 3) (by decide) (Nat.le_add_right _ _))) T.d__law_leaf.mg T.d__law_leaf.fn.kp T.d__law_leaf.bd (takes_of rfl rfl rfl rfl) (vag_l 0 (pv 0) (vag_v (ve_p (vp_var 1 (pv 1))) vag_nil))))) vs_nil)
      (vs_cons (vs_if (PW.pt (vw_and (vt_pc (vp_gt (vp_var 2 (pv 2)) vp_int)) (vw_and1 (vt_pc (vp_lt (vp_var 4 (pv 4)) vp_int))))) (vs_cons (vs_set 5 hz sc__law_formula.nd (ve_lst (va_cons (ve_p vp_str) (va_cons (ve_p vp_str) (va_cons (ve_p vp_str) (va_cons (ve_p vp_str) (va_cons (ve_p vp_str) (va_cons (ve_p vp_str) (va_cons (ve_p vp_str) va_nil)))))))))
      (vs_cons (vs_if (vt_pc (vp_lt (vp_var 4 (pv 4)) vp_int)) (vs_one (vs_ret (ve_tup (va_cons (ve_p (vp_ix (vp_var 5 (pv 5)) (vp_sub (vp_var 4 (pv 4)) vp_int))) (va_cons (ve_call ih__law_formula hr T.d__law_formula.mg T.d__law_formula.fn.kp T.d__law_formula.bd (takes_of rfl rfl rfl rfl) (vag_l 0 (pv 0) (vag_v (ve_p (vp_var 1 (pv 1))) (vag_v (ve_p (vp_sub (vp_var 2 (pv 2)) vp_int)) (vag_v (ve_p (vp_sub (vp_var 3 (pv 3)) vp_int)) vag_nil))))) va_nil))))) vs_nil)
      (vs_cons (vs_set 6 hz sc__law_formula.nd (ve_ix (ve_lst (va_cons (ve_p vp_str) (va_cons (ve_p vp_str) (va_cons (ve_p vp_str) (va_cons (ve_p vp_str) (va_cons (ve_p vp_str) (va_cons (ve_p vp_str) (va_cons (ve_p vp_str) va_nil)))))))) (ve_p (vp_sub (vp_var 4 (pv 4)) vp_int))))
      (vs_cons (vs_if (PW.pt (vw_and (vt_pc (vp_eq hr.units (vp_var 3 (pv 3)) vp_int)) (vw_and1 (vt_pc (vp_eq hr.units (vp_var 6 (pv 6)) vp_str))))) (vs_one (vs_set 6 hz sc__law_formula.nd (ve_p vp_str))) vs_nil)
      (vs_cons (vs_set 7 hz sc__law_formula.nd (ve_call (ok__law_take T) (hr.mono (Nat.le_trans (m := 3) (by decide) (Nat.le_add_right _ _))) T.d__law_take.mg T.d__law_take.fn.kp T.d__law_take.bd (takes_of rfl rfl rfl rfl) (vag_l 0 (pv 0) (vag_v (ve_p (vp_var 2 (pv 2))) vag_nil))))
      (vs_cons (vs_set 8 hz sc__law_formula.nd (ve_call ih__law_formula hr T.d__law_formula.mg T.d__law_formula.fn.kp T.d__law_formula.bd (takes_of rfl rfl rfl rfl) (vag_l 0 (pv 0) (vag_v (ve_p (vp_var 1 (pv 1))) (vag_v (ve_mv 7 hz (pv 7)) (vag_v (ve_p (vp_sub (vp_var 3 (pv 3)) vp_int)) vag_nil))))))
      (vs_one (vs_ret (ve_tup (va_cons (ve_p (vp_var 6 (pv 6))) (va_cons (ve_mv 8 hz (pv 8)) (va_cons (ve_call ih__law_formula hr T.d__law_formula.mg T.d__law_formula.fn.kp T.d__law_formula.bd (takes_of rfl rfl rfl rfl) (vag_l 0 (pv 0) (vag_v (ve_p (vp_var 1 (pv 1))) (vag_v (ve_p (vp_sub (vp_sub (vp_var 2 (pv 2)) vp_int) (vp_var 7 (pv 7)))) (vag_v (ve_p (vp_sub (vp_var 3 (pv 3)) vp_int)) vag_nil))))) va_nil)))))))))))) vs_nil)
      (vs_cons (vs_if (vt_pc (vp_eq hr.units (vp_mod (vp_var 4 (pv 4)) vp_int) vp_int)) (vs_one (vs_ret (ve_tup (va_cons (ve_p vp_str) (va_cons (ve_call ih__law_formula hr T.d__law_formula.mg T.d__law_formula.fn.kp T.d__law_formula.bd (takes_of rfl rfl rfl rfl) (vag_l 0 (pv 0) (vag_v (ve_p (vp_var 1 (pv 1))) (vag_v (ve_p (vp_var 2 (pv 2))) (vag_v (ve_p (vp_sub (vp_var 3 (pv 3)) vp_int)) vag_nil))))) va_nil))))) vs_nil)
      (vs_cons (vs_set 6 hz sc__law_formula.nd (ve_ix (ve_lst (va_cons (ve_p vp_str) (va_cons (ve_p vp_str) (va_cons (ve_p vp_str) (va_cons (ve_p vp_str) va_nil))))) (ve_p (vp_mod (vp_var 4 (pv 4)) vp_int))))
      (vs_cons (vs_if (PW.pt (vw_and (vt_pc (vp_eq hr.units (vp_var 3 (pv 3)) vp_int)) (vw_and1 (vt_pc (vp_eq hr.units (vp_var 6 (pv 6)) vp_str))))) (vs_one (vs_set 6 hz sc__law_formula.nd (ve_p vp_str))) vs_nil)
      (vs_cons (vs_set 7 hz sc__law_formula.nd (ve_call (ok__law_take T) (hr.mono (Nat.le_trans (m := 3) (by decide) (Nat.le_add_right _ _))) T.d__law_take.mg T.d__law_take.fn.kp T.d__law_take.bd (takes_of rfl rfl rfl rfl) (vag_l 0 (pv 0) (vag_v (ve_p (vp_add (vp_var 2 (pv 2)) vp_int)) vag_nil))))
      (vs_cons (vs_set 8 hz sc__law_formula.nd (ve_call ih__law_formula hr T.d__law_formula.mg T.d__law_formula.fn.kp T.d__law_formula.bd (takes_of rfl rfl rfl rfl) (vag_l 0 (pv 0) (vag_v (ve_p (vp_var 1 (pv 1))) (vag_v (ve_mv 7 hz (pv 7)) (vag_v (ve_p (vp_sub (vp_var 3 (pv 3)) vp_int)) vag_nil))))))
      (vs_one (vs_ret (ve_tup (va_cons (ve_p (vp_var 6 (pv 6))) (va_cons (ve_mv 8 hz (pv 8)) (va_cons (ve_call ih__law_formula hr T.d__law_formula.mg T.d__law_formula.fn.kp T.d__law_formula.bd (takes_of rfl rfl rfl rfl) (vag_l 0 (pv 0) (vag_v (ve_p (vp_var 1 (pv 1))) (vag_v (ve_p (vp_sub (vp_var 2 (pv 2)) (vp_var 7 (pv 7)))) (vag_v (ve_p (vp_sub (vp_var 3 (pv 3)) vp_int)) vag_nil))))) va_nil))))))))))))))
    exact o__law_formula
theorem ok__law_formula (T : Txt G mg fa fd ca) (n : Nat) : FnOk P w G.K mg base (L2.CX P w) (3 + n) (fa 10) (fd 10) P__law_formula (spOf G (run__law_formula n) [true, false, false, false]) := (okg__law_formula T n)
theorem ok__law_property (T : Txt G mg fa fd ca) : FnOk P w G.K mg base (L2.CX P w) 44 (fa 11) (fd 11) P__law_property (spOf G run__law_property [true, false, false, false, false]) :=
  vfn (ms := [true, false, false, false, false, false, false]) T.d__law_property.fn sc__law_property rfl (by decide) rfl fun cdv A outer s H E z hr hz =>
    (vs_cons (vs_if (vt_ec (ve_ge (ve_call (ok__law_take T) (hr.mono (by decide)) T.d__law_take.mg T.d__law_take.fn.kp T.d__law_take.bd (takes_of rfl rfl rfl rfl) (vag_l 0 (pv 0) (vag_v (ve_p vp_int) vag_nil))) (ve_p (vp_var 4 (pv 4))))) (vs_one (vs_ret (ve_call (ok__law_formula T 40) (hr.mono (by decide)) T.d__law_formula.mg T.d__law_formula.fn.kp T.d__law_formula.bd (takes_of rfl rfl rfl rfl) (vag_l 0 (pv 0) (vag_v (ve_p (vp_var 1 (pv 1))) (vag_v (ve_p (vp_var 2 (pv 2))) (vag_v (ve_p (vp_var 3 (pv 3))) vag_nil))))))) vs_nil)
      (vs_cons (vs_set 5 hz sc__law_property.nd (ve_slE (ve_tup (va_cons (ve_p vp_str) (va_cons (ve_p vp_str) va_nil))) .none (.some (ve_add (ve_p vp_int) (ve_div (ve_call (ok__law_take T) (hr.mono (by decide)) T.d__law_take.mg T.d__law_take.fn.kp T.d__law_take.bd (takes_of rfl rfl rfl rfl) (vag_l 0 (pv 0) (vag_v (ve_p vp_int) vag_nil))) (ve_p vp_int))))))
      (vs_cons (vs_set 6 hz sc__law_property.nd (ve_call (ok__law_formula T 40) (hr.mono (by decide)) T.d__law_formula.mg T.d__law_formula.fn.kp T.d__law_formula.bd (takes_of rfl rfl rfl rfl) (vag_l 0 (pv 0) (vag_v (ve_cat (ve_listP T.n_list (vp_var 1 (pv 1))) (ve_listP T.n_list (vp_var 5 (pv 5)))) (vag_v (ve_p (vp_min rfl T.n_min (vp_var 2 (pv 2)) vp_int)) (vag_v (ve_p (vp_var 3 (pv 3))) vag_nil))))))
      (vs_one (vs_ret (ve_tup (va_cons (ve_ix (ve_lst (va_cons (ve_p vp_str) (va_cons (ve_p vp_str) va_nil))) (ve_call (ok__law_take T) (hr.mono (by decide)) T.d__law_take.mg T.d__law_take.fn.kp T.d__law_take.bd (takes_of rfl rfl rfl rfl) (vag_l 0 (pv 0) (vag_v (ve_p vp_int) vag_nil)))) (va_cons (ve_mv 5 hz (pv 5)) (va_cons (ve_mv 6 hz (pv 6)) va_nil)))))))))
theorem ok__law_outcome (T : Txt G mg fa fd ca) : FnOk P w G.K mg base (L2.CX P w) 4 (fa 12) (fd 12) P__law_outcome (spOf G run__law_outcome [false, false, false, false, false, false, false]) :=
  vfn (ms := [false, false, false, false, false, false, false]) T.d__law_outcome.fn sc__law_outcome rfl (by decide) rfl fun cdv A outer s H E z hr hz =>
    (vs_one (vs_try sc__law_outcome.nd (takes_of rfl rfl rfl rfl) (fun W1 pn1 xe1 tk1 hp1 => (vs_cons (vs_if (PW.pt (vw_and (vt_p (vp_var 6 (pv 6))) (vw_and1 (vt_not (vt_p (vp_var 5 (pv 5))))))) (vs_one (vs_ret (ve_makeD (c := "Spec") (b := false) T.mk_Spec (ok_Spec___init__ T) (hr.mono (by decide)) T.g_Spec T.d_Spec___init__.b0.choose_spec tk1 (pak_cons (ve_p (vp_var 0 (pv 0))) (pak_cons (ve_p (vp_var 1 (pv 1))) (pak_cons (ve_p (vp_var 2 (pv 2))) (pak_cons (ve_p (vp_var 3 (pv 3))) (pak_cons (ve_p (vp_var 4 (pv 4))) pak_nil)))))))) vs_nil)
      (vs_one (vs_ret (ve_makeK (c := "Spec") T.mk_Spec (ok_Spec___init__ T) (hr.mono (by decide)) T.g_Spec T.d_Spec___init__.bk tk1 rfl (pak_cons (ve_p (vp_var 0 (pv 0))) (pak_cons (ve_p (vp_var 1 (pv 1))) (pak_cons (ve_p (vp_var 2 (pv 2))) (pak_cons (ve_p (vp_var 3 (pv 3))) (pak_cons (ve_p (vp_var 4 (pv 4))) (pak_one (ve_p (vp_var 5 (pv 5)))))))))))))) (TryOk.cons ⟨rfl, by decide, .inl T.x_InvalidSpec.mg⟩ T.mt_InvalidSpec trivial (fun i hi => by cases hi <;> exact hz.2 _ rfl) (fun ad oe cls d pn c xx hzc hf hc hd => by
        skip
        exact (vs_one (vs_ret (ve_p vp_non)))) TryOk.nil)))
theorem ok__law_is_spec (T : Txt G mg fa fd ca) : FnOk P w G.K mg base (L2.CX P w) 3 (fa 13) (fd 13) P__law_is_spec (spOf G run__law_is_spec [false, false, false, false, false, false, false]) :=
  vfn (ms := [false, false, false, false, false, false, false]) T.d__law_is_spec.fn sc__law_is_spec rfl (by decide) rfl fun cdv A outer s H E z hr hz =>
    (vs_cons (vs_if (PW.pt (vw_or (vt_not (vt_p (vp_isiO "Spec" T.n_isinstance (pe_glob rfl T.g_Spec rfl) T.cls_Spec T.io_Spec (vp_var 0 (pv 0))))) (vw_or (vt_ec (ve_ne hr.units (ve_p (vp_fld "Spec" T.cls_Spec T.f_Spec_inputs (vp_var 0 (pv 0)))) (ve_tupleP T.n_tuple (vp_var 1 (pv 1))))) (vw_or1 (vt_ec (ve_ne hr.units (ve_p (vp_fld "Spec" T.cls_Spec T.f_Spec_outputs (vp_var 0 (pv 0)))) (ve_tupleP T.n_tuple (vp_var 2 (pv 2))))))))) (vs_one (vs_ret (ve_p vp_bl))) vs_nil)
      (vs_cons (vs_if (PW.pt (vw_or (vt_not (vt_e (ve_call (ok__law_is_integer T) (hr.mono (by decide)) T.d__law_is_integer.mg T.d__law_is_integer.fn.kp T.d__law_is_integer.bd (takes_of rfl rfl rfl rfl) (vag_v (ve_p (vp_fld "Spec" T.cls_Spec T.f_Spec_lead (vp_var 0 (pv 0)))) vag_nil)))) (vw_or1 (vt_pc (vp_ne hr.units (vp_fld "Spec" T.cls_Spec T.f_Spec_lead (vp_var 0 (pv 0))) (vp_var 3 (pv 3))))))) (vs_one (vs_ret (ve_p vp_bl))) vs_nil)
      (vs_cons (vs_if (PW.pt (vw_or (vt_not (vt_p (vp_isi "bool" T.n_isinstance T.n_bool (by decide +kernel) (vp_fld "Spec" T.cls_Spec T.f_Spec_negated (vp_var 0 (pv 0)))))) (vw_or1 (vt_pc (vp_ne hr.units (vp_fld "Spec" T.cls_Spec T.f_Spec_negated (vp_var 0 (pv 0))) (vp_var 6 (pv 6))))))) (vs_one (vs_ret (ve_p vp_bl))) vs_nil)
      (vs_cons (vs_if (PW.pt (vw_or (vt_not (vt_p (vp_isiK "tuple" T.n_isinstance T.n_tuple (by decide +kernel) (vp_fld "Spec" T.cls_Spec T.f_Spec_assumptions (vp_var 0 (pv 0)))))) (vw_or1 (vt_not (vt_p (vp_isiK "tuple" T.n_isinstance T.n_tuple (by decide +kernel) (vp_fld "Spec" T.cls_Spec T.f_Spec_guarantees (vp_var 0 (pv 0))))))))) (vs_one (vs_ret (ve_p vp_bl))) vs_nil)
      (vs_cons (vs_if (PW.pt (vw_or (vt_ec (ve_ne hr.units (ve_p (vp_fld "Spec" T.cls_Spec T.f_Spec_assumptions (vp_var 0 (pv 0)))) (ve_tupleP T.n_tuple (vp_var 4 (pv 4))))) (vw_or1 (vt_ec (ve_ne hr.units (ve_p (vp_fld "Spec" T.cls_Spec T.f_Spec_guarantees (vp_var 0 (pv 0)))) (ve_tupleP T.n_tuple (vp_var 5 (pv 5)))))))) (vs_one (vs_ret (ve_p vp_bl))) vs_nil)
      (vs_one (vs_ret (ve_and (ve_isiK "tuple" T.n_isinstance T.n_tuple (by decide +kernel) (T.p_Spec_signals.elim fun _ pp => ve_prop "Spec" "signals" T.cls_Spec pp (ok_Spec_signals T) (hr.mono (by decide)) T.d_Spec_signals.bd (vp_var 0 (pv 0)))) (ve_one (ve_eq hr.units (T.p_Spec_signals.elim fun _ pp => ve_prop "Spec" "signals" T.cls_Spec pp (ok_Spec_signals T) (hr.mono (by decide)) T.d_Spec_signals.bd (vp_var 0 (pv 0))) (ve_cat (ve_tupleP T.n_tuple (vp_var 1 (pv 1))) (ve_tupleP T.n_tuple (vp_var 2 (pv 2))))))))))))))
theorem ok_law (T : Txt G mg fa fd ca) : FnOk P w G.K mg base (L2.CX P w) 45 (fa 14) (fd 14) P_law (spOf G run_law [false]) :=
  vfn (ms := [false, false, false, false, false, false, false, false, false, false, false, false, false, false, false]) T.d_law.fn sc_law rfl (by decide) rfl fun cdv A outer s H E z hr hz =>
    (vs_cons (vs_set 1 hz sc_law.nd (ve_call (ok__law_draws T) (hr.mono (by decide)) T.d__law_draws.mg T.d__law_draws.fn.kp T.d__law_draws.bd (takes_of rfl rfl rfl rfl) (vag_v (ve_p (vp_var 0 (pv 0))) (vag_v (ve_p vp_int) vag_nil))))
      (vs_cons (vs_set 2 hz sc_law.nd (ve_call (ok__law_names T) (hr.mono (by decide)) T.d__law_names.mg T.d__law_names.fn.kp T.d__law_names.bd (takes_of rfl rfl rfl rfl) (vag_l 1 (pv 1) (vag_v (ve_p vp_int) vag_nil))))
      (vs_cons (vs_set 3 hz sc_law.nd (ve_slE (ve_mv 2 hz (pv 2)) .none (.some (ve_call (ok__law_take T) (hr.mono (by decide)) T.d__law_take.mg T.d__law_take.fn.kp T.d__law_take.bd (takes_of rfl rfl rfl rfl) (vag_l 1 (pv 1) (vag_v (ve_p vp_int) vag_nil))))))
      (vs_cons (vs_set 4 hz sc_law.nd (ve_slE (ve_mv 2 hz (pv 2)) (.some (ve_p vp_int)) (.some (ve_add (ve_p vp_int) (ve_call (ok__law_take T) (hr.mono (by decide)) T.d__law_take.mg T.d__law_take.fn.kp T.d__law_take.bd (takes_of rfl rfl rfl rfl) (vag_l 1 (pv 1) (vag_v (ve_p vp_int) vag_nil)))))))
      (vs_cons (vs_set 5 hz sc_law.nd (ve_sub (ve_call (ok__law_take T) (hr.mono (by decide)) T.d__law_take.mg T.d__law_take.fn.kp T.d__law_take.bd (takes_of rfl rfl rfl rfl) (vag_l 1 (pv 1) (vag_v (ve_p vp_int) vag_nil))) (ve_p vp_int)))
      (vs_cons (vs_setLc 6 [("k", 7)] hz rfl sc_law.nd (vi_range1 T.n_range (va_cons (ve_call (ok__law_take T) (hr.mono (by decide)) T.d__law_take.mg T.d__law_take.fn.kp T.d__law_take.bd (takes_of rfl rfl rfl rfl) (vag_l 1 (pv 1) (vag_v (ve_p vp_int) vag_nil))) va_nil)) (blkOk_by (N := N_law) (sc := defScope s_law) (by decide +kernel)) (fun _ _ _ _ _ => (vg_name 7 hz sc_law.nd)) (fun _ _ _ _ _ => vts_nil) (fun _ _ _ _ _ => (ve_fz (ve_call (ok__law_formula T 40) (hr.mono (by decide)) T.d__law_formula.mg T.d__law_formula.fn.kp T.d__law_formula.bd takes0 (vag_l 1 (pv 1) (vag_v (ve_cat (ve_mv 3 hz (pv 3)) (ve_mv 4 hz (pv 4))) (vag_v (ve_p vp_int) (vag_v (ve_p vp_int) vag_nil))))))) (sw_true rfl rfl rfl (by decide +kernel)))
      (vs_cons (vs_setLc 8 [("k", 7)] hz rfl sc_law.nd (vi_range1 T.n_range (va_cons (ve_call (ok__law_take T) (hr.mono (by decide)) T.d__law_take.mg T.d__law_take.fn.kp T.d__law_take.bd (takes_of rfl rfl rfl rfl) (vag_l 1 (pv 1) (vag_v (ve_p vp_int) vag_nil))) va_nil)) (blkOk_by (N := N_law) (sc := defScope s_law) (by decide +kernel)) (fun _ _ _ _ _ => (vg_name 7 hz sc_law.nd)) (fun _ _ _ _ _ => vts_nil) (fun _ _ _ _ _ => (ve_fz (ve_call (ok__law_property T) (hr.mono (by decide)) T.d__law_property.mg T.d__law_property.fn.kp T.d__law_property.bd takes0 (vag_l 1 (pv 1) (vag_v (ve_cat (ve_mv 3 hz (pv 3)) (ve_mv 4 hz (pv 4))) (vag_v (ve_p vp_int) (vag_v (ve_p vp_int) (vag_v (ve_p vp_int) vag_nil)))))))) (sw_true rfl rfl rfl (by decide +kernel)))
      (vs_cons (vs_set 9 hz sc_law.nd (ve_eq hr.units (ve_call (ok__law_take T) (hr.mono (by decide)) T.d__law_take.mg T.d__law_take.fn.kp T.d__law_take.bd (takes_of rfl rfl rfl rfl) (vag_l 1 (pv 1) (vag_v (ve_p vp_int) vag_nil))) (ve_p vp_int)))
      (vs_cons (vs_set 10 hz sc_law.nd (ve_call (ok__law_take T) (hr.mono (by decide)) T.d__law_take.mg T.d__law_take.fn.kp T.d__law_take.bd (takes_of rfl rfl rfl rfl) (vag_l 1 (pv 1) (vag_v (ve_p vp_int) vag_nil))))
      (vs_cons (vs_if (vt_pc (vp_eq hr.units (vp_var 10 (pv 10)) vp_int)) (vs_one (vs_set 3 hz sc_law.nd (ve_lst (va_cons (ve_p vp_str) (va_cons (ve_p vp_str) (va_cons (ve_p vp_str) (va_cons (ve_p vp_str) va_nil))))))) vs_nil)
      (vs_cons (vs_if (vt_pc (vp_eq hr.units (vp_var 10 (pv 10)) vp_int)) (vs_one (vs_set 4 hz sc_law.nd (ve_lst (va_cons (ve_p vp_str) (va_cons (ve_p vp_str) (va_cons (ve_p vp_str) (va_cons (ve_p vp_str) va_nil))))))) vs_nil)
      (vs_cons (vs_if (vt_pc (vp_eq hr.units (vp_var 10 (pv 10)) vp_int)) (vs_cons (vs_set 11 hz sc_law.nd (ve_lst (va_cons (ve_p vp_str) (va_cons (ve_p vp_str) (va_cons (ve_p vp_str) (va_cons (ve_p vp_str) (va_cons (ve_p vp_str) (va_cons (ve_p vp_str) (va_cons (ve_p vp_str) (va_cons (ve_p vp_str) (va_cons (ve_p vp_str) (va_cons (ve_p vp_str) (va_cons (ve_p vp_str) (va_cons (ve_p vp_str) va_nil))))))))))))))
      (vs_one (vs_set 3 hz sc_law.nd (ve_cat (ve_sl (vp_var 3 (pv 3)) .none (.some vp_int)) (ve_lst (va_cons (ve_ix (ve_mv 11 hz (pv 11)) (ve_call (ok__law_take T) (hr.mono (by decide)) T.d__law_take.mg T.d__law_take.fn.kp T.d__law_take.bd (takes_of rfl rfl rfl rfl) (vag_l 1 (pv 1) (vag_v (ve_p vp_int) vag_nil)))) va_nil)))))) vs_nil)
      (vs_cons (vs_if (vt_pc (vp_eq hr.units (vp_var 10 (pv 10)) vp_int)) (vs_cons (vs_set 4 hz sc_law.nd (ve_cat (ve_sl (vp_var 4 (pv 4)) .none (.some vp_int)) (ve_slE (ve_cat (ve_cat (ve_mv 3 hz (pv 3)) (ve_mv 4 hz (pv 4))) (ve_lst (va_cons (ve_p vp_str) va_nil))) .none (.some (ve_p vp_int)))))
      (vs_cons (vs_set 3 hz sc_law.nd (ve_slE (ve_cat (ve_mv 3 hz (pv 3)) (ve_lst (va_cons (ve_p vp_str) va_nil))) .none (.some (ve_p vp_int))))
      (vs_one (vs_set 4 hz sc_law.nd (ve_cat (ve_sl (vp_var 4 (pv 4)) .none (.some vp_int)) (ve_mv 3 hz (pv 3))))))) vs_nil)
      (vs_cons (vs_if (vt_pc (vp_lt (vp_var 10 (pv 10)) vp_int)) (vs_cons (vs_set 6 hz sc_law.nd (ve_lst va_nil))
      (vs_one (vs_set 8 hz sc_law.nd (ve_lst va_nil)))) vs_nil)
      (vs_cons (vs_if (vt_pc (vp_eq hr.units (vp_var 10 (pv 10)) vp_int)) (vs_one (vs_set 5 hz sc_law.nd (ve_ix (ve_lst (va_cons (ve_p (vp_neg vp_int)) (va_cons (ve_p vp_int) (va_cons (ve_p vp_int) va_nil)))) (ve_call (ok__law_take T) (hr.mono (by decide)) T.d__law_take.mg T.d__law_take.fn.kp T.d__law_take.bd (takes_of rfl rfl rfl rfl) (vag_l 1 (pv 1) (vag_v (ve_p vp_int) vag_nil)))))) vs_nil)
      (vs_cons (vs_set 12 hz sc_law.nd (ve_lst (va_cons (ve_listP T.n_list (vp_var 3 (pv 3))) (va_cons (ve_listP T.n_list (vp_var 4 (pv 4))) (va_cons (ve_listP T.n_list (vp_var 6 (pv 6))) (va_cons (ve_listP T.n_list (vp_var 8 (pv 8))) va_nil))))))
      (vs_cons (vs_setB 12 13 hz sc_law.nd (ve_call (ok__law_outcome T) (hr.mono (by decide)) T.d__law_outcome.mg T.d__law_outcome.fn.kp T.d__law_outcome.bd (takes_of rfl rfl rfl rfl) (vag_v (ve_p (vp_ix (vp_var 12 (pv 12)) vp_int)) (vag_v (ve_p (vp_ix (vp_var 12 (pv 12)) vp_int)) (vag_v (ve_p (vp_var 5 (pv 5))) (vag_v (ve_p (vp_ix (vp_var 12 (pv 12)) vp_int)) (vag_v (ve_p (vp_ix (vp_var 12 (pv 12)) vp_int)) (vag_v (ve_p (vp_var 9 (pv 9))) (vag_v (ve_eq hr.units (ve_call (ok__law_take T) (hr.mono (by decide)) T.d__law_take.mg T.d__law_take.fn.kp T.d__law_take.bd (takes_of rfl rfl rfl rfl) (vag_l 1 (pv 1) (vag_v (ve_p vp_int) vag_nil))) (ve_p vp_int)) vag_nil)))))))))
      (vs_cons (vs_if (vt_ec (ve_neV 12 hr.units (pv 12) (ve_lst (va_cons (ve_mv 3 hz (pv 3)) (va_cons (ve_mv 4 hz (pv 4)) (va_cons (ve_mv 6 hz (pv 6)) (va_cons (ve_mv 8 hz (pv 8)) va_nil))))))) (vs_one (vs_ret (ve_p vp_bl))) vs_nil)
      (vs_cons (vs_if (vt_pc (vp_lt (vp_var 10 (pv 10)) vp_int)) (vs_one (vs_ret (ve_p (vp_isN (vp_var 13 (pv 13)))))) vs_nil)
      (vs_cons (vs_nApp 12 hz (vn_ix 12 (vn_nil 12 (pv 12)) vp_int) (ve_p vp_str))
      (vs_cons (vs_nApp 12 hz (vn_ix 12 (vn_nil 12 (pv 12)) vp_int) (ve_tup (va_cons (ve_p vp_str) va_nil)))
      (vs_cons (vs_nApp 12 hz (vn_ix 12 (vn_nil 12 (pv 12)) vp_int) (ve_tup (va_cons (ve_p vp_str) va_nil)))
      (vs_cons (vs_if (vt_not (vt_e (ve_call (ok__law_is_spec T) (hr.mono (by decide)) T.d__law_is_spec.mg T.d__law_is_spec.fn.kp T.d__law_is_spec.bd (takes_of rfl rfl rfl rfl) (vag_v (ve_mv 13 hz (pv 13)) (vag_v (ve_mv 3 hz (pv 3)) (vag_v (ve_mv 4 hz (pv 4)) (vag_v (ve_p (vp_var 5 (pv 5))) (vag_v (ve_mv 6 hz (pv 6)) (vag_v (ve_mv 8 hz (pv 8)) (vag_v (ve_p (vp_var 9 (pv 9))) vag_nil)))))))))) (vs_one (vs_ret (ve_p vp_bl))) vs_nil)
      (vs_cons (vs_set 14 hz sc_law.nd (ve_call (ok_dual T) (hr.mono (by decide)) T.d_dual.mg T.d_dual.fn.kp T.d_dual.bd (takes_of rfl rfl rfl rfl) (vag_v (ve_mv 13 hz (pv 13)) vag_nil)))
      (vs_cons (vs_if (vt_not (vt_e (ve_call (ok__law_is_spec T) (hr.mono (by decide)) T.d__law_is_spec.mg T.d__law_is_spec.fn.kp T.d__law_is_spec.bd (takes_of rfl rfl rfl rfl) (vag_v (ve_mv 14 hz (pv 14)) (vag_v (ve_mv 4 hz (pv 4)) (vag_v (ve_mv 3 hz (pv 3)) (vag_v (ve_p (vp_sub (vp_neg vp_int) (vp_var 5 (pv 5)))) (vag_v (ve_mv 6 hz (pv 6)) (vag_v (ve_mv 8 hz (pv 8)) (vag_v (ve_not (ve_p (vp_var 9 (pv 9)))) vag_nil)))))))))) (vs_one (vs_ret (ve_p vp_bl))) vs_nil)
      (vs_one (vs_ret (ve_call (ok__law_is_spec T) (hr.mono (by decide)) T.d__law_is_spec.mg T.d__law_is_spec.fn.kp T.d__law_is_spec.bd (takes_of rfl rfl rfl rfl) (vag_v (ve_call (ok_dual T) (hr.mono (by decide)) T.d_dual.mg T.d_dual.fn.kp T.d_dual.bd (takes_of rfl rfl rfl rfl) (vag_v (ve_mv 14 hz (pv 14)) vag_nil)) (vag_v (ve_mv 3 hz (pv 3)) (vag_v (ve_mv 4 hz (pv 4)) (vag_v (ve_p (vp_var 5 (pv 5))) (vag_v (ve_mv 6 hz (pv 6)) (vag_v (ve_mv 8 hz (pv 8)) (vag_v (ve_p (vp_var 9 (pv 9))) vag_nil)))))))))))))))))))))))))))))))))))
end
theorem all_mk {l : PySem.W.OpenLaw} {w : World} {K : PySem.W.Frag} {h : Heap} {mg : Str → Option Value} {f0 : Addr} (t : LawTrue run_law) (X : K.In h) (M : h.Ns mainGlobals mg) (hfa : mg "law" = some (.ref f0))
    {f_0 : Addr} {od0 an0 : Option Addr} {sl0 : Array (Option Value)} {oc0 kV0 dc0 pm0 cd0 ct0 : Value}
    {f_1 : Addr} {od1 an1 : Option Addr} {sl1 : Array (Option Value)} {oc1 dc1 pm1 cd1 ct1 : Value}
    {f_2 : Addr} {od2 an2 : Option Addr} {sl2 : Array (Option Value)} {oc2 kV2 dc2 pm2 cd2 ct2 : Value}
    {f_3 : Addr} {od3 an3 : Option Addr} {sl3 : Array (Option Value)} {oc3 kV3 dc3 pm3 cd3 ct3 : Value}
    {f_4 : Addr} {od4 an4 : Option Addr} {sl4 : Array (Option Value)} {oc4 kV4 dc4 pm4 cd4 ct4 : Value}
    {f_5 : Addr} {od5 an5 : Option Addr} {sl5 : Array (Option Value)} {oc5 kV5 dc5 pm5 cd5 ct5 : Value}
    {f_6 : Addr} {od6 an6 : Option Addr} {sl6 : Array (Option Value)} {oc6 kV6 dc6 pm6 cd6 ct6 : Value}
    {f_7 : Addr} {od7 an7 : Option Addr} {sl7 : Array (Option Value)} {oc7 kV7 dc7 pm7 cd7 ct7 : Value}
    {f_8 : Addr} {od8 an8 : Option Addr} {sl8 : Array (Option Value)} {oc8 kV8 dc8 pm8 cd8 ct8 : Value}
    {f_9 : Addr} {od9 an9 : Option Addr} {sl9 : Array (Option Value)} {oc9 kV9 dc9 pm9 cd9 ct9 : Value}
    {f_10 : Addr} {od10 an10 : Option Addr} {sl10 : Array (Option Value)} {oc10 kV10 dc10 pm10 cd10 ct10 : Value}
    {f_11 : Addr} {od11 an11 : Option Addr} {sl11 : Array (Option Value)} {oc11 kV11 dc11 pm11 cd11 ct11 : Value}
    {f_12 : Addr} {od12 an12 : Option Addr} {sl12 : Array (Option Value)} {oc12 kV12 dc12 pm12 cd12 ct12 : Value}
    {f_13 : Addr} {od13 an13 : Option Addr} {sl13 : Array (Option Value)} {oc13 kV13 dc13 pm13 cd13 ct13 : Value}
    {f_14 : Addr} {od14 an14 : Option Addr} {sl14 : Array (Option Value)} {oc14 kV14 dc14 pm14 cd14 ct14 : Value}
    {kd_1 : Addr}
    {pp_2 : Addr} {pq_2 : List Value}
    {c_0 : Addr}
    {o_0 : Addr}
    {tk_DIGITS : Tok}
    {tk_LOWER : Tok}
    {ka_RESERVED : Addr} {kd_RESERVED : Option Addr} {ki_RESERVED : Array Value} {kn_RESERVED : Nat} {ks_RESERVED : Array (Option Value)}
    (a0 : PySem.W.nsIn K mainGlobals "is_name" = some (some (.ref f_0))) (l0 : K.lookup f_0 = some ⟨oc0, od0, .func (PySem.W.fnOf "is_name" "is_name" (defArgs s_is_name) (defBody s_is_name) (defScope s_is_name) .none kV0 dc0 pm0 an0 cd0 ct0), sl0⟩) (c0 : PySem.W.codeIn K cd0 "is_name" = true) (k0 : PySem.W.keepIn K (.ref f_0) = true)
    (a1 : PySem.W.findIn K (.ref o_0) "__init__" = some (some (.ref f_1))) (ii1 : PySem.W.isFn K (.ref f_1) = true) (l1 : K.lookup f_1 = some ⟨oc1, od1, .func (PySem.W.fnOf "__init__" "Spec.__init__" (defArgs s_Spec___init__) (defBody s_Spec___init__) (defScope s_Spec___init__) .none (.ref kd_1) dc1 pm1 an1 cd1 ct1), sl1⟩) (c1 : PySem.W.codeIn K cd1 "Spec.__init__" = true) (k1 : PySem.W.keepIn K (.ref f_1) = true)
    (nk1 : PySem.W.nsIn K kd_1 "negated" = some (some (.bool false)))
    (a2 : PySem.W.findIn K (.ref o_0) "signals" = some (some (.ref pp_2))) (pg2 : PySem.W.specialIn K (.ref pp_2) "__get__" = some (some (.builtin "property.__get__"))) (pt2 : PySem.W.takesIn K (.ref pp_2) = some true) (pr2 : PySem.W.recIn K pp_2 "property" = some (.ref f_2 :: pq_2)) (l2 : K.lookup f_2 = some ⟨oc2, od2, .func (PySem.W.fnOf "signals" "Spec.signals" (defArgs s_Spec_signals) (defBody s_Spec_signals) (defScope s_Spec_signals) .none kV2 dc2 pm2 an2 cd2 ct2), sl2⟩) (c2 : PySem.W.codeIn K cd2 "Spec.signals" = true) (k2 : PySem.W.keepIn K (.ref f_2) = true)
    (a3 : PySem.W.nsIn K mainGlobals "dual" = some (some (.ref f_3))) (l3 : K.lookup f_3 = some ⟨oc3, od3, .func (PySem.W.fnOf "dual" "dual" (defArgs s_dual) (defBody s_dual) (defScope s_dual) .none kV3 dc3 pm3 an3 cd3 ct3), sl3⟩) (c3 : PySem.W.codeIn K cd3 "dual" = true) (k3 : PySem.W.keepIn K (.ref f_3) = true)
    (a4 : PySem.W.nsIn K mainGlobals "_law_draws" = some (some (.ref f_4))) (l4 : K.lookup f_4 = some ⟨oc4, od4, .func (PySem.W.fnOf "_law_draws" "_law_draws" (defArgs s__law_draws) (defBody s__law_draws) (defScope s__law_draws) .none kV4 dc4 pm4 an4 cd4 ct4), sl4⟩) (c4 : PySem.W.codeIn K cd4 "_law_draws" = true) (k4 : PySem.W.keepIn K (.ref f_4) = true)
    (a5 : PySem.W.nsIn K mainGlobals "_law_take" = some (some (.ref f_5))) (l5 : K.lookup f_5 = some ⟨oc5, od5, .func (PySem.W.fnOf "_law_take" "_law_take" (defArgs s__law_take) (defBody s__law_take) (defScope s__law_take) .none kV5 dc5 pm5 an5 cd5 ct5), sl5⟩) (c5 : PySem.W.codeIn K cd5 "_law_take" = true) (k5 : PySem.W.keepIn K (.ref f_5) = true)
    (a6 : PySem.W.nsIn K mainGlobals "_law_is_integer" = some (some (.ref f_6))) (l6 : K.lookup f_6 = some ⟨oc6, od6, .func (PySem.W.fnOf "_law_is_integer" "_law_is_integer" (defArgs s__law_is_integer) (defBody s__law_is_integer) (defScope s__law_is_integer) .none kV6 dc6 pm6 an6 cd6 ct6), sl6⟩) (c6 : PySem.W.codeIn K cd6 "_law_is_integer" = true) (k6 : PySem.W.keepIn K (.ref f_6) = true)
    (a7 : PySem.W.nsIn K mainGlobals "_law_name" = some (some (.ref f_7))) (l7 : K.lookup f_7 = some ⟨oc7, od7, .func (PySem.W.fnOf "_law_name" "_law_name" (defArgs s__law_name) (defBody s__law_name) (defScope s__law_name) .none kV7 dc7 pm7 an7 cd7 ct7), sl7⟩) (c7 : PySem.W.codeIn K cd7 "_law_name" = true) (k7 : PySem.W.keepIn K (.ref f_7) = true)
    (a8 : PySem.W.nsIn K mainGlobals "_law_names" = some (some (.ref f_8))) (l8 : K.lookup f_8 = some ⟨oc8, od8, .func (PySem.W.fnOf "_law_names" "_law_names" (defArgs s__law_names) (defBody s__law_names) (defScope s__law_names) .none kV8 dc8 pm8 an8 cd8 ct8), sl8⟩) (c8 : PySem.W.codeIn K cd8 "_law_names" = true) (k8 : PySem.W.keepIn K (.ref f_8) = true)
    (a9 : PySem.W.nsIn K mainGlobals "_law_leaf" = some (some (.ref f_9))) (l9 : K.lookup f_9 = some ⟨oc9, od9, .func (PySem.W.fnOf "_law_leaf" "_law_leaf" (defArgs s__law_leaf) (defBody s__law_leaf) (defScope s__law_leaf) .none kV9 dc9 pm9 an9 cd9 ct9), sl9⟩) (c9 : PySem.W.codeIn K cd9 "_law_leaf" = true) (k9 : PySem.W.keepIn K (.ref f_9) = true)
    (a10 : PySem.W.nsIn K mainGlobals "_law_formula" = some (some (.ref f_10))) (l10 : K.lookup f_10 = some ⟨oc10, od10, .func (PySem.W.fnOf "_law_formula" "_law_formula" (defArgs s__law_formula) (defBody s__law_formula) (defScope s__law_formula) .none kV10 dc10 pm10 an10 cd10 ct10), sl10⟩) (c10 : PySem.W.codeIn K cd10 "_law_formula" = true) (k10 : PySem.W.keepIn K (.ref f_10) = true)
    (a11 : PySem.W.nsIn K mainGlobals "_law_property" = some (some (.ref f_11))) (l11 : K.lookup f_11 = some ⟨oc11, od11, .func (PySem.W.fnOf "_law_property" "_law_property" (defArgs s__law_property) (defBody s__law_property) (defScope s__law_property) .none kV11 dc11 pm11 an11 cd11 ct11), sl11⟩) (c11 : PySem.W.codeIn K cd11 "_law_property" = true) (k11 : PySem.W.keepIn K (.ref f_11) = true)
    (a12 : PySem.W.nsIn K mainGlobals "_law_outcome" = some (some (.ref f_12))) (l12 : K.lookup f_12 = some ⟨oc12, od12, .func (PySem.W.fnOf "_law_outcome" "_law_outcome" (defArgs s__law_outcome) (defBody s__law_outcome) (defScope s__law_outcome) .none kV12 dc12 pm12 an12 cd12 ct12), sl12⟩) (c12 : PySem.W.codeIn K cd12 "_law_outcome" = true) (k12 : PySem.W.keepIn K (.ref f_12) = true)
    (a13 : PySem.W.nsIn K mainGlobals "_law_is_spec" = some (some (.ref f_13))) (l13 : K.lookup f_13 = some ⟨oc13, od13, .func (PySem.W.fnOf "_law_is_spec" "_law_is_spec" (defArgs s__law_is_spec) (defBody s__law_is_spec) (defScope s__law_is_spec) .none kV13 dc13 pm13 an13 cd13 ct13), sl13⟩) (c13 : PySem.W.codeIn K cd13 "_law_is_spec" = true) (k13 : PySem.W.keepIn K (.ref f_13) = true)
    (a14 : PySem.W.nsIn K mainGlobals "law" = some (some (.ref f_14))) (l14 : K.lookup f_14 = some ⟨oc14, od14, .func (PySem.W.fnOf "law" "law" (defArgs s_law) (defBody s_law) (defScope s_law) .none kV14 dc14 pm14 an14 cd14 ct14), sl14⟩) (c14 : PySem.W.codeIn K cd14 "law" = true) (k14 : PySem.W.keepIn K (.ref f_14) = true)
    (oa0 : PySem.W.nsIn K mainGlobals "Spec" = some (some (.ref o_0))) (og0 : PySem.W.plainGet K o_0 Str.empty = true) (oh0 : PySem.W.hasDictIn K o_0 = true) (oo0 : PySem.W.plainOver K o_0 = true) (os0 : PySem.W.findIn K (.ref o_0) "__setattr__" = some (some (.builtin "object.__setattr__")))
    (iha0 : PySem.W.findIn K (.ref o_0) "__class__" = some (some (.builtin "object.__class__"))) (ihn0 : PySem.W.specialIn K (.builtin "object.__class__") "__get__" = some (some (.builtin "getset_descriptor.__get__"))) (iht0 : PySem.W.takesIn K (.builtin "object.__class__") = some true) (ihm0 : PySem.W.mroIn K o_0 (.type "object") = some true)
    (ihk0 : PySem.W.kitOne K (.ref o_0) (.ref o_0) = some true)
    (om0 : PySem.W.makesIn K o_0 = true) (ok0 : PySem.W.keepIn K (.ref o_0) = true)
    (of0_assumptions : PySem.W.findIn K (.ref o_0) "assumptions" = some none)
    (of0_guarantees : PySem.W.findIn K (.ref o_0) "guarantees" = some none)
    (of0_inputs : PySem.W.findIn K (.ref o_0) "inputs" = some none)
    (of0_lead : PySem.W.findIn K (.ref o_0) "lead" = some none)
    (of0_negated : PySem.W.findIn K (.ref o_0) "negated" = some none)
    (of0_outputs : PySem.W.findIn K (.ref o_0) "outputs" = some none)
    (xa0 : PySem.W.nsIn K mainGlobals "InvalidSpec" = some (some (.ref c_0))) (xe0 : PySem.W.excIn K c_0 [.type "ValueError", .type "Exception", .type "BaseException", .type "object"] "ValueError.__new__" = true) (xk0 : PySem.W.keepIn K (.ref c_0) = true) (xs0 : PySem.W.subIn K (.ref c_0) (.type "BaseException") = some true) (xt0 : PySem.W.typeIn K (.ref c_0) = some (.type "type"))
    (kg_RESERVED : PySem.W.nsIn K mainGlobals "RESERVED" = some (some (.ref ka_RESERVED))) (kl_RESERVED : K.lookup ka_RESERVED = some ⟨.type "tuple", kd_RESERVED, .seq ki_RESERVED kn_RESERVED, ks_RESERVED⟩) (kz_RESERVED : ki_RESERVED.size ≤ sizeLine) (kv_RESERVED : Vals ((["true", "false", "exists", "forall"] : List Str).map V.str) ki_RESERVED.toList)
    (kc_DIGITS : PySem.W.nsIn K mainGlobals "DIGITS" = some (some (.str "0123456789" tk_DIGITS)))
    (kc_LOWER : PySem.W.nsIn K mainGlobals "LOWER" = some (some (.str "abcdefghijklmnopqrstuvwxyz" tk_LOWER)))
    (n_bool : PySem.W.nsIn K mainGlobals "bool" = some none)
    (n_int : PySem.W.nsIn K mainGlobals "int" = some none)
    (n_isinstance : PySem.W.nsIn K mainGlobals "isinstance" = some none)
    (n_len : PySem.W.nsIn K mainGlobals "len" = some none)
    (n_list : PySem.W.nsIn K mainGlobals "list" = some none)
    (n_min : PySem.W.nsIn K mainGlobals "min" = some none)
    (n_range : PySem.W.nsIn K mainGlobals "range" = some none)
    (n_tuple : PySem.W.nsIn K mainGlobals "tuple" = some none)
    (m_InvalidSpec_InvalidSpec : PySem.W.exmOne K (.ref c_0) (.ref c_0) = some true)
    : ∃ fd : FuncData, (∀ (s : Shared) (v : Value), BindsTo s fd ⟨[v], []⟩ [("script", v)]) ∧ ∀ base : Heap, K.In base → base.Ns mainGlobals mg → FnOk l.prog w K mg base (L2.CX l.prog w) 45 f0 fd ["script"] (spLaw K) := by
  have e := hfa.symm.trans (PySem.W.mg_of X M a14)
  cases e
  have F0 := fun_mk (st := s_is_name) l0 c0 k0
  have B0 := F0.binds (ps := P_is_name) fun _ _ _ _ _ _ us hl => match us, hl with | [_], _ => rfl
  have F1 := fun_mk (st := s_Spec___init__) l1 c1 k1
  have FD1 : FunD K "__init__" "Spec.__init__" (defArgs s_Spec___init__) (defBody s_Spec___init__) (defScope s_Spec___init__) [] [("negated", .bl false)] f_1 _ := ⟨⟨oc1, od1, _, _, dc1, pm1, an1, cd1, ct1, sl1, rfl, l1, c1, .inl ⟨rfl, rfl⟩, .inr ⟨kd_1, rfl, fun q hq => (List.mem_singleton.mp hq) ▸ ⟨_, nk1, rfl⟩⟩⟩, k1⟩
  have B1 := kbn_of F1 (ps := P_Spec___init__) (ks := ["negated"]) (n := 6) fun _ _ _ _ _ _ us ws h1 h2 => match us, ws, h1, h2 with | [_, _, _, _, _, _], [_], _, _ => rfl
  have BD1 := dfl_of FD1 (ps := P_Spec___init__) (n := 6) fun _ _ _ _ _ _ us v h1 => match us, h1 with | [_, _, _, _, _, _], _ => ⟨_, _, _, _, _, _, rfl, rfl, rfl⟩
  have F2 := fun_mk (st := s_Spec_signals) l2 c2 k2
  have B2 := F2.binds (ps := P_Spec_signals) fun _ _ _ _ _ _ us hl => match us, hl with | [_], _ => rfl
  have F3 := fun_mk (st := s_dual) l3 c3 k3
  have B3 := F3.binds (ps := P_dual) fun _ _ _ _ _ _ us hl => match us, hl with | [_], _ => rfl
  have F4 := fun_mk (st := s__law_draws) l4 c4 k4
  have B4 := F4.binds (ps := P__law_draws) fun _ _ _ _ _ _ us hl => match us, hl with | [_, _], _ => rfl
  have F5 := fun_mk (st := s__law_take) l5 c5 k5
  have B5 := F5.binds (ps := P__law_take) fun _ _ _ _ _ _ us hl => match us, hl with | [_, _], _ => rfl
  have F6 := fun_mk (st := s__law_is_integer) l6 c6 k6
  have B6 := F6.binds (ps := P__law_is_integer) fun _ _ _ _ _ _ us hl => match us, hl with | [_], _ => rfl
  have F7 := fun_mk (st := s__law_name) l7 c7 k7
  have B7 := F7.binds (ps := P__law_name) fun _ _ _ _ _ _ us hl => match us, hl with | [_, _], _ => rfl
  have F8 := fun_mk (st := s__law_names) l8 c8 k8
  have B8 := F8.binds (ps := P__law_names) fun _ _ _ _ _ _ us hl => match us, hl with | [_, _], _ => rfl
  have F9 := fun_mk (st := s__law_leaf) l9 c9 k9
  have B9 := F9.binds (ps := P__law_leaf) fun _ _ _ _ _ _ us hl => match us, hl with | [_, _], _ => rfl
  have F10 := fun_mk (st := s__law_formula) l10 c10 k10
  have B10 := F10.binds (ps := P__law_formula) fun _ _ _ _ _ _ us hl => match us, hl with | [_, _, _, _], _ => rfl
  have F11 := fun_mk (st := s__law_property) l11 c11 k11
  have B11 := F11.binds (ps := P__law_property) fun _ _ _ _ _ _ us hl => match us, hl with | [_, _, _, _, _], _ => rfl
  have F12 := fun_mk (st := s__law_outcome) l12 c12 k12
  have B12 := F12.binds (ps := P__law_outcome) fun _ _ _ _ _ _ us hl => match us, hl with | [_, _, _, _, _, _, _], _ => rfl
  have F13 := fun_mk (st := s__law_is_spec) l13 c13 k13
  have B13 := F13.binds (ps := P__law_is_spec) fun _ _ _ _ _ _ us hl => match us, hl with | [_, _, _, _, _, _, _], _ => rfl
  have F14 := fun_mk (st := s_law) l14 c14 k14
  have B14 := F14.binds (ps := P_law) fun _ _ _ _ _ _ us hl => match us, hl with | [_], _ => rfl
  let G : Gx := ⟨K, fun x => (List.lookup x [(("Spec" : Str), o_0)]).getD 0, fun x => (List.lookup x [(("InvalidSpec" : Str), Value.ref c_0)]).getD .none⟩
  let fa : Nat → Addr := fun i => [f_0, f_1, f_2, f_3, f_4, f_5, f_6, f_7, f_8, f_9, f_10, f_11, f_12, f_13, f0].getD i 0
  let ca : Nat → Addr := fun i => [c_0].getD i 0
  let fd : Nat → FuncData := fun i => match i with
    | 0 => PySem.W.fnOf "is_name" "is_name" (defArgs s_is_name) (defBody s_is_name) (defScope s_is_name) .none kV0 dc0 pm0 an0 cd0 ct0
    | 1 => PySem.W.fnOf "__init__" "Spec.__init__" (defArgs s_Spec___init__) (defBody s_Spec___init__) (defScope s_Spec___init__) .none (.ref kd_1) dc1 pm1 an1 cd1 ct1
    | 2 => PySem.W.fnOf "signals" "Spec.signals" (defArgs s_Spec_signals) (defBody s_Spec_signals) (defScope s_Spec_signals) .none kV2 dc2 pm2 an2 cd2 ct2
    | 3 => PySem.W.fnOf "dual" "dual" (defArgs s_dual) (defBody s_dual) (defScope s_dual) .none kV3 dc3 pm3 an3 cd3 ct3
    | 4 => PySem.W.fnOf "_law_draws" "_law_draws" (defArgs s__law_draws) (defBody s__law_draws) (defScope s__law_draws) .none kV4 dc4 pm4 an4 cd4 ct4
    | 5 => PySem.W.fnOf "_law_take" "_law_take" (defArgs s__law_take) (defBody s__law_take) (defScope s__law_take) .none kV5 dc5 pm5 an5 cd5 ct5
    | 6 => PySem.W.fnOf "_law_is_integer" "_law_is_integer" (defArgs s__law_is_integer) (defBody s__law_is_integer) (defScope s__law_is_integer) .none kV6 dc6 pm6 an6 cd6 ct6
    | 7 => PySem.W.fnOf "_law_name" "_law_name" (defArgs s__law_name) (defBody s__law_name) (defScope s__law_name) .none kV7 dc7 pm7 an7 cd7 ct7
    | 8 => PySem.W.fnOf "_law_names" "_law_names" (defArgs s__law_names) (defBody s__law_names) (defScope s__law_names) .none kV8 dc8 pm8 an8 cd8 ct8
    | 9 => PySem.W.fnOf "_law_leaf" "_law_leaf" (defArgs s__law_leaf) (defBody s__law_leaf) (defScope s__law_leaf) .none kV9 dc9 pm9 an9 cd9 ct9
    | 10 => PySem.W.fnOf "_law_formula" "_law_formula" (defArgs s__law_formula) (defBody s__law_formula) (defScope s__law_formula) .none kV10 dc10 pm10 an10 cd10 ct10
    | 11 => PySem.W.fnOf "_law_property" "_law_property" (defArgs s__law_property) (defBody s__law_property) (defScope s__law_property) .none kV11 dc11 pm11 an11 cd11 ct11
    | 12 => PySem.W.fnOf "_law_outcome" "_law_outcome" (defArgs s__law_outcome) (defBody s__law_outcome) (defScope s__law_outcome) .none kV12 dc12 pm12 an12 cd12 ct12
    | 13 => PySem.W.fnOf "_law_is_spec" "_law_is_spec" (defArgs s__law_is_spec) (defBody s__law_is_spec) (defScope s__law_is_spec) .none kV13 dc13 pm13 an13 cd13 ct13
    | _ => PySem.W.fnOf "law" "law" (defArgs s_law) (defBody s_law) (defScope s_law) .none kV14 dc14 pm14 an14 cd14 ct14
  have E0 : ExK G mg "InvalidSpec" (ca 0) := ⟨by show (List.lookup ("InvalidSpec" : Str) [(("InvalidSpec" : Str), Value.ref c_0)]).getD .none = _; rfl, PySem.W.mg_of X M xa0, xe0, xk0, xs0, xt0⟩
  have T : Txt G mg fa fd ca := {
    d_is_name := ⟨F0, PySem.W.mg_of X M a0, B0⟩,
    d_Spec___init__ := ⟨F1, B1, BD1⟩,
    d_Spec_signals := ⟨F2, B2⟩,
    d_dual := ⟨F3, PySem.W.mg_of X M a3, B3⟩,
    d__law_draws := ⟨F4, PySem.W.mg_of X M a4, B4⟩,
    d__law_take := ⟨F5, PySem.W.mg_of X M a5, B5⟩,
    d__law_is_integer := ⟨F6, PySem.W.mg_of X M a6, B6⟩,
    d__law_name := ⟨F7, PySem.W.mg_of X M a7, B7⟩,
    d__law_names := ⟨F8, PySem.W.mg_of X M a8, B8⟩,
    d__law_leaf := ⟨F9, PySem.W.mg_of X M a9, B9⟩,
    d__law_formula := ⟨F10, PySem.W.mg_of X M a10, B10⟩,
    d__law_property := ⟨F11, PySem.W.mg_of X M a11, B11⟩,
    d__law_outcome := ⟨F12, PySem.W.mg_of X M a12, B12⟩,
    d__law_is_spec := ⟨F13, PySem.W.mg_of X M a13, B13⟩,
    d_law := ⟨F14, PySem.W.mg_of X M a14, B14⟩,
    g_Spec := PySem.W.mg_of X M oa0,
    cls_Spec := (⟨og0, oh0, oo0, os0⟩ : Cls K o_0),
    f_Spec_assumptions := of0_assumptions,
    f_Spec_guarantees := of0_guarantees,
    f_Spec_inputs := of0_inputs,
    f_Spec_lead := of0_lead,
    f_Spec_negated := of0_negated,
    f_Spec_outputs := of0_outputs,
    io_Spec := (⟨iha0, ihn0, iht0, ihm0, ihk0⟩ : IsO K o_0),
    mk_Spec := (⟨om0, a1, ii1, ok0⟩ : Mk K o_0 f_1),
    x_InvalidSpec := E0,
    p_Spec_signals := ⟨pp_2, a2, pg2, pt2, _, pr2⟩,
    kt_RESERVED := ⟨ka_RESERVED, _, ki_RESERVED, kn_RESERVED, PySem.W.mg_of X M kg_RESERVED, kl_RESERVED, rfl, rfl, kz_RESERVED, kv_RESERVED⟩,
    c_DIGITS := ⟨_, PySem.W.mg_of X M kc_DIGITS⟩,
    c_LOWER := ⟨_, PySem.W.mg_of X M kc_LOWER⟩,
    n_bool := PySem.W.mg_none_of X M n_bool,
    n_int := PySem.W.mg_none_of X M n_int,
    n_isinstance := PySem.W.mg_none_of X M n_isinstance,
    n_len := PySem.W.mg_none_of X M n_len,
    n_list := PySem.W.mg_none_of X M n_list,
    n_min := PySem.W.mg_none_of X M n_min,
    n_range := PySem.W.mg_none_of X M n_range,
    n_tuple := PySem.W.mg_none_of X M n_tuple,
    mt_InvalidSpec := fun c b h => ((lk_cons (by rw [E0.ev]; exact m_InvalidSpec_InvalidSpec) lk_nil) : ∀ c b, List.lookup c _ = some b → PySem.W.exmOne G.K (G.ev c) (.ref (ca 0)) = some b) c b h }
  exact ⟨_, fun s v => .of_eq rfl, fun base _ _ => lawOk (G := G) (ok_law T) t⟩
end
end VL
set_option Elab.async false
open PySem PySem.W PyProof.Rows
set_option maxRecDepth 100000 in
set_option maxHeartbeats 0 in
theorem PySem.Challenge.cw_promiseplay_k46_spec_and_dual_holds : PySem.Challenge.rw_promiseplay_k46_spec_and_dual.Holds := by
  w_on; o_law; k_head; (case hw => w_witness2)
  k_fill
  refine VL.walkLaw (l := PySem.Challenge.rw_promiseplay_k46_spec_and_dual) (k := 45) rfl rfl ⟨rfl, by decide, by decide⟩ (fun w h Y => PySem.W.kIn_of Y) ?F
  case F =>
    intro w mg fa h KX G hmg
    refine' VL.all_mk VL.law_true KX G hmg ?a0 ?l0 ?c0 ?k0 ?a1 ?ii1 ?l1 ?c1 ?k1 ?nk1 ?a2 ?pg2 ?pt2 ?pr2 ?l2 ?c2 ?k2 ?a3 ?l3 ?c3 ?k3 ?a4 ?l4 ?c4 ?k4 ?a5 ?l5 ?c5 ?k5 ?a6 ?l6 ?c6 ?k6 ?a7 ?l7 ?c7 ?k7 ?a8 ?l8 ?c8 ?k8 ?a9 ?l9 ?c9 ?k9 ?a10 ?l10 ?c10 ?k10 ?a11 ?l11 ?c11 ?k11 ?a12 ?l12 ?c12 ?k12 ?a13 ?l13 ?c13 ?k13 ?a14 ?l14 ?c14 ?k14 ?oa0 ?og0 ?oh0 ?oo0 ?os0 ?iha0 ?ihn0 ?iht0 ?ihm0 ?ihk0 ?om0 ?ok0 ?of0_assumptions ?of0_guarantees ?of0_inputs ?of0_lead ?of0_negated ?of0_outputs ?xa0 ?xe0 ?xk0 ?xs0 ?xt0 ?kg_RESERVED ?kl_RESERVED ?kz_RESERVED ?kv_RESERVED ?kc_DIGITS ?kc_LOWER ?n_bool ?n_int ?n_isinstance ?n_len ?n_list ?n_min ?n_range ?n_tuple ?m_InvalidSpec_InvalidSpec
    (case oa0 => k_is); (case kg_RESERVED => k_is); (case a0 => k_is); (case l0 => k_is); (case c0 => k_is); (case k0 => k_is)
    (case a1 => k_is); (case ii1 => k_is); (case l1 => k_is); (case c1 => k_is); (case k1 => k_is); (case nk1 => k_is)
    (case a2 => k_is); (case pg2 => k_is); (case pt2 => k_is); (case pr2 => k_is); (case l2 => k_is); (case c2 => k_is)
    (case k2 => k_is); (case a3 => k_is); (case l3 => k_is); (case c3 => k_is); (case k3 => k_is); (case a4 => k_is)
    (case l4 => k_is); (case c4 => k_is); (case k4 => k_is); (case a5 => k_is); (case l5 => k_is); (case c5 => k_is)
    (case k5 => k_is); (case a6 => k_is); (case l6 => k_is); (case c6 => k_is); (case k6 => k_is); (case a7 => k_is)
    (case l7 => k_is); (case c7 => k_is); (case k7 => k_is); (case a8 => k_is); (case l8 => k_is); (case c8 => k_is)
    (case k8 => k_is); (case a9 => k_is); (case l9 => k_is); (case c9 => k_is); (case k9 => k_is); (case a10 => k_is)
    (case l10 => k_is); (case c10 => k_is); (case k10 => k_is); (case a11 => k_is); (case l11 => k_is); (case c11 => k_is)
    (case k11 => k_is); (case a12 => k_is); (case l12 => k_is); (case c12 => k_is); (case k12 => k_is); (case a13 => k_is)
    (case l13 => k_is); (case c13 => k_is); (case k13 => k_is); (case a14 => k_is); (case l14 => k_is); (case c14 => k_is)
    (case k14 => k_is); (case og0 => k_is); (case oh0 => k_is); (case oo0 => k_is); (case os0 => k_is); (case iha0 => k_is)
    (case ihn0 => k_is); (case iht0 => k_is); (case ihm0 => k_is); (case ihk0 => kit_is); (case om0 => k_is); (case ok0 => k_is)
    (case of0_assumptions => k_is); (case of0_guarantees => k_is); (case of0_inputs => k_is); (case of0_lead => k_is); (case of0_negated => k_is); (case of0_outputs => k_is)
    (case xa0 => k_is); (case xe0 => first | k_exc | k_is); (case xk0 => k_is); (case xs0 => k_is); (case xt0 => k_is); (case kl_RESERVED => k_is)
    (case kz_RESERVED => decide); (case kv_RESERVED => exact (.cons ⟨_, rfl⟩ (.cons ⟨_, rfl⟩ (.cons ⟨_, rfl⟩ (.cons ⟨_, rfl⟩ .nil))))); (case kc_DIGITS => k_is); (case kc_LOWER => k_is); (case n_bool => k_is); (case n_int => k_is)
    (case n_isinstance => k_is); (case n_len => k_is); (case n_list => k_is); (case n_min => k_is); (case n_range => k_is); (case n_tuple => k_is)
    (case m_InvalidSpec_InvalidSpec => kts_exm)
