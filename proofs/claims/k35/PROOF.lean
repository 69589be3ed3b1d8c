import PyProof.Rows.All
import Wide.All
import OpenK.AllK
import Wide.FinOn
import HandS.ForMost
import HandS.Wide
import HandS.Gcd
import HandS.TupAny
import HandS.TupMul
import HandS.Flow
import HandS.Style
import HandS.TryOnly
import HandS.Zip
import HandS.Rev
import HandS.Defaults
import KE.GoesEnum
import KE.KDictZip
import HandS.Conv
import HandS.IsInst
import HandS.Ends
import PySem.Challenge.RW_stepsstaycalm_k35_whole_quotients
set_option Elab.async false
set_option linter.all false
set_option maxRecDepth 100000
set_option maxHeartbeats 4000000
namespace LV
open PySem PySem.Spec PyProof.Rows L2

/-- a value as data: tuples and lists by what they hold -/
inductive D where
  | non | bl (b : Bool) | int (i : Int) | str (x : Str) | tup (ds : List D) | lst (ds : List D) | bag (k : Nat) | scr (K : PySem.W.Frag)

mutual
inductive Rep (bv : Nat × V) (H : Hp) (N : Addr → Prop) : D → V → Prop
  | non : Rep bv H N .non .non
  | bl {b} : Rep bv H N (.bl b) (.bl b)
  | int {i} : Rep bv H N (.int i) (.int i)
  | str {x} : Rep bv H N (.str x) (.str x)
  | bag {k v} : bv = (k, v) → Rep bv H N (.bag k) v
  | scrF {K a ob} {ns : List Int} : H a = some (.frz ob (.lst (ns.map V.int))) → ¬ N a → ns.length ≤ 63 → Rep bv H N (.scr K) (.ref a)
  | scrK {K a} {ns : List Int} : (∃ (o : Obj) (its : Array Value) (n : Nat), K.lookup a = some o ∧ o.cls = .type "list" ∧ o.dict = none ∧ o.data = .seq its n ∧ its.size ≤ sizeLine ∧ Vals (ns.map V.int) its.toList) → ns.length ≤ 63 → Rep bv H N (.scr K) (.ref a)
  | tup {ds vs a} : H a = some (.tup vs) → ¬ N a → Reps bv H N ds vs → Rep bv H N (.tup ds) (.ref a)
  | lst {ds vs a} : H a = some (.lst vs) → ¬ N a → Reps bv H N ds vs → Rep bv H N (.lst ds) (.ref a)
inductive Reps (bv : Nat × V) (H : Hp) (N : Addr → Prop) : List D → List V → Prop
  | nil : Reps bv H N [] []
  | cons {d v ds vs} : Rep bv H N d v → Reps bv H N ds vs → Reps bv H N (d :: ds) (v :: vs)
end

section
variable {bv : Nat × V} {H H' : Hp} {N N' : Addr → Prop}
mutual
theorem Rep.mono (hk : ∀ a o, H a = some o → ¬ N a → H' a = some o) (hn : ∀ a o, H a = some o → N' a → N a) : ∀ {d v}, Rep bv H N d v → Rep bv H' N' d v
  | _, _, .non => .non
  | _, _, .bl => .bl
  | _, _, .int => .int
  | _, _, .str => .str
  | _, _, .bag e => .bag e
  | _, _, .scrF e n l => .scrF (hk _ _ e n) (fun z => n (hn _ _ e z)) l
  | _, _, .scrK e l => .scrK e l
  | _, _, .tup e n r => .tup (hk _ _ e n) (fun z => n (hn _ _ e z)) (Reps.mono hk hn r)
  | _, _, .lst e n r => .lst (hk _ _ e n) (fun z => n (hn _ _ e z)) (Reps.mono hk hn r)
theorem Reps.mono (hk : ∀ a o, H a = some o → ¬ N a → H' a = some o) (hn : ∀ a o, H a = some o → N' a → N a) : ∀ {ds vs}, Reps bv H N ds vs → Reps bv H' N' ds vs
  | _, _, .nil => .nil
  | _, _, .cons r rs => .cons (Rep.mono hk hn r) (Reps.mono hk hn rs)
end
theorem Reps.length : ∀ {ds vs}, Reps bv H N ds vs → ds.length = vs.length
  | _, _, .nil => rfl
  | _, _, .cons _ r => by simp [Reps.length r]
theorem Reps.append : ∀ {ds es vs ws}, Reps bv H N ds vs → Reps bv H N es ws → Reps bv H N (ds ++ es) (vs ++ ws)
  | _, _, _, _, .nil, s => s
  | _, _, _, _, .cons r rs, s => .cons r (Reps.append rs s)
theorem Reps.get : ∀ {ds vs} {i : Nat} {d}, Reps bv H N ds vs → ds[i]? = some d → ∃ v, vs[i]? = some v ∧ Rep bv H N d v
  | _, _, _, _, .nil, e => by simp at e
  | _, _, 0, _, .cons r _, e => by simp at e; subst e; exact ⟨_, rfl, r⟩
  | _, _, i + 1, d, .cons _ t, e => by
    obtain ⟨u, h1, h2⟩ := Reps.get (i := i) (d := d) t (by simpa using e)
    exact ⟨u, by simpa using h1, h2⟩
theorem Reps.getV : ∀ {ds vs} {i : Nat} {v}, Reps bv H N ds vs → vs[i]? = some v → ∃ d, ds[i]? = some d ∧ Rep bv H N d v
  | _, _, _, _, .nil, e => by simp at e
  | _, _, 0, _, .cons r _, e => by simp at e; subst e; exact ⟨_, rfl, r⟩
  | _, _, i + 1, d, .cons _ t, e => by
    obtain ⟨u, h1, h2⟩ := Reps.getV (i := i) t (by simpa using e)
    exact ⟨u, by simpa using h1, h2⟩
theorem Reps.set {d v} (r : Rep bv H N d v) : ∀ {ds vs} (i : Nat), Reps bv H N ds vs → Reps bv H N (ds.set i d) (vs.set i v)
  | _, _, _, .nil => .nil
  | _, _, 0, .cons _ t => .cons r t
  | _, _, i + 1, .cons q t => .cons q (Reps.set r i t)
theorem Reps.take : ∀ {ds vs} (n : Nat), Reps bv H N ds vs → Reps bv H N (ds.take n) (vs.take n)
  | _, _, 0, _ => .nil
  | _, _, _ + 1, .nil => .nil
  | _, _, n + 1, .cons r t => .cons r (Reps.take n t)
theorem Reps.drop : ∀ {ds vs} (n : Nat), Reps bv H N ds vs → Reps bv H N (ds.drop n) (vs.drop n)
  | _, _, 0, r => r
  | _, _, _ + 1, .nil => .nil
  | _, _, n + 1, .cons _ t => Reps.drop n t
theorem Reps.eraseIdx : ∀ {ds vs} (n : Nat), Reps bv H N ds vs → Reps bv H N (ds.eraseIdx n) (vs.eraseIdx n)
  | _, _, _, .nil => .nil
  | _, _, 0, .cons _ t => t
  | _, _, n + 1, .cons r t => .cons r (Reps.eraseIdx n t)
theorem Reps.dropLast {ds vs} (r : Reps bv H N ds vs) : Reps bv H N ds.dropLast vs.dropLast := by
  rw [List.dropLast_eq_take, List.dropLast_eq_take, r.length]; exact r.take _
theorem Reps.replicate {ds vs} (r : Reps bv H N ds vs) : ∀ k, Reps bv H N (List.replicate k ds).flatten (List.replicate k vs).flatten
  | 0 => .nil
  | k + 1 => by simp only [List.replicate_succ, List.flatten_cons]; exact r.append (Reps.replicate r k)
theorem Reps.reverse : ∀ {ds vs}, Reps bv H N ds vs → Reps bv H N ds.reverse vs.reverse
  | _, _, .nil => .nil
  | _, _, .cons r t => by simp only [List.reverse_cons]; exact (Reps.reverse t).append (.cons r .nil)
theorem Reps.ints : ∀ {ns : List Int} {vs}, Reps bv H N (ns.map D.int) vs → vs = ns.map V.int
  | [], _, .nil => rfl
  | n :: ns, _, .cons .int t => by simp [Reps.ints t]
theorem Reps.bls : ∀ {ns : List Bool} {vs}, Reps bv H N (ns.map D.bl) vs → vs = ns.map V.bl
  | [], _, .nil => rfl
  | n :: ns, _, .cons .bl t => by simp [Reps.bls t]
end

/-- a slot: nothing known, a shared value, a list that this slot alone holds -/
inductive Sl where
  | un | sh (d : D) | ow (ds : List D)
abbrev Sg := List Sl
abbrev En := Sl × Option V

def owns (a : Addr) (p : En) : Bool := match p.1 with
  | .ow _ => p.2 == some (.ref a)
  | _ => false
abbrev cnt (a : Addr) (L : List En) : Nat := L.countP (owns a)

/-- the law's bag of draws, by its kind: 1: a list of a list of cells, the present cell, a mixed number; 2: a dict of the great cells, a stirred number, the turn -/
def BagSp (bv : Nat × V) (B : Addr → Prop) (G : Hp → Prop) : Prop :=
  (bv.1 = 1 → ∃ (b l : Addr) (CS : List Int → Prop), bv.2 = .ref b ∧ b ≠ l ∧ (∀ a, B a ↔ a = b ∨ a = l) ∧ (∀ cs ds, CS cs → ds <+: cs → CS ds) ∧ (∀ cs, CS cs → ∀ c ∈ cs, 0 ≤ c) ∧
    ∀ H, G H ↔ ∃ (cells : List Int) (cur mixed : Int), CS cells ∧ H b = some (.lst [.ref l, .int cur, .int mixed]) ∧ H l = some (.lst (cells.map V.int)) ∧ 0 ≤ cur ∧ 0 ≤ mixed ∧ mixed < 2147483647) ∧
  (bv.1 = 2 → ∃ b l : Addr, bv.2 = .ref b ∧ b ≠ l ∧ (∀ a, B a ↔ a = b ∨ a = l) ∧ ∀ H, G H ↔ ∃ (cells : List Int) (stirred turn : Int), H b = some (.dK [(.inr "great", .ref l), (.inr "stirred", .int stirred), (.inr "turn", .int turn)]) ∧ H l = some (.lst (cells.map V.int)) ∧
    (∀ c ∈ cells, 0 ≤ c) ∧ cells.length ≤ 63 ∧ 0 ≤ stirred ∧ stirred < 4294967296 ∧ 0 ≤ turn ∧ turn < 1000000000)
structure Bag where
  bv : Nat × V
  B : Addr → Prop
  G : Hp → Prop
  dom : ∀ H a, G H → B a → (H a).isSome = true
  loc : ∀ H H', (∀ a, B a → H' a = H a) → G H → G H'
  sp : BagSp bv B G

/-- what may not be spoken of: the callers' own lists, and one's own -/
def Nn (N : Addr → Prop) (L : List En) (a : Addr) : Prop := N a ∨ 0 < cnt a L

def Ok (bv : Nat × V) (N : Addr → Prop) (H0 H : Hp) (p : En) : Prop := match p.1 with
  | .un => True
  | .sh d => ∃ v, p.2 = some v ∧ Rep bv H N d v
  | .ow ds => ∃ a vs, p.2 = some (.ref a) ∧ H0 a = none ∧ H a = some (.lst vs) ∧ Reps bv H N ds vs

/-- objects stay, but for the bag's -/
def Sm (B : Addr → Prop) (H H' : Hp) : Prop := ∀ a o, H a = some o → ¬ B a → H' a = some o
theorem Sm.refl {B} (H : Hp) : Sm B H H := fun _ _ e _ => e
theorem Sm.trans {B} {H H1 H2 : Hp} (x : Sm B H H1) (y : Sm B H1 H2) : Sm B H H2 := fun a o e n => y a o (x a o e n) n

structure SR (g : Bag) (N : Addr → Prop) (H0 : Hp) (L : List En) (H : Hp) : Prop where
  hg : g.G H
  sm : Sm g.B H0 H
  nd : ∀ a, N a → (H0 a).isSome = true
  bn : ∀ a, g.B a → N a
  each : ∀ p ∈ L, Ok g.bv (Nn N L) H0 H p
  dist : ∀ a, cnt a L ≤ 1

section
variable {g : Bag} {N : Addr → Prop} {H0 H H' : Hp} {L L' : List En}
theorem Ok.mono {bv} {N N' : Addr → Prop} {H0 H : Hp} (hn : ∀ a, N' a → N a) : ∀ {p : En}, Ok bv N H0 H p → Ok bv N' H0 H p
  | (.un, _), _ => trivial
  | (.sh d, _), ⟨v, e, r⟩ => ⟨v, e, r.mono (fun _ _ e _ => e) (fun a _ _ => hn a)⟩
  | (.ow ds, _), ⟨a, vs, e, h0, h, r⟩ => ⟨a, vs, e, h0, h, r.mono (fun _ _ e _ => e) (fun a _ _ => hn a)⟩
theorem Nn.le (h : ∀ a, cnt a L' ≤ cnt a L) : ∀ a, Nn N L' a → Nn N L a := fun a z => z.elim .inl fun z => .inr (Nat.lt_of_lt_of_le z (h a))
theorem SR.to (S : SR g N H0 L H) (hc : ∀ a, cnt a L' ≤ cnt a L) (he : ∀ p ∈ L', p ∈ L ∨ Ok g.bv (Nn N L') H0 H p) : SR g N H0 L' H :=
  ⟨S.hg, S.sm, S.nd, S.bn, fun p hp => (he p hp).elim (fun q => (S.each p q).mono (Nn.le hc)) id, fun a => Nat.le_trans (hc a) (S.dist a)⟩
theorem SR.sub (S : SR g N H0 L H) (h : L'.Sublist L) : SR g N H0 L' H := S.to (fun a => h.countP_le) fun p hp => .inl (h.subset hp)
theorem SR.tracked (S : SR g N H0 L H) {a : Addr} (h : Nn N L a) : (H a).isSome = true := by
  rcases h with h | h
  · by_cases hb : g.B a
    · exact g.dom H a S.hg hb
    · have := S.nd a h
      cases e : H0 a with
      | none => rw [e] at this; cases this
      | some o => rw [S.sm a o e hb]; rfl
  · obtain ⟨p, hp, ho⟩ := List.countP_pos_iff.mp h
    have := S.each p hp
    obtain ⟨s, v⟩ := p
    cases s with
    | ow ds =>
      obtain ⟨b, vs, e1, e2, e3, _⟩ := this
      simp only at e1
      have : v = some (.ref a) := by simpa [owns] using ho
      rw [this] at e1; cases e1
      rw [e3]; rfl
    | un => cases ho
    | sh d => cases ho
/-- what is owned is not the callers' -/
theorem SR.own_n (S : SR g N H0 L H) {ds : List D} {v : Option V} (h : (Sl.ow ds, v) ∈ L) : ∃ a vs, v = some (.ref a) ∧ ¬ N a ∧ H0 a = none ∧ H a = some (.lst vs) ∧ Reps g.bv H (Nn N L) ds vs ∧ 0 < cnt a L := by
  obtain ⟨a, vs, e, h0, hh, r⟩ := S.each _ h
  simp only at e
  refine ⟨a, vs, e, fun z => ?_, h0, hh, r, List.countP_pos_iff.mpr ⟨_, h, by simp [owns, e]⟩⟩
  have := S.nd a z
  rw [h0] at this; cases this
/-- the heap grows, the bag may turn -/
theorem SR.grow (S : SR g N H0 L H) (hg : g.G H') (hs : Sm g.B H H') : SR g N H0 L H' :=
  ⟨hg, S.sm.trans hs, S.nd, S.bn, fun p hp => by
    have hk : ∀ a o, H a = some o → ¬ Nn N L a → H' a = some o := fun a o e n => hs a o e fun b => n (.inl (S.bn a b))
    obtain ⟨s, v⟩ := p
    cases s with
    | un => trivial
    | sh d => obtain ⟨v, e, r⟩ := S.each _ hp; exact ⟨v, e, r.mono hk fun _ _ _ z => z⟩
    | ow ds =>
      obtain ⟨a, vs, e, n, h0, hh, r, _⟩ := S.own_n hp
      exact ⟨a, vs, e, h0, hs a _ hh fun b => n (S.bn a b), r.mono hk fun _ _ _ z => z⟩, S.dist⟩
/-- a new object -/
theorem SR.fresh (S : SR g N H0 L H) {p : Addr} (hp : H p = none) {o : HO} : SR g N H0 L (upd H p o) := by
  refine S.grow (g.loc _ _ (fun a b => upd_ne fun e => ?_) S.hg) fun a o' e _ => ?_
  · subst e; have := g.dom H a S.hg b; rw [hp] at this; cases this
  · exact (upd_ne (ne_of_none e hp)).trans e
theorem SR.h0 (S : SR g N H0 L H) {p : Addr} (hp : H p = none) : H0 p = none := by
  cases e : H0 p with
  | none => rfl
  | some o =>
    by_cases b : g.B p
    · have := g.dom H p S.hg b; rw [hp] at this; cases this
    · rw [S.sm p o e b] at hp; cases hp
theorem SR.nn_fresh (S : SR g N H0 L H) {p : Addr} (hp : H p = none) : ¬ Nn N L p := fun z => by
  have := S.tracked z; rw [hp] at this; cases this
/-- a shared value more -/
theorem SR.addSh (S : SR g N H0 L H) {d : D} {v : V} (r : Rep g.bv H (Nn N L) d v) : SR g N H0 ((.sh d, some v) :: L) H := by
  have hc : ∀ a, cnt a ((Sl.sh d, some v) :: L) = cnt a L := fun a => List.countP_cons_of_neg (by simp [owns])
  refine S.to (fun a => Nat.le_of_eq (hc a)) fun p hp => ?_
  rcases List.mem_cons.mp hp with e | h
  · subst e; exact .inr ⟨v, rfl, r.mono (fun _ _ e _ => e) fun a _ _ => Nn.le (fun a => Nat.le_of_eq (hc a)) a⟩
  · exact .inl h
theorem SR.addUn (S : SR g N H0 L H) {v : Option V} : SR g N H0 ((.un, v) :: L) H := by
  have hc : ∀ a, cnt a ((Sl.un, v) :: L) = cnt a L := fun a => List.countP_cons_of_neg (by simp [owns])
  refine S.to (fun a => Nat.le_of_eq (hc a)) fun p hp => ?_
  rcases List.mem_cons.mp hp with e | h
  · subst e; exact .inr trivial
  · exact .inl h
/-- a new list -/
theorem SR.newL (S : SR g N H0 L H) {p : Addr} (hp : H p = none) {ds vs} (r : Reps g.bv H (Nn N L) ds vs) : SR g N H0 ((.ow ds, some (.ref p)) :: L) (upd H p (.lst vs)) := by
  have S1 := S.fresh hp (o := .lst vs)
  have h0 := S.h0 hp
  have nf := S.nn_fresh hp
  have hc : ∀ a, cnt a ((Sl.ow ds, some (V.ref p)) :: L) = cnt a L + if a = p then 1 else 0 := fun a => by
    show List.countP _ _ = _
    rw [List.countP_cons]
    by_cases e : a = p
    · subst e; simp [owns]
    · have : owns a (Sl.ow ds, some (V.ref p)) = false := by
        simp only [owns, beq_eq_false_iff_ne, ne_eq, Option.some.injEq, V.ref.injEq]; exact fun z => e z.symm
      simp [this, e]
  have hn : ∀ a o, H a = some o → Nn N ((Sl.ow ds, some (V.ref p)) :: L) a → Nn N L a := fun a o e z => z.elim .inl fun z => by
    rw [hc a, if_neg (ne_of_none e hp)] at z; exact .inr z
  have hk : ∀ a o, H a = some o → ¬ Nn N L a → upd H p (.lst vs) a = some o := fun a o e _ => (upd_ne (ne_of_none e hp)).trans e
  refine ⟨S1.hg, S1.sm, S1.nd, S1.bn, fun q hq => ?_, fun a => ?_⟩
  · rcases List.mem_cons.mp hq with e | h
    · subst e; exact ⟨p, vs, rfl, h0, upd_same, r.mono hk hn⟩
    · obtain ⟨s, v⟩ := q
      cases s with
      | un => trivial
      | sh d => obtain ⟨v, e, r⟩ := S.each _ h; exact ⟨v, e, r.mono hk hn⟩
      | ow es =>
        obtain ⟨a, ws, e, n, h0, hh, r, _⟩ := S.own_n h
        exact ⟨a, ws, e, h0, (upd_ne (ne_of_none hh hp)).trans hh, r.mono hk hn⟩
  · rw [hc a]
    by_cases e : a = p
    · subst e
      have : ¬ 0 < cnt a L := fun z => nf (.inr z)
      have : cnt a L = 0 := by omega
      rw [this, if_pos rfl]
      exact Nat.le_refl _
    · rw [if_neg e]; exact S.dist a
/-- a new tuple -/
theorem SR.newT (S : SR g N H0 L H) {p : Addr} (hp : H p = none) {ds vs} (r : Reps g.bv H (Nn N L) ds vs) : SR g N H0 ((.sh (.tup ds), some (.ref p)) :: L) (upd H p (.tup vs)) :=
  (S.fresh hp).addSh (.tup upd_same (S.nn_fresh hp) (r.mono (fun a o e _ => (upd_ne (ne_of_none e hp)).trans e) fun _ _ _ z => z))
/-- an owned list at a place becomes a shared value -/
theorem cnt_mid (a : Addr) (A : List En) (p : En) (R : List En) : cnt a (A ++ p :: R) = cnt a A + (cnt a R + if owns a p = true then 1 else 0) := by
  show List.countP _ _ = _
  rw [List.countP_append, List.countP_cons]
theorem SR.freeze {A R : List En} {ds : List D} {v : Option V} (S : SR g N H0 (A ++ (.ow ds, v) :: R) H) : SR g N H0 (A ++ (.sh (.lst ds), v) :: R) H := by
  have hm : ((Sl.ow ds, v) : En) ∈ A ++ (.ow ds, v) :: R := by simp
  obtain ⟨a, vs, e, n, h0, hh, r, hpos⟩ := S.own_n hm
  subst e
  have hc : ∀ b, cnt b (A ++ (Sl.sh (.lst ds), some (V.ref a)) :: R) + (if b = a then 1 else 0) = cnt b (A ++ (.ow ds, some (.ref a)) :: R) := fun b => by
    rw [cnt_mid, cnt_mid]
    have e1 : owns b (Sl.sh (.lst ds), some (V.ref a)) = false := rfl
    rw [e1]
    by_cases e : b = a
    · subst e; simp [owns]; omega
    · have : owns b (Sl.ow ds, some (V.ref a)) = false := by
        simp only [owns, beq_eq_false_iff_ne, ne_eq, Option.some.injEq, V.ref.injEq]; exact fun z => e z.symm
      simp [this, e]
  have hle : ∀ b, cnt b (A ++ (Sl.sh (.lst ds), some (V.ref a)) :: R) ≤ cnt b (A ++ (.ow ds, some (.ref a)) :: R) := fun b => by have := hc b; omega
  refine S.to hle fun p hp => ?_
  by_cases hq : p = (Sl.sh (.lst ds), some (V.ref a))
  · subst hq
    refine .inr ⟨.ref a, rfl, .lst hh (fun z => ?_) (r.mono (fun _ _ e _ => e) fun a _ _ => Nn.le hle a)⟩
    rcases z with z | z
    · exact n z
    · have h1 := hc a
      have h2 := S.dist a
      rw [if_pos rfl] at h1
      omega
  · refine .inl ?_
    simp only [List.mem_append, List.mem_cons] at hp ⊢
    rcases hp with h | h | h
    · exact .inl h
    · exact absurd h hq
    · exact .inr (.inr h)
/-- an owned list is changed -/
theorem SR.mut {A R : List En} {ds ds' : List D} {a : Addr} {vs' : List V} (S : SR g N H0 (A ++ (.ow ds, some (.ref a)) :: R) H) (r' : Reps g.bv H (Nn N (A ++ (.ow ds, some (.ref a)) :: R)) ds' vs') :
    SR g N H0 (A ++ (.ow ds', some (.ref a)) :: R) (upd H a (.lst vs')) := by
  have hm : ((Sl.ow ds, some (V.ref a)) : En) ∈ A ++ (.ow ds, some (.ref a)) :: R := by simp
  obtain ⟨a', vs, e, n, h0, hh, r, hpos⟩ := S.own_n hm
  cases e
  have hc : ∀ b, cnt b (A ++ (Sl.ow ds', some (V.ref a)) :: R) = cnt b (A ++ (.ow ds, some (.ref a)) :: R) := fun b => by rw [cnt_mid, cnt_mid]; rfl
  have hN : ∀ b, Nn N (A ++ (Sl.ow ds', some (V.ref a)) :: R) b ↔ Nn N (A ++ (.ow ds, some (.ref a)) :: R) b := fun b => by unfold Nn; rw [hc]
  have nb : ¬ g.B a := fun b => n (S.bn a b)
  have hk : ∀ b o, H b = some o → ¬ Nn N (A ++ (Sl.ow ds, some (V.ref a)) :: R) b → upd H a (.lst vs') b = some o := fun b o e z => by
    rw [upd_ne]; exact e
    intro w; subst w; exact z (.inr hpos)
  refine ⟨g.loc _ _ (fun b hb => upd_ne fun w => ?_) S.hg, fun b o e z => ?_, S.nd, S.bn, fun p hp => ?_, fun b => ?_⟩
  · subst w; exact nb hb
  · rw [upd_ne]; exact S.sm b o e z
    intro w; subst w; rw [h0] at e; cases e
  · by_cases hq : p = (Sl.ow ds', some (V.ref a))
    · subst hq
      exact ⟨a, vs', rfl, h0, upd_same, r'.mono hk fun b _ _ z => (hN b).mp z⟩
    · have hp' : p ∈ A ++ (Sl.ow ds, some (V.ref a)) :: R := by
        simp only [List.mem_append, List.mem_cons] at hp ⊢
        rcases hp with h | h | h
        · exact .inl h
        · exact absurd h hq
        · exact .inr (.inr h)
      obtain ⟨s, v⟩ := p
      cases s with
      | un => trivial
      | sh d => obtain ⟨v, e, r⟩ := S.each _ hp'; exact ⟨v, e, r.mono hk fun b _ _ z => (hN b).mp z⟩
      | ow es =>
        obtain ⟨b, ws, e, n, h0', hh', r, _⟩ := S.own_n hp'
        subst e
        refine ⟨b, ws, rfl, h0', (upd_ne fun w => ?_).trans hh', r.mono hk fun b _ _ z => (hN b).mp z⟩
        subst w
        -- two owners of one list
        have h2 := S.dist b
        rw [cnt_mid] at h2
        have e1 : owns b (Sl.ow ds, some (V.ref b)) = true := by simp [owns]
        have e2 : owns b (Sl.ow es, some (V.ref b)) = true := by simp [owns]
        rw [e1, if_pos rfl] at h2
        simp only [List.mem_append, List.mem_cons] at hp
        rcases hp with h | h | h
        · have : 0 < cnt b A := List.countP_pos_iff.mpr ⟨_, h, e2⟩
          omega
        · exact hq h
        · have : 0 < cnt b R := List.countP_pos_iff.mpr ⟨_, h, e2⟩
          omega
  · rw [hc]; exact S.dist b
end
end LV
namespace LV
open PySem PySem.Spec PyProof.Rows L2

/-- what an expression gives: a shared value, a list that nobody else holds, the list that slot i holds -/
inductive RV where
  | sh (d : D) | fr (ds : List D) | al (i : Nat)
def RV.sl : RV → Sl
  | .sh d => .sh d
  | .fr ds => .ow ds
  | .al _ => .un
def RVal (σ : L2.St) (r : RV) (v : V) : Prop := match r with
  | .al i => σ[i]? = some (some v)
  | _ => True
abbrev WE := Sg → (RV → Sg → Prop) → Prop
abbrev WT := Sg → (Bool → Sg → Prop) → Prop
abbrev WA := Sg → (List RV → Sg → Prop) → Prop

/-- a value as it may be read -/
def View (bv : Nat × V) (N : Addr → Prop) (H : Hp) (d : D) (v : V) : Prop := match d with
  | .lst ds => ∃ a vs, v = .ref a ∧ H a = some (.lst vs) ∧ Reps bv H N ds vs
  | d => Rep bv H N d v
theorem View.of {bv N H d v} (r : Rep bv H N d v) : View bv N H d v := by
  cases d <;> first | exact r | (cases r; exact ⟨_, _, rfl, by assumption, by assumption⟩)
inductive Views (bv : Nat × V) (N : Addr → Prop) (H : Hp) : List D → List V → Prop
  | nil : Views bv N H [] []
  | cons {d v ds vs} : View bv N H d v → Views bv N H ds vs → Views bv N H (d :: ds) (v :: vs)

def rdW (s : Sg) (r : RV) (Q : D → Prop) : Prop := match r with
  | .sh d => Q d
  | .fr ds => Q (.lst ds)
  | .al i => match s[i]? with
    | some (.sh d) => Q d
    | some (.ow ds) => Q (.lst ds)
    | _ => False
def rdL (s : Sg) : List RV → (List D → Prop) → Prop
  | [], Q => Q []
  | r :: rs, Q => rdW s r fun d => rdL s rs fun ds => Q (d :: ds)
/-- give it out: it is shared from now on -/
def fzW (s : Sg) (r : RV) (Q : D → Sg → Prop) : Prop := match r with
  | .sh d => Q d s
  | .fr ds => Q (.lst ds) s
  | .al i => match s[i]? with
    | some (.sh d) => Q d s
    | some (.ow ds) => Q (.lst ds) (s.set i (.sh (.lst ds)))
    | _ => False
def fzL (s : Sg) : List RV → (List D → Sg → Prop) → Prop
  | [], Q => Q [] s
  | r :: rs, Q => fzW s r fun d s1 => fzL s1 rs fun ds s2 => Q (d :: ds) s2

section
variable {g : Bag} {N : Addr → Prop} {H0 H H' : Hp} {L L' P P' : List En} {s s' : Sg} {σ : L2.St} {r : RV} {v : V}

theorem SR.mid {e : En} {A B B' : List En} (S : SR g N H0 (e :: (A ++ B)) H) (h : B'.Sublist B) : SR g N H0 (A ++ e :: B') H := by
  refine S.to (fun a => ?_) fun p hp => .inl ?_
  · have := h.countP_le (p := owns a)
    show List.countP _ _ ≤ List.countP _ _
    simp only [List.countP_cons, List.countP_append]
    omega
  · have := h.subset (a := p)
    simp only [List.mem_append, List.mem_cons] at hp ⊢
    rcases hp with h | h | h
    · exact .inr (.inl h)
    · exact .inl h
    · exact .inr (.inr (this h))
theorem SR.drop1 {A B B' : List En} (S : SR g N H0 (A ++ B) H) (h : B'.Sublist B) : SR g N H0 (A ++ B') H := S.sub (h.append_left A)
theorem SR.perm (S : SR g N H0 L H) (h : L.Perm L') : SR g N H0 L' H :=
  S.to (fun a => Nat.le_of_eq (h.countP_eq _).symm) fun p hp => .inl (h.mem_iff.mpr hp)

theorem zip_get {i : Nat} {x : Sl} {y : Option V} (hl : s.length = σ.length) (h1 : s[i]? = some x) (h2 : σ[i]? = some y) : (x, y) ∈ s.zip σ := by
  have : (s.zip σ)[i]? = some (x, y) := by rw [List.getElem?_zip_eq_some]; exact ⟨h1, h2⟩
  exact List.mem_of_getElem? this
theorem zip_get' {i : Nat} {x : Sl} (hl : s.length = σ.length) (h1 : s[i]? = some x) : ∃ y, σ[i]? = some y ∧ (x, y) ∈ s.zip σ := by
  have : i < σ.length := by rw [← hl]; exact (List.getElem?_eq_some_iff.mp h1).1
  exact ⟨σ[i], List.getElem?_eq_getElem this, zip_get hl h1 (List.getElem?_eq_getElem this)⟩

/-- reading -/
theorem SR.rd {Qd : D → Prop} (S : SR g N H0 L H) (hz : ∀ p ∈ s.zip σ, p ∈ L) (hl : s.length = σ.length) (hm : (r.sl, some v) ∈ L) (hv : RVal σ r v) (h : rdW s r Qd) : ∃ d, Qd d ∧ View g.bv (Nn N L) H d v := by
  have ow : ∀ {ds : List D}, (Sl.ow ds, some v) ∈ L → View g.bv (Nn N L) H (.lst ds) v := fun hm => by
    obtain ⟨a, vs, e, _, _, hh, r, _⟩ := S.own_n hm
    cases e; exact ⟨a, vs, rfl, hh, r⟩
  have sh : ∀ {d : D}, (Sl.sh d, some v) ∈ L → View g.bv (Nn N L) H d v := fun hm => by
    obtain ⟨w, e, r⟩ := S.each _ hm
    cases e; exact .of r
  cases r with
  | sh d => exact ⟨d, h, sh hm⟩
  | fr ds => exact ⟨_, h, ow hm⟩
  | al i =>
    simp only [rdW] at h
    have hi : σ[i]? = some (some v) := hv
    cases e : s[i]? with
    | none => rw [e] at h; exact h.elim
    | some x =>
      rw [e] at h
      have hm' := hz _ (zip_get hl e hi)
      cases x with
      | un => exact h.elim
      | sh d => exact ⟨d, h, sh hm'⟩
      | ow ds => exact ⟨_, h, ow hm'⟩

theorem zip_set {i : Nat} {x : Sl} {y : Option V} {z : Sl} (hl : s.length = σ.length) (h1 : s[i]? = some x) (h2 : σ[i]? = some y) : ∃ A B, s.zip σ = A ++ (x, y) :: B ∧ (s.set i z).zip σ = A ++ (z, y) :: B ∧ A.length = i := by
  induction i generalizing s σ with
  | zero =>
    cases s with
    | nil => simp at h1
    | cons a s =>
      cases σ with
      | nil => simp at h2
      | cons b σ =>
        simp at h1 h2; subst h1; subst h2
        exact ⟨[], s.zip σ, rfl, rfl, rfl⟩
  | succ i ih =>
    cases s with
    | nil => simp at h1
    | cons a s =>
      cases σ with
      | nil => simp at h2
      | cons b σ =>
        simp at h1 h2 hl
        obtain ⟨A, B, e1, e2, e3⟩ := ih hl h1 h2
        exact ⟨(a, b) :: A, B, by simp [e1], by simp [e2], by simp [e3]⟩

/-- giving out -/
theorem SR.fz {A B : List En} {Qd : D → Sg → Prop} (S : SR g N H0 (s.zip σ ++ (A ++ (r.sl, some v) :: B)) H) (hl : s.length = σ.length) (hv : RVal σ r v) (h : fzW s r Qd) :
    ∃ d s', Qd d s' ∧ s'.length = σ.length ∧ SR g N H0 (s'.zip σ ++ (A ++ (.sh d, some v) :: B)) H := by
  cases r with
  | sh d => exact ⟨d, s, h, hl, S⟩
  | fr ds => 
    refine ⟨_, s, h, hl, ?_⟩
    rw [← List.append_assoc] at S ⊢
    exact S.freeze
  | al i =>
    simp only [fzW] at h
    have hi : σ[i]? = some (some v) := hv
    have key : ∀ {s' : Sg} {d : D}, SR g N H0 (s'.zip σ ++ (A ++ (Sl.un, some v) :: B)) H → (Sl.sh d, some v) ∈ s'.zip σ → SR g N H0 (s'.zip σ ++ (A ++ (.sh d, some v) :: B)) H := fun {s' d} S hm => by
      obtain ⟨w, e, r⟩ := S.each _ (List.mem_append_left _ hm)
      cases e
      have S1 := S.addSh r
      refine S1.to (fun a => ?_) fun p hp => .inl ?_
      · show List.countP _ _ ≤ List.countP _ _
        simp only [List.countP_cons, List.countP_append]
        omega
      · simp only [List.mem_append, List.mem_cons] at hp ⊢
        rcases hp with h | h | h | h
        · exact .inr (.inl h)
        · exact .inr (.inr (.inl h))
        · exact .inl h
        · exact .inr (.inr (.inr (.inr h)))
    cases e : s[i]? with
    | none => rw [e] at h; exact h.elim
    | some x =>
      rw [e] at h
      cases x with
      | un => exact h.elim
      | sh d => exact ⟨d, s, h, hl, key S (zip_get hl e hi)⟩
      | ow ds =>
        refine ⟨_, _, h, by simpa using hl, ?_⟩
        obtain ⟨A', B', e1, e2, _⟩ := zip_set (z := .sh (.lst ds)) hl e hi
        refine key ?_ ?_
        · rw [e1, List.append_assoc] at S
          rw [e2, List.append_assoc]
          exact S.freeze
        · rw [e2]; simp

/-- pending values -/
def pend : List RV → List V → List En
  | r :: rs, v :: vs => (r.sl, some v) :: pend rs vs
  | _, _ => []
def pendD : List D → List V → List En
  | d :: ds, v :: vs => (.sh d, some v) :: pendD ds vs
  | _, _ => []
inductive RVals (σ : L2.St) : List RV → List V → Prop
  | nil : RVals σ [] []
  | cons {r v rs vs} : RVal σ r v → RVals σ rs vs → RVals σ (r :: rs) (v :: vs)
theorem SR.rds {s : Sg} (hl : s.length = σ.length) : ∀ {rs : List RV} {vs : List V} {L : List En} {Qd : List D → Prop}, SR g N H0 L H → (∀ p ∈ s.zip σ, p ∈ L) → (∀ p ∈ pend rs vs, p ∈ L) → RVals σ rs vs → rdL s rs Qd → ∃ ds, Qd ds ∧ Views g.bv (Nn N L) H ds vs
  | [], _, _, _, _, _, _, .nil, h => ⟨[], h, .nil⟩
  | r :: rs, _, _, _, S, hz, hp, .cons a b, h => by
    obtain ⟨d, h1, v1⟩ := S.rd hz hl (hp _ (by simp [pend])) a h
    obtain ⟨ds, h2, v2⟩ := SR.rds hl S hz (fun p h => hp p (by simp [pend, h])) b h1
    exact ⟨d :: ds, h2, .cons v1 v2⟩
theorem SR.fzs : ∀ {rs : List RV} {vs : List V} {s : Sg} {A B : List En} {Qd : List D → Sg → Prop}, s.length = σ.length → SR g N H0 (s.zip σ ++ (A ++ (pend rs vs ++ B))) H → RVals σ rs vs → fzL s rs Qd →
    ∃ ds s', Qd ds s' ∧ s'.length = σ.length ∧ ds.length = vs.length ∧ SR g N H0 (s'.zip σ ++ (A ++ (pendD ds vs ++ B))) H
  | [], _, s, _, _, _, hl, S, .nil, h => ⟨[], s, h, hl, rfl, S⟩
  | r :: rs, v :: vs, s, A, B, _, hl, S, .cons a b, h => by
    obtain ⟨d, s1, h1, hl1, S1⟩ := SR.fz (A := A) (B := pend rs vs ++ B) S hl a h
    have e : ∀ (s : Sg) (X : List En), s.zip σ ++ (A ++ (Sl.sh d, some v) :: X) = s.zip σ ++ ((A ++ [(Sl.sh d, some v)]) ++ X) := fun s X => by simp
    rw [e] at S1
    obtain ⟨ds, s2, h2, hl2, hn, S2⟩ := SR.fzs hl1 S1 b h1
    rw [← e] at S2
    exact ⟨d :: ds, s2, h2, hl2, by simp [hn], S2⟩
theorem SR.reps : ∀ {ds : List D} {vs : List V} {L : List En}, ds.length = vs.length → SR g N H0 L H → (∀ p ∈ pendD ds vs, p ∈ L) → Reps g.bv H (Nn N L) ds vs
  | [], [], _, _, _, _ => .nil
  | d :: ds, v :: vs, L, hn, S, hp => by
    obtain ⟨w, e, r⟩ := S.each _ (hp (Sl.sh d, some v) (by simp [pendD]))
    cases e
    exact .cons r (SR.reps (by simpa using hn) S fun p h => hp p (by simp [pendD, h]))
end

/-! ### the judgements -/
def LEt (t : TE) (w : WE) : Prop := ∀ (g : Bag) (N : Addr → Prop) (H0 : Hp) (s : Sg) (σ : L2.St) (P : List En) (H : Hp) (Qw : RV → Sg → Prop) (Q : VK), s.length = σ.length → SR g N H0 (s.zip σ ++ P) H → w s Qw →
  (∀ r s' v H', s'.length = σ.length → SR g N H0 (s'.zip σ ++ (r.sl, some v) :: P) H' → RVal σ r v → Qw r s' → Q v H') → t σ H Q
structure LE (X : Cx) (e : Expr) (w : WE) : Prop where
  ex : ∃ t, PE X e t ∧ LEt t w
def LTt (t : TT) (w : WT) : Prop := ∀ (g : Bag) (N : Addr → Prop) (H0 : Hp) (s : Sg) (σ : L2.St) (P : List En) (H : Hp) (Qw : Bool → Sg → Prop) (Q : Bool → Hp → Prop), s.length = σ.length → SR g N H0 (s.zip σ ++ P) H → w s Qw →
  (∀ b s' H', s'.length = σ.length → SR g N H0 (s'.zip σ ++ P) H' → Qw b s' → Q b H') → t σ H Q
structure LT (X : Cx) (e : Expr) (w : WT) : Prop where
  ex : ∃ t, PT X e t ∧ LTt t w
def LAt (t : TA) (w : WA) : Prop := ∀ (g : Bag) (N : Addr → Prop) (H0 : Hp) (s : Sg) (σ : L2.St) (P : List En) (H : Hp) (Qw : List RV → Sg → Prop) (Q : List V → Hp → Prop), s.length = σ.length → SR g N H0 (s.zip σ ++ P) H → w s Qw →
  (∀ rs s' vs H', s'.length = σ.length → SR g N H0 (s'.zip σ ++ (pend rs vs ++ P)) H' → RVals σ rs vs → Qw rs s' → Q vs H') → t σ H Q
structure LA (X : Cx) (es : List Expr) (w : WA) : Prop where
  ex : ∃ t, PA X es t ∧ LAt t w

section
variable {X : Cx} {a b e : Expr} {wa wb : WE} {pos : Pos}

/-! ### names, constants -/
def wV (i : Nat) : WE := fun s Q => match s[i]? with
  | some (.sh d) => Q (.sh d) s
  | some (.ow _) => Q (.al i) s
  | _ => False
def wC (d : D) : WE := fun s Q => Q (.sh d) s
theorem le_v {i : Nat} {x : Str} (h : PE X (.Name x pos) (tVar i)) : LE X (.Name x pos) (wV i) := ⟨⟨_, h, fun g N H0 s σ P H Qw Q hl S h k => by
  simp only [wV] at h
  cases e : s[i]? with
  | none => rw [e] at h; exact h.elim
  | some x =>
    rw [e] at h
    obtain ⟨y, hy, hm⟩ := zip_get' hl e
    cases x with
    | un => exact h.elim
    | sh d =>
      obtain ⟨v, ev, r⟩ := S.each _ (List.mem_append_left _ hm)
      simp only at ev; subst ev
      exact ⟨v, hy, k (.sh d) s v H hl ((S.addSh r).mid (List.Sublist.refl _)) trivial h⟩
    | ow ds =>
      obtain ⟨a, vs, ev, _⟩ := S.each _ (List.mem_append_left _ hm)
      simp only at ev; subst ev
      exact ⟨_, hy, k (.al i) s _ H hl ((S.addUn (v := some (.ref a))).mid (List.Sublist.refl _)) hy h⟩⟩⟩
theorem le_c {d : D} {v : V} (h : PE X e (tC v)) (r : ∀ bv H N, Rep bv H N d v) : LE X e (wC d) := ⟨⟨_, h, fun g N H0 s σ P H Qw Q hl S h k =>
  k (.sh d) s v H hl ((S.addSh (r _ _ _)).mid (List.Sublist.refl _)) trivial h⟩⟩

/-! ### argument lists -/
def wNil : WA := fun s Q => Q [] s
def wCons (wa : WE) (wr : WA) : WA := fun s Q => wa s fun r s1 => wr s1 fun rs s2 => Q (r :: rs) s2
theorem la_nil : LA X [] wNil := ⟨⟨_, pa_nil, fun g N H0 s σ P H Qw Q hl S h k => k [] s [] H hl S .nil h⟩⟩
theorem la_cons {es : List Expr} {wr : WA} (ha : LE X e wa) (hr : LA X es wr) (hs : starEach (e :: es) X.env = (false, eval e X.env) :: starEach es X.env) : LA X (e :: es) (wCons wa wr) := by
  obtain ⟨ta, pa, la⟩ := ha.ex
  obtain ⟨tr, pr, lr⟩ := hr.ex
  refine ⟨⟨_, pa_cons pa pr hs, fun g N H0 s σ P H Qw Q hl S h k => ?_⟩⟩
  refine la g N H0 s σ P H _ _ hl S h fun r s1 v H1 hl1 S1 rv h1 => ?_
  refine lr g N H0 s1 σ ((r.sl, some v) :: P) H1 _ _ hl1 S1 h1 fun rs s2 vs H2 hl2 S2 rvs h2 => ?_
  refine k (r :: rs) s2 (v :: vs) H2 hl2 (S2.perm ?_) (.cons rv rvs) h2
  exact List.Perm.append_left _ (List.perm_middle)

/-! ### operators of two -/
abbrev F2 := D → D → (RV → Prop) → Prop
/-- how a result is handed on -/
def Hand (g : Bag) (N : Addr → Prop) (H0 : Hp) (L : List En) (Qf : RV → Prop) (Q : VK) : Prop := ∀ r v H', SR g N H0 ((r.sl, some v) :: L) H' → (∀ i, r ≠ .al i) → Qf r → Q v H'
def OpS (r : R2) (f : F2) : Prop := ∀ (g : Bag) (N : Addr → Prop) (H0 : Hp) (L : List En) (H : Hp) (da db : D) (x y : V) (Qf : RV → Prop) (Q : VK), SR g N H0 L H → View g.bv (Nn N L) H da x → View g.bv (Nn N L) H db y → f da db Qf → Hand g N H0 L Qf Q → r x y H Q
def wOp (f : F2) (wa wb : WE) : WE := fun s Q => wa s fun ra s1 => wb s1 fun rb s2 => rdW s2 ra fun da => rdW s2 rb fun db => f da db fun r => Q r s2
theorem RVal.ok {σ : L2.St} {r : RV} {v : V} (h : ∀ i, r ≠ .al i) : RVal σ r v := by cases r <;> first | trivial | exact absurd rfl (h _)
theorem let_op {r : R2} {f : F2} {ta tb : TE} (ho : OpS r f) (la : LEt ta wa) (lb : LEt tb wb) : LEt (tOp r ta tb) (wOp f wa wb) := fun g N H0 s σ P H Qw Q hl S h k => by
  refine la g N H0 s σ P H _ _ hl S h fun ra s1 x H1 hl1 S1 rx h1 => ?_
  refine lb g N H0 s1 σ ((ra.sl, some x) :: P) H1 _ _ hl1 S1 h1 fun rb s2 y H2 hl2 S2 ry h2 => ?_
  have hz : ∀ p ∈ s2.zip σ, p ∈ s2.zip σ ++ (rb.sl, some y) :: (ra.sl, some x) :: P := fun p h => List.mem_append_left _ h
  obtain ⟨da, h3, va⟩ := S2.rd hz hl2 (by simp) rx h2
  obtain ⟨db, h4, vb⟩ := S2.rd hz hl2 (by simp) ry h3
  exact ho g N H0 _ H2 da db x y _ Q S2 va vb h4 fun r v H3 S3 hr h5 => k r s2 v H3 hl2 (S3.mid (by simp)) (RVal.ok hr) h5
theorem le_op {op : Operator} {r : R2} {f : F2} (ho : OpR X (binaryOp op) r) (hf : OpS r f) (ha : LE X a wa) (hb : LE X b wb) : LE X (.BinOp a op b pos) (wOp f wa wb) := by
  obtain ⟨ta, pa, la⟩ := ha.ex
  obtain ⟨tb, pb, lb⟩ := hb.ex
  exact ⟨⟨_, pe_op ho pa pb, let_op hf la lb⟩⟩
theorem le_cmp {op : CmpOp} {r : R2} {f : F2} (ho : OpR X (compareOp op) r) (hf : OpS r f) (ha : LE X a wa) (hb : LE X b wb) (hm : behindInMarks op b = false) : LE X (.Compare a [op] [b] pos) (wOp f wa wb) := by
  obtain ⟨ta, pa, la⟩ := ha.ex
  obtain ⟨tb, pb, lb⟩ := hb.ex
  exact ⟨⟨_, pe_cmpR ho pa pb hm, let_op hf la lb⟩⟩
/-- a value as a test -/
def wTst (w : WE) : WT := fun s Q => w s fun r s1 => rdW s1 r fun d => match d with
  | .bl b => Q b s1
  | _ => False
theorem ltt_of {t : TE} {w : WE} (h : LEt t w) : LTt (tTest t) (wTst w) := fun g N H0 s σ P H Qw Q hl S hw k => by
  refine h g N H0 s σ P H _ _ hl S hw fun r s1 v H1 hl1 S1 rv h1 => ?_
  obtain ⟨d, h2, vd⟩ := S1.rd (fun p h => List.mem_append_left _ h) hl1 (by simp) rv h1
  cases d with
  | bl b => cases vd; exact ⟨b, rfl, k b s1 H1 hl1 (S1.drop1 (by simp)) h2⟩
  | _ => exact h2.elim
theorem lt_cmp {op : CmpOp} {r : R2} {f : F2} (ho : OpR X (compareOp op) r) (hf : OpS r f) (ha : LE X a wa) (hb : LE X b wb) (hm : behindInMarks op b = false) : LT X (.Compare a [op] [b] pos) (wTst (wOp f wa wb)) := by
  obtain ⟨ta, pa, la⟩ := ha.ex
  obtain ⟨tb, pb, lb⟩ := hb.ex
  exact ⟨⟨_, pt_cmpR ho pa pb hm, ltt_of (let_op hf la lb)⟩⟩
end
end LV
namespace LV
open PySem PySem.Spec PyProof.Rows L2

/-! ### a tuple once, or not at all -/
section
variable {l : Addr} {its : Array Value} {n : Nat} {dd : Option Addr} {sl : Array (Option Value)} {x : Int} {u : Tok}
theorem mul_once (d0 : (decide (x < -(2 ^ 63)) || decide (x ≥ 2 ^ 63)) = false) (d1 : (its.isEmpty || x == 1) = true) :
    Meets (Builtin.«tuple.__mul__» ⟨[.ref l, .int x u], []⟩) (fun _ R s => s.heap.get? l = some { cls := .type "tuple", dict := dd, data := .seq its n, slots := sl } ∧ R (.ok (.ret (Value.ref l))) s) :=
  .of_wp fun prog w A R s h => by
    obtain ⟨hp, g, d, tk, os⟩ := s
    obtain ⟨he, h⟩ := h
    have ix := AutoSeq1.idx_int
    wp_walk using wpAny_loadPart' he
    repeat (first
      | (refine wpAny_ite_false (decide_eq_false (by rw [d0]; decide)) ?_; wp_walk using wpAny_loadPart' he)
      | (refine wpAny_ite_true (decide_eq_true d1) ?_; wp_walk using wpAny_loadPart' he))
    exact ⟨_, rfl, h⟩
theorem mul_none (d0 : (decide (x < -(2 ^ 63)) || decide (x ≥ 2 ^ 63)) = false) (d1 : (its.isEmpty || x == 1) = false) (d2 : (decide (x ≤ 0) || its.isEmpty) = true) :
    Meets (Builtin.«tuple.__mul__» ⟨[.ref l, .int x u], []⟩) (fun _ R s => s.heap.get? l = some { cls := .type "tuple", dict := dd, data := .seq its n, slots := sl } ∧
      R (.ok (.ret (Value.ref s.heap.objs.size))) { s with heap := s.heap.push { cls := Value.type "tuple", data := Data.seq #[] }, toks := s.toks }) :=
  .of_wp fun prog w A R s h => by
    obtain ⟨hp, g, d, tk, os⟩ := s
    obtain ⟨he, h⟩ := h
    have ix := AutoSeq1.idx_int
    wp_walk using wpAny_loadPart' he
    repeat (first
      | (refine wpAny_ite_false (decide_eq_false (by rw [d0]; decide)) ?_; wp_walk using wpAny_loadPart' he)
      | (refine wpAny_ite_false (decide_eq_false (by rw [d1]; decide)) ?_; wp_walk using wpAny_loadPart' he)
      | (refine wpAny_ite_true (decide_eq_true d2) ?_; wp_walk using wpAny_loadPart' he))
    exact ⟨_, rfl, h⟩
end
def rRepU (K : PySem.W.Frag) : R2 := fun x y H Q => ∃ l k xs, x = .ref l ∧ y = .int k ∧ SqT K H l xs ∧ xs ≠ [] ∧ -1000 ≤ k ∧ k ≤ 1 ∧ (k = 1 → Q (.ref l) H) ∧ (k ≤ 0 → ∀ p, H p = none → Q (.ref p) (upd H p (.tup [])))
theorem op_repU {X : Cx} : OpR X (binaryOp .Mult) (rRepU X.K) := by
  intro pins s σ H x y v u Q I rx ry h
  obtain ⟨l, k, xs, rfl, rfl, hT, hne, h1, h2, q1, q0⟩ := h
  cases rx
  obtain ⟨t, rfl⟩ := ry
  obtain ⟨its, r, ⟨⟨cls, dd, data, sl⟩, ho, hc, n, hd⟩, hs⟩ := I.tuple hT
  simp only at hc hd
  subst hc hd
  have hn : its ≠ [] := fun e => hne (List.eq_nil_of_length_eq_zero (by rw [r.length, e]; rfl))
  have hi : its.toArray.isEmpty = false := by
    cases its with
    | nil => exact absurd rfl hn
    | cons a b => rfl
  have d0 : (decide (k < -(2 ^ 63)) || decide (k ≥ 2 ^ 63)) = false := by
    rw [decide_eq_false (by omega), decide_eq_false (by omega)] <;> rfl
  by_cases hk : k = 1
  · have d1 : (its.toArray.isEmpty || k == 1) = true := by rw [hi, hk]; rfl
    exact wpAny_binaryOp_repeat_ref (T := "tuple") (U := "int") (by decide) ⟨_, ho, rfl⟩ (fun s' => typeIs_int s' k t) noFill_tuple_mul F.fills_int_mul F.slot_int_rmul repeat_tuple F.slot_int_index.lookup
      (call_meets F.slot_int_rmul (typeIs_int s k t) F.entry_int_rmul (F.args_int_rmul_2 _ _) (int_rmul_tuple k t l its.toArray n dd sl)
        ⟨ho, rfl, ⟨_, ho, rfl⟩, call_meets F.slot_tuple_mul ⟨_, ho, rfl⟩ F.entry_tuple_mul (F.args_tuple_mul_2 _ _) (mul_once d0 d1) ⟨ho, .ref l, H, I, rfl, q1 hk⟩⟩)
  · have d1 : (its.toArray.isEmpty || k == 1) = false := by rw [hi, Bool.false_or]; exact beq_eq_false_iff_ne.mpr hk
    have d2 : (decide (k ≤ 0) || its.toArray.isEmpty) = true := by rw [decide_eq_true (by omega)]; rfl
    refine wpAny_binaryOp_repeat_ref (T := "tuple") (U := "int") (by decide) ⟨_, ho, rfl⟩ (fun s' => typeIs_int s' k t) noFill_tuple_mul F.fills_int_mul F.slot_int_rmul repeat_tuple F.slot_int_index.lookup
      (call_meets F.slot_int_rmul (typeIs_int s k t) F.entry_int_rmul (F.args_int_rmul_2 _ _) (int_rmul_tuple k t l its.toArray n dd sl)
        ⟨ho, rfl, ⟨_, ho, rfl⟩, call_meets F.slot_tuple_mul ⟨_, ho, rfl⟩ F.entry_tuple_mul (F.args_tuple_mul_2 _ _) (mul_none d0 d1 d2) ⟨ho, ?_⟩⟩)
    refine ⟨.ref s.heap.objs.size, _, I.laid (t' := s.toks) (o := .tup []) (fun b ob q => Heap.get?_push_of_some _ q) (Nat.le_refl _) ?_, rfl, q0 (by omega) _ (I.hok.fresh (Nat.le_refl _))⟩
    exact ⟨Nat.zero_le _, [], .nil, IsTup.new _ _⟩
end LV
namespace LV
open PySem PySem.Spec PyProof.Rows L2

/-! ### values by themselves -/
mutual
def toPy : D → PyData
  | .non => .none
  | .bl b => .bool b
  | .int i => .int i
  | .str x => .str x
  | .tup ds => .tuple (toPys ds)
  | .lst ds => .list (toPys ds)
  | .bag _ => .dict []
  | .scr _ => .dict []
def toPys : List D → List PyData
  | [] => []
  | d :: ds => toPy d :: toPys ds
end
mutual
theorem Rep.dp {bv H N} (K : PySem.W.Frag) : ∀ {d v}, Rep bv H N d v → SeqAt.shaped (toPy d) = true ∨ (toPy d).canLay0 = true → Dp K H v (toPy d)
  | _, _, .non, _ => .non
  | _, _, .bl, _ => .bl _
  | _, _, .int, _ => .int _
  | _, _, .str, _ => .str _
  | _, _, .bag _, h => by rcases h with h | h <;> cases h
  | _, _, .scrF _ _ _, h => by rcases h with h | h <;> cases h
  | _, _, .scrK _ _, h => by rcases h with h | h <;> cases h
  | _, _, .tup e _ r, h => .tup (SqT.of e) (Reps.dp K r (by
      rcases h with h | h
      · exact SeqAt.canLay_of_shaped h
      · exact h))
  | _, _, .lst e _ r, h => .lst (SqL.of e) (Reps.dp K r (by
      rcases h with h | h
      · exact SeqAt.canLay_of_shaped h
      · exact h))
theorem Reps.dp {bv H N} (K : PySem.W.Frag) : ∀ {ds vs}, Reps bv H N ds vs → PyData.canLayAll0 (toPys ds) = true → DpAll K H vs (toPys ds)
  | _, _, .nil, _ => .nil
  | _, _, .cons r rs, h => by
    have h' := Bool.and_eq_true_iff.mp h
    exact .cons (Rep.dp K r (.inr h'.1)) (Reps.dp K rs h'.2)
end
theorem View.dp {bv H N} (K : PySem.W.Frag) {d v} (h : View bv N H d v) (hs : SeqAt.shaped (toPy d) = true) : Dp K H v (toPy d) := by
  cases d with
  | lst ds =>
    obtain ⟨a, vs, rfl, e, r⟩ := h
    exact .lst (SqL.of e) (Reps.dp K r (SeqAt.canLay_of_shaped hs))
  | _ => exact Rep.dp K h (.inl hs)

/-! ### handing on -/
section
variable {g : Bag} {N : Addr → Prop} {H0 H : Hp} {L : List En} {Qf : RV → Prop} {Q : VK}
theorem Hand.sh (k : Hand g N H0 L Qf Q) (S : SR g N H0 L H) {d : D} {v : V} (r : Rep g.bv H (Nn N L) d v) (h : Qf (.sh d)) : Q v H := k (.sh d) v H (S.addSh r) (fun _ h => nomatch h) h
theorem Hand.fr (k : Hand g N H0 L Qf Q) (S : SR g N H0 L H) {ds : List D} {vs : List V} (r : Reps g.bv H (Nn N L) ds vs) (h : Qf (.fr ds)) (p : Addr) (hp : H p = none) : Q (.ref p) (upd H p (.lst vs)) :=
  k (.fr ds) _ _ (S.newL hp r) (fun _ h => nomatch h) h
theorem Hand.tp (k : Hand g N H0 L Qf Q) (S : SR g N H0 L H) {ds : List D} {vs : List V} (r : Reps g.bv H (Nn N L) ds vs) (h : Qf (.sh (.tup ds))) (p : Addr) (hp : H p = none) : Q (.ref p) (upd H p (.tup vs)) :=
  k (.sh (.tup ds)) _ _ (S.newT hp r) (fun _ h => nomatch h) h
end
theorem View.tup {bv N H ds v} (h : View bv N H (.tup ds) v) : ∃ a vs, v = .ref a ∧ H a = some (.tup vs) ∧ ¬ N a ∧ Reps bv H N ds vs := by cases h; exact ⟨_, _, rfl, by assumption, by assumption, by assumption⟩
theorem View.int {bv N H i v} (h : View bv N H (.int i) v) : v = .int i := by cases h; rfl
theorem View.bl {bv N H i v} (h : View bv N H (.bl i) v) : v = .bl i := by cases h; rfl
theorem View.str {bv N H i v} (h : View bv N H (.str i) v) : v = .str i := by cases h; rfl

/-! ### arithmetic -/
def CDivA (_ j : Int) : Prop := j ≠ 0 ∧ j.natAbs.log2 < 9000
theorem op_fdivA {X : Cx} : OpR X (binaryOp .FloorDiv) (rI CDivA fun i j => .int (i.fdiv j)) := opI fun i j _ _ _ _ _ hc q =>
  floordiv_int hc.1 q (.inl (PyProof.noPylong_of_log2 hc.2))
def fSub : F2 := fun a b Q => match a, b with
  | .int i, .int j => Q (.sh (.int (i - j)))
  | _, _ => False
def fDiv : F2 := fun a b Q => match a, b with
  | .int i, .int j => CDivA i j ∧ Q (.sh (.int (i.fdiv j)))
  | _, _ => False
def fMod : F2 := fun a b Q => match a, b with
  | .int i, .int j => j ≠ 0 ∧ Q (.sh (.int (i.fmod j)))
  | _, _ => False
def fPow : F2 := fun a b Q => match a, b with
  | .int i, .int j => CPow i j ∧ Q (.sh (.int (i ^ j.toNat)))
  | _, _ => False
def fAdd : F2 := fun a b Q => match a, b with
  | .int i, .int j => Q (.sh (.int (i + j)))
  | .lst xs, .lst ys => xs.length + ys.length ≤ sizeLine ∧ Q (.fr (xs ++ ys))
  | .tup xs, .tup ys => xs.length + ys.length ≤ sizeLine ∧ Q (.sh (.tup (xs ++ ys)))
  | .str x, .str y => x.length + y.length ≤ sizeLine ∧ Q (.sh (.str (x ++ y)))
  | _, _ => False
def fMul : F2 := fun a b Q => match a, b with
  | .int i, .int j => CMulW i j ∧ Q (.sh (.int (i * j)))
  | .lst xs, .int k => -(2 ^ 63) ≤ k ∧ k < 2 ^ 63 ∧ xs.length * k.toNat ≤ sizeLine ∧ Q (.fr (List.replicate k.toNat xs).flatten)
  | .tup xs, .int k => xs ≠ [] ∧ -1000 ≤ k ∧ k ≤ 1000 ∧ xs.length ≤ 1000 ∧ Q (.sh (.tup (List.replicate k.toNat xs).flatten))
  | _, _ => False
theorem opS_I {C : Int → Int → Prop} {h : Int → Int → Int} {f : F2} (hf : ∀ a b Q, f a b Q → ∃ i j, a = .int i ∧ b = .int j ∧ C i j ∧ Q (.sh (.int (h i j)))) : OpS (rI C fun i j => .int (h i j)) f := by
  intro g N H0 L H da db x y Qf Q S va vb hq k
  obtain ⟨i, j, rfl, rfl, c, q⟩ := hf _ _ _ hq
  exact ⟨i, j, va.int, vb.int, c, k.sh S .int q⟩
theorem opS_sub : OpS (rI0 fun i j => .int (i - j)) fSub := by
  intro g N H0 L H da db x y Qf Q S va vb hq k
  unfold fSub at hq; split at hq
  · exact ⟨_, _, va.int, vb.int, k.sh S .int hq⟩
  · exact hq.elim
theorem opS_div : OpS (rI CDivA fun i j => .int (i.fdiv j)) fDiv := opS_I fun a b Q h => by
  unfold fDiv at h; split at h
  · exact ⟨_, _, rfl, rfl, h⟩
  · exact h.elim
theorem opS_mod : OpS (rI (fun _ j => j ≠ 0) fun i j => .int (i.fmod j)) fMod := opS_I fun a b Q h => by
  unfold fMod at h; split at h
  · exact ⟨_, _, rfl, rfl, h⟩
  · exact h.elim
theorem opS_pow : OpS (rI CPow fun i j => .int (i ^ j.toNat)) fPow := opS_I fun a b Q h => by
  unfold fPow at h; split at h
  · exact ⟨_, _, rfl, rfl, h⟩
  · exact h.elim
abbrev rAddA (K : PySem.W.Frag) : R2 := fun x y H Q => (rI0 fun i j => .int (i + j)) x y H Q ∨ (rCat x y H Q ∨ (rCatA K x y H Q ∨ (∃ i j, x = .str i ∧ y = .str j ∧ i.length + j.length ≤ sizeLine ∧ Q (.str (i ++ j)) H)))
theorem op_addA {X : Cx} : OpR X (binaryOp .Add) (rAddA X.K) := op_add.or (op_cat.or (op_catA.or op_add_str))
theorem opS_add {K : PySem.W.Frag} : OpS (rAddA K) fAdd := by
  intro g N H0 L H da db x y Qf Q S va vb hq k
  unfold fAdd at hq; split at hq
  · exact .inl ⟨_, _, va.int, vb.int, k.sh S .int hq⟩
  · obtain ⟨a, vs, rfl, ea, ra⟩ := va
    obtain ⟨b, ws, rfl, eb, rb⟩ := vb
    exact .inr (.inl ⟨_, _, _, _, rfl, rfl, ea, eb, by rw [← ra.length, ← rb.length]; exact hq.1, fun p hp => k.fr S (ra.append rb) hq.2 p hp⟩)
  · obtain ⟨a, vs, rfl, ea, na, ra⟩ := va.tup
    obtain ⟨b, ws, rfl, eb, nb, rb⟩ := vb.tup
    refine .inr (.inr (.inl ⟨_, _, _, _, rfl, rfl, SqT.of ea, SqT.of eb, by rw [← ra.length, ← rb.length]; exact hq.1, fun e => ?_, fun n e => ?_, fun _ _ p hp => k.tp S (ra.append rb) hq.2 p hp⟩))
    · subst e
      have := ra.length; simp at this; subst this
      exact k.sh S (.tup eb nb rb) hq.2
    · subst e
      have := rb.length; simp at this; subst this
      exact k.sh S (.tup ea na (by simpa using ra)) hq.2
  · exact .inr (.inr (.inr ⟨_, _, va.str, vb.str, hq.1, k.sh S .str hq.2⟩))
  · exact hq.elim
abbrev rMulA (K : PySem.W.Frag) : R2 := fun x y H Q => (rI CMulW fun i j => .int (i * j)) x y H Q ∨ (rRep x y H Q ∨ (rRepT K x y H Q ∨ rRepU K x y H Q))
theorem op_mulA {X : Cx} : OpR X (binaryOp .Mult) (rMulA X.K) := op_mulW.or (op_rep.or (op_repT.or op_repU))
theorem opS_mul {K : PySem.W.Frag} : OpS (rMulA K) fMul := by
  intro g N H0 L H da db x y Qf Q S va vb hq k
  unfold fMul at hq; split at hq
  · exact .inl ⟨_, _, va.int, vb.int, hq.1, k.sh S .int hq.2⟩
  · obtain ⟨a, vs, rfl, ea, ra⟩ := va
    obtain ⟨h1, h2, h3, q⟩ := hq
    exact .inr (.inl ⟨_, _, _, rfl, vb.int, ea, h1, h2, by rw [← ra.length]; exact h3, fun p hp => k.fr S (ra.replicate _) q p hp⟩)
  · rename_i xs i
    obtain ⟨a, vs, rfl, ea, na, ra⟩ := va.tup
    obtain ⟨h0, h1, h2, h3, q⟩ := hq
    have hne : vs ≠ [] := fun e => h0 (by subst e; have := ra.length; simpa using this)
    by_cases hk : 2 ≤ i
    · exact .inr (.inr (.inl ⟨_, _, _, rfl, vb.int, SqT.of ea, hne, hk, h2, by rw [← ra.length]; exact h3, fun p hp => k.tp S (ra.replicate _) q p hp⟩))
    · refine .inr (.inr (.inr ⟨_, _, _, rfl, vb.int, SqT.of ea, hne, h1, by omega, fun e => ?_, fun e p hp => ?_⟩))
      · subst e
        refine k.sh S (.tup ea na ra) ?_
        simpa using q
      · have e0 : i.toNat = 0 := by omega
        rw [e0] at q
        exact k.tp S .nil q p hp
  · exact hq.elim

/-! ### comparisons -/
def fCI (p : Int → Int → Bool) : F2 := fun a b Q => match a, b with
  | .int i, .int j => Q (.sh (.bl (p i j)))
  | _, _ => False
theorem opS_CI {p : Int → Int → Bool} : OpS (rI0 fun i j => .bl (p i j)) (fCI p) := by
  intro g N H0 L H da db x y Qf Q S va vb hq k
  unfold fCI at hq; split at hq
  · exact ⟨_, _, va.int, vb.int, k.sh S .bl hq⟩
  · exact hq.elim
def eqD (a b : D) : Bool := PyData.eqv (toPy a) (toPy b)
abbrev fLt : F2 := fCI fun i j => decide (i < j)
abbrev fLe : F2 := fCI fun i j => decide (i ≤ j)
abbrev fGt : F2 := fCI fun i j => decide (j < i)
abbrev fGe : F2 := fCI fun i j => decide (j ≤ i)
def sha (d : D) : Prop := SeqAt.shaped (toPy d) = true
def fEq : F2 := fun a b Q => match a, b with
  | .int i, .int j => Q (.sh (.bl (decide (i = j))))
  | .str i, .str j => Q (.sh (.bl (decide (i = j))))
  | a, b => sha a ∧ sha b ∧ Q (.sh (.bl (eqD a b)))
def fNe : F2 := fun a b Q => match a, b with
  | .int i, .int j => Q (.sh (.bl (!decide (i = j))))
  | .str i, .str j => Q (.sh (.bl (!decide (i = j))))
  | a, b => sha a ∧ sha b ∧ Q (.sh (.bl (!eqD a b)))
abbrev rEqA (K : PySem.W.Frag) : R2 := fun x y H Q => rEq x y H Q ∨ rEqD K x y H Q
abbrev rNeA (K : PySem.W.Frag) : R2 := fun x y H Q => rNe x y H Q ∨ rNeD K x y H Q
theorem op_eqA {X : Cx} (hu : X.A.units + 64 < cLine) : OpR X (compareOp .Eq) (rEqA X.K) := op_eq.or (op_eqD hu)
theorem op_neA {X : Cx} (hu : X.A.units + 64 < cLine) : OpR X (compareOp .NotEq) (rNeA X.K) := op_ne.or (op_neD hu)
theorem dec_vi {i j : Int} : decide (V.int i = V.int j) = decide (i = j) := by simp
theorem dec_vs {i j : Str} : decide (V.str i = V.str j) = decide (i = j) := by simp
theorem opS_eq {K : PySem.W.Frag} : OpS (rEqA K) fEq := by
  intro g N H0 L H da db x y Qf Q S va vb hq k
  unfold fEq at hq; split at hq
  · refine .inl ?_
    rw [va.int, vb.int]
    exact ⟨rfl, by rw [dec_vi]; exact k.sh S .bl hq⟩
  · refine .inl ?_
    rw [va.str, vb.str]
    exact ⟨rfl, by rw [dec_vs]; exact k.sh S .bl hq⟩
  · obtain ⟨h1, h2, q⟩ := hq
    exact .inr ⟨_, _, va.dp K h1, vb.dp K h2, h1, h2, k.sh S .bl q⟩
theorem opS_ne {K : PySem.W.Frag} : OpS (rNeA K) fNe := by
  intro g N H0 L H da db x y Qf Q S va vb hq k
  unfold fNe at hq; split at hq
  · refine .inl ?_
    rw [va.int, vb.int]
    exact ⟨rfl, by rw [dec_vi]; exact k.sh S .bl hq⟩
  · refine .inl ?_
    rw [va.str, vb.str]
    exact ⟨rfl, by rw [dec_vs]; exact k.sh S .bl hq⟩
  · obtain ⟨h1, h2, q⟩ := hq
    exact .inr ⟨_, _, va.dp K h1, vb.dp K h2, h1, h2, k.sh S .bl q⟩

/-! ### one operand -/
abbrev F1 := D → (RV → Prop) → Prop
def UnS (r : V → Hp → VK → Prop) (f : F1) : Prop := ∀ (g : Bag) (N : Addr → Prop) (H0 : Hp) (L : List En) (H : Hp) (da : D) (x : V) (Qf : RV → Prop) (Q : VK), SR g N H0 L H → View g.bv (Nn N L) H da x → f da Qf → Hand g N H0 L Qf Q → r x H Q
def wUn (f : F1) (wa : WE) : WE := fun s Q => wa s fun ra s1 => rdW s1 ra fun da => f da fun r => Q r s1
theorem let_un {r : V → Hp → VK → Prop} {f : F1} {ta : TE} {wa : WE} (ho : UnS r f) (la : LEt ta wa) : LEt (tUn r ta) (wUn f wa) := fun g N H0 s σ P H Qw Q hl S h k => by
  refine la g N H0 s σ P H _ _ hl S h fun ra s1 x H1 hl1 S1 rx h1 => ?_
  obtain ⟨da, h3, va⟩ := S1.rd (fun p h => List.mem_append_left _ h) hl1 (by simp) rx h1
  exact ho g N H0 _ H1 da x _ Q S1 va h3 fun r v H3 S3 hr h5 => k r s1 v H3 hl1 (S3.mid (by simp)) (RVal.ok hr) h5
theorem le_un {X : Cx} {a : Expr} {op : UnaryOp} {r : V → Hp → VK → Prop} {f : F1} {wa : WE} {pos : Pos} (ho : UnR X (unaryOp op) r) (hf : UnS r f) (ha : LE X a wa) : LE X (.UnaryOp op a pos) (wUn f wa) := by
  obtain ⟨ta, pa, la⟩ := ha.ex
  exact ⟨⟨_, pe_un ho pa, let_un hf la⟩⟩
def fNeg : F1 := fun a Q => match a with
  | .int i => Q (.sh (.int (-i)))
  | _ => False
theorem unS_neg : UnS (rU fun i => .int (-i)) fNeg := by
  intro g N H0 L H da x Qf Q S va hq k
  unfold fNeg at hq; split at hq
  · exact ⟨_, va.int, k.sh S .int hq⟩
  · exact hq.elim

/-! ### subscripts -/
theorem View.bag {bv N H k v} (h : View bv N H (.bag k) v) : bv.1 = k := by cases h; subst bv; rfl
theorem View.bag2 {bv N H k v} (h : View bv N H (.bag k) v) : v = bv.2 := by cases h; subst bv; rfl
theorem View.scr {bv N H K v} (h : View bv N H (.scr K) v) : ∃ a ns, v = .ref a ∧ ns.length ≤ 63 ∧ SqL K H a (List.map V.int ns) := by
  cases h with
  | scrF e n l => exact ⟨_, _, rfl, l, .inl (.inr ⟨_, e⟩)⟩
  | scrK e l => exact ⟨_, _, rfl, l, .inr e⟩
theorem reps_ints {bv H N} : ∀ ns : List Int, Reps bv H N (ns.map D.int) (ns.map V.int)
  | [] => .nil
  | n :: ns => .cons .int (reps_ints ns)
def ixD (xs : List D) (i : Int) (Q : D → Prop) : Prop := match atI xs i with
  | some d => Q d
  | none => False
def fIx : F2 := fun a b Q => match a, b with
  | .lst xs, .int i => ixD xs i fun d => Q (.sh d)
  | .tup xs, .int i => ixD xs i fun d => Q (.sh d)
  | .bag k, .int i => k = 1 ∧ (i = 1 ∧ (∀ v : Int, 0 ≤ v → Q (.sh (.int v))) ∨ i = 2 ∧ ∀ v : Int, 0 ≤ v → v < 2147483647 → Q (.sh (.int v)))
  | _, _ => False
theorem Reps.atI {bv H N ds vs} (r : Reps bv H N ds vs) {i : Int} {d : D} (e : L2.atI ds i = some d) : ∃ v, L2.atI vs i = some v ∧ Rep bv H N d v := by
  unfold L2.atI at e ⊢
  rw [← r.length]
  cases q : ixN ds.length i with
  | none => rw [q] at e; cases e
  | some j => rw [q] at e; exact r.get e
theorem opS_ix {K : PySem.W.Frag} : OpS (fun x y H Q => rIxL K x y H Q ∨ rIxT K x y H Q) fIx := by
  intro g N H0 L H da db x y Qf Q S va vb hq k
  unfold fIx at hq; split at hq
  · obtain ⟨a, vs, rfl, ea, ra⟩ := va
    unfold ixD at hq; split at hq
    · obtain ⟨v, h1, h2⟩ := ra.atI (by assumption)
      exact .inl ⟨_, _, _, _, rfl, vb.int, SqL.of ea, h1, k.sh S h2 hq⟩
    · exact hq.elim
  · obtain ⟨a, vs, rfl, ea, na, ra⟩ := va.tup
    unfold ixD at hq; split at hq
    · obtain ⟨v, h1, h2⟩ := ra.atI (by assumption)
      exact .inr ⟨_, _, _, _, rfl, vb.int, SqT.of ea, h1, k.sh S h2 hq⟩
    · exact hq.elim
  · obtain ⟨e1, hq⟩ := hq
    subst e1
    obtain ⟨b, l, CS, eb, _, _, _, _, hG⟩ := g.sp.1 va.bag
    obtain ⟨cells, cur, mixed, _, hb, _, h1, h2, h3⟩ := (hG H).mp S.hg
    have ev : x = .ref b := va.bag2.trans eb
    rcases hq with ⟨rfl, hq⟩ | ⟨rfl, hq⟩
    · exact .inl ⟨b, _, _, _, ev, vb.int, SqL.of hb, rfl, k.sh S .int (hq cur h1)⟩
    · exact .inl ⟨b, _, _, _, ev, vb.int, SqL.of hb, rfl, k.sh S .int (hq mixed h2 h3)⟩
  · exact hq.elim
theorem le_ix {X : Cx} {a b : Expr} {wa wb : WE} {pos : Pos} (ha : LE X a wa) (hb : LE X b wb) (hs : PlainIx b) : LE X (.Subscript a b pos) (wOp fIx wa wb) := by
  obtain ⟨ta, pa, la⟩ := ha.ex
  obtain ⟨tb, pb, lb⟩ := hb.ex
  exact ⟨⟨_, pe_ix (ix_list.or ix_tup) pa pb hs, let_op opS_ix la lb⟩⟩
/-- a part of a slice -/
abbrev WO := Sg → (Option Int → Sg → Prop) → Prop
def LOt (t : TO) (w : WO) : Prop := ∀ (g : Bag) (N : Addr → Prop) (H0 : Hp) (s : Sg) (σ : L2.St) (P : List En) (H : Hp) (Qw : Option Int → Sg → Prop) (Q : Option Int → Hp → Prop), s.length = σ.length → SR g N H0 (s.zip σ ++ P) H → w s Qw →
  (∀ b s' H', s'.length = σ.length → SR g N H0 (s'.zip σ ++ P) H' → Qw b s' → Q b H') → t σ H Q
structure LO (X : Cx) (e : Option Expr) (w : WO) : Prop where
  ex : ∃ t, PO X e t ∧ LOt t w
def wONone : WO := fun s Q => Q none s
def wOSome (w : WE) : WO := fun s Q => w s fun r s1 => rdW s1 r fun d => match d with
  | .int i => Q (some i) s1
  | _ => False
theorem lo_none {X : Cx} : LO X none wONone := ⟨⟨_, po_none, fun g N H0 s σ P H Qw Q hl S h k => k none s H hl S h⟩⟩
theorem lo_some {X : Cx} {e : Expr} {w : WE} (h : LE X e w) : LO X (some e) (wOSome w) := by
  obtain ⟨t, p, l⟩ := h.ex
  refine ⟨⟨_, po_some p, fun g N H0 s σ P H Qw Q hl S h k => ?_⟩⟩
  refine l g N H0 s σ P H _ _ hl S h fun r s1 v H1 hl1 S1 rv h1 => ?_
  obtain ⟨d, h2, vd⟩ := S1.rd (fun p h => List.mem_append_left _ h) hl1 (by simp) rv h1
  cases d with
  | int i => exact ⟨i, vd.int, k _ s1 H1 hl1 (S1.drop1 (by simp)) h2⟩
  | _ => exact h2.elim
def cutD (xs : List D) (lo hi : Option Int) : List D := (xs.drop (HT.sIx xs.length 0 lo)).take (HT.sIx xs.length xs.length hi - HT.sIx xs.length 0 lo)
def fSl (K : PySem.W.Frag) (a : D) (lo hi : Option Int) (Q : RV → Prop) : Prop := match a with
  | .lst xs => Q (.fr (cutD xs lo hi))
  | .tup xs => Q (.sh (.tup (cutD xs lo hi)))
  | .scr K' => K' = K ∧ ∀ ns : List Int, ns.length ≤ 63 → Q (.fr (cutD (ns.map D.int) lo hi))
  | _ => False
def wSl (K : PySem.W.Frag) (wa : WE) (wl wh : WO) : WE := fun s Q => wa s fun ra s1 => wl s1 fun lo s2 => wh s2 fun hi s3 => rdW s3 ra fun da => fSl K da lo hi fun r => Q r s3
theorem Reps.cut {bv H N ds vs} (r : Reps bv H N ds vs) (lo hi : Option Int) : Reps bv H N (cutD ds lo hi) (cutV vs lo hi) := by
  unfold cutD cutV
  rw [← r.length]
  exact (r.drop _).take _
end LV
namespace LV
open PySem PySem.Spec PyProof.Rows L2
section
variable {X : Cx} {a b c e : Expr} {wa wb we : WE} {wt wu : WT} {pos : Pos}

theorem le_sl {lo hi : Option Expr} {wl wh : WO} {p2 : Pos} (ha : LE X a wa) (hl : LO X lo wl) (hh : LO X hi wh) : LE X (.Subscript a (.Slice lo hi none p2) pos) (wSl X.K wa wl wh) := by
  obtain ⟨ta, pa, la⟩ := ha.ex
  obtain ⟨tl, pl, ll⟩ := hl.ex
  obtain ⟨th, ph, lh⟩ := hh.ex
  refine ⟨⟨_, pe_slice (sl_list.or sl_tupA) pa pl ph, fun g N H0 s σ P H Qw Q hl S h k => ?_⟩⟩
  refine la g N H0 s σ P H _ _ hl S h fun ra s1 x H1 hl1 S1 rx h1 => ?_
  refine ll g N H0 s1 σ _ H1 _ _ hl1 S1 h1 fun lo s2 H2 hl2 S2 h2 => ?_
  refine lh g N H0 s2 σ _ H2 _ _ hl2 S2 h2 fun hi s3 H3 hl3 S3 h3 => ?_
  obtain ⟨da, h4, va⟩ := S3.rd (fun p h => List.mem_append_left _ h) hl3 (by simp) rx h3
  have fin : Hand g N H0 (s3.zip σ ++ (ra.sl, some x) :: P) (fun r => Qw r s3) Q := fun r v H4 S4 hr h5 => k r s3 v H4 hl3 (S4.mid (by simp)) (RVal.ok hr) h5
  unfold fSl at h4; split at h4
  · obtain ⟨a, vs, rfl, ea, ra⟩ := va
    exact .inl ⟨_, _, rfl, SqL.of ea, fun p hp => fin.fr S3 (ra.cut lo hi) h4 p hp⟩
  · obtain ⟨a, vs, rfl, ea, na, ra⟩ := va.tup
    refine .inr ⟨_, _, rfl, SqT.of ea, fun hc => ?_, fun _ p hp => fin.tp S3 (ra.cut lo hi) h4 p hp⟩
    refine fin.sh S3 (d := .tup _) ?_ h4
    have e : ∀ ds : List D, ds.length = vs.length → cutD ds lo hi = ds := fun ds hd => by
      unfold cutD; rw [hd, hc.1, hc.2, List.drop_zero, Nat.sub_zero, ← hd]; exact List.take_length
    rw [e _ ra.length]
    exact .tup ea na ra
  · obtain ⟨rfl, h4⟩ := h4
    obtain ⟨a, ns, rfl, l, sq⟩ := va.scr
    exact .inl ⟨_, _, rfl, sq, fun p hp => fin.fr S3 ((reps_ints ns).cut lo hi) (h4 ns l) p hp⟩
  · exact h4.elim

/-! ### tests -/
def tru (d : D) (Q : Bool → Prop) : Prop := match d with
  | .non => Q false
  | .bl b => Q b
  | .int i => Q (i != 0)
  | .lst xs => Q (!xs.isEmpty)
  | .tup xs => Q (!xs.isEmpty)
  | .str y => y.length ≤ sizeLine ∧ Q ((y.length : Int) != 0)
  | .bag _ => False
  | .scr _ => False
theorem tru_rel {bv H N d v Q} (K : PySem.W.Frag) (h : View bv N H d v) (t : tru d Q) : ∃ k, TruV K v H k ∧ Q k := by
  cases d with
  | non => cases h; exact ⟨_, rfl, t⟩
  | bl b => cases h; exact ⟨_, rfl, t⟩
  | int i => cases h; exact ⟨_, rfl, t⟩
  | str y => cases h; exact ⟨_, ⟨t.1, rfl⟩, t.2⟩
  | lst xs =>
    obtain ⟨a, vs, rfl, e, r⟩ := h
    refine ⟨_, .inl ⟨vs, SqL.of e, rfl⟩, ?_⟩
    have : vs.isEmpty = xs.isEmpty := by cases r <;> rfl
    rw [this]; exact t
  | tup xs =>
    obtain ⟨a, vs, rfl, e, n, r⟩ := h.tup
    refine ⟨_, .inr (.inl ⟨vs, SqT.of e, rfl⟩), ?_⟩
    have : vs.isEmpty = xs.isEmpty := by cases r <;> rfl
    rw [this]; exact t
  | bag => exact t.elim
  | scr => exact t.elim
/-- a value by its truth -/
def wTru (w : WE) : WT := fun s Q => w s fun r s1 => rdW s1 r fun d => tru d fun k => Q k s1
theorem lt_tru (ha : LE X a wa) (he : ∀ whole, isTrue a X.env whole = (do let v ← whole; standAt a.pos; holding [v] (truthy v))) : LT X a (wTru wa) := by
  obtain ⟨t, p, l⟩ := ha.ex
  refine ⟨⟨_, pt_truth p he, fun g N H0 s σ P H Qw Q hl S h k => ?_⟩⟩
  refine l g N H0 s σ P H _ _ hl S h fun r s1 v H1 hl1 S1 rv h1 => ?_
  obtain ⟨d, h2, vd⟩ := S1.rd (fun p h => List.mem_append_left _ h) hl1 (by simp) rv h1
  obtain ⟨b, t, q⟩ := tru_rel X.K vd h2
  exact ⟨b, t, k b s1 H1 hl1 (S1.drop1 (by simp)) q⟩
def wNot (w : WT) : WT := fun s Q => w s fun b s1 => Q (!b) s1
theorem lt_not (h : LT X a wt) : LT X (.UnaryOp .Not a pos) (wNot wt) := by
  obtain ⟨t, p, l⟩ := h.ex
  exact ⟨⟨_, pt_not p, fun g N H0 s σ P H Qw Q hl S h k => l g N H0 s σ P H _ _ hl S h fun b s1 H1 hl1 S1 h1 => k _ s1 H1 hl1 S1 h1⟩⟩
structure LW (X : Cx) (e : Expr) (w : WT) : Prop where
  ex : ∃ t, PW X e t ∧ LTt t w
theorem LW.lt (h : LW X e wt) : LT X e wt := let ⟨t, p, l⟩ := h.ex; ⟨⟨t, p.pt, l⟩⟩
def wAnd (wt wu : WT) : WT := fun s Q => wt s fun b s1 => if b = true then wu s1 Q else Q false s1
def wOr (wt wu : WT) : WT := fun s Q => wt s fun b s1 => if b = true then Q true s1 else wu s1 Q
theorem lw_and1 (h : LT X a wt) : LW X (.BoolOp .And [a] pos) wt := let ⟨t, p, l⟩ := h.ex; ⟨⟨t, pw_and1 p, l⟩⟩
theorem lw_or1 (h : LT X a wt) : LW X (.BoolOp .Or [a] pos) wt := let ⟨t, p, l⟩ := h.ex; ⟨⟨t, pw_or1 p, l⟩⟩
theorem lw_and {rest : List Expr} (h : LT X a wt) (h2 : LW X (.BoolOp .And (b :: rest) pos) wu) : LW X (.BoolOp .And (a :: b :: rest) pos) (wAnd wt wu) := by
  obtain ⟨t, p, l⟩ := h.ex
  obtain ⟨t2, p2, l2⟩ := h2.ex
  refine ⟨⟨_, pw_and p p2, fun g N H0 s σ P H Qw Q hl S h k => l g N H0 s σ P H _ _ hl S h fun c s1 H1 hl1 S1 h1 => ?_⟩⟩
  cases c with
  | true => exact l2 g N H0 s1 σ P H1 _ _ hl1 S1 h1 k
  | false => exact k _ s1 H1 hl1 S1 h1
theorem lw_or {rest : List Expr} (h : LT X a wt) (h2 : LW X (.BoolOp .Or (b :: rest) pos) wu) : LW X (.BoolOp .Or (a :: b :: rest) pos) (wOr wt wu) := by
  obtain ⟨t, p, l⟩ := h.ex
  obtain ⟨t2, p2, l2⟩ := h2.ex
  refine ⟨⟨_, pw_or p p2, fun g N H0 s σ P H Qw Q hl S h k => l g N H0 s σ P H _ _ hl S h fun c s1 H1 hl1 S1 h1 => ?_⟩⟩
  cases c with
  | false => exact l2 g N H0 s1 σ P H1 _ _ hl1 S1 h1 k
  | true => exact k _ s1 H1 hl1 S1 h1
/-- and, or, not as values: of bools -/
def wAndV (wa wb : WE) : WE := fun s Q => wa s fun r s1 => rdW s1 r fun d => match d with
  | .bl b => if b = true then wb s1 Q else Q (.sh (.bl false)) s1
  | _ => False
def wOrV (wa wb : WE) : WE := fun s Q => wa s fun r s1 => rdW s1 r fun d => match d with
  | .bl b => if b = true then Q (.sh (.bl true)) s1 else wb s1 Q
  | _ => False
def wNotV (wa : WE) : WE := fun s Q => wa s fun r s1 => rdW s1 r fun d => tru d fun b => Q (.sh (.bl (!b))) s1
theorem le_one {op} (h : LE X a wa) : LE X (.BoolOp op [a] pos) wa := let ⟨t, p, l⟩ := h.ex; ⟨⟨t, pe_one p, l⟩⟩
theorem le_and {rest : List Expr} (h : LE X a wa) (h2 : LE X (.BoolOp .And (b :: rest) pos) wb) : LE X (.BoolOp .And (a :: b :: rest) pos) (wAndV wa wb) := by
  obtain ⟨t, p, l⟩ := h.ex
  obtain ⟨t2, p2, l2⟩ := h2.ex
  refine ⟨⟨_, pe_and p p2, fun g N H0 s σ P H Qw Q hl S h k => l g N H0 s σ P H _ _ hl S h fun r s1 v H1 hl1 S1 rv h1 => ?_⟩⟩
  obtain ⟨d, h2, vd⟩ := S1.rd (fun p h => List.mem_append_left _ h) hl1 (by simp) rv h1
  have S2 := S1.drop1 (List.sublist_cons_self _ _)
  cases d with
  | bl c =>
    refine ⟨c, vd.bl, ?_⟩
    cases c with
    | true => exact l2 g N H0 s1 σ P H1 _ _ hl1 S2 h2 k
    | false => exact k (.sh (.bl false)) s1 _ H1 hl1 ((S2.addSh .bl).mid (List.Sublist.refl _)) trivial h2
  | _ => exact h2.elim
theorem le_or {rest : List Expr} (h : LE X a wa) (h2 : LE X (.BoolOp .Or (b :: rest) pos) wb) : LE X (.BoolOp .Or (a :: b :: rest) pos) (wOrV wa wb) := by
  obtain ⟨t, p, l⟩ := h.ex
  obtain ⟨t2, p2, l2⟩ := h2.ex
  refine ⟨⟨_, pe_or p p2, fun g N H0 s σ P H Qw Q hl S h k => l g N H0 s σ P H _ _ hl S h fun r s1 v H1 hl1 S1 rv h1 => ?_⟩⟩
  obtain ⟨d, h2, vd⟩ := S1.rd (fun p h => List.mem_append_left _ h) hl1 (by simp) rv h1
  have S2 := S1.drop1 (List.sublist_cons_self _ _)
  cases d with
  | bl c =>
    refine ⟨c, vd.bl, ?_⟩
    cases c with
    | false => exact l2 g N H0 s1 σ P H1 _ _ hl1 S2 h2 k
    | true => exact k (.sh (.bl true)) s1 _ H1 hl1 ((S2.addSh .bl).mid (List.Sublist.refl _)) trivial h2
  | _ => exact h2.elim
theorem le_not (h : LE X a wa) : LE X (.UnaryOp .Not a pos) (wNotV wa) := by
  obtain ⟨t, p, l⟩ := h.ex
  refine ⟨⟨_, pe_notT p, fun g N H0 s σ P H Qw Q hl S h k => l g N H0 s σ P H _ _ hl S h fun r s1 v H1 hl1 S1 rv h1 => ?_⟩⟩
  obtain ⟨d, h2, vd⟩ := S1.rd (fun p h => List.mem_append_left _ h) hl1 (by simp) rv h1
  have S2 := S1.drop1 (List.sublist_cons_self _ _)
  obtain ⟨b, t, q⟩ := tru_rel X.K vd h2
  exact ⟨b, t, k (.sh (.bl _)) s1 _ H1 hl1 ((S2.addSh .bl).mid (List.Sublist.refl _)) trivial q⟩
def wIf (wt : WT) (wa wb : WE) : WE := fun s Q => wt s fun b s1 => if b = true then wa s1 Q else wb s1 Q
theorem le_if (hc : LT X c wt) (ha : LE X a wa) (hb : LE X b wb) : LE X (.IfExp c a b pos) (wIf wt wa wb) := by
  obtain ⟨tc, pc, lc⟩ := hc.ex
  obtain ⟨ta, pa, la⟩ := ha.ex
  obtain ⟨tb, pb, lb⟩ := hb.ex
  refine ⟨⟨_, pe_ifExp pc pa pb, fun g N H0 s σ P H Qw Q hl S h k => lc g N H0 s σ P H _ _ hl S h fun d s1 H1 hl1 S1 h1 => ?_⟩⟩
  cases d with
  | true => exact la g N H0 s1 σ P H1 _ _ hl1 S1 h1 k
  | false => exact lb g N H0 s1 σ P H1 _ _ hl1 S1 h1 k
/-- a chain a op b op' c -/
def wChain (f f' : F2) (wa wb wc : WE) : WT := fun s Q => wa s fun ra s1 => wb s1 fun rb s2 => rdW s2 ra fun da => rdW s2 rb fun db => f da db fun r => match r with
  | .sh (.bl k) => if k = true then wc s2 fun rc s3 => rdW s3 rb fun db => rdW s3 rc fun dc => f' db dc fun r => (match r with
      | .sh (.bl k) => Q k s3
      | _ => False) else Q false s2
  | _ => False

/-! ### displays -/
def wTup (wa : WA) : WE := fun s Q => wa s fun rs s1 => rs.length ≤ 1000 ∧ fzL s1 rs fun ds s2 => Q (.sh (.tup ds)) s2
def wLst (wa : WA) : WE := fun s Q => wa s fun rs s1 => rs.length ≤ 1000 ∧ fzL s1 rs fun ds s2 => Q (.fr ds) s2
theorem RVals.length {σ : L2.St} : ∀ {rs vs}, RVals σ rs vs → rs.length = vs.length
  | _, _, .nil => rfl
  | _, _, .cons _ h => by simp [RVals.length h]
theorem le1000 {n : Nat} (h : n ≤ 1000) : n ≤ sizeLine := Nat.le_of_lt (small1000 h)
theorem le_tup {es : List Expr} {x1} {wa : WA} (h : LA X es wa) : LE X (.Tuple es x1 pos) (wTup wa) := by
  obtain ⟨t, p, l⟩ := h.ex
  refine ⟨⟨_, pe_tup p, fun g N H0 s σ P H Qw Q hl S h k => l g N H0 s σ P H _ _ hl S h fun rs s1 vs H1 hl1 S1 rv h1 => ?_⟩⟩
  obtain ⟨hn, h1⟩ := h1
  refine ⟨le1000 (by rw [← rv.length]; exact hn), fun p hp => ?_⟩
  obtain ⟨ds, s2, h2, hl2, hd, S2⟩ := SR.fzs (A := []) hl1 S1 rv h1
  have r := S2.reps hd (fun p hp => by simp [hp])
  exact k (.sh (.tup ds)) s2 _ _ hl2 ((S2.newT hp r).mid (List.sublist_append_right (pendD ds vs) P)) trivial h2
theorem le_lst {es : List Expr} {wa : WA} (h : LA X es wa) : LE X (.List es pos) (wLst wa) := by
  obtain ⟨t, p, l⟩ := h.ex
  refine ⟨⟨_, pe_lst p, fun g N H0 s σ P H Qw Q hl S h k => l g N H0 s σ P H _ _ hl S h fun rs s1 vs H1 hl1 S1 rv h1 => ?_⟩⟩
  obtain ⟨hn, h1⟩ := h1
  refine ⟨le1000 (by rw [← rv.length]; exact hn), fun p hp => ?_⟩
  obtain ⟨ds, s2, h2, hl2, hd, S2⟩ := SR.fzs (A := []) hl1 S1 rv h1
  have r := S2.reps hd (fun p hp => by simp [hp])
  exact k (.fr ds) s2 _ _ hl2 ((S2.newL hp r).mid (List.sublist_append_right (pendD ds vs) P)) trivial h2

/-! ### calls of built-ins: what is handed in is read -/
abbrev FN := List D → (RV → Prop) → Prop
def CaS (r : List V → Hp → VK → Prop) (f : FN) : Prop := ∀ (g : Bag) (N : Addr → Prop) (H0 : Hp) (L : List En) (H : Hp) (ds : List D) (vs : List V) (Qf : RV → Prop) (Q : VK), SR g N H0 L H → Views g.bv (Nn N L) H ds vs → f ds Qf → Hand g N H0 L Qf Q → r vs H Q
def wCB (f : FN) (wa : WA) : WE := fun s Q => wa s fun rs s1 => rdL s1 rs fun ds => f ds fun r => Q r s1
theorem let_cb {r : List V → Hp → VK → Prop} {f : FN} {t : TA} {wa : WA} (hc : CaS r f) (l : LAt t wa) : LEt (tCB r t) (wCB f wa) := fun g N H0 s σ P H Qw Q hl S h k => by
  refine l g N H0 s σ P H _ _ hl S h fun rs s1 vs H1 hl1 S1 rv h1 => ?_
  obtain ⟨ds, h2, vd⟩ := S1.rds hl1 (fun p h => List.mem_append_left _ h) (fun p h => List.mem_append_right _ (List.mem_append_left _ h)) rv h1
  exact hc g N H0 _ H1 ds vs _ Q S1 vd h2 fun r v H3 S3 hr h5 => k r s1 v H3 hl1 (S3.mid (List.sublist_append_right _ _)) (RVal.ok hr) h5
theorem le_callB {id : String} {x : Str} {p : Pos} {es : List Expr} {r : List V → Hp → VK → Prop} {f : FN} {wa : WA} (hc : CallR X (.builtin id) r) (hf : CaS r f) (hg : Gl X x) (hm : X.mg x = none) (hv : bootBuiltins x = some (.builtin id)) (ha : LA X (e :: es) wa)
    (hn : x ≠ "__name__") (hdb : (x == ("__debug__" : Str)) = false) (he : starEach (e :: es) X.env = (false, eval e X.env) :: starEach es X.env) (hpl : (backTo pos (starEach es X.env)).any (·.1) = false) : LE X (.Call (.Name x p) (e :: es) [] pos) (wCB f wa) := by
  obtain ⟨t, pa, l⟩ := ha.ex
  exact ⟨⟨_, pe_callB hc hg hm hv pa hn hdb he hpl, let_cb hf l⟩⟩
theorem le_callTy {T : String} {x : Str} {p : Pos} {es : List Expr} {r : List V → Hp → VK → Prop} {f : FN} {wa : WA} (hc : CallR X (.type T) r) (hf : CaS r f) (hg : Gl X x) (hm : X.mg x = none) (hv : bootBuiltins x = some (.type T)) (ha : LA X (e :: es) wa)
    (hn : x ≠ "__name__") (hdb : (x == ("__debug__" : Str)) = false) (he : starEach (e :: es) X.env = (false, eval e X.env) :: starEach es X.env) (hpl : (backTo pos (starEach es X.env)).any (·.1) = false) : LE X (.Call (.Name x p) (e :: es) [] pos) (wCB f wa) := by
  obtain ⟨t, pa, l⟩ := ha.ex
  exact ⟨⟨_, pe_callTy hc hg hm hv pa hn hdb he hpl, let_cb hf l⟩⟩
/-- math.gcd and its like, a global -/
theorem le_callM {id : String} {x : Str} {p : Pos} {es : List Expr} {r : List V → Hp → VK → Prop} {f : FN} {wa : WA} (hc : CallR X (.builtin id) r) (hf : CaS r f) (hg : Gl X x) (hm : X.mg x = some (.builtin id)) (ha : LA X (e :: es) wa)
    (hdb : (x == ("__debug__" : Str)) = false) (he : starEach (e :: es) X.env = (false, eval e X.env) :: starEach es X.env) (hpl : (backTo pos (starEach es X.env)).any (·.1) = false) : LE X (.Call (.Name x p) (e :: es) [] pos) (wCB f wa) := by
  obtain ⟨t, pa, l⟩ := ha.ex
  exact ⟨⟨_, pe_callBfun hc hg hm pa hdb he hpl, let_cb hf l⟩⟩
end
theorem Views.one {bv N H d vs} (h : Views bv N H [d] vs) : ∃ v, vs = [v] ∧ View bv N H d v := by
  cases h with
  | cons a b => cases b; exact ⟨_, rfl, a⟩
theorem Views.two {bv N H d d' vs} (h : Views bv N H [d, d'] vs) : ∃ v v', vs = [v, v'] ∧ View bv N H d v ∧ View bv N H d' v' := by
  cases h with
  | cons a b =>
    obtain ⟨v', rfl, c⟩ := b.one
    exact ⟨_, _, rfl, a, c⟩
/-! ### the built-ins -/
def fLen : FN := fun ds Q => match ds with
  | [.lst xs] => Q (.sh (.int xs.length))
  | [.tup xs] => Q (.sh (.int xs.length))
  | _ => False
theorem caS_len {K : PySem.W.Frag} : CaS (fun xs H Q => ∃ p ys, xs = [.ref p] ∧ (SqL K H p ys ∨ SqT K H p ys) ∧ Q (.int ys.length) H) fLen := by
  intro g N H0 L H ds vs Qf Q S vd hq k
  unfold fLen at hq; split at hq
  · obtain ⟨v, rfl, h⟩ := vd.one
    obtain ⟨a, vs, rfl, e, r⟩ := h
    exact ⟨_, _, rfl, .inl (SqL.of e), by rw [← r.length]; exact k.sh S .int hq⟩
  · obtain ⟨v, rfl, h⟩ := vd.one
    obtain ⟨a, vs, rfl, e, n, r⟩ := h.tup
    exact ⟨_, _, rfl, .inr (SqT.of e), by rw [← r.length]; exact k.sh S .int hq⟩
  · exact hq.elim
def fAbs : FN := fun ds Q => match ds with
  | [.int i] => Q (.sh (.int (if i < 0 then -i else i)))
  | _ => False
theorem caS_abs : CaS (fun xs H Q => ∃ i, xs = [.int i] ∧ Q (.int (if i < 0 then -i else i)) H) fAbs := by
  intro g N H0 L H ds vs Qf Q S vd hq k
  unfold fAbs at hq; split at hq
  · obtain ⟨v, rfl, h⟩ := vd.one
    exact ⟨_, by rw [h.int], k.sh S .int hq⟩
  · exact hq.elim
def fInt : FN := fun ds Q => match ds with
  | [.int i] => Q (.sh (.int i))
  | [.bl b] => Q (.sh (.int (if b then 1 else 0)))
  | _ => False
theorem caS_int : CaS (fun xs H Q => (∃ i, xs = [.int i] ∧ Q (.int i) H) ∨ ∃ k, xs = [.bl k] ∧ Q (.int (if k then 1 else 0)) H) fInt := by
  intro g N H0 L H ds vs Qf Q S vd hq k
  unfold fInt at hq; split at hq
  · obtain ⟨v, rfl, h⟩ := vd.one
    exact .inl ⟨_, by rw [h.int], k.sh S .int hq⟩
  · obtain ⟨v, rfl, h⟩ := vd.one
    exact .inr ⟨_, by rw [h.bl], k.sh S .int hq⟩
  · exact hq.elim
def fGcd : FN := fun ds Q => match ds with
  | [.int a, .int b] => Q (.sh (.int ((Nat.gcd a.natAbs b.natAbs : Nat) : Int)))
  | _ => False
theorem caS_gcd : CaS rGcd fGcd := by
  intro g N H0 L H ds vs Qf Q S vd hq k
  unfold fGcd at hq; split at hq
  · obtain ⟨v, v', rfl, h, h'⟩ := vd.two
    exact ⟨_, _, by rw [h.int, h'.int], k.sh S .int hq⟩
  · exact hq.elim
def fList : FN := fun ds Q => match ds with
  | [.lst xs] => Q (.fr xs)
  | [.tup xs] => Q (.fr xs)
  | _ => False
theorem caS_list {K : PySem.W.Frag} : CaS (fun xs H Q => ∃ p ys, xs = [.ref p] ∧ (SqL K H p ys ∨ SqT K H p ys) ∧ ∀ l, H l = none → Q (.ref l) (upd H l (.lst ys))) fList := by
  intro g N H0 L H ds vs Qf Q S vd hq k
  unfold fList at hq; split at hq
  · obtain ⟨v, rfl, h⟩ := vd.one
    obtain ⟨a, vs, rfl, e, r⟩ := h
    exact ⟨_, _, rfl, .inl (SqL.of e), fun l hl => k.fr S r hq l hl⟩
  · obtain ⟨v, rfl, h⟩ := vd.one
    obtain ⟨a, vs, rfl, e, n, r⟩ := h.tup
    exact ⟨_, _, rfl, .inr (SqT.of e), fun l hl => k.fr S r hq l hl⟩
  · exact hq.elim
def fTuple : FN := fun ds Q => match ds with
  | [.lst xs] => Q (.sh (.tup xs))
  | [.tup xs] => Q (.sh (.tup xs))
  | _ => False
theorem caS_tuple {K : PySem.W.Frag} : CaS (fun xs H Q => ∃ p ys, xs = [.ref p] ∧ ((SqL K H p ys ∧ ∀ l, H l = none → Q (.ref l) (upd H l (.tup ys))) ∨ (SqT K H p ys ∧ Q (.ref p) H))) fTuple := by
  intro g N H0 L H ds vs Qf Q S vd hq k
  unfold fTuple at hq; split at hq
  · obtain ⟨v, rfl, h⟩ := vd.one
    obtain ⟨a, vs, rfl, e, r⟩ := h
    exact ⟨_, _, rfl, .inl ⟨SqL.of e, fun l hl => k.tp S r hq l hl⟩⟩
  · obtain ⟨v, rfl, h⟩ := vd.one
    obtain ⟨a, vs, rfl, e, n, r⟩ := h.tup
    exact ⟨_, _, rfl, .inr ⟨SqT.of e, k.sh S (.tup e n r) hq⟩⟩
  · exact hq.elim
/-- the ints of a list -/
def intsOf : List D → Option (List Int)
  | [] => some []
  | .int i :: ds => (intsOf ds).map (i :: ·)
  | _ :: _ => none
theorem intsOf_map (ns : List Int) : intsOf (ns.map D.int) = some ns := by
  induction ns with
  | nil => rfl
  | cons n ns ih => simp [intsOf, ih]
theorem intsOf_eq : ∀ {ds : List D} {ns : List Int}, intsOf ds = some ns → ds = ns.map D.int
  | [], ns, h => by simp [intsOf] at h; subst h; rfl
  | .int i :: ds, ns, h => by
    simp [intsOf] at h
    obtain ⟨ms, h1, rfl⟩ := h
    rw [intsOf_eq h1]; rfl
  | .non :: _, _, h => by cases h
  | .bl _ :: _, _, h => by cases h
  | .str _ :: _, _, h => by cases h
  | .tup _ :: _, _, h => by cases h
  | .lst _ :: _, _, h => by cases h
  | .bag _ :: _, _, h => by cases h
  | .scr _ :: _, _, h => by cases h
def fSum : FN := fun ds Q => match ds with
  | [.lst xs] => match intsOf xs with
    | some ns => Q (.sh (.int ns.sum))
    | none => False
  | _ => False
theorem caS_sum {K : PySem.W.Frag} : CaS (rSum K) fSum := by
  intro g N H0 L H ds vs Qf Q S vd hq k
  unfold fSum at hq; split at hq
  · split at hq
    · obtain ⟨v, rfl, h⟩ := vd.one
      obtain ⟨a, vs, rfl, e, r⟩ := h
      have := intsOf_eq (by assumption)
      subst this
      have := r.ints; subst this
      exact ⟨a, _, rfl, SqL.of e, k.sh S .int hq⟩
    · exact hq.elim
  · exact hq.elim
/-- max, min of some ints: what is greatest -/
def fMax : FN := fun ds Q => match ds with
  | [.lst xs] => match intsOf xs with
    | some ns => 0 < ns.length ∧ ∀ m, m ∈ ns → (∀ y, y ∈ ns → y ≤ m) → Q (.sh (.int m))
    | none => False
  | [.int i, .int j] => Q (.sh (.int (if j > i then j else i)))
  | _ => False
def fMin : FN := fun ds Q => match ds with
  | [.lst xs] => match intsOf xs with
    | some ns => 0 < ns.length ∧ ∀ m, m ∈ ns → (∀ y, y ∈ ns → m ≤ y) → Q (.sh (.int m))
    | none => False
  | [.int i, .int j] => Q (.sh (.int (if j < i then j else i)))
  | _ => False
theorem caS_max {K : PySem.W.Frag} : CaS (fun xs H Q => rMax K xs H Q ∨ ∃ i j, xs = [.int i, .int j] ∧ Q (.int (if j > i then j else i)) H) fMax := by
  intro g N H0 L H ds vs Qf Q S vd hq k
  unfold fMax at hq; split at hq
  · split at hq
    · obtain ⟨v, rfl, h⟩ := vd.one
      obtain ⟨a, vs, rfl, e, r⟩ := h
      have := intsOf_eq (by assumption)
      subst this
      have := r.ints; subst this
      exact .inl ⟨a, _, rfl, SqL.of e, hq.1, fun m h1 h2 => k.sh S .int (hq.2 m h1 h2)⟩
    · exact hq.elim
  · obtain ⟨v, v', rfl, h, h'⟩ := vd.two
    exact .inr ⟨_, _, by rw [h.int, h'.int], k.sh S .int hq⟩
  · exact hq.elim
theorem caS_min {K : PySem.W.Frag} : CaS (fun xs H Q => rMin K xs H Q ∨ ∃ i j, xs = [.int i, .int j] ∧ Q (.int (if j < i then j else i)) H) fMin := by
  intro g N H0 L H ds vs Qf Q S vd hq k
  unfold fMin at hq; split at hq
  · split at hq
    · obtain ⟨v, rfl, h⟩ := vd.one
      obtain ⟨a, vs, rfl, e, r⟩ := h
      have := intsOf_eq (by assumption)
      subst this
      have := r.ints; subst this
      exact .inl ⟨a, _, rfl, SqL.of e, hq.1, fun m h1 h2 => k.sh S .int (hq.2 m h1 h2)⟩
    · exact hq.elim
  · obtain ⟨v, v', rfl, h, h'⟩ := vd.two
    exact .inr ⟨_, _, by rw [h.int, h'.int], k.sh S .int hq⟩
  · exact hq.elim
/-- the bools of a list -/
def blsOf : List D → Option (List Bool)
  | [] => some []
  | .bl i :: ds => (blsOf ds).map (i :: ·)
  | _ :: _ => none
theorem blsOf_map (ns : List Bool) : blsOf (ns.map D.bl) = some ns := by
  induction ns with
  | nil => rfl
  | cons n ns ih => simp [blsOf, ih]
theorem blsOf_eq : ∀ {ds : List D} {ns : List Bool}, blsOf ds = some ns → ds = ns.map D.bl
  | [], ns, h => by simp [blsOf] at h; subst h; rfl
  | .bl i :: ds, ns, h => by
    simp [blsOf] at h
    obtain ⟨ms, h1, rfl⟩ := h
    rw [blsOf_eq h1]; rfl
  | .non :: _, _, h => by cases h
  | .int _ :: _, _, h => by cases h
  | .str _ :: _, _, h => by cases h
  | .tup _ :: _, _, h => by cases h
  | .lst _ :: _, _, h => by cases h
  | .bag _ :: _, _, h => by cases h
  | .scr _ :: _, _, h => by cases h
def fAll : FN := fun ds Q => match ds with
  | [.lst xs] => match blsOf xs with
    | some ns => Q (.sh (.bl (ns.all id)))
    | none => False
  | _ => False
def fAny : FN := fun ds Q => match ds with
  | [.lst xs] => match blsOf xs with
    | some ns => Q (.sh (.bl (ns.any id)))
    | none => False
  | _ => False
theorem caS_all {K : PySem.W.Frag} : CaS (rAll K) fAll := by
  intro g N H0 L H ds vs Qf Q S vd hq k
  unfold fAll at hq; split at hq
  · split at hq
    · obtain ⟨v, rfl, h⟩ := vd.one
      obtain ⟨a, vs, rfl, e, r⟩ := h
      have := blsOf_eq (by assumption)
      subst this
      have := r.bls; subst this
      exact ⟨a, _, rfl, SqL.of e, k.sh S .bl hq⟩
    · exact hq.elim
  · exact hq.elim
theorem caS_any {K : PySem.W.Frag} : CaS (rAny K) fAny := by
  intro g N H0 L H ds vs Qf Q S vd hq k
  unfold fAny at hq; split at hq
  · split at hq
    · obtain ⟨v, rfl, h⟩ := vd.one
      obtain ⟨a, vs, rfl, e, r⟩ := h
      have := blsOf_eq (by assumption)
      subst this
      have := r.bls; subst this
      exact ⟨a, _, rfl, SqL.of e, k.sh S .bl hq⟩
    · exact hq.elim
  · exact hq.elim
end LV
namespace LV
open PySem PySem.Spec PyProof.Rows L2

/-! ### calls of the text's own defs -/
abbrev VS := List D → (RV → Prop) → Prop
def ResOk (bv : Nat × V) (N : Addr → Prop) (H H' : Hp) (r : RV) (v : V) : Prop := match r with
  | .sh d => Rep bv H' N d v
  | .fr ds => ∃ a vs, v = .ref a ∧ H a = none ∧ H' a = some (.lst vs) ∧ Reps bv H' (fun b => N b ∨ b = a) ds vs
  | .al _ => False
def lift (F : VS) : Sp := fun vs H Q _ => ∃ (g : Bag) (N : Addr → Prop) (ds : List D) (Qf : RV → Prop), Reps g.bv H N ds vs ∧ g.G H ∧ (∀ a, g.B a → N a) ∧ (∀ a, N a → (H a).isSome = true) ∧ F ds Qf ∧
  ∀ r v H', Qf r → Sm g.B H H' → g.G H' → ResOk g.bv N H H' r v → Q v H'
def wCall (F : VS) (wa : WA) : WE := fun s Q => wa s fun rs s1 => fzL s1 rs fun ds s2 => F ds fun r => Q r s2
section
variable {g : Bag} {N : Addr → Prop} {H0 H H' : Hp} {L L' P P' : List En} {s s' : Sg} {σ : L2.St} {r : RV} {v : V}
theorem SR.addOw (S : SR g N H0 L H) (hg : g.G H') (hs : Sm g.B H H') {p : Addr} (hp : H p = none) {ds vs} (hv : H' p = some (.lst vs)) (r : Reps g.bv H' (fun b => Nn N L b ∨ b = p) ds vs) : SR g N H0 ((.ow ds, some (.ref p)) :: L) H' := by
  have S1 := S.grow hg hs
  have h0 := S.h0 hp
  have nf := S.nn_fresh hp
  have hc : ∀ a, cnt a ((Sl.ow ds, some (V.ref p)) :: L) = cnt a L + if a = p then 1 else 0 := fun a => by
    show List.countP _ _ = _
    rw [List.countP_cons]
    by_cases e : a = p
    · subst e; simp [owns]
    · have : owns a (Sl.ow ds, some (V.ref p)) = false := by
        simp only [owns, beq_eq_false_iff_ne, ne_eq, Option.some.injEq, V.ref.injEq]; exact fun z => e z.symm
      simp [this, e]
  have hn' : ∀ a, Nn N ((Sl.ow ds, some (V.ref p)) :: L) a → Nn N L a ∨ a = p := fun a z => z.elim (fun z => .inl (.inl z)) fun z => by
    rw [hc a] at z
    by_cases e : a = p
    · exact .inr e
    · rw [if_neg e] at z; exact .inl (.inr z)
  have hn : ∀ a o, H a = some o → Nn N ((Sl.ow ds, some (V.ref p)) :: L) a → Nn N L a := fun a o e z => (hn' a z).elim id fun w => by
    subst w; rw [hp] at e; cases e
  have hk : ∀ a o, H a = some o → ¬ Nn N L a → H' a = some o := fun a o e n => hs a o e fun b => n (.inl (S.bn a b))
  refine ⟨S1.hg, S1.sm, S1.nd, S1.bn, fun q hq => ?_, fun a => ?_⟩
  · rcases List.mem_cons.mp hq with e | h
    · subst e; exact ⟨p, vs, rfl, h0, hv, r.mono (fun _ _ e _ => e) fun a _ _ z => hn' a z⟩
    · obtain ⟨sl, v⟩ := q
      cases sl with
      | un => trivial
      | sh d => obtain ⟨v, e, r⟩ := S.each _ h; exact ⟨v, e, r.mono hk hn⟩
      | ow es =>
        obtain ⟨a, ws, e, n, h0, hh, r, _⟩ := S.own_n h
        exact ⟨a, ws, e, h0, hs a _ hh fun b => n (S.bn a b), r.mono hk hn⟩
  · rw [hc a]
    by_cases e : a = p
    · subst e
      have : ¬ 0 < cnt a L := fun z => nf (.inr z)
      have : cnt a L = 0 := by omega
      rw [this, if_pos rfl]
      exact Nat.le_refl _
    · rw [if_neg e]; exact S.dist a
theorem SR.res (S : SR g N H0 L H) (hg : g.G H') (hs : Sm g.B H H') (h : ResOk g.bv (Nn N L) H H' r v) : SR g N H0 ((r.sl, some v) :: L) H' ∧ ∀ i, r ≠ .al i := by
  cases r with
  | sh d => exact ⟨(S.grow hg hs).addSh h, fun _ h => nomatch h⟩
  | fr ds =>
    obtain ⟨a, vs, rfl, h1, h2, h3⟩ := h
    exact ⟨S.addOw hg hs h1 h2 h3, fun _ h => nomatch h⟩
  | al i => exact h.elim
end
theorem let_call {F : VS} {wa : WA} {t : TA} {E : XK} (l : LAt t wa) : LEt (tCall (lift F) [] E t) (wCall F wa) := fun g N H0 s σ P H Qw Q hl S h k => by
  refine l g N H0 s σ P H _ _ hl S h fun rs s1 vs H1 hl1 S1 rv h1 => ?_
  obtain ⟨ds, s2, h2, hl2, hd, S2⟩ := SR.fzs (A := []) hl1 S1 rv h1
  have r := S2.reps hd (fun p hp => by simp [hp])
  refine ⟨g, _, ds, _, by rw [List.append_nil]; exact r, S2.hg, fun a b => .inl (S2.bn a b), fun a h => S2.tracked h, h2, fun r v H' h3 hs hg hr => ?_⟩
  obtain ⟨S3, ha⟩ := S2.res hg hs hr
  exact k r s2 v H' hl2 (S3.mid (List.sublist_append_right (pendD ds vs) P)) (RVal.ok ha) h3

/-! ### statements -/
structure LK where
  nx : Sg → Prop
  rt : RV → Prop
  bk : Sg → Prop := fun _ => False
  ct : Sg → Prop := fun _ => False
abbrev WS := LK → Sg → Prop
structure Fits (g : Bag) (N : Addr → Prop) (H0 : Hp) (P : List En) (n : Nat) (K : LK) (D : Ends) : Prop where
  nx : ∀ s' σ' H', s'.length = σ'.length → σ'.length = n → SR g N H0 (s'.zip σ' ++ P) H' → K.nx s' → D.nx σ' H'
  bk : ∀ s' σ' H', s'.length = σ'.length → σ'.length = n → SR g N H0 (s'.zip σ' ++ P) H' → K.bk s' → D.bk σ' H'
  ct : ∀ s' σ' H', s'.length = σ'.length → σ'.length = n → SR g N H0 (s'.zip σ' ++ P) H' → K.ct s' → D.ct σ' H'
  rt : ∀ r v H' L', SR g N H0 ((r.sl, some v) :: L') H' → (∀ i, r ≠ .al i) → K.rt r → D.rt v H'
def LSt (t : TS) (w : WS) : Prop := ∀ (g : Bag) (N : Addr → Prop) (H0 : Hp) (s : Sg) (σ : L2.St) (P : List En) (H : Hp) (K : LK) (D : Ends), s.length = σ.length → SR g N H0 (s.zip σ ++ P) H → w K s → Fits g N H0 P σ.length K D → t D σ H
structure LS (X : Cx) (st : Stmt) (w : WS) : Prop where
  ex : ∃ t, PS X st t ∧ LSt t w
structure LSs (X : Cx) (st : List Stmt) (w : WS) : Prop where
  ex : ∃ t, PSs X st t ∧ LSt t w
def wNext : WS := fun K s => K.nx s
def wSeq (a b : WS) : WS := fun K s => a { K with nx := b K } s
section
variable {X : Cx} {st : Stmt} {rest : List Stmt} {e : Expr} {we : WE} {w w2 : WS} {pos : Pos}
theorem lss_nil : LSs X [] wNext := ⟨⟨_, pss_nil, fun g N H0 s σ P H K D hl S h f => f.nx s σ H hl rfl S h⟩⟩
theorem lss_one (h : LS X st w) : LSs X [st] w := let ⟨t, p, l⟩ := h.ex; ⟨⟨t, pss_one p, l⟩⟩
theorem lss_cons (h : LS X st w) (h2 : LSs X rest w2) : LSs X (st :: rest) (wSeq w w2) := by
  obtain ⟨t, p, l⟩ := h.ex
  obtain ⟨t2, p2, l2⟩ := h2.ex
  refine ⟨⟨_, pss_cons p p2, fun g N H0 s σ P H K D hl S h f => ?_⟩⟩
  exact l g N H0 s σ P H { K with nx := w2 K } _ hl S h ⟨fun s' σ' H' e1 e2 S' h' => l2 g N H0 s' σ' P H' K D e1 S' h' (by rw [e2]; exact f), f.bk, f.ct, f.rt⟩
theorem ls_pass : LS X (.Pass pos) wNext := ⟨⟨_, ps_pass, fun g N H0 s σ P H K D hl S h f => f.nx s σ H hl rfl S h⟩⟩
def wBreak : WS := fun K s => K.bk s
def wCont : WS := fun K s => K.ct s
theorem ls_break : LS X (.Break pos) wBreak := ⟨⟨_, ps_break, fun g N H0 s σ P H K D hl S h f => f.bk s σ H hl rfl S h⟩⟩
theorem ls_cont : LS X (.Continue pos) wCont := ⟨⟨_, ps_continue, fun g N H0 s σ P H K D hl S h f => f.ct s σ H hl rfl S h⟩⟩
/-- an expression whose value is dropped -/
def wDrop (we : WE) : WS := fun K s => we s fun _ s1 => K.nx s1
theorem ls_expr (h : LE X e we) (hs : swapsWith e none pos.line X.env = pure false) : LS X (.Expr e pos) (wDrop we) := by
  obtain ⟨t, p, l⟩ := h.ex
  exact ⟨⟨_, ps_expr p hs, fun g N H0 s σ P H K D hl S h f => l g N H0 s σ P H _ _ hl S h fun r s1 v H1 hl1 S1 _ h1 => f.nx s1 σ H1 hl1 rfl (S1.drop1 (List.sublist_cons_self _ _)) h1⟩⟩
/-- what is handed out of the frame -/
def outW (s : Sg) (r : RV) (Q : RV → Prop) : Prop := match r with
  | .sh d => Q (.sh d)
  | .fr ds => Q (.fr ds)
  | .al i => match s[i]? with
    | some (.sh d) => Q (.sh d)
    | some (.ow ds) => Q (.fr ds)
    | _ => False
def wRet (we : WE) : WS := fun K s => we s fun r s1 => outW s1 r K.rt
theorem SR.only {g N H0 L H} {p : En} (S : SR g N H0 L H) (h : p ∈ L) : SR g N H0 [p] H := S.to (fun a => by
  show List.countP _ _ ≤ _
  rw [List.countP_cons, List.countP_nil]
  split
  · have : 0 < cnt a L := List.countP_pos_iff.mpr ⟨_, h, by assumption⟩
    omega
  · omega) fun q hq => .inl (by rw [List.mem_singleton.mp hq]; exact h)
theorem ls_ret (h : LE X e we) : LS X (.Return (some e) pos) (wRet we) := by
  obtain ⟨t, p, l⟩ := h.ex
  refine ⟨⟨_, ps_ret p, fun g N H0 s σ P H K D hl S h f => l g N H0 s σ P H _ _ hl S h fun r s1 v H1 hl1 S1 rv h1 => ?_⟩⟩
  have hm : ((r.sl, some v) : En) ∈ s1.zip σ ++ (r.sl, some v) :: P := by simp
  cases r with
  | sh d => exact f.rt (.sh d) v H1 [] (S1.only hm) (fun _ h => nomatch h) h1
  | fr ds => exact f.rt (.fr ds) v H1 [] (S1.only hm) (fun _ h => nomatch h) h1
  | al i =>
    simp only [outW] at h1
    have hi : σ[i]? = some (some v) := rv
    cases e : s1[i]? with
    | none => rw [e] at h1; exact h1.elim
    | some x =>
      rw [e] at h1
      have hm' := List.mem_append_left ((RV.sl (.al i), some v) :: P) (zip_get hl1 e hi)
      cases x with
      | un => exact h1.elim
      | sh d => exact f.rt (.sh d) v H1 [] (S1.only hm') (fun _ h => nomatch h) h1
      | ow ds => exact f.rt (.fr ds) v H1 [] (S1.only hm') (fun _ h => nomatch h) h1
def wRetN : WS := fun K _ => K.rt (.sh .non)
theorem ls_retN : LS X (.Return none pos) wRetN := ⟨⟨_, ps_retN, fun g N H0 s σ P H K D hl S h f => f.rt (.sh .non) .non H _ (S.addSh .non) (fun _ h => nomatch h) h⟩⟩
def wIfS (wt : WT) (a b : WS) : WS := fun K s => wt s fun c s1 => if c = true then a K s1 else b K s1
theorem ls_if {c : Expr} {a b : List Stmt} {wt : WT} (hc : LT X c wt) (ha : LSs X a w) (hb : LSs X b w2) : LS X (.If c a b pos) (wIfS wt w w2) := by
  obtain ⟨tc, pc, lc⟩ := hc.ex
  obtain ⟨ta, pa, la⟩ := ha.ex
  obtain ⟨tb, pb, lb⟩ := hb.ex
  refine ⟨⟨_, ps_if pc pa pb, fun g N H0 s σ P H K D hl S h f => lc g N H0 s σ P H _ _ hl S h fun d s1 H1 hl1 S1 h1 => ?_⟩⟩
  cases d with
  | true => exact la g N H0 s1 σ P H1 K D hl1 S1 h1 f
  | false => exact lb g N H0 s1 σ P H1 K D hl1 S1 h1 f
def wNever : WS := fun _ _ => False
theorem ls_never : LS X st wNever := ⟨⟨_, ps_never, fun g N H0 s σ P H K D hl S h f => h.elim⟩⟩

/-! ### targets: a value that is shared -/
abbrev WG := D → Sg → (Sg → Prop) → Prop
abbrev WGs := List D → Sg → (Sg → Prop) → Prop
def LGt (t : TG) (w : WG) (T : List Nat) : Prop := ∀ (g : Bag) (N : Addr → Prop) (H0 : Hp) (s : Sg) (σ : L2.St) (P : List En) (H : Hp) (d : D) (v : V) (Qg : Sg → Prop) (Q : L2.St → Hp → Prop), s.length = σ.length → SR g N H0 (s.zip σ ++ P) H → (Sl.sh d, some v) ∈ P → w d s Qg →
  (∀ s' σ' H', s'.length = σ'.length → σ'.length = σ.length → (∀ i, i ∉ T → σ'[i]? = σ[i]?) → SR g N H0 (s'.zip σ' ++ P) H' → Qg s' → Q σ' H') → t v σ H Q
def LGts (t : TGs) (w : WGs) (T : List Nat) : Prop := ∀ (g : Bag) (N : Addr → Prop) (H0 : Hp) (s : Sg) (σ : L2.St) (P : List En) (H : Hp) (ds : List D) (vs : List V) (Qg : Sg → Prop) (Q : L2.St → Hp → Prop), s.length = σ.length → ds.length = vs.length → SR g N H0 (s.zip σ ++ P) H → (∀ p ∈ pendD ds vs, p ∈ P) → w ds s Qg →
  (∀ s' σ' H', s'.length = σ'.length → σ'.length = σ.length → (∀ i, i ∉ T → σ'[i]? = σ[i]?) → SR g N H0 (s'.zip σ' ++ P) H' → Qg s' → Q σ' H') → t vs σ H Q
structure LG (X : Cx) (e : Expr) (w : WG) (T : List Nat) : Prop where
  ex : ∃ t, PG X e t ∧ LGt t w T
structure LGs (X : Cx) (es : List Expr) (w : WGs) (T : List Nat) : Prop where
  ex : ∃ t, PGs X es t ∧ LGts t w T
def gN (i : Nat) : WG := fun d s Q => Q (s.set i (.sh d))
def gNi : WGs := fun ds s Q => match ds with
  | [] => Q s
  | _ => False
def gCo (w : WG) (u : WGs) : WGs := fun ds s Q => match ds with
  | d :: ds => w d s fun s1 => u ds s1 Q
  | [] => False
def gTu (u : WGs) (n : Nat) : WG := fun d s Q => match d with
  | .tup ds => ds.length = n ∧ u ds s Q
  | .lst ds => ds.length = n ∧ u ds s Q
  | _ => False
theorem zip_put {s : Sg} {σ : L2.St} {z : Sl} {w : Option V} (i : Nat) (hl : s.length = σ.length) (hi : i < s.length) : ∃ A x B, s.zip σ = A ++ x :: B ∧ (s.set i z).zip (σ.set i w) = A ++ (z, w) :: B := by
  induction i generalizing s σ with
  | zero =>
    cases s with
    | nil => simp at hi
    | cons a s =>
      cases σ with
      | nil => simp at hl
      | cons b σ => exact ⟨[], (a, b), s.zip σ, rfl, rfl⟩
  | succ i ih =>
    cases s with
    | nil => simp at hi
    | cons a s =>
      cases σ with
      | nil => simp at hl
      | cons b σ =>
        simp at hi hl
        obtain ⟨A, x, B, e1, e2⟩ := ih hl hi
        exact ⟨(a, b) :: A, x, B, by simp [e1], by simp [e2]⟩
theorem SR.put {g N H0 H} {s : Sg} {σ : L2.St} {P : List En} {z : Sl} {w : Option V} (i : Nat) (hl : s.length = σ.length) (S : SR g N H0 (s.zip σ ++ (z, w) :: P) H) : SR g N H0 ((s.set i z).zip (σ.set i w) ++ P) H := by
  by_cases hi : i < s.length
  · obtain ⟨A, x, B, e1, e2⟩ := zip_put (z := z) (w := w) i hl hi
    rw [e1] at S
    rw [e2]
    refine S.to (fun a => ?_) fun p hp => .inl ?_
    · show List.countP _ _ ≤ List.countP _ _
      simp only [List.countP_append, List.countP_cons]
      omega
    · simp only [List.mem_append, List.mem_cons] at hp ⊢
      rcases hp with (h | h | h) | h
      · exact .inl (.inl h)
      · exact .inr (.inl h)
      · exact .inl (.inr (.inr h))
      · exact .inr (.inr h)
  · rw [List.set_eq_of_length_le (by omega), List.set_eq_of_length_le (by omega)]
    exact S.drop1 (List.sublist_cons_self _ _)
theorem SR.dup {g N H0 H L} (S : SR g N H0 L H) {d : D} {v : V} (h : (Sl.sh d, some v) ∈ L) : SR g N H0 ((.sh d, some v) :: L) H := by
  obtain ⟨w, e, r⟩ := S.each _ h
  cases e; exact S.addSh r
theorem lg_n {i : Nat} {x : Str} (h : PG X (.Name x pos) (gName i)) : LG X (.Name x pos) (gN i) [i] := ⟨⟨_, h, fun g N H0 s σ P H d v Qg Q hl S hm h k =>
  k _ _ H (by simp [hl]) (by simp) (fun j hj => List.getElem?_set_ne (by simp at hj; exact fun e => hj e.symm)) (SR.put i hl ((S.dup (List.mem_append_right _ hm)).mid (List.Sublist.refl _))) h⟩⟩
theorem lgs_nil : LGs X [] gNi [] := ⟨⟨_, pgs_nil, fun g N H0 s σ P H ds vs Qg Q hl hd S hm h k => by
  cases ds with
  | nil =>
    cases vs with
    | nil => exact ⟨rfl, k s σ H hl rfl (fun _ _ => rfl) S h⟩
    | cons _ _ => simp at hd
  | cons _ _ => exact h.elim⟩⟩
theorem lgs_cons {es : List Expr} {w : WG} {u : WGs} {T U : List Nat} (h1 : LG X e w T) (h2 : LGs X es u U) (hs : (assignEach (e :: es) X.env).map (·.2) = assign e X.env :: (assignEach es X.env).map (·.2)) : LGs X (e :: es) (gCo w u) (T ++ U) := by
  obtain ⟨t, p, l⟩ := h1.ex
  obtain ⟨t2, p2, l2⟩ := h2.ex
  refine ⟨⟨_, pgs_cons p p2 hs, fun g N H0 s σ P H ds vs Qg Q hl hd S hm h k => ?_⟩⟩
  cases ds with
  | nil => exact h.elim
  | cons d ds =>
    cases vs with
    | nil => simp at hd
    | cons v vs =>
      refine ⟨v, vs, rfl, l g N H0 s σ P H d v _ _ hl S (hm _ (by simp [pendD])) h fun s1 σ1 H1 e1 e2 a1 S1 h1 => ?_⟩
      exact l2 g N H0 s1 σ1 P H1 ds vs Qg Q e1 (by simpa using hd) S1 (fun p h => hm p (by simp [pendD, h])) h1 fun s2 σ2 H2 e3 e4 a2 => k s2 σ2 H2 e3 (e4.trans e2) fun i hi => by
        simp only [List.mem_append, not_or] at hi
        exact (a2 i hi.2).trans (a1 i hi.1)
theorem Reps.pends {g N H0 L H} (S : SR g N H0 L H) : ∀ {ds vs}, Reps g.bv H (Nn N L) ds vs → SR g N H0 (pendD ds vs ++ L) H
  | _, _, .nil => S
  | _, _, .cons r rs => by
    have S1 := Reps.pends S rs
    have hc : ∀ ds vs a, cnt a (pendD ds vs ++ L) = cnt a L := fun ds vs a => by
      induction ds generalizing vs with
      | nil => rfl
      | cons d ds ih =>
        cases vs with
        | nil => rfl
        | cons v vs =>
          show List.countP _ _ = _
          simp only [pendD, List.cons_append]
          rw [List.countP_cons_of_neg (by simp [owns])]
          exact ih vs
    exact S1.addSh (r.mono (fun _ _ e _ => e) fun a _ _ z => Nn.le (fun a => Nat.le_of_eq (hc _ _ a)) a z)
theorem lg_tu {es : List Expr} {k : Nat} {u : WGs} {n : Nat} {T : List Nat} (hc : X.calm = true) (h : LGs X es u T) (hn : (assignEach es X.env).length = n) (hst : (assignEach es X.env).findIdx? (·.1) = none) : LG X (.Tuple es k pos) (gTu u n) T := by
  obtain ⟨t, p, l⟩ := h.ex
  have pt := pg_tup (pos := pos) (k := k) hc p hn hst
  have pl := pg_lst (pos := pos) (k := k) hc p hn hst
  refine ⟨⟨fun v σ H Q => gTup X.K n t v σ H Q ∨ gLst X.K n t v σ H Q, ⟨fun pins s σ H v u Q I r h => h.elim (pt.run pins s σ H v u Q I r) (pl.run pins s σ H v u Q I r)⟩, fun g N H0 s σ P H d v Qg Q hl S hm h kk => ?_⟩⟩
  have key : ∀ {ds vs}, Reps g.bv H (Nn N (s.zip σ ++ P)) ds vs → u ds s Qg → t vs σ H Q := fun {ds vs} r h => by
    have S1 := Reps.pends S r
    have S2 : SR g N H0 (s.zip σ ++ (pendD ds vs ++ P)) H := S1.perm (List.perm_append_comm_assoc _ _ _)
    refine l g N H0 s σ (pendD ds vs ++ P) H ds vs Qg Q hl r.length S2 (fun p h => List.mem_append_left _ h) h fun s2 σ2 H2 e1 e2 a2 S3 h3 => kk s2 σ2 H2 e1 e2 a2 (S3.drop1 (List.sublist_append_right _ _)) h3
  obtain ⟨w, e, r⟩ := S.each _ (List.mem_append_right _ hm)
  cases e
  unfold gTu at h
  split at h
  · cases r with
    | tup e1 n1 r1 => exact .inl ⟨_, _, rfl, SqT.of e1, by rw [← r1.length]; exact h.1, key r1 h.2⟩
  · cases r with
    | lst e1 n1 r1 => exact .inr ⟨_, _, rfl, SqL.of e1, by rw [← r1.length]; exact h.1, key r1 h.2⟩
  · exact h.elim

/-! ### assignments -/
def placeW (i : Nat) (r : RV) (s : Sg) (Q : Sg → Prop) : Prop := match r with
  | .sh d => Q (s.set i (.sh d))
  | .fr ds => Q (s.set i (.ow ds))
  | .al j => match s[j]? with
    | some (.sh d) => Q (s.set i (.sh d))
    | some (.ow ds) => Q ((s.set j (.sh (.lst ds))).set i (.sh (.lst ds)))
    | _ => False
def wSet (i : Nat) (we : WE) : WS := fun K s => we s fun r s1 => placeW i r s1 K.nx
theorem SR.place {g N H0 H} {s : Sg} {σ : L2.St} {P : List En} {r : RV} {v : V} {i : Nat} {Q : Sg → Prop} (hl : s.length = σ.length) (S : SR g N H0 (s.zip σ ++ (r.sl, some v) :: P) H) (rv : RVal σ r v) (h : placeW i r s Q) :
    ∃ s', Q s' ∧ s'.length = (σ.set i (some v)).length ∧ SR g N H0 (s'.zip (σ.set i (some v)) ++ P) H := by
  cases r with
  | sh d => exact ⟨_, h, by simp [hl], S.put i hl⟩
  | fr ds => exact ⟨_, h, by simp [hl], S.put i hl⟩
  | al j =>
    have h' : fzW s (.al j) fun d s1 => Q (s1.set i (.sh d)) := by
      simp only [placeW] at h
      simp only [fzW]
      cases e : s[j]? with
      | none => rw [e] at h; exact h
      | some x => rw [e] at h; cases x <;> exact h
    obtain ⟨d, s1, h1, hl1, S1⟩ := SR.fz (A := []) S hl rv h'
    exact ⟨_, h1, by simp [hl1], SR.put i hl1 S1⟩
/-- a reading of name = value, and what is stored -/
theorem let_set {i : Nat} {te : TE} (l : LEt te we) : LSt (tAsg te (gName i)) (wSet i we) := fun g N H0 s σ P H K D hl S h f => by
  refine l g N H0 s σ P H _ _ hl S h fun r s1 v H1 hl1 S1 rv h1 => ?_
  obtain ⟨s2, h2, hl2, S2⟩ := S1.place hl1 rv h1
  exact f.nx s2 _ H1 hl2 (by simp) S2 h2
/-- target = value, the value shared -/
def wAsg (we : WE) (wg : WG) : WS := fun K s => we s fun r s1 => fzW s1 r fun d s2 => wg d s2 K.nx
theorem let_asg {te : TE} {tg : TG} {wg : WG} {T : List Nat} (l : LEt te we) (lg : LGt tg wg T) : LSt (tAsg te tg) (wAsg we wg) := fun g N H0 s σ P H K D hl S h f => by
  refine l g N H0 s σ P H _ _ hl S h fun r s1 v H1 hl1 S1 rv h1 => ?_
  obtain ⟨d, s2, h2, hl2, S2⟩ := SR.fz (A := []) S1 hl1 rv h1
  exact lg g N H0 s2 σ ((.sh d, some v) :: P) H1 d v _ _ hl2 S2 (List.mem_cons_self ..) h2 fun s3 σ3 H3 e1 e2 _ S3 h3 => f.nx s3 σ3 H3 e1 e2 (S3.drop1 (List.sublist_cons_self _ _)) h3
/-- several names at once: what slots hold is given out first -/
def unL (s : Sg) : List RV → (List RV → Sg → Prop) → Prop
  | [], Q => Q [] s
  | .al i :: rs, Q => fzW s (.al i) fun d s1 => unL s1 rs fun rs' s2 => Q (.sh d :: rs') s2
  | r :: rs, Q => unL s rs fun rs' s1 => Q (r :: rs') s1
def putS : List Nat → List RV → Sg → Sg
  | i :: is, r :: rs, s => putS is rs (s.set i r.sl)
  | _, _, s => s
def putV : List Nat → List V → L2.St → L2.St
  | i :: is, v :: vs, σ => putV is vs (σ.set i (some v))
  | _, _, σ => σ
def wPar (is : List Nat) (wa : WA) : WS := fun K s => wa s fun rs s1 => unL s1 rs fun rs' s2 => rs'.length = is.length ∧ K.nx (putS is rs' s2)
theorem SR.un {g N H0 H} {σ : L2.St} : ∀ {rs : List RV} {vs : List V} {s : Sg} {A B : List En} {Qd : List RV → Sg → Prop}, s.length = σ.length → SR g N H0 (s.zip σ ++ (A ++ (pend rs vs ++ B))) H → RVals σ rs vs → unL s rs Qd →
    ∃ rs' s', Qd rs' s' ∧ s'.length = σ.length ∧ rs'.length = vs.length ∧ SR g N H0 (s'.zip σ ++ (A ++ (pend rs' vs ++ B))) H
  | [], _, s, _, _, _, hl, S, .nil, h => ⟨[], s, h, hl, rfl, S⟩
  | .al i :: rs, v :: vs, s, A, B, _, hl, S, .cons a b, h => by
    obtain ⟨d, s1, h1, hl1, S1⟩ := SR.fz (A := A) (B := pend rs vs ++ B) (r := .al i) (v := v) S hl a h
    have e : ∀ (s : Sg) (X : List En), s.zip σ ++ (A ++ (Sl.sh d, some v) :: X) = s.zip σ ++ ((A ++ [(Sl.sh d, some v)]) ++ X) := fun s X => by simp
    rw [e] at S1
    obtain ⟨ds, s2, h2, hl2, hn, S2⟩ := SR.un hl1 S1 b h1
    rw [← e] at S2
    exact ⟨.sh d :: ds, s2, h2, hl2, by simp [hn], S2⟩
  | .sh d :: rs, v :: vs, s, A, B, _, hl, S, .cons a b, h => by
    have e : ∀ (s : Sg) (X : List En), s.zip σ ++ (A ++ (Sl.sh d, some v) :: X) = s.zip σ ++ ((A ++ [(Sl.sh d, some v)]) ++ X) := fun s X => by simp
    have S1 : SR g N H0 (s.zip σ ++ (A ++ (Sl.sh d, some v) :: (pend rs vs ++ B))) H := S
    rw [e] at S1
    obtain ⟨ds, s2, h2, hl2, hn, S2⟩ := SR.un hl S1 b h
    rw [← e] at S2
    exact ⟨.sh d :: ds, s2, h2, hl2, by simp [hn], S2⟩
  | .fr d :: rs, v :: vs, s, A, B, _, hl, S, .cons a b, h => by
    have e : ∀ (s : Sg) (X : List En), s.zip σ ++ (A ++ (Sl.ow d, some v) :: X) = s.zip σ ++ ((A ++ [(Sl.ow d, some v)]) ++ X) := fun s X => by simp
    have S1 : SR g N H0 (s.zip σ ++ (A ++ (Sl.ow d, some v) :: (pend rs vs ++ B))) H := S
    rw [e] at S1
    obtain ⟨ds, s2, h2, hl2, hn, S2⟩ := SR.un hl S1 b h
    rw [← e] at S2
    exact ⟨.fr d :: ds, s2, h2, hl2, by simp [hn], S2⟩
theorem putV_length : ∀ (is : List Nat) (vs : List V) (σ : L2.St), (putV is vs σ).length = σ.length
  | [], _, _ => rfl
  | _ :: _, [], _ => rfl
  | i :: is, v :: vs, σ => by simp [putV, putV_length is vs]
theorem SR.puts {g N H0 H P} : ∀ {is : List Nat} {rs : List RV} {vs : List V} {s : Sg} {σ : L2.St}, s.length = σ.length → rs.length = vs.length → SR g N H0 (s.zip σ ++ (pend rs vs ++ P)) H →
    (putS is rs s).length = (putV is vs σ).length ∧ SR g N H0 ((putS is rs s).zip (putV is vs σ) ++ P) H
  | [], rs, vs, s, σ, hl, _, S => ⟨by simpa [putS, putV] using hl, S.drop1 (List.sublist_append_right _ _)⟩
  | _ :: _, [], [], s, σ, hl, _, S => ⟨by simpa [putS, putV] using hl, S⟩
  | i :: is, r :: rs, v :: vs, s, σ, hl, hn, S => SR.puts (is := is) (s := s.set i r.sl) (σ := σ.set i (some v)) (by simp [hl]) (by simpa using hn) (SR.put i hl S)
  | _ :: _, [], _ :: _, _, _, _, h, _ => by simp at h
  | _ :: _, _ :: _, [], _, _, _, h, _ => by simp at h
theorem let_par {is : List Nat} {ta : TA} {wa : WA} {t : TS} (l : LAt ta wa) (ht : ∀ D σ H, ta σ H (fun vs H1 => vs.length = is.length ∧ D.nx (putV is vs σ) H1) → t D σ H) : LSt t (wPar is wa) := fun g N H0 s σ P H K D hl S h f => by
  refine ht D σ H (l g N H0 s σ P H _ _ hl S h fun rs s1 vs H1 hl1 S1 rv h1 => ?_)
  obtain ⟨rs', s2, h2, hl2, hn, S2⟩ := SR.un (A := []) hl1 S1 rv h1
  obtain ⟨e, S3⟩ := SR.puts (is := is) hl2 hn S2
  exact ⟨hn.symm.trans h2.1, f.nx _ _ H1 e (by rw [putV_length]) S3 h2.2⟩
end
end LV
namespace LV
open PySem PySem.Spec PyProof.Rows L2
section
variable {X : Cx} {e : Expr} {we : WE} {w w2 wb : WS} {wt : WT} {pos : Pos}

/-! ### while -/
def wWhileN (wt : WT) (wb : WS) (K : LK) : Nat → Sg → Prop
  | 0, _ => False
  | n + 1, s => wt s fun b s1 => if b = true then wb { K with nx := wWhileN wt wb K n, ct := wWhileN wt wb K n, bk := K.nx } s1 else K.nx s1
def wWhile (wt : WT) (wb : WS) : WS := fun K s => ∃ n, wWhileN wt wb K n s
theorem ls_while {c : Expr} {body : List Stmt} (hp : PassesOwn (model X.prog X.w) X.A X.env X.xe) (hc : LT X c wt) (hb : LSs X body wb) : LS X (.While c body [] pos) (wWhile wt wb) := by
  obtain ⟨tc, pc, lc⟩ := hc.ex
  obtain ⟨tb, pb, lb⟩ := hb.ex
  refine ⟨⟨_, ps_while hp pc pb, fun g N H0 s σ P H K D hl S h f => ?_⟩⟩
  obtain ⟨n, h⟩ := h
  refine ⟨fun m σ' H' => ∃ s', s'.length = σ'.length ∧ σ'.length = σ.length ∧ SR g N H0 (s'.zip σ' ++ P) H' ∧ wWhileN wt wb K m s', ⟨n, s, hl, rfl, S, h⟩, fun m σ1 H1 ⟨s1, e1, e2, S1, h1⟩ => ?_⟩
  cases m with
  | zero => exact h1.elim
  | succ m =>
    refine lc g N H0 s1 σ1 P H1 _ _ e1 S1 h1 fun b s2 H2 e3 S2 h2 => ?_
    cases b with
    | true =>
      refine ⟨fun σ' H' => ∃ s', s'.length = σ'.length ∧ σ'.length = σ.length ∧ SR g N H0 (s'.zip σ' ++ P) H' ∧ wWhileN wt wb K m s', fun σ' H' h => ⟨m, Nat.lt_succ_self m, h⟩, ?_⟩
      refine lb g N H0 s2 σ1 P H2 _ _ e3 S2 h2 ⟨fun s' σ' H' a b S' h' => ⟨s', a, b.trans e2, S', h'⟩, fun s' σ' H' a b S' h' => f.nx s' σ' H' a (b.trans e2) S' h', fun s' σ' H' a b S' h' => ⟨s', a, b.trans e2, S', h'⟩, f.rt⟩
    | false => exact f.nx s2 σ1 H2 e3 e2 S2 h2

/-! ### what is walked -/
abbrev ZF := List D → Option (List D)
def GoodJ (g : Bag) (N : Addr → Prop) (H0 : Hp) (J : It) (vs : List V) (srcs items : List D) : Prop := ∀ L H, SR g N H0 L H → Views g.bv (Nn N L) H srcs vs → ∀ i,
  (∀ d, items[i]? = some d → J.go i H ∧ ∀ x H', J.yld i H x H' → SR g N H0 ((.sh d, some x) :: L) H') ∧ (items.length ≤ i → J.stop i H)
def LIt (wi : TI) (wa : WA) (z : ZF) : Prop := ∀ (g : Bag) (N : Addr → Prop) (H0 : Hp) (s : Sg) (σ : L2.St) (P : List En) (H : Hp) (Qw : List RV → List D → List D → Sg → Prop) (R : It → Hp → Prop), s.length = σ.length → SR g N H0 (s.zip σ ++ P) H →
  wa s (fun rs s' => rdL s' rs fun srcs => ∃ items, z srcs = some items ∧ Qw rs srcs items s') →
  (∀ rs srcs items s' vs H' J, s'.length = σ.length → SR g N H0 (s'.zip σ ++ (pend rs vs ++ P)) H' → RVals σ rs vs → GoodJ g N H0 J vs srcs items → Qw rs srcs items s' → R J H') → wi σ H R
structure LI (X : Cx) (tg iter : Expr) (wa : WA) (z : ZF) : Prop where
  ex : ∃ wi, PI X tg iter wi ∧ LIt wi wa z
def zSeq : ZF := fun ds => match ds with
  | [.lst xs] => some xs
  | [.tup xs] => some xs
  | _ => none
def w1 (we : WE) : WA := fun s Q => we s fun r s1 => Q [r] s1
theorem good_list {g N H0} (K : PySem.W.Frag) (a : Addr) (ds : List D) : GoodJ g N H0 (Itl K a) [.ref a] [.lst ds] ds := by
  intro L H S vw i
  obtain ⟨v, e, b, vs, e2, ha, r⟩ := vw.one
  cases e; cases e2
  refine ⟨fun d hd => ?_, fun hi => ⟨vs, SqL.of ha, by rw [← r.length]; exact hi⟩⟩
  obtain ⟨v, hv, rv⟩ := r.get hd
  refine ⟨⟨vs, v, SqL.of ha, hv⟩, fun x H' ⟨e, hx⟩ => ?_⟩
  subst e
  have := hx vs (SqL.of ha)
  rw [hv] at this; cases this
  exact S.addSh rv
theorem good_tup {g N H0} (K : PySem.W.Frag) (a : Addr) (ds : List D) : GoodJ g N H0 (Itt K a) [.ref a] [.tup ds] ds := by
  intro L H S vw i
  obtain ⟨v, e, vt⟩ := vw.one
  obtain ⟨b, vs, e2, ha, na, r⟩ := vt.tup
  cases e; cases e2
  refine ⟨fun d hd => ?_, fun hi => ⟨vs, SqT.of ha, by rw [← r.length]; exact hi⟩⟩
  obtain ⟨v, hv, rv⟩ := r.get hd
  refine ⟨⟨vs, v, SqT.of ha, hv⟩, fun x H' ⟨e, hx⟩ => ?_⟩
  subst e
  have := hx vs (SqT.of ha)
  rw [hv] at this; cases this
  exact S.addSh rv
theorem pi_or {tg iter : Expr} {w1 w2 : TI} (h1 : PI X tg iter w1) (h2 : PI X tg iter w2) : PI X tg iter fun σ H R => w1 σ H R ∨ w2 σ H R :=
  ⟨fun pins s σ H R I h => h.elim (h1.run pins s σ H R I) (h2.run pins s σ H R I)⟩
theorem it_new {tg : Expr} {pins : List (Addr × Obj)} {σ : L2.St} {H1 : Hp} {s1 : Shared} {ob : Obj} {J : It} {R : It → Hp → Prop} {tn : Nat → Heap → Prop} (I1 : Inv X pins σ H1 s1)
    (tr : Turn X.prog X.w X.K tg J [s1.heap.objs.size] s1.heap.objs.size tn) (t0 : tn 0 (s1.heap.push ob)) (q : R J H1) : PIE X pins σ tg R (.ref s1.heap.objs.size) { s1 with heap := s1.heap.push ob } := by
  have nw : H1 s1.heap.objs.size = none := I1.hok.fresh (Nat.le_refl _)
  refine ⟨_, _, tn, J, H1, rfl, I1.kept (t' := s1.toks) fun _ _ ee => Heap.get?_push_of_some _ ee, tr, t0, ?_, q⟩
  intro b hb
  rw [List.mem_singleton.mp hb]
  exact I1.fpOk (Nat.le_refl _) nw
theorem it_seq {tg : Expr} {pins : List (Addr × Obj)} {σ : L2.St} {H1 : Hp} {s1 : Shared} {a : Addr} {R : It → Hp → Prop} (I1 : Inv X pins σ H1 s1)
    (q : ((∃ xs, H1 a = some (.lst xs)) ∧ R (Itl X.K a) H1) ∨ ((∃ xs, H1 a = some (.tup xs)) ∧ R (Itt X.K a) H1)) : wpAny (model X.prog X.w) X.A (pyIter (.ref a)) (PIE X pins σ tg R) X.xe s1 := by
  rcases q with ⟨⟨xs, hx⟩, q⟩ | ⟨⟨xs, hx⟩, q⟩
  · obtain ⟨its, _, pl, _⟩ := I1.list (SqL.of hx)
    exact wpAny_pyIter_list pl.isList (it_new I1 (turn_list a _) ⟨_, Heap.get?_push_size _ rfl, rfl, rfl⟩ q)
  · obtain ⟨its, _, pt, _⟩ := I1.tuple (SqT.of hx)
    exact wpAny_pyIter_tuple (show s1.heap.IsTuple a its.toArray from pt) (it_new I1 (turn_tuple a _) ⟨_, Heap.get?_push_size _ rfl, rfl, rfl⟩ q)
theorem li_seq {tg : Expr} (h : LE X e we) : LI X tg e (w1 we) zSeq := by
  obtain ⟨t, p, l⟩ := h.ex
  refine ⟨⟨fun σ H R => t σ H fun x H1 => ∃ a, x = .ref a ∧ (((∃ xs, H1 a = some (.lst xs)) ∧ R (Itl X.K a) H1) ∨ ((∃ xs, H1 a = some (.tup xs)) ∧ R (Itt X.K a) H1)), ?_, ?_⟩⟩
  · refine ⟨fun pins s σ H R I h => thn (p.run pins s σ H _ I h) fun v s1 ⟨x, H1, I1, r1, q1⟩ => ?_⟩
    obtain ⟨a, rfl, q⟩ := q1
    cases r1
    exact it_seq I1 q
  · intro g N H0 s σ P H Qw R hl S hw k
    refine l g N H0 s σ P H _ _ hl S hw fun r s1 v H1 hl1 S1 rv h1 => ?_
    obtain ⟨d, hd, vd⟩ := S1.rd (fun p h => List.mem_append_left _ h) hl1 (by simp) rv h1
    obtain ⟨items, hz, h2⟩ := hd
    cases d with
    | lst ds =>
      obtain ⟨a, vs, rfl, ea, ra⟩ := vd
      cases hz
      exact ⟨a, rfl, .inl ⟨⟨vs, ea⟩, k [r] _ _ s1 [.ref a] H1 _ hl1 S1 (.cons rv .nil) (good_list X.K a _) h2⟩⟩
    | tup ds =>
      obtain ⟨a, vs, rfl, ea, na, ra⟩ := vd.tup
      cases hz
      exact ⟨a, rfl, .inr ⟨⟨vs, ea⟩, k [r] _ _ s1 [.ref a] H1 _ hl1 S1 (.cons rv .nil) (good_tup X.K a _) h2⟩⟩
    | _ => cases hz
/-- range -/
def rngD (lo : Int) (n : Nat) : List D := (List.range n).map fun (i : Nat) => .int (lo + (i : Int))
def rgOk (i : Int) : Bool := decide (-(2 ^ 62) ≤ i) && decide (i < 2 ^ 62)
def zRng1 : ZF := fun ds => match ds with
  | [.int j] => if rgOk j = true then some (rngD 0 j.toNat) else none
  | _ => none
def zRng2 : ZF := fun ds => match ds with
  | [.int i, .int j] => if rgOk i = true ∧ rgOk j = true then some (rngD i (j - i).toNat) else none
  | _ => none
theorem good_rng {g N H0} (lo : Int) (n : Nat) (vs : List V) (srcs : List D) : GoodJ g N H0 (Itr lo n) vs srcs (rngD lo n) := by
  intro L H S vw i
  refine ⟨fun d hd => ?_, fun hi => (by simpa [rngD] using hi : n ≤ i)⟩
  unfold rngD at hd
  rw [List.getElem?_map] at hd
  by_cases hi : i < n
  · rw [List.getElem?_range hi] at hd
    cases hd
    refine ⟨hi, fun x H' ⟨e, hx⟩ => ?_⟩
    subst e; subst hx
    exact S.addSh .int
  · rw [List.getElem?_eq_none (by simpa using hi)] at hd; cases hd
theorem rgOk_of {i : Int} (h : rgOk i = true) : -(2 ^ 62) ≤ i ∧ i < 2 ^ 62 := by
  have := Bool.and_eq_true_iff.mp h
  exact ⟨of_decide_eq_true this.1, of_decide_eq_true this.2⟩
theorem li_rng1 {tg a : Expr} {wa : WA} {p : Pos} (hg : Gl X "range") (hm : X.mg "range" = none) (ha : LA X [a] wa) (hs : starEach [a] X.env = [(false, eval a X.env)]) : LI X tg (.Call (.Name "range" p) [a] [] pos) wa zRng1 := by
  obtain ⟨t, pa, l⟩ := ha.ex
  refine ⟨⟨_, pi_range1 hg hm pa hs, fun g N H0 s σ P H Qw R hl S hw k => ?_⟩⟩
  refine l g N H0 s σ P H _ _ hl S hw fun rs s1 vs H1 hl1 S1 rv h1 => ?_
  obtain ⟨ds, ⟨items, hz, h2⟩, vd⟩ := S1.rds hl1 (fun p h => List.mem_append_left _ h) (fun p h => List.mem_append_right _ (List.mem_append_left _ h)) rv h1
  unfold zRng1 at hz
  split at hz
  · split at hz
    · cases hz
      obtain ⟨v, rfl, vi⟩ := vd.one
      have := vi.int; subst this
      have hh := rgOk_of (by assumption)
      exact ⟨_, rfl, hh.1, hh.2, k rs _ _ s1 _ H1 _ hl1 S1 rv (good_rng _ _ _ _) h2⟩
    · cases hz
  · cases hz
theorem li_rng2 {tg a b : Expr} {wa : WA} {p : Pos} (hg : Gl X "range") (hm : X.mg "range" = none) (ha : LA X [a, b] wa) (hs : starEach [a, b] X.env = [(false, eval a X.env), (false, eval b X.env)]) (hs2 : starEach [b] X.env = [(false, eval b X.env)]) :
    LI X tg (.Call (.Name "range" p) [a, b] [] pos) wa zRng2 := by
  obtain ⟨t, pa, l⟩ := ha.ex
  refine ⟨⟨_, pi_range2 hg hm pa hs hs2, fun g N H0 s σ P H Qw R hl S hw k => ?_⟩⟩
  refine l g N H0 s σ P H _ _ hl S hw fun rs s1 vs H1 hl1 S1 rv h1 => ?_
  obtain ⟨ds, ⟨items, hz, h2⟩, vd⟩ := S1.rds hl1 (fun p h => List.mem_append_left _ h) (fun p h => List.mem_append_right _ (List.mem_append_left _ h)) rv h1
  unfold zRng2 at hz
  split at hz
  · split at hz
    · cases hz
      obtain ⟨v, v', rfl, vi, vj⟩ := vd.two
      have := vi.int; subst this
      have := vj.int; subst this
      obtain ⟨b1, b2⟩ : rgOk _ = true ∧ rgOk _ = true := by assumption
      have h1 := rgOk_of b1
      have h2' := rgOk_of b2
      exact ⟨_, _, rfl, ⟨h1.1, h1.2, h2'.1, h2'.2⟩, k rs _ _ s1 _ H1 _ hl1 S1 rv (good_rng _ _ _ _) h2⟩
    · cases hz
  · cases hz
/-- enumerate of a list -/
def enumD (n : Nat) : List D → List D
  | [] => []
  | d :: ds => .tup [.int (n : Nat), d] :: enumD (n + 1) ds
theorem enumD_get : ∀ (ds : List D) (n i : Nat), (enumD n ds)[i]? = ds[i]?.map fun d => D.tup [.int ((n + i : Nat) : Int), d]
  | [], _, _ => by simp [enumD]
  | d :: ds, n, 0 => by simp [enumD]
  | d :: ds, n, i + 1 => by
    simp only [enumD, List.getElem?_cons_succ]
    rw [enumD_get ds (n + 1) i, show n + 1 + i = n + (i + 1) by omega]
theorem enumD_length : ∀ (ds : List D) (n : Nat), (enumD n ds).length = ds.length
  | [], _ => rfl
  | d :: ds, n => by simp [enumD, enumD_length ds]
def zEnum : ZF := fun ds => match ds with
  | [.lst xs] => some (enumD 0 xs)
  | _ => none
theorem good_enum {g N H0} (K : PySem.W.Frag) (a : Addr) (ds : List D) : GoodJ g N H0 (Ite K a) [.ref a] [.lst ds] (enumD 0 ds) := by
  intro L H S vw i
  obtain ⟨v, e, b, vs, e2, ha, r⟩ := vw.one
  cases e; cases e2
  refine ⟨fun d hd => ?_, fun hi => ⟨vs, SqL.of ha, by rw [← r.length, ← enumD_length ds 0]; exact hi⟩⟩
  rw [enumD_get, Option.map_eq_some_iff] at hd
  obtain ⟨d', hd, rfl⟩ := hd
  obtain ⟨v, hv, rv⟩ := r.get hd
  refine ⟨⟨vs, v, SqL.of ha, hv⟩, fun x H' ⟨T, y, e, hT, e2, hx⟩ => ?_⟩
  subst e; subst e2
  have := hx vs (SqL.of ha)
  rw [hv] at this; cases this
  rw [Nat.zero_add]
  exact S.newT hT (.cons .int (.cons rv .nil))
theorem li_enum {a tpos} {elts : List Expr} {kk : Nat} {wa : WA} {p : Pos} (hg : Gl X "enumerate") (hm : X.mg "enumerate" = none) (ha : LA X [a] wa) (hs : starEach [a] X.env = [(false, eval a X.env)]) :
    LI X (.Tuple elts kk tpos) (.Call (.Name "enumerate" p) [a] [] pos) wa zEnum := by
  obtain ⟨t, pa, l⟩ := ha.ex
  refine ⟨⟨_, pi_enum hg hm pa hs, fun g N H0 s σ P H Qw R hl S hw k => ?_⟩⟩
  refine l g N H0 s σ P H _ _ hl S hw fun rs s1 vs H1 hl1 S1 rv h1 => ?_
  obtain ⟨ds, ⟨items, hz, h2⟩, vd⟩ := S1.rds hl1 (fun p h => List.mem_append_left _ h) (fun p h => List.mem_append_right _ (List.mem_append_left _ h)) rv h1
  unfold zEnum at hz
  split at hz
  · cases hz
    obtain ⟨v, rfl, a, ws, rfl, ea, ra⟩ := vd.one
    exact ⟨a, _, rfl, SqL.of ea, k rs _ _ s1 _ H1 _ hl1 S1 rv (good_enum X.K a _) h2⟩
  · cases hz
/-- zip of two lists, of two tuples -/
def zipD : List D → List D → List D
  | d :: ds, e :: es => .tup [d, e] :: zipD ds es
  | _, _ => []
theorem zipD_get : ∀ (ds es : List D) (i : Nat) (x : D), (zipD ds es)[i]? = some x → ∃ d e, ds[i]? = some d ∧ es[i]? = some e ∧ x = .tup [d, e]
  | [], _, _, _, h => by simp [zipD] at h
  | _ :: _, [], _, _, h => by simp [zipD] at h
  | d :: ds, e :: es, 0, x, h => by simp [zipD] at h; exact ⟨d, e, rfl, rfl, h.symm⟩
  | d :: ds, e :: es, i + 1, x, h => by
    simp only [zipD, List.getElem?_cons_succ] at h
    obtain ⟨d', e', h1, h2, h3⟩ := zipD_get ds es i x h
    exact ⟨d', e', by simpa using h1, by simpa using h2, h3⟩
theorem zipD_length : ∀ (ds es : List D), (zipD ds es).length = min ds.length es.length
  | [], _ => by simp [zipD]
  | _ :: _, [] => by simp [zipD]
  | d :: ds, e :: es => by simp [zipD, zipD_length ds es]
def zZip : ZF := fun ds => match ds with
  | [.lst xs, .lst ys] => some (zipD xs ys)
  | [.tup xs, .tup ys] => some (zipD xs ys)
  | _ => none
theorem good_zipL {g N H0} (K : PySem.W.Frag) (a b : Addr) (ds es : List D) : GoodJ g N H0 (Itz K a b) [.ref a, .ref b] [.lst ds, .lst es] (zipD ds es) := by
  intro L H S vw i
  obtain ⟨v, v', e, ⟨a', vs, e1, ha, ra⟩, ⟨b', ws, e2, hb, rb⟩⟩ := vw.two
  cases e; cases e1; cases e2
  refine ⟨fun d hd => ?_, fun hi => ⟨vs, ws, SqL.of ha, SqL.of hb, by rw [← ra.length, ← rb.length]; rw [zipD_length] at hi; show ds.length ≤ i ∨ es.length ≤ i; omega⟩⟩
  obtain ⟨x, y, hx, hy, e⟩ := zipD_get _ _ _ _ hd
  subst e
  obtain ⟨v, hv, rv⟩ := ra.get hx
  obtain ⟨w, hw, rw'⟩ := rb.get hy
  refine ⟨⟨vs, ws, v, w, SqL.of ha, SqL.of hb, hv, hw⟩, fun x H' ⟨T, p, q, e, hT, e2, h1, h2⟩ => ?_⟩
  subst e; subst e2
  have := h1 vs (SqL.of ha)
  rw [hv] at this; cases this
  have := h2 ws (SqL.of hb)
  rw [hw] at this; cases this
  exact S.newT hT (.cons rv (.cons rw' .nil))
theorem good_zipT {g N H0} (K : PySem.W.Frag) (a b : Addr) (ds es : List D) : GoodJ g N H0 (RZ.ItzT K a b) [.ref a, .ref b] [.tup ds, .tup es] (zipD ds es) := by
  intro L H S vw i
  obtain ⟨v, v', e, va, vb⟩ := vw.two
  obtain ⟨a', vs, e1, ha, na, ra⟩ := va.tup
  obtain ⟨b', ws, e2, hb, nb, rb⟩ := vb.tup
  cases e; cases e1; cases e2
  refine ⟨fun d hd => ?_, fun hi => ⟨vs, ws, SqT.of ha, SqT.of hb, by rw [← ra.length, ← rb.length]; rw [zipD_length] at hi; show ds.length ≤ i ∨ es.length ≤ i; omega⟩⟩
  obtain ⟨x, y, hx, hy, e⟩ := zipD_get _ _ _ _ hd
  subst e
  obtain ⟨v, hv, rv⟩ := ra.get hx
  obtain ⟨w, hw, rw'⟩ := rb.get hy
  refine ⟨⟨vs, ws, v, w, SqT.of ha, SqT.of hb, hv, hw⟩, fun x H' ⟨T, p, q, e, hT, e2, h1, h2⟩ => ?_⟩
  subst e; subst e2
  have := h1 vs (SqT.of ha)
  rw [hv] at this; cases this
  have := h2 ws (SqT.of hb)
  rw [hw] at this; cases this
  exact S.newT hT (.cons rv (.cons rw' .nil))
theorem li_zip {a b : Expr} {tpos} {elts : List Expr} {kk : Nat} {wa : WA} {p : Pos} (hg : Gl X "zip") (hm : X.mg "zip" = none) (ha : LA X [a, b] wa) (hs : starEach [a, b] X.env = (false, eval a X.env) :: starEach [b] X.env) (hpl : (backTo pos (starEach [b] X.env)).any (·.1) = false) :
    LI X (.Tuple elts kk tpos) (.Call (.Name "zip" p) [a, b] [] pos) wa zZip := by
  obtain ⟨t, pa, l⟩ := ha.ex
  refine ⟨⟨_, RZ.pi_zipA hg hm pa hs hpl, fun g N H0 s σ P H Qw R hl S hw k => ?_⟩⟩
  refine l g N H0 s σ P H _ _ hl S hw fun rs s1 vs H1 hl1 S1 rv h1 => ?_
  obtain ⟨ds, ⟨items, hz, h2⟩, vd⟩ := S1.rds hl1 (fun p h => List.mem_append_left _ h) (fun p h => List.mem_append_right _ (List.mem_append_left _ h)) rv h1
  unfold zZip at hz
  split at hz
  · cases hz
    obtain ⟨v, v', rfl, ⟨a, ws, rfl, ea, ra⟩, ⟨b, us, rfl, eb, rb⟩⟩ := vd.two
    exact ⟨a, b, _, _, rfl, .inl ⟨SqL.of ea, SqL.of eb, k rs _ _ s1 _ H1 _ hl1 S1 rv (good_zipL X.K a b _ _) h2⟩⟩
  · cases hz
    obtain ⟨v, v', rfl, va, vb⟩ := vd.two
    obtain ⟨a, ws, rfl, ea, na, ra⟩ := va.tup
    obtain ⟨b, us, rfl, eb, nb, rb⟩ := vb.tup
    exact ⟨a, b, _, _, rfl, .inr ⟨SqT.of ea, SqT.of eb, k rs _ _ s1 _ H1 _ hl1 S1 rv (good_zipT X.K a b _ _) h2⟩⟩
  · cases hz

/-! ### for -/
def wForL (wg : WG) (wb : WS) (K : LK) : List D → Sg → Prop
  | [], s => K.nx s
  | d :: ds, s => wg d s fun s1 => wb { K with nx := wForL wg wb K ds, ct := wForL wg wb K ds, bk := K.nx } s1
def wFor (wa : WA) (z : ZF) (wg : WG) (wb : WS) : WS := fun K s => wa s fun rs s1 => rdL s1 rs fun srcs => ∃ items, z srcs = some items ∧ fzL s1 rs fun srcs' s2 => srcs' = srcs ∧ wForL wg wb K items s2
theorem Views.of : ∀ {bv N H ds vs}, Reps bv H N ds vs → Views bv N H ds vs
  | _, _, _, _, _, .nil => .nil
  | _, _, _, _, _, .cons r rs => .cons (.of r) (Views.of rs)
theorem drop_get {α : Type} {l : List α} {i : Nat} {d : α} {ds : List α} (h : l.drop i = d :: ds) : l[i]? = some d ∧ l.drop (i + 1) = ds := by
  have h1 : l[i]? = some d := by
    have : (l.drop i)[0]? = some d := by rw [h]; rfl
    simpa [List.getElem?_drop] using this
  refine ⟨h1, ?_⟩
  rw [← List.drop_drop, h]; rfl
theorem ls_for {tg iter : Expr} {body : List Stmt} {wa : WA} {z : ZF} {wg : WG} {T : List Nat} (hp : PassesOwn (model X.prog X.w) X.A X.env X.xe) (hc : X.calm = true) (hi : LI X tg iter wa z) (hg : LG X tg wg T) (hb : LSs X body wb)
    (hs : ∀ x, foldedSetIterable iter X.env x = pure x) : LS X (.For tg iter body [] pos) (wFor wa z wg wb) := by
  obtain ⟨wi, pi, li⟩ := hi.ex
  obtain ⟨tt, pt, lt⟩ := hg.ex
  obtain ⟨tb, pb, lb⟩ := hb.ex
  refine ⟨⟨_, ps_for hp hc pi pt pb hs, fun g N H0 s σ P H K D hl S h f => ?_⟩⟩
  refine li g N H0 s σ P H (fun rs srcs items s1 => fzL s1 rs fun srcs' s2 => srcs' = srcs ∧ wForL wg wb K items s2) _ hl S h fun rs srcs items s1 vs H1 J hl1 S1 rv gj h1 => ?_
  obtain ⟨ds, s2, ⟨rfl, h2⟩, hl2, hd, S2⟩ := SR.fzs (A := []) hl1 S1 rv h1
  refine ⟨fun i m σ' H' => ∃ s', s'.length = σ'.length ∧ σ'.length = σ.length ∧ SR g N H0 (s'.zip σ' ++ (pendD ds vs ++ P)) H' ∧ wForL wg wb K (items.drop i) s' ∧ m + i = items.length, ⟨items.length, s2, hl2, rfl, S2, h2, rfl⟩, fun i m σ1 H2 ⟨s3, e1, e2, S3, h3, hm⟩ => ?_⟩
  have gi := gj _ H2 S3 (.of (S3.reps hd (fun p hp => by simp [hp]))) i
  cases hdr : items.drop i with
  | nil =>
    rw [hdr] at h3
    exact .inl ⟨gi.2 (List.drop_eq_nil_iff.mp hdr), f.nx s3 σ1 H2 e1 e2 (S3.drop1 (List.sublist_append_right _ _)) h3⟩
  | cons d rest =>
    rw [hdr] at h3
    obtain ⟨g1, g2⟩ := drop_get hdr
    obtain ⟨hgo, hy⟩ := gi.1 d g1
    refine .inr ⟨hgo, fun σ' H' => ∃ s', s'.length = σ'.length ∧ σ'.length = σ.length ∧ SR g N H0 (s'.zip σ' ++ (pendD ds vs ++ P)) H' ∧ wForL wg wb K (items.drop (i + 1)) s', fun σ' H' ⟨s', a, b, c, d⟩ => ⟨m - 1, ?_, s', a, b, c, d, ?_⟩, fun x H3 hx => ?_⟩
    · have : i < items.length := (List.getElem?_eq_some_iff.mp g1).1
      omega
    · have : i < items.length := (List.getElem?_eq_some_iff.mp g1).1
      omega
    · have S4 := (hy x H3 hx).mid (List.Sublist.refl _)
      refine lt g N H0 s3 σ1 _ H3 d x _ _ e1 S4 (List.mem_cons_self ..) h3 fun s4 σ2 H4 e3 e4 _ S5 h5 => ?_
      rw [← g2] at h5
      have S6 := S5.drop1 (List.sublist_cons_self _ _)
      refine lb g N H0 s4 σ2 (pendD ds vs ++ P) H4 _ _ e3 S6 h5 ⟨fun s' σ' H' a b S' h' => ⟨s', a, b.trans (e4.trans e2), S', h'⟩, fun s' σ' H' a b S' h' => f.nx s' σ' H' a (b.trans (e4.trans e2)) (S'.drop1 (List.sublist_append_right _ _)) h',
        fun s' σ' H' a b S' h' => ⟨s', a, b.trans (e4.trans e2), S', h'⟩, f.rt⟩
end
end LV
namespace LV
open PySem PySem.Spec PyProof.Rows L2

/-! ### list comprehensions -/
/-- the block's own slots forgotten; and put back -/
def wipeS : List Nat → Sg → Sg
  | [], s => s
  | i :: is, s => (wipeS is s).set i .un
def backS (s : Sg) : List Nat → Sg → Sg
  | [], s4 => s4
  | i :: is, s4 => (backS s is s4).set i (s.getD i .un)
def backV (σ : L2.St) : List Nat → L2.St → L2.St
  | [], σ2 => σ2
  | i :: is, σ2 => (backV σ is σ2).set i (σ.getD i none)
def notOw : Sl → Bool
  | .ow _ => false
  | _ => true
def wTts (wt : Option WT) : WT := match wt with
  | none => fun s Q => Q true s
  | some w => w
def wLcL (rs : List RV) (srcs : List D) (own : List Nat) (wg : WG) (wt : WT) (we : WE) (Q : RV → Sg → Prop) : List D → List D → Sg → Prop
  | [], acc, s => rdL s rs (fun ds => ds = srcs) ∧ Q (.fr acc) s
  | d :: ds, acc, s => rdL s rs (fun ds => ds = srcs) ∧ acc.length < 16777216 ∧ own.all (fun i => notOw (s.getD i .un)) = true ∧
    wg d (wipeS own s) fun s1 => wt s1 fun b s2 => if b = true then we s2 fun r s3 => fzW s3 r fun e s4 => wLcL rs srcs own wg wt we Q ds (acc ++ [e]) (backS s own s4) else wLcL rs srcs own wg wt we Q ds acc (backS s own s2)
def wLc (wa : WA) (z : ZF) (own : List Nat) (wg : WG) (wt : WT) (we : WE) : WE := fun s Q => wa s fun rs s1 => rdL s1 rs fun srcs => ∃ items, z srcs = some items ∧ wLcL rs srcs own wg wt we Q items [] s1

section
variable {g : Bag} {N : Addr → Prop} {H0 H H' : Hp} {L L' P P' : List En} {s s' : Sg} {σ σ2 : L2.St} {r : RV} {v : V}
theorem wipeS_length : ∀ (own : List Nat) (s : Sg), (wipeS own s).length = s.length
  | [], _ => rfl
  | i :: is, s => by simp [wipeS, wipeS_length is]
theorem backS_length : ∀ (own : List Nat) (s4 : Sg), (backS s own s4).length = s4.length
  | [], _ => rfl
  | i :: is, s => by simp [backS, backS_length is]
theorem backV_length : ∀ (own : List Nat) (σ2 : L2.St), (backV σ own σ2).length = σ2.length
  | [], _ => rfl
  | i :: is, s => by simp [backV, backV_length is]
/-- entries that are put into slots: not owners -/
theorem SR.put' {z : Sl} {w : Option V} (i : Nat) (hl : s.length = σ.length) (hm : (z, w) ∈ P) (hz : notOw z = true) (S : SR g N H0 (s.zip σ ++ P) H) : SR g N H0 ((s.set i z).zip (σ.set i w) ++ P) H := by
  refine SR.put i hl (S.to (L' := s.zip σ ++ (z, w) :: P) (fun a => ?_) fun p hp => .inl ?_)
  · have : owns a (z, w) = false := by cases z <;> first | rfl | cases hz
    show List.countP _ _ ≤ List.countP _ _
    rw [List.countP_append, List.countP_append, List.countP_cons_of_neg (by simp [this])]
    exact Nat.le_refl _
  · simp only [List.mem_append, List.mem_cons] at hp ⊢
    rcases hp with h | h | h
    · exact .inl h
    · subst h; exact .inr hm
    · exact .inr h
theorem SR.wiped : ∀ (own : List Nat) {s : Sg} {σ : L2.St}, s.length = σ.length → SR g N H0 (s.zip σ ++ P) H → SR g N H0 ((wipeS own s).zip (wipe σ own) ++ P) H
  | [], _, _, _, S => S
  | i :: is, s, σ, hl, S => by
    have S1 := SR.wiped is hl S
    have h1 : (wipeS is s).length = (wipe σ is).length := by rw [wipeS_length, wipe_length]; exact hl
    have S2 := S1.addUn (v := none)
    exact SR.put i h1 (S2.mid (List.Sublist.refl _))
theorem SR.backed : ∀ (own : List Nat) {s4 : Sg} {σ2 : L2.St}, s4.length = σ2.length → (∀ i ∈ own, (s.getD i .un, σ.getD i none) ∈ P ∧ notOw (s.getD i .un) = true) → SR g N H0 (s4.zip σ2 ++ P) H → SR g N H0 ((backS s own s4).zip (backV σ own σ2) ++ P) H
  | [], _, _, _, _, S => S
  | i :: is, s4, σ2, hl, hm, S => by
    have S1 := SR.backed is hl (fun j hj => hm j (List.mem_cons_of_mem _ hj)) S
    have h1 : (backS s is s4).length = (backV σ is σ2).length := by rw [backS_length, backV_length]; exact hl
    exact SR.put' i h1 (hm i (List.mem_cons_self ..)).1 (hm i (List.mem_cons_self ..)).2 S1
theorem wipe_get (own : List Nat) (σ : L2.St) (i : Nat) : (wipe σ own)[i]? = if i ∈ own ∧ i < σ.length then some none else σ[i]? := by
  induction own with
  | nil => simp [wipe]
  | cons v vs ih =>
    unfold wipe
    by_cases h : v = i
    · subst h
      by_cases hi : v < σ.length
      · rw [List.getElem?_set_self (by rw [wipe_length]; exact hi), if_pos ⟨List.mem_cons_self .., hi⟩]
      · rw [List.getElem?_eq_none (by simp [wipe_length]; omega), if_neg (fun z => hi z.2), List.getElem?_eq_none (by omega)]
    · rw [List.getElem?_set_ne h, ih]
      have : (i ∈ v :: vs) ↔ i ∈ vs := by simp [Ne.symm h]
      simp only [this]
theorem backV_get (own : List Nat) (σ σ2 : L2.St) (i : Nat) (hl : σ2.length = σ.length) : (backV σ own σ2)[i]? = if i ∈ own then σ[i]? else σ2[i]? := by
  induction own with
  | nil => simp [backV]
  | cons v vs ih =>
    unfold backV
    by_cases h : v = i
    · subst h
      rw [if_pos (List.mem_cons_self ..)]
      by_cases hi : v < σ.length
      · rw [List.getElem?_set_self (by rw [backV_length, hl]; exact hi), List.getD_eq_getElem?_getD, List.getElem?_eq_getElem hi]; rfl
      · rw [List.getElem?_eq_none (by simp [backV_length]; omega), List.getElem?_eq_none (by omega)]
    · rw [List.getElem?_set_ne h, ih]
      have : (i ∈ v :: vs) ↔ i ∈ vs := by simp [Ne.symm h]
      simp only [this]
theorem backV_eq (own : List Nat) (hl : σ2.length = σ.length) (h : ∀ i, i ∉ own → σ2[i]? = σ[i]?) : backV σ own σ2 = σ := by
  refine List.ext_getElem? fun i => ?_
  rw [backV_get own σ σ2 i hl]
  split
  · rfl
  · exact h i (by assumption)
theorem wipe_eq (own : List Nat) (hl : σ2.length = σ.length) (h : ∀ i, i ∉ own → σ2[i]? = σ[i]?) : wipe σ2 own = wipe σ own := by
  refine List.ext_getElem? fun i => ?_
  rw [wipe_get, wipe_get, hl]
  split
  · rfl
  · by_cases hi : i ∈ own
    · have : ¬ i < σ.length := fun z => by simp_all
      rw [List.getElem?_eq_none (by omega), List.getElem?_eq_none (by omega)]
    · exact h i hi
end

section
variable {X : Cx} {e : Expr} {we : WE} {w w2 wb : WS} {wt : WT} {pos : Pos}
structure LTs (X : Cx) (ifs : List Expr) (w : WT) : Prop where
  ex : ∃ t, PTs X ifs t ∧ LTt t w
def wYes : WT := fun s Q => Q true s
theorem lts_nil : LTs X [] wYes := ⟨⟨_, pts_nil, fun g N H0 s σ P H Qw Q hl S h k => k true s H hl S h⟩⟩
theorem lts_one {c : Expr} (h : LT X c wt) : LTs X [c] wt := let ⟨t, p, l⟩ := h.ex; ⟨⟨t, pts_one p, l⟩⟩
/-- the entries of the own slots, kept beside -/
def ownE (s : Sg) (σ : L2.St) (own : List Nat) : List En := own.map fun i => (s.getD i .un, σ.getD i none)
theorem SR.own {g N H0 H} {s : Sg} {σ : L2.St} {P : List En} (own : List Nat) (hl : s.length = σ.length) (hn : own.all (fun i => notOw (s.getD i .un)) = true) (S : SR g N H0 (s.zip σ ++ P) H) : SR g N H0 (s.zip σ ++ (ownE s σ own ++ P)) H := by
  have hno : ∀ p ∈ ownE s σ own, notOw p.1 = true ∧ (p.1 = .un ∨ p ∈ s.zip σ) := fun p hp => by
    obtain ⟨i, hi, rfl⟩ := List.mem_map.mp hp
    refine ⟨(List.all_eq_true.mp hn) i hi, ?_⟩
    by_cases hh : i < s.length
    · right
      have h1 : s[i]? = some (s.getD i .un) := by rw [List.getD_eq_getElem?_getD, List.getElem?_eq_getElem hh]; rfl
      have h2 : σ[i]? = some (σ.getD i none) := by rw [List.getD_eq_getElem?_getD, List.getElem?_eq_getElem (by omega)]; rfl
      exact zip_get hl h1 h2
    · left
      show s.getD i .un = .un
      rw [List.getD_eq_getElem?_getD, List.getElem?_eq_none (by omega)]; rfl
  have hc : ∀ a, (ownE s σ own).countP (owns a) = 0 := fun a => List.countP_eq_zero.mpr fun p hp h => by
    have := (hno p hp).1
    obtain ⟨z, w⟩ := p
    cases z <;> first | (simp [owns] at h; done) | cases this
  refine ⟨S.hg, S.sm, S.nd, S.bn, fun p hp => ?_, fun a => ?_⟩
  · have hle : ∀ a, cnt a (s.zip σ ++ (ownE s σ own ++ P)) ≤ cnt a (s.zip σ ++ P) := fun a => by
      show List.countP _ _ ≤ List.countP _ _
      simp only [List.countP_append, hc a]; omega
    have key : ∀ p, p ∈ s.zip σ ++ P → Ok g.bv (Nn N (s.zip σ ++ (ownE s σ own ++ P))) H0 H p := fun p h => (S.each p h).mono (Nn.le hle)
    simp only [List.mem_append] at hp
    rcases hp with h | h | h
    · exact key p (List.mem_append_left _ h)
    · rcases (hno p h).2 with e | h2
      · obtain ⟨z, w⟩ := p
        simp only at e; subst e; trivial
      · exact key p (List.mem_append_left _ h2)
    · exact key p (List.mem_append_right _ h)
  · have e : cnt a (s.zip σ ++ (ownE s σ own ++ P)) = cnt a (s.zip σ ++ P) := by
      show List.countP _ _ = List.countP _ _
      simp only [List.countP_append, hc a]; omega
    rw [e]; exact S.dist a
theorem let_lc {wi : TI} {g : TG} {tt : TT} {te : TE} {wa : WA} {z : ZF} {own T : List Nat} {wg : WG} (li : LIt wi wa z) (lg : LGt g wg T) (lt : LTt tt wt) (le : LEt te we) (hT : ∀ i ∈ T, i ∈ own) : LEt (tLc wi g tt te own) (wLc wa z own wg wt we) := fun bg N H0 s σ P H Qw Q hl S h k => by
  refine li bg N H0 s σ P H (fun rs srcs items s1 => wLcL rs srcs own wg wt we Qw items [] s1) _ hl S h fun rs srcs items s1 vs H1 J hl1 S1 rv gj h1 => ?_
  intro D hD
  have S1' := S1.newL hD (ds := []) (vs := []) .nil
  refine ⟨fun i m H' => ∃ s' acc, s'.length = σ.length ∧ SR bg N H0 (s'.zip σ ++ (pend rs vs ++ (.ow acc, some (.ref D)) :: P)) H' ∧ wLcL rs srcs own wg wt we Qw (items.drop i) acc s' ∧ m + i = items.length,
    ⟨items.length, s1, [], hl1, S1'.perm ?_, h1, rfl⟩, fun i m H2 ⟨s2, acc, hl2, S2, h2, hm⟩ => ?_⟩
  · refine (List.perm_middle (l₁ := s1.zip σ)).symm.trans (List.Perm.append_left _ List.perm_middle.symm)
  have chk : ∀ {C : Prop}, (rdL s2 rs (fun ds => ds = srcs) ∧ C) → Views bg.bv (Nn N (s2.zip σ ++ (pend rs vs ++ (Sl.ow acc, some (V.ref D)) :: P))) H2 srcs vs := fun h => by
    obtain ⟨ds, e, vw⟩ := S2.rds hl2 (fun p h => List.mem_append_left _ h) (fun p h => List.mem_append_right _ (List.mem_append_left _ h)) rv h.1
    subst e; exact vw
  cases hdr : items.drop i with
  | nil =>
    rw [hdr] at h2
    have gi := gj _ H2 S2 (chk h2) i
    refine .inl ⟨gi.2 (List.drop_eq_nil_iff.mp hdr), ?_⟩
    refine k (.fr acc) s2 (.ref D) H2 hl2 ?_ trivial h2.2
    rw [← List.append_assoc] at S2
    have S3 : SR bg N H0 ((Sl.ow acc, some (V.ref D)) :: (s2.zip σ ++ (pend rs vs ++ P))) H2 := S2.perm (by
      rw [← List.append_assoc]
      exact List.perm_middle)
    exact S3.mid (List.sublist_append_right _ _)
  | cons d rest =>
    rw [hdr] at h2
    obtain ⟨g1, g2⟩ := drop_get hdr
    have hlt : i < items.length := (List.getElem?_eq_some_iff.mp g1).1
    have gi := gj _ H2 S2 (chk h2) i
    obtain ⟨hgo, hy⟩ := gi.1 d g1
    obtain ⟨hc, hacc, hno, h3⟩ := h2
    rw [← g2] at h3
    refine .inr ⟨hgo, fun H' => ∃ s' acc, s'.length = σ.length ∧ SR bg N H0 (s'.zip σ ++ (pend rs vs ++ (.ow acc, some (.ref D)) :: P)) H' ∧ wLcL rs srcs own wg wt we Qw (items.drop (i + 1)) acc s', fun H' ⟨s', acc, a, b, c⟩ => ⟨m - 1, by omega, s', acc, a, b, c, by omega⟩, fun x H3 hx => ?_⟩
    -- the turn: the own slots' entries beside, the item pending
    have S3 := SR.own own hl2 hno ((hy x H3 hx).mid (List.Sublist.refl _))
    have S4 := SR.wiped own hl2 S3
    have hl3 : (wipeS own s2).length = (wipe σ own).length := by rw [wipeS_length, wipe_length]; exact hl2
    refine lg bg N H0 (wipeS own s2) (wipe σ own) _ H3 d x _ _ hl3 S4 (by simp) h3 fun s4 σ2 H4 e3 e4 ag S5 h5 => ?_
    have hl4 : σ2.length = σ.length := by rw [e4, wipe_length]
    have ag2 : ∀ i, i ∉ own → σ2[i]? = σ[i]? := fun i hi => by
      rw [ag i (fun z => hi (hT i z)), wipe_get, if_neg (fun z => hi z.1)]
    refine ⟨wipe_eq own hl4 ag2, ?_⟩
    refine lt bg N H0 s4 σ2 _ H4 _ _ e3 S5 h5 fun b s5 H5 e5 S6 h6 => ?_
    have back : ∀ {s6 : Sg} {A : List En} {H6 : Hp}, s6.length = σ2.length → SR bg N H0 (s6.zip σ2 ++ (A ++ (ownE s2 σ own ++ (Sl.sh d, some x) :: (pend rs vs ++ (Sl.ow acc, some (V.ref D)) :: P)))) H6 →
        (backS s2 own s6).length = σ.length ∧ SR bg N H0 ((backS s2 own s6).zip σ ++ (A ++ (pend rs vs ++ (Sl.ow acc, some (V.ref D)) :: P))) H6 := fun {s6 A H6} e S => by
      have S7 := SR.backed (s := s2) (σ := σ) own e (fun i hi => ⟨List.mem_append_right _ (List.mem_append_left _ (List.mem_map.mpr ⟨i, hi, rfl⟩)), (List.all_eq_true.mp hno) i hi⟩) S
      rw [backV_eq own hl4 ag2] at S7
      refine ⟨by rw [backS_length, e, hl4], S7.sub (List.Sublist.append_left (List.Sublist.append_left ?_ _) _)⟩
      exact (List.sublist_cons_self _ _).trans (List.sublist_append_right _ _)
    cases b with
    | false =>
      simp only [if_neg Bool.false_ne_true] at h6 ⊢
      obtain ⟨e7, S7⟩ := back (A := []) e5 S6
      exact ⟨_, acc, e7, S7, h6⟩
    | true =>
      simp only [if_true] at h6 ⊢
      refine le bg N H0 s5 σ2 _ H5 _ _ e5 S6 h6 fun r s6 y H6 e6 S7 ry h7 => ?_
      obtain ⟨de, s7, h8, e8, S8⟩ := SR.fz (A := []) S7 e6 ry h7
      obtain ⟨e9, S9⟩ := back (A := [(Sl.sh de, some y)]) e8 S8
      have hm : ((Sl.ow acc, some (V.ref D)) : En) ∈ (backS s2 own s7).zip σ ++ ([(Sl.sh de, some y)] ++ (pend rs vs ++ (Sl.ow acc, some (V.ref D)) :: P)) := by simp
      obtain ⟨a', vs', e, _, _, hh, rr, _⟩ := S9.own_n hm
      cases e
      refine ⟨vs', hh, by rw [← rr.length, sizeLine_eq]; exact hacc, backS s2 own s7, acc ++ [de], e9, ?_, h8⟩
      obtain ⟨y', ey, ryp⟩ := S9.each (Sl.sh de, some y) (by simp)
      cases ey
      have ea : (backS s2 own s7).zip σ ++ ([(Sl.sh de, some y)] ++ (pend rs vs ++ (Sl.ow acc, some (V.ref D)) :: P)) = ((backS s2 own s7).zip σ ++ ((Sl.sh de, some y) :: pend rs vs)) ++ (Sl.ow acc, some (V.ref D)) :: P := by simp
      rw [ea] at S9 rr ryp
      have S10 := S9.mut (rr.append (.cons ryp .nil))
      refine S10.sub ?_
      simp only [List.append_assoc, List.cons_append]
      exact List.Sublist.append_left (List.sublist_cons_self _ _) _
theorem le_lc {elt tg iter : Expr} {ifs : List Expr} {scope : Scope} {own : List (Str × Nat)} {T : List Nat} {wa : WA} {z : ZF} {wg : WG} (hc : X.calm = true) (hN : X.N.Nodup) (hi : LI X tg iter wa z) (ok : BlkOk X.N X.env.scope scope own)
    (hg : ∃ g, LGt g wg T ∧ ∀ (s : Shared) (H : Hp) (C : Addr) (cl : List (Str × Addr)) (fp : List Addr), PG (X.blk s H scope (compEnvC scope cl C X.env) fp) tg g)
    (ht : ∃ t, LTt t wt ∧ ∀ (s : Shared) (H : Hp) (C : Addr) (cl : List (Str × Addr)) (fp : List Addr), PTs (X.blk s H scope (compEnvC scope cl C X.env) fp) ifs t)
    (he : ∃ t, LEt t we ∧ ∀ (s : Shared) (H : Hp) (C : Addr) (cl : List (Str × Addr)) (fp : List Addr), PE (X.blk s H scope (compEnvC scope cl C X.env) fp) elt t)
    (hT : ∀ i ∈ T, i ∈ own.map (·.2)) (hs : ∀ x, foldedSetIterable iter X.env x = pure x) : LE X (.ListComp elt [⟨tg, iter, ifs, 0⟩] scope pos) (wLc wa z (own.map (·.2)) wg wt we) := by
  obtain ⟨wi, pi, li⟩ := hi.ex
  obtain ⟨g, lg, pg⟩ := hg
  obtain ⟨t, lt, pt⟩ := ht
  obtain ⟨te, le, pe⟩ := he
  exact ⟨⟨_, pe_lc hc hN pi ok pg pt pe hs, let_lc li lg lt le hT⟩⟩
/-- name = [..]: the name is stored within the comprehension's end -/
theorem ls_setLc {i : Nat} {y : Str} {py spos : Pos} {elt tg iter : Expr} {ifs : List Expr} {scope : Scope} {own : List (Str × Nat)} {T : List Nat} {wa : WA} {z : ZF} {wg : WG} (hc : X.calm = true) (hN : X.N.Nodup) (hy : X.N[i]? = some y) (hyl : X.env.scope.names.lookup y = some .local)
    (hsw : swapsWith (.ListComp elt [⟨tg, iter, ifs, 0⟩] scope pos) (some (.Name y py)) spos.line X.env = pure true) (hi : LI X tg iter wa z) (ok : BlkOk X.N X.env.scope scope own)
    (hg : ∃ g, LGt g wg T ∧ ∀ (s : Shared) (H : Hp) (C : Addr) (cl : List (Str × Addr)) (fp : List Addr), PG (X.blk s H scope (compEnvC scope cl C X.env) fp) tg g)
    (ht : ∃ t, LTt t wt ∧ ∀ (s : Shared) (H : Hp) (C : Addr) (cl : List (Str × Addr)) (fp : List Addr), PTs (X.blk s H scope (compEnvC scope cl C X.env) fp) ifs t)
    (he : ∃ t, LEt t we ∧ ∀ (s : Shared) (H : Hp) (C : Addr) (cl : List (Str × Addr)) (fp : List Addr), PE (X.blk s H scope (compEnvC scope cl C X.env) fp) elt t)
    (hT : ∀ i ∈ T, i ∈ own.map (·.2)) (hs : ∀ x, foldedSetIterable iter X.env x = pure x) : LS X (.Assign [.Name y py] (.ListComp elt [⟨tg, iter, ifs, 0⟩] scope pos) spos) (wSet i (wLc wa z (own.map (·.2)) wg wt we)) := by
  obtain ⟨wi, pi, li⟩ := hi.ex
  obtain ⟨g, lg, pg⟩ := hg
  obtain ⟨t, lt, pt⟩ := ht
  obtain ⟨te, le, pe⟩ := he
  exact ⟨⟨_, ps_setLc hc hN hy hyl hsw pi ok pg pt pe hs, let_set (let_lc li lg lt le hT)⟩⟩

/-! ### methods of a list that a slot holds -/
def owW (s : Sg) (r : RV) (Q : Nat → List D → Prop) : Prop := match r with
  | .al i => match s[i]? with
    | some (.ow ds) => Q i ds
    | _ => False
  | _ => False
def wAppend (wo wa : WE) : WE := fun s Q => wo s fun ro s1 => owW s1 ro (fun _ _ => True) ∧ wa s1 fun r s2 => fzW s2 r fun d s3 => owW s3 ro fun i ds => ds.length < 16777216 ∧ Q (.sh .non) (s3.set i (.ow (ds ++ [d])))
theorem SR.ow {g N H0 H} {s : Sg} {σ : L2.St} {P : List En} {ro : RV} {v : V} {Q : Nat → List D → Prop} (hl : s.length = σ.length) (S : SR g N H0 (s.zip σ ++ P) H) (rv : RVal σ ro v) (h : owW s ro Q) :
    ∃ i ds a vs, Q i ds ∧ v = .ref a ∧ H a = some (.lst vs) ∧ Reps g.bv H (Nn N (s.zip σ ++ P)) ds vs ∧
      ∀ P' ds' vs', SR g N H0 (s.zip σ ++ P') H → Reps g.bv H (Nn N (s.zip σ ++ P')) ds' vs' → (s.set i (.ow ds')).length = σ.length ∧ SR g N H0 ((s.set i (.ow ds')).zip σ ++ P') (upd H a (.lst vs')) := by
  cases ro with
  | sh d => exact h.elim
  | fr ds => exact h.elim
  | al i =>
    simp only [owW] at h
    have hi : σ[i]? = some (some v) := rv
    cases e : s[i]? with
    | none => rw [e] at h; exact h.elim
    | some x =>
      rw [e] at h
      cases x with
      | un => exact h.elim
      | sh d => exact h.elim
      | ow ds =>
        obtain ⟨a, vs, e1, n, h0, hh, rr, _⟩ := S.own_n (List.mem_append_left _ (zip_get hl e hi))
        cases e1
        refine ⟨i, ds, a, vs, h, rfl, hh, rr, fun P' ds' vs' S' r' => ⟨by simp [hl], ?_⟩⟩
        obtain ⟨A, B, e1, e2, _⟩ := zip_set (z := .ow ds') hl e hi
        rw [e1, List.append_assoc] at S' r'
        rw [e2, List.append_assoc]
        exact S'.mut r'
theorem le_append {o c : Expr} {wo wa : WE} {apos cpos : Pos} (ho : LE X o wo) (ha : LE X c wa) (hbase : attributeBase o "append" X.env (eval o X.env) = eval o X.env)
    (hfew : ((backTo cpos (starEach [c] X.env)).all (fun x => !x.1) && (backToKw cpos (keywordEach [] X.env)).all (fun x => x.1.isSome) && decide ([c].length + ([] : List Keyword).length + (if ([] : List Keyword).isEmpty then 0 else 1) < 30)) = true)
    (hline : (apos.endLine == cpos.line) = true) (hs : starEach [c] X.env = (false, eval c X.env) :: starEach [] X.env) : LE X (.Call (.Attribute o "append" apos) [c] [] cpos) (wAppend wo wa) := by
  obtain ⟨to, po, lo⟩ := ho.ex
  obtain ⟨ta, pa, la⟩ := ha.ex
  refine ⟨⟨_, pe_bm PySem.F.plainAttrs_list PySem.F.slot_list_append PySem.F.type_list_append mt_append po (pa_cons pa pa_nil hs) hbase hfew hline hs rfl, fun g N H0 s σ P H Qw Q hl S h k => ?_⟩⟩
  refine lo g N H0 s σ P H _ _ hl S h fun ro s1 x H1 hl1 S1 rv h1 => ?_
  obtain ⟨h1, h2⟩ := h1
  obtain ⟨i, ds, a, vs, _, rfl, hh, _, _⟩ := SR.ow hl1 S1 rv h1
  refine ⟨.inl ⟨rfl, _, SqL.of hh⟩, ?_⟩
  refine la g N H0 s1 σ _ H1 _ _ hl1 S1 h2 fun r s2 y H2 hl2 S2 ry h3 => ?_
  obtain ⟨d, s3, h4, hl3, S3⟩ := SR.fz (A := []) S2 hl2 ry h3
  obtain ⟨i, ds, a', vs, ⟨hn, hq⟩, e, hh, rr, up⟩ := SR.ow hl3 S3 rv h4
  cases e
  refine ⟨a, vs, y, rfl, rfl, hh, by rw [← rr.length, sizeLine_eq]; exact hn, ?_⟩
  obtain ⟨w, ew, rw'⟩ := S3.each (Sl.sh d, some y) (by simp)
  cases ew
  obtain ⟨hl4, S4⟩ := up _ (ds ++ [d]) (vs ++ [y]) S3 (rr.append (.cons rw' .nil))
  have S5 := S4.drop1 (B' := P) ((List.sublist_cons_self _ _).trans (List.sublist_cons_self _ _))
  exact k (.sh .non) _ .non _ hl4 ((S5.addSh .non).mid (List.Sublist.refl _)) trivial hq
/-- pop() -/
def wPop (wo : WE) : WE := fun s Q => wo s fun ro s1 => owW s1 ro fun i ds => match ds.getLast? with
  | some d => Q (.sh d) (s1.set i (.ow ds.dropLast))
  | none => False
theorem le_pop {o : Expr} {wo : WE} {apos cpos : Pos} (ho : LE X o wo) (hbase : attributeBase o "pop" X.env (eval o X.env) = eval o X.env) (hline : (apos.endLine == cpos.line) = true) : LE X (.Call (.Attribute o "pop" apos) [] [] cpos) (wPop wo) := by
  obtain ⟨to, po, lo⟩ := ho.ex
  refine ⟨⟨_, pe_bm0 PySem.F.plainAttrs_list PySem.F.slot_list_pop PySem.F.type_list_pop mt_pop po hbase hline, fun g N H0 s σ P H Qw Q hl S h k => ?_⟩⟩
  refine lo g N H0 s σ P H _ _ hl S h fun ro s1 x H1 hl1 S1 rv h1 => ?_
  obtain ⟨i, ds, a, vs, hq, rfl, hh, rr, up⟩ := SR.ow hl1 S1 rv h1
  refine ⟨.inl ⟨rfl, _, SqL.of hh⟩, ?_⟩
  cases e : ds.getLast? with
  | none => rw [e] at hq; exact hq.elim
  | some d =>
    rw [e] at hq
    rw [List.getLast?_eq_getElem?] at e
    obtain ⟨y, hy, ry⟩ := rr.get e
    rw [rr.length] at hy
    refine ⟨a, vs, y, rfl, rfl, hh, hy, ?_⟩
    have S1' := (S1.addSh ry).mid (List.Sublist.refl _)
    have hle : ∀ a, cnt a (s1.zip σ ++ (Sl.sh d, some y) :: (ro.sl, some (V.ref a)) :: P) = cnt a (s1.zip σ ++ (Sl.sh d, some y) :: (ro.sl, some (V.ref a)) :: P) := fun _ => rfl
    have rr' : Reps g.bv H1 (Nn N (s1.zip σ ++ (Sl.sh d, some y) :: (ro.sl, some (V.ref a)) :: P)) ds vs := rr.mono (fun _ _ e _ => e) fun b _ _ z => Nn.le (fun b => by
      show List.countP _ _ ≤ List.countP _ _
      simp only [List.countP_append, List.countP_cons]
      have : owns b (Sl.sh d, some y) = false := rfl
      rw [this]; simp) b z
    obtain ⟨hl2, S2⟩ := up _ ds.dropLast vs.dropLast S1' rr'.dropLast
    exact k (.sh d) _ y _ hl2 (S2.drop1 ((List.sublist_cons_self _ _).cons_cons _)) trivial hq
/-- x[k] = v, x a list that a slot holds -/
def gIx (wo wi : WE) : WG := fun d s Q => wo s fun ro s1 => wi s1 fun ri s2 => rdW s2 ri fun di => match ro with
  | .sh (.bag 1) => (match di, d with
    | .int k, .int v => (k = 1 ∧ 0 ≤ v ∨ k = 2 ∧ 0 ≤ v ∧ v < 2147483647) ∧ Q s2
    | _, _ => False)
  | ro => owW s2 ro fun i ds => match di with
  | .int k => (match ixN ds.length k with
    | some j => Q (s2.set i (.ow (ds.set j d)))
    | none => False)
  | _ => False
theorem lg_ix {o c : Expr} {wo wi : WE} (ho : LE X o wo) (hi : LE X c wi) (h : ∀ {to ti : TE}, PE X o to → PE X c ti → PG X (.Subscript o c pos) (gSub to ti rSetL)) : LG X (.Subscript o c pos) (gIx wo wi) [] := by
  obtain ⟨to, po, lo⟩ := ho.ex
  obtain ⟨ti, pi, li⟩ := hi.ex
  refine ⟨⟨_, h po pi, fun g N H0 s σ P H d v Qg Q hl S hm h k => ?_⟩⟩
  refine lo g N H0 s σ P H _ _ hl S h fun ro s1 x H1 hl1 S1 rx h1 => ?_
  refine li g N H0 s1 σ _ H1 _ _ hl1 S1 h1 fun ri s2 y H2 hl2 S2 ry h2 => ?_
  obtain ⟨di, h3, vi⟩ := S2.rd (fun p h => List.mem_append_left _ h) hl2 (by simp) ry h2
  obtain ⟨w, ew, rw'⟩ := S2.each (Sl.sh d, some v) (List.mem_append_right _ (List.mem_cons_of_mem _ (List.mem_cons_of_mem _ hm)))
  cases ew
  split at h3
  · split at h3
    · obtain ⟨h3, hq⟩ := h3
      have vx : View g.bv (Nn N (s2.zip σ ++ ((ri.sl, some y) :: ((RV.sh (D.bag 1)).sl, some x) :: P))) H2 (.bag 1) x := by
        obtain ⟨w, ew, rw''⟩ := S2.each (Sl.sh (.bag 1), some x) (by simp [RV.sl])
        cases ew; exact rw''
      have hv := (View.of rw').int
      have hi := vi.int
      subst hv; subst hi
      obtain ⟨b, l, CS, eb, nbl, hB, hpre, hpos, hG⟩ := g.sp.1 vx.bag
      obtain ⟨cells, cur, mixed, hcs, hb, hcl, h1, h2, h4⟩ := (hG H2).mp S2.hg
      have ev : x = .ref b := vx.bag2.trans eb
      subst ev
      have keep : ∀ o, Sm g.B H2 (upd H2 b o) := fun o a u e n => (upd_ne fun z => n ((hB a).mpr (.inl z))).trans e
      have fin : ∀ (cur' mixed' : Int), 0 ≤ cur' → 0 ≤ mixed' → mixed' < 2147483647 → Q σ (upd H2 b (.lst [.ref l, .int cur', .int mixed'])) := fun cur' mixed' q1 q2 q3 => by
        refine k s2 σ _ hl2 rfl (fun _ _ => rfl) ?_ hq
        refine (S2.drop1 ((List.sublist_cons_self _ _).trans (List.sublist_cons_self _ _))).grow ((hG _).mpr ⟨cells, cur', mixed', hcs, upd_same, (upd_ne (Ne.symm nbl)).trans hcl, q1, q2, q3⟩) (keep _)
      rcases h3 with ⟨rfl, q⟩ | ⟨rfl, q, q'⟩
      · exact ⟨b, _, 1, 1, rfl, rfl, hb, rfl, fin _ _ q h2 h4⟩
      · exact ⟨b, _, 2, 2, rfl, rfl, hb, rfl, fin _ _ h1 q q'⟩
    · exact h3.elim
  obtain ⟨i, ds, a, vs, h4, rfl, hh, rr, up⟩ := SR.ow hl2 S2 rx h3
  cases di with
  | int kk =>
    simp only at h4
    cases e : ixN ds.length kk with
    | none => rw [e] at h4; exact h4.elim
    | some j =>
      rw [e] at h4
      have := vi.int; subst this
      refine ⟨a, vs, kk, j, rfl, rfl, hh, by rw [← rr.length]; exact e, ?_⟩
      obtain ⟨hl3, S3⟩ := up _ (ds.set j d) (vs.set j v) S2 (Reps.set rw' j rr)
      exact k _ σ _ hl3 rfl (fun _ _ => rfl) (S3.drop1 ((List.sublist_cons_self _ _).trans (List.sublist_cons_self _ _))) h4
  | _ => exact h4.elim
end
end LV
namespace LV
open PySem PySem.Spec PyProof.Rows L2

/-! ### promises of defs that are called where no repr is going on -/
structure FnG (P : Program) (w : World) (K : PySem.W.Frag) (mg : Str → Option Value) (base : Heap)
    (CX : CXT) (k : Nat) (f : Addr) (fd : FuncData) (ps : List Str) (sp : Sp) : Prop where
  len : ∀ vs H Q E, sp vs H Q E → vs.length = ps.length
  run : ∀ (A : Around) (outer : List Env) (s : Shared) (H : Hp) (args : Args) (us : List Value) (vs : List V) (Q : VK) (E : XK),
    A.guards = some [] → Room k A → Env0 P w K mg base A outer s H → BindsTo s fd args (ps.zip us) → Vals vs us →
    sp vs H Q E → codeAny (model P w) A (.call (.ref f) args) (CR CX outer P w H s Q E) s
section
variable {P : Program} {w : World} {K : PySem.W.Frag} {mg : Str → Option Value} {base : Heap} {CX : CXT} {f : Addr} {fd : FuncData} {ps : List Str} {sp : Sp}
theorem FnOk.toG {k : Nat} (F : FnOk P w K mg base CX k f fd ps sp) : FnG P w K mg base CX k f fd ps sp :=
  ⟨F.len, fun A outer s H args us vs Q E _ => F.run A outer s H args us vs Q E⟩
theorem FnG.up {j k : Nat} (F : FnG P w K mg base CX j f fd ps sp) (hjk : j ≤ k) : FnG P w K mg base CX k f fd ps sp :=
  ⟨F.len, fun A outer s H args us vs Q E g r => F.run A outer s H args us vs Q E g (r.mono hjk)⟩
/-- a def's promise out of its body -/
theorem fnG_of {x qual : Str} {st : Stmt} {N : List Str} {k : Nat} (F : Fun K x qual st f fd) (S : FnScope N ps (defScope st)) (len : ∀ vs H Q E, sp vs H Q E → vs.length = ps.length)
    (hb : ∀ (cdv : Value) (A : Around) (outer : List Env) (s : Shared) (H : Hp) (vs : List V) (Q : VK) (E : XK), A.guards = some [] →
      Room k (A.deeper (envOfC qual (defScope st) s.heap.objs.size f cdv)) → sp vs H Q E →
      ∃ t, PSs (cxOf CX P w K mg base N qual (defScope st) f cdv A outer s H E) (defBody st) t ∧ t { nx := fun _ H' => Q .non H', rt := Q } (L2.start N vs) H) :
    FnG P w K mg base CX (k + 1) f fd ps sp := by
  obtain ⟨oc, od, kV, doc, pm, an, cdv, ct, osl, rfl, look, hcode⟩ := F.ex
  constructor
  · exact len
  intro A outer s H args us vs Q E hg room e0 binds rel want
  have inS : K.In s.heap := e0.mod.kin.keeps fun b o hbo => (e0.bs b o hbo).1
  have nolim : s.heap.NoLimit := e0.mod.nolimit.keeps fun b o hbo => (e0.bs b o hbo).1
  have kinds : ∀ y ∈ ps.zip us, (defScope st).names.lookup y.1 = some .local ∨
      ((defScope st).names.lookup y.1 = some .cell ∧ ((cellsFrom (s.heap.objs.size + 1) (defScope st).names []).lookup y.1).isSome = true) := by
    rintro ⟨n, v⟩ hy
    cases S.par n (List.of_mem_zip hy).1 with
    | inl q => exact .inl q
    | inr q => exact .inr ⟨q, PySem.W.cellsFrom_some _ _ _ (.inl q)⟩
  refine codeAny_call_function room.depth (inS _ _ look) rfl S.co S.gen rfl (PySem.W.codeRec_of inS hcode) (binds _ _ _ _ ?_)
  refine wpAny_newFunctionEnv_cells S.kind kinds ?_
  intro env henv s1 frame
  subst henv
  refine ⟨nolim.keeps frame.toInCall.keep, codeAny_func ?_⟩
  obtain ⟨t, body, reading⟩ := hb cdv A outer s H vs Q E hg (room.deeper _) want
  have begun := inv_start (CX := CX) (E := E) S room.hd e0 (len _ _ _ _ want) rel frame
  refine wpAny_mono (body.run [] s1 _ H _ begun reading) ?_ (fun _ _ he => he)
  intro flow s' ends
  match flow, ends with
  | .ret u, ⟨v, σ', H', J, rv, q⟩ => exact ⟨v, H', J.os, J.bare, J.base, J.hok, rv, q⟩
  | .next, ⟨σ', H', J, q⟩ => exact ⟨V.non, H', J.os, J.bare, J.base, J.hok, rfl, q⟩
  | .brk, ⟨_, _, _, q⟩ => exact q.elim
  | .cont, ⟨_, _, _, q⟩ => exact q.elim
end
section
variable {X : Cx} {CX : CXT} {k : Nat} {f : Addr} {fd : FuncData} {ps ks : List Str} {sp : Sp} {E : XK} {x : Str} {p pos : Pos} {e : Expr} {es : List Expr} {kws : List Keyword} {t tk : TA} {g : List Value → List Value → List Value} {gV : List V → List V → List V}
/-- behind the call -/
theorem ended {pins : List (Addr × Obj)} {σ : L2.St} {H : Hp} {s s' : Shared} {Q : VK} {r : Result} (hx : Passes CX X E) (I : Inv X pins σ H s)
    (h : CR CX X.stack X.prog X.w H s Q E r s') : match r with
      | .ok (.ret u) => EP X pins σ Q u s'
      | .ok _ => False
      | .error e => X.xe e s' := by
  match r, h with
  | .ok (.ret u), h => exact I.after h
  | .ok .next, h => exact h
  | .ok .brk, h => exact h
  | .ok .cont, h => exact h
  | .error e, h => exact hx pins σ H s e s' I h
theorem callG {pins : List (Addr × Obj)} {σ : L2.St} {H : Hp} {s : Shared} {Q : VK} {args : Args} {us : List Value} {vs : List V} (F : FnG X.prog X.w X.K X.mg X.base CX k f fd ps sp) (hgd : X.A.guards = some []) (hr : Room k X.A) (hx : Passes CX X E)
    (I : Inv X pins σ H s) (hb : BindsTo s fd args (ps.zip us)) (r : Vals vs us) (h : sp vs H Q E) : wpAny (model X.prog X.w) X.A (call (.ref f) args.pos args.kw) (EP X pins σ Q) X.xe s := by
  refine wpAny_call (codeAny_mono (F.run X.A X.stack s H args us vs Q E hgd hr I.env0 hb r h) ?_)
  intro res s' he
  have q := ended hx I he
  cases res with
  | error e => exact q
  | ok fl => cases fl <;> first | exact q | exact False.elim q
theorem pe_callG (F : FnG X.prog X.w X.K X.mg X.base CX k f fd ps sp) (hgd : X.A.guards = some []) (hr : Room k X.A) (hg : Gl X x) (hm : X.mg x = some (.ref f)) (hk : PySem.W.keepIn X.K (.ref f) = true)
    (hb : Binds X.K fd ps []) (hx : Passes CX X E) (ha : PA X (e :: es) t) (hdb : (x == ("__debug__" : Str)) = false)
    (he : starEach (e :: es) X.env = (false, eval e X.env) :: starEach es X.env) (hpl : (backTo pos (starEach es X.env)).any (·.1) = false) :
    PE X (.Call (.Name x p) (e :: es) [] pos) (tCall sp [] E t) := by
  constructor
  intro pins s σ H Q I h
  refine wpAny_Call_Name_kw (ld_glob I hg hm ?_ hdb)
  refine PySem.W.callWith_K (h₀ := X.base) I.ok.mod.kin hk (thn (ha.run pos pins s σ H _ I h) ?_) he hpl
  rintro us s1 ⟨vs, H1, I1, rv, want⟩
  rw [List.append_nil] at want
  have hl : us.length = ps.length := by rw [← rv.length]; exact F.len _ _ _ _ want
  have bd := hb s1 us I1.kIn (by rw [List.append_nil]; exact hl)
  rw [List.append_nil] at bd
  exact ⟨I1.kIn, callG (args := ⟨us, []⟩) F hgd hr hx I1 bd rv want⟩
theorem pe_callG0 (F : FnG X.prog X.w X.K X.mg X.base CX k f fd ps sp) (hgd : X.A.guards = some []) (hr : Room k X.A) (hg : Gl X x) (hm : X.mg x = some (.ref f)) (hk : PySem.W.keepIn X.K (.ref f) = true)
    (hb : Binds X.K fd ps []) (hx : Passes CX X E) (hdb : (x == ("__debug__" : Str)) = false) : PE X (.Call (.Name x p) [] [] pos) (tCall sp [] E tNil) := by
  constructor
  intro pins s σ H Q I h
  refine wpAny_Call_Name_kw (ld_glob I hg hm ?_ hdb)
  have want : sp [] H Q E := h
  have hl : ([] : List Value).length = ps.length := F.len _ _ _ _ want
  have bd := hb s [] I.kIn hl
  exact PySem.W.callWith_K0 I.kIn hk (callG (args := ⟨[], []⟩) F hgd hr hx I bd .nil want)
theorem pe_callKG (F : FnG X.prog X.w X.K X.mg X.base CX k f fd ps sp) (hgd : X.A.guards = some []) (hr : Room k X.A) (hg : Gl X x) (hm : X.mg x = some (.ref f)) (hk : PySem.W.keepIn X.K (.ref f) = true)
    (hb : KBinds X.K fd ps ks g gV) (hx : Passes CX X E) (ha : PA X (e :: es) t) (hkw : PK X kws tk)
    (hall : (backToKw pos (keywordEach kws X.env)).all (·.1.isSome) = true) (hks : (backToKw pos (keywordEach kws X.env)).filterMap (·.1) = ks)
    (hdb : (x == ("__debug__" : Str)) = false) (he : starEach (e :: es) X.env = (false, eval e X.env) :: starEach es X.env)
    (hpl : ((backTo pos (starEach (e :: es) X.env)).any (·.1) || (backToKw pos (keywordEach kws X.env)).any (·.1.isNone)) = false) :
    PE X (.Call (.Name x p) (e :: es) kws pos) (tCallK sp gV E t tk) := by
  constructor
  intro pins s σ H Q I h
  refine wpAny_Call_Name_kw (ld_glob I hg hm ?_ hdb)
  refine PySem.W.callWith_KW (h₀ := X.base) I.ok.mod.kin hk hall (thn (ha.run pos pins s σ H _ I h) ?_) hpl he
  rintro us s1 ⟨vs, H1, I1, rv, h1⟩
  refine thn (hkw.run pos pins s1 σ H1 _ I1 h1) ?_
  rintro ws s2 ⟨zs, H2, I2, rz, want⟩
  have rel := hb.rel rv rz
  have bd := hb.to s2 us ws I2.kIn (by rw [← rel.length]; exact F.len _ _ _ _ want)
  rw [hks]
  exact ⟨I2.kIn, callG (args := ⟨us, ks.zip ws⟩) F hgd hr hx I2 bd rel want⟩
theorem pe_callKG0 (F : FnG X.prog X.w X.K X.mg X.base CX k f fd ps sp) (hgd : X.A.guards = some []) (hr : Room k X.A) (hg : Gl X x) (hm : X.mg x = some (.ref f)) (hk : PySem.W.keepIn X.K (.ref f) = true)
    (hb : KBinds X.K fd ps ks g gV) (hx : Passes CX X E) (hkw : PK X kws tk)
    (hall : (backToKw pos (keywordEach kws X.env)).all (·.1.isSome) = true) (hks : (backToKw pos (keywordEach kws X.env)).filterMap (·.1) = ks) (hnn : (backToKw pos (keywordEach kws X.env)).any (·.1.isNone) = false)
    (hdb : (x == ("__debug__" : Str)) = false) : PE X (.Call (.Name x p) [] kws pos) (tCallK sp gV E tNil tk) := by
  constructor
  intro pins s σ H Q I h
  refine wpAny_Call_Name_kw (ld_glob I hg hm ?_ hdb)
  refine PySem.W.callWith_KW0 (h₀ := X.base) I.ok.mod.kin hk hall (thn (hkw.run pos pins s σ H _ I h) ?_) (by rw [hnn]; rfl)
  rintro ws s2 ⟨zs, H2, I2, rz, want⟩
  have rel := hb.rel .nil rz
  have bd := hb.to s2 [] ws I2.kIn (by rw [← rel.length]; exact F.len _ _ _ _ want)
  rw [hks]
  exact ⟨I2.kIn, callG (args := ⟨[], ks.zip ws⟩) F hgd hr hx I2 bd rel want⟩
end
end LV
namespace LV
open PySem PySem.Spec PyProof.Rows L2

/-! plain argument lists -/
def plainE : Expr → Bool
  | .Starred .. => false
  | _ => true
theorem star_cons {e : Expr} {es : List Expr} {env : Env} (h : plainE e = true) : starEach (e :: es) env = (false, eval e env) :: starEach es env := by
  cases e <;> first | rfl | cases h
theorem star_plain {es : List Expr} {env : Env} {pos : Pos} (h : es.all plainE = true) : (backTo pos (starEach es env)).any (·.1) = false ∧ (backTo pos (starEach es env)).all (fun x => !x.1) = true := by
  induction es with
  | nil => exact ⟨rfl, rfl⟩
  | cons e es ih =>
    have h' := Bool.and_eq_true_iff.mp h
    rw [star_cons h'.1]
    have ih := ih h'.2
    unfold backTo at ih ⊢
    simp only [List.map_cons, List.any_cons, List.all_cons, ih.1, ih.2]
    exact ⟨rfl, rfl⟩
theorem asg_cons {e : Expr} {es : List Expr} {env : Env} (h : plainE e = true) : assignEach (e :: es) env = (false, assign e env) :: assignEach es env := by
  cases e <;> first | rfl | cases h
theorem asg_plain {es : List Expr} {env : Env} (h : es.all plainE = true) : (assignEach es env).length = es.length ∧ (assignEach es env).findIdx? (·.1) = none := by
  induction es with
  | nil => exact ⟨rfl, rfl⟩
  | cons e es ih =>
    have h' := Bool.and_eq_true_iff.mp h
    rw [asg_cons h'.1]
    have ih := ih h'.2
    refine ⟨by simp [ih.1], ?_⟩
    rw [List.findIdx?_cons]
    simp [ih.2]
def notSet : Expr → Bool
  | .Set .. => false
  | _ => true
theorem foldset {e : Expr} {env : Env} (h : notSet e = true) (x : Value) : foldedSetIterable e env x = pure x := by
  cases e <;> first | rfl | cases h
def notSlice : Expr → Bool
  | .Slice .. => false
  | _ => true
theorem plainIx {e : Expr} (h : notSlice e = true) : PlainIx e := fun o i => by cases e <;> first | rfl | cases h
def notComp : Expr → Bool
  | .ListComp .. => false
  | .SetComp .. => false
  | .DictComp .. => false
  | _ => true
theorem noswap {e : Expr} {t : Option Expr} {l : Nat} {env : Env} (h : notComp e = true) : swapsWith e t l env = pure false := by
  cases e <;> first | rfl | cases h
def notCall : Expr → Bool
  | .Call .. => false
  | _ => true
theorem attrbase {o : Expr} {a : Str} {env : Env} (h : notCall o = true) : attributeBase o a env (eval o env) = eval o env := by
  cases o <;> first | rfl | cases h
/-- tests that go by the value's truth -/
def truE : Expr → Bool
  | .Name .. => true
  | .Call .. => true
  | .Subscript .. => true
  | .BinOp .. => true
  | _ => false
theorem tru_plain {e : Expr} {env : Env} (h : truE e = true) (whole : Sem Value) : isTrue e env whole = (do let v ← whole; standAt e.pos; holding [v] (truthy v)) := by
  cases e <;> first | rfl | cases h
end LV
/-! list(zip(..)), list(enumerate(..)): an iterator that hands out a new pair each time, all of them kept -/
namespace LV
open PySem PySem.Spec PyProof.Rows
abbrev pairO (x y : Value) : Obj := { cls := .type "tuple", data := .seq #[x, y] }
abbrev listO (acc : Array Value) (c : Nat) : Obj := { cls := .type "list", dict := none, data := .seq acc c, slots := #[] }
/-- an iterator of pairs at I; own: the cells that its next writes; fp: what it leans on -/
structure Pairs (prog : Program) (w : World) (A : Around) (T : String) (I : Addr) (own fp : List Addr) (n : Nat) (Pt : Nat → Value → Value → Prop) (St : Nat → Heap → Prop) : Prop where
  mem : I ∈ fp
  sub : ∀ b ∈ own, b ∈ fp
  ty : ∀ i (s : Shared), St i s.heap → s.TypeIs (.ref I) T
  old : ∀ i h, St i h → ∀ b ∈ fp, b < h.objs.size
  frame : ∀ i h h' S acc c, St i h → S ∉ fp → h.get? S = some (listO acc c) → (∀ b o, b ≠ S → h.get? b = some o → h'.get? b = some o) → St i h'
  item : ∀ i (s : Shared) (Q : Option Value → Shared → Prop) (E : Value → Shared → Prop), i < n → St i s.heap →
    (∀ h' tk x y, Pt i x y → h'.get? s.heap.objs.size = some (pairO x y) → h'.objs.size = s.heap.objs.size + 1 → St (i + 1) h' → (∀ b o, b ∉ own → s.heap.get? b = some o → h'.get? b = some o) →
      Q (some (.ref s.heap.objs.size)) { s with heap := h', toks := tk }) → wpAny (model prog w) A (pyNext (.ref I)) Q E s
  done : ∀ (s : Shared) (Q : Option Value → Shared → Prop) (E : Value → Shared → Prop), St n s.heap →
    (∀ h' tk, (∀ b o, b ∉ own → s.heap.get? b = some o → h'.get? b = some o) → Q none { s with heap := h', toks := tk }) → wpAny (model prog w) A (pyNext (.ref I)) Q E s
  self : ∀ (s : Shared) (Q : Value → Shared → Prop) (E : Value → Shared → Prop), St 0 s.heap → Q (.ref I) s → wpAny (model prog w) A (pyIter (.ref I)) Q E s

/-- the pairs handed out: where they lie, what they hold -/
abbrev Tr := Addr × Value × Value
structure Held (Pt : Nat → Value → Value → Prop) (lo : Nat) (h : Heap) (L : List Tr) : Prop where
  at' : ∀ t ∈ L, h.get? t.1 = some (pairO t.2.1 t.2.2) ∧ lo ≤ t.1 ∧ t.1 < h.objs.size
  nd : (L.map (·.1)).Nodup
  pt : ∀ (j : Nat) (t : Tr), L[j]? = some t → Pt j t.2.1 t.2.2
def refsOf (L : List Tr) : Array Value := (L.map fun t => Value.ref t.1).toArray
theorem refsOf_push (L : List Tr) (t : Tr) : (refsOf L).push (.ref t.1) = refsOf (L ++ [t]) := by simp [refsOf]
theorem refsOf_size (L : List Tr) : (refsOf L).size = L.length := by simp [refsOf]
section
variable {prog : Program} {w : World} {A : Around} {R : Result → Shared → Prop} {T : String} {I : Addr} {own fp : List Addr} {n : Nat} {Pt : Nat → Value → Value → Prop} {St : Nat → Heap → Prop}
theorem extend_pairs (W : Pairs prog w A.in1 T I own fp n Pt St) (hn : n ≤ sizeLine) (S : Addr) (hSf : S ∉ fp) (res : Value) (lo : Nat) (hown : ∀ b ∈ own, b < lo) (hSlo : S < lo) : ∀ (k i : Nat) (s : Shared) (L : List Tr) (c : Nat), n - i = k → i ≤ n → St i s.heap →
    s.heap.get? S = some (listO (refsOf L) c) → Held Pt lo s.heap L → L.length = i → lo ≤ s.heap.objs.size →
    (∀ h' tk L' c', (∀ b o, b ≠ S → b ∉ own → s.heap.get? b = some o → h'.get? b = some o) → h'.get? S = some (listO (refsOf L') c') → Held Pt lo h' L' → L'.length = n → R (.ok (.ret res)) { s with heap := h', toks := tk }) →
    codeAny (model prog w) A (.builtin "list.extend.loop" ⟨[.ref S, .ref I, res], []⟩) R s := by
  have hSo : S ∉ own := fun h => hSf (W.sub _ h)
  intro k
  induction k with
  | zero =>
    intro i s L c hk hi st hS held hl hlo hR
    have e : i = n := Nat.le_antisymm hi (Nat.sub_eq_zero_iff_le.mp hk)
    subst e
    refine codeAny_builtin F.entry_extend_loop ?_
    rw [Around.under_plainId F.plain_extend_loop _]
    show wpAny _ A.in1 (pyNext (.ref I) >>= _) _ _ s
    refine wpAny_bind (W.done s _ _ st ?_)
    intro h' tk keep
    refine wpAny_pure (hR h' tk L c (fun b o _ hb e => keep b o hb e) (keep S _ hSo hS) ⟨?_, held.nd, held.pt⟩ hl)
    intro t ht
    obtain ⟨h1, h2, h3⟩ := held.at' t ht
    have no : t.1 ∉ own := fun z => Nat.lt_irrefl _ (Nat.lt_of_lt_of_le (hown _ z) h2)
    exact ⟨keep _ _ no h1, h2, Heap.lt_size (keep _ _ no h1)⟩
  | succ k ih =>
    intro i s L c hk hi st hS held hl hlo hR
    have hlt : i < n := by omega
    refine codeAny_builtin F.entry_extend_loop ?_
    rw [Around.under_plainId F.plain_extend_loop _]
    show wpAny _ A.in1 (pyNext (.ref I) >>= _) _ _ s
    refine wpAny_bind (W.item i s _ _ hlt st ?_)
    intro h1 tk x y px hp hsz st1 keep
    have hS1 : h1.get? S = some (listO (refsOf L) c) := keep S _ hSo hS
    show wpAny _ A.in1 (updateSeq S (·.push (.ref s.heap.objs.size)) >>= _) _ _ _
    refine wpAny_bind ?_
    have hT0 : s.heap.objs.size ≠ S := Nat.ne_of_gt (Nat.lt_of_lt_of_le hSlo hlo)
    have upd1 : ∀ b o, b ≠ S → h1.get? b = some o → (h1.update S (Obj.mapSeq (·.push (.ref s.heap.objs.size)))).get? b = some o := fun b o hb e => (Heap.get?_update_other _ _ (Ne.symm hb)).trans e
    have hS2 : (h1.update S (Obj.mapSeq (·.push (.ref s.heap.objs.size)))).get? S = some (listO ((refsOf L).push (.ref s.heap.objs.size)) _) := Heap.get?_update_self _ hS1 rfl
    refine wpAny_updateSeq hS1 rfl (wpAny_pure ⟨plainId_quiet F.plain_extend_loop _, ?_⟩) (by rw [refsOf_size]; omega) (by show ((refsOf L).push _).size ≤ sizeLine + 1; rw [Array.size_push, refsOf_size]; omega)
    rw [refsOf_push L (s.heap.objs.size, x, y)] at hS2
    refine ih (i + 1) _ (L ++ [(s.heap.objs.size, x, y)]) _ (by omega) hlt (W.frame _ h1 _ S _ _ st1 hSf hS1 upd1) hS2 ⟨?_, ?_, ?_⟩ (by simp [hl]) ?_ ?_
    · intro t ht
      have lt1 : ∀ {b o}, (h1.update S (Obj.mapSeq (·.push (.ref s.heap.objs.size)))).get? b = some o → b < (h1.update S (Obj.mapSeq (·.push (.ref s.heap.objs.size)))).objs.size := fun e => Heap.lt_size e
      rcases List.mem_append.mp ht with h | h
      · obtain ⟨a1, a2, a3⟩ := held.at' t h
        have no : t.1 ∉ own := fun z => Nat.lt_irrefl _ (Nat.lt_of_lt_of_le (hown _ z) a2)
        have g1 := upd1 t.1 _ (Nat.ne_of_gt (Nat.lt_of_lt_of_le hSlo a2)) (keep _ _ no a1)
        exact ⟨g1, a2, lt1 g1⟩
      · rw [List.mem_singleton.mp h]
        have g1 := upd1 s.heap.objs.size _ hT0 hp
        exact ⟨g1, hlo, lt1 g1⟩
    · rw [List.map_append, List.nodup_append]
      refine ⟨held.nd, by simp, ?_⟩
      intro a ha b hb e
      simp at hb
      subst hb; subst e
      obtain ⟨t, ht, e⟩ := List.mem_map.mp ha
      have := (held.at' t ht).2.2
      rw [e] at this
      exact Nat.lt_irrefl _ this
    · intro j t ht
      rw [List.getElem?_append] at ht
      split at ht
      · exact held.pt j t ht
      · rename_i q
        have : j - L.length = 0 := by
          rcases hh : j - L.length with _ | m
          · rfl
          · rw [hh] at ht; simp at ht
        rw [this] at ht
        simp at ht; subst ht
        have : j = i := by omega
        subst this
        exact px
    · show lo ≤ (h1.update S _).objs.size
      rw [Heap.size_update, hsz]; exact Nat.le_succ_of_le hlo
    · intro h' tk' L' c' k2 e2 held' hl'
      have := hR h' tk' L' c' (fun b o b1 b2 e => k2 b o b1 b2 (upd1 b o b1 (keep b o b2 e))) e2 held' hl'
      exact this
end
section
variable {prog : Program} {w : World} {A : Around} {E : Value → Shared → Prop} {s : Shared} {T : String} {I : Addr} {own fp : List Addr} {n : Nat} {Pt : Nat → Value → Value → Prop} {St : Nat → Heap → Prop}
/-- list(I) -/
theorem list_of_pairs {Q : Value → Shared → Prop} (hl : typeLookup (.type T) "__len__" = pure none) (hh : typeLookup (.type T) "__length_hint__" = pure none) (t1 : (Value.type T == Value.type "list") = false) (t2 : (Value.type T == Value.type "tuple") = false)
    (W : Pairs prog w A.in1.in1 T I own fp n Pt St) (hn : n ≤ sizeLine) (st : St 0 s.heap)
    (frame0 : ∀ (h' : Heap) S acc c, S = s.heap.objs.size → (∀ b o, s.heap.get? b = some o → h'.get? b = some o) → h'.get? S = some (listO acc c) → St 0 h')
    (hQ : ∀ h' tk L c, (∀ b o, b ∉ own → s.heap.get? b = some o → h'.get? b = some o) → h'.get? s.heap.objs.size = some (listO (refsOf L) c) → Held Pt (s.heap.objs.size + 1) h' L → L.length = n →
      Q (.ref s.heap.objs.size) { s with heap := h', toks := tk }) : wpAny (model prog w) A (call (.type "list") [.ref I]) Q E s := by
  have low : ∀ b ∈ fp, b < s.heap.objs.size := W.old 0 _ st
  have hSf : s.heap.objs.size ∉ fp := fun z => Nat.lt_irrefl _ (low _ z)
  have hSI : s.heap.objs.size ≠ I := fun e => hSf (by rw [e]; exact W.mem)
  refine callType_codes (Q₁ := fun obj s₁ => obj = .ref s.heap.objs.size ∧ s₁ = { s with heap := s.heap.push { cls := .type "list", data := .seq #[] } }) F.called_list (F.typeCall_list_1 _) F.entry_list_init (code_list_new _ ⟨rfl, rfl⟩) ?_
  rintro obj s1 ⟨rfl, rfl⟩
  have h0 : (s.heap.push { cls := .type "list", data := .seq #[] }).get? s.heap.objs.size = some { cls := .type "list", data := .seq #[] } := Heap.get?_push_size _ rfl
  refine ⟨⟨_, h0, rfl⟩, F.args_list_init_2 _ _, ?_⟩
  show wpAny _ A.in1.in1 (do
    let old ← Builtin.List.listItems (.ref s.heap.objs.size)
    Builtin.List.listUpdate (.ref s.heap.objs.size) (fun _ => #[])
    letGo old.toList.reverse
    Builtin.List.listExtendWith (.ref s.heap.objs.size) (.ref I) .none) _ _ _
  refine wpAny_bind ?_
  unfold Builtin.List.listItems
  refine wpAny_bind (wpAny_seqItems h0 rfl (wpAny_pure ?_))
  show wpAny _ A.in1.in1 (updateSeq s.heap.objs.size (fun _ => #[]) >>= fun _ =>
    letGo (#[] : Array Value).toList.reverse >>= fun _ => Builtin.List.listExtendWith (.ref s.heap.objs.size) (.ref I) .none) _ _ _
  refine wpAny_bind (wpAny_updateSeq h0 rfl ?_)
  refine wpAny_bind (wpAny_letGo ?_)
  have h1 := Heap.get?_update_self (Obj.mapSeq (fun _ => (#[] : Array Value))) h0 rfl
  unfold Builtin.List.listExtendWith
  have keep1 : ∀ b o, s.heap.get? b = some o → ((s.heap.push { cls := .type "list", data := .seq #[] }).update s.heap.objs.size (Obj.mapSeq (fun _ => (#[] : Array Value)))).get? b = some o := fun b o e =>
    (Heap.get?_update_other _ _ (Nat.ne_of_gt (Heap.lt_size e))).trans (Heap.get?_push_of_some _ e)
  have st1 : St 0 ((s.heap.push { cls := .type "list", data := .seq #[] }).update s.heap.objs.size (Obj.mapSeq (fun _ => (#[] : Array Value)))) := frame0 _ _ _ _ rfl keep1 h1
  refine wpAny_bind (wpAny_typeOf (W.ty 0 _ st1) ?_)
  have ns : Builtin.List.listSameRef (.ref s.heap.objs.size) (.ref I) = false := by simp [Builtin.List.listSameRef, hSI]
  simp only [ns, t1, t2, Bool.or_false, Bool.false_eq_true, if_false]
  refine wpAny_bind (W.self _ _ _ st1 (wpAny_bind (wpAny_holding ?_) |> fun q => q))
  unfold Builtin.List.listLengthHint
  refine wpAny_bind (wpAny_specialOf (W.ty 0 _ st1) hl ?_)
  show wpAny _ _ (specialOf (Value.ref I) (Str.ofString "__length_hint__") >>= _) _ _ _
  refine wpAny_bind (wpAny_specialOf (W.ty 0 _ st1) hh ?_)
  refine wpAny_pure ?_
  show wpAny _ _ (rule "list.extend.makes-room" >>= fun _ => Builtin.List.listTouch (.ref s.heap.objs.size) >>= fun _ =>
    again (.builtin "list.extend.loop" ⟨[.ref s.heap.objs.size, .ref I, .none], []⟩)) _ _ _
  refine wpAny_bind (wpAny_rule (wpAny_bind ?_))
  show wpAny _ _ (updateSeq s.heap.objs.size (·.push .none) >>= fun _ => updateSeq s.heap.objs.size (·.pop)) _ _ _
  refine wpAny_bind (wpAny_updateSeq h1 rfl ?_)
  have h2 := Heap.get?_update_self (Obj.mapSeq (·.push Value.none)) h1 rfl
  refine wpAny_updateSeq (hz := by seq_fits) h2 rfl ?_
  have h3 := Heap.get?_update_self (Obj.mapSeq (·.pop)) h2 rfl
  have keep3 : ∀ b o, s.heap.get? b = some o → ((((s.heap.push { cls := .type "list", data := .seq #[] }).update s.heap.objs.size (Obj.mapSeq (fun _ => (#[] : Array Value)))).update s.heap.objs.size (Obj.mapSeq (·.push Value.none))).update
      s.heap.objs.size (Obj.mapSeq (·.pop))).get? b = some o := fun b o e =>
    have ne := Nat.ne_of_gt (Heap.lt_size e)
    (Heap.get?_update_other _ _ ne).trans ((Heap.get?_update_other _ _ ne).trans (keep1 b o e))
  have st3 := frame0 _ _ _ _ rfl keep3 h3
  refine wpAny_pure ⟨plainId_quiet F.plain_extend_loop _, ?_⟩
  refine extend_pairs W hn _ hSf _ (s.heap.objs.size + 1) (fun b hb => Nat.lt_succ_of_lt (low b (W.sub b hb))) (Nat.lt_succ_self _) n 0 _ [] _ rfl (Nat.zero_le _) st3 h3 { at' := (fun t ht => nomatch ht), nd := List.nodup_nil, pt := (fun j t ht => by simp at ht) } rfl ?_ ?_
  · rw [Heap.size_update, Heap.size_update, Heap.size_update, Heap.size_push]; exact Nat.le_refl _
  · intro h' tk L' c' k e held hl'
    exact ⟨rfl, hQ h' tk L' c' (fun b o hb q => k b o (Nat.ne_of_lt (Heap.lt_size q)) hb (keep3 b o q)) e held hl'⟩
end
end LV
namespace LV
open PySem PySem.Spec PyProof.Rows
section
variable {prog : Program} {w : World} {A : Around} {E : Value → Shared → Prop} {s : Shared} {z TI TO i1 i2 T : Addr} {f : Bool} {oT : Obj} {fp1 fp2 : List Addr} {n1 n2 i : Nat} {P1 P2 : Nat → Value → Prop} {St1 St2 : Nat → Heap → Prop}
theorem zh_item {Q : Value → Shared → Prop} (S : ZipSep2 z TI TO i1 i2 fp1 fp2) (D1 : Draws prog w A i1 fp1 n1 P1 St1) (D2 : Draws prog w A i2 fp2 n2 P2 St2)
    (hz : IsZipHeld s.heap z TI TO T f) (hT : s.heap.get? T = some oT) (hTI : IsTupOf2 s.heap TI (.ref i1) (.ref i2)) (st1 : St1 i s.heap) (st2 : St2 i s.heap) (lt1 : i < n1) (lt2 : i < n2)
    (hQ : ∀ x y h' tk, P1 i x → P2 i y → IsZipHeld h' z TI TO T true → St1 (i + 1) h' → St2 (i + 1) h' → h'.get? s.heap.objs.size = some (pairO x y) → h'.objs.size = s.heap.objs.size + 1 →
      (∀ c o, c ≠ z → c ≠ i1 → c ≠ i2 → s.heap.get? c = some o → h'.get? c = some o) → Q (.ref s.heap.objs.size) { s with heap := h', toks := tk }) :
    wpAny (model prog w) A (Builtin.«zip.__next__» ⟨[.ref z], []⟩) (fun fin s' => ∃ v, fin = .done (.ret v) ∧ Q v s') E s := by
  show wpAny _ _ (field (.ref z) 2 >>= _) _ _ _
  refine wpAny_bind (wpAny_field hz rfl (x := .bool false) rfl ?_)
  show wpAny _ _ (field (.ref z) 3 >>= _) _ _ _
  refine wpAny_bind (wpAny_field hz rfl (x := .ref TI) rfl (wpAny_bind (wpAny_seqItems hTI rfl ?_) |> fun q => q))
  show wpAny _ _ (Builtin.SmallTypes.ownedTupleIsFree (.ref z) >>= _) _ _ _
  refine wpAny_bind (wpAny_tupleHeld_zip hz hT ?_)
  intro h1 hz1 same1
  simp only [Bool.false_eq_true, if_false]
  refine wpAny_bind ?_
  rw [← Array.forIn_toList]
  simp only [List.forIn_cons, List.forIn_nil]
  refine wpAny_bind (wpAny_bind (wpAny_holding ?_))
  show wpAny _ _ (Builtin.SmallTypes.nextOf (.ref i1) >>= _) _ _ _
  have a1 : St1 i h1 := D1.over st1 same1 S.zf1
  have a2 : St2 i h1 := D2.over st2 same1 S.zf2
  refine wpAny_bind (D1.item i _ _ _ lt1 a1 ?_)
  intro x h2 tk2 px b1 same2
  refine wpAny_pure (wpAny_pure ?_)
  have b2 : St2 i h2 := D2.over a2 same2 S.sep1_2
  refine wpAny_bind (wpAny_bind (wpAny_holding ?_))
  show wpAny _ _ (Builtin.SmallTypes.nextOf (.ref i2) >>= _) _ _ _
  refine wpAny_bind (D2.item i _ _ _ lt2 b2 ?_)
  intro y h3 tk3 py c2 same3
  have c1 : St1 (i + 1) h3 := D1.over b1 same3 S.sep2_1
  refine wpAny_pure (wpAny_pure (wpAny_pure ?_))
  show wpAny _ _ (newTuple [x, y] >>= _) _ _ _
  refine wpAny_bind (wpAny_newTuple (wpAny_pure ⟨_, rfl, ?_⟩))
  have size3 : h3.objs.size = s.heap.objs.size := by rw [same3.1, same2.1, same1.1]
  have up : ∀ c o, c ≠ z → c ≠ i1 → c ≠ i2 → s.heap.get? c = some o → h3.get? c = some o := fun c o q1 q2 q3 e => same3.extBut _ _ q3 (same2.extBut _ _ q2 (same1.extBut _ _ q1 e))
  have zz : IsZipHeld h3 z TI TO T true := same3.extBut _ _ S.zi2 (same2.extBut _ _ S.zi1 hz1)
  have pair : (h3.push (pairO x y)).get? h3.objs.size = some (pairO x y) := Heap.get?_push_size _ rfl
  have more : (h3.push (pairO x y)).objs.size = h3.objs.size + 1 := Heap.size_push ..
  have fin := hQ x y (h3.push (pairO x y)) tk3 px py (Heap.get?_push_of_some _ zz) (D1.frame _ _ _ c1 fun b _ o e => Heap.get?_push_of_some _ e) (D2.frame _ _ _ c2 fun b _ o e => Heap.get?_push_of_some _ e)
    (by rw [← size3]; exact pair) (by rw [more, size3]) (fun c o q1 q2 q3 e => Heap.get?_push_of_some _ (up c o q1 q2 q3 e))
  show Q (.ref h3.objs.size) _
  rw [size3]
  exact fin
theorem zh_end {Q : Fin → Shared → Prop} (S : ZipSep2 z TI TO i1 i2 fp1 fp2) (D1 : Draws prog w A i1 fp1 n1 P1 St1) (D2 : Draws prog w A i2 fp2 n2 P2 St2)
    (hz : IsZipHeld s.heap z TI TO T f) (hT : s.heap.get? T = some oT) (hTI : IsTupOf2 s.heap TI (.ref i1) (.ref i2)) (st1 : St1 i s.heap) (st2 : St2 i s.heap) (le1 : i ≤ n1) (le2 : i ≤ n2) (hend : i = n1 ∨ i = n2)
    (hE : ∀ h' tk e, (∀ c o, c ≠ z → c ≠ i1 → c ≠ i2 → s.heap.get? c = some o → h'.get? c = some o) → (∃ o, h'.get? e = some o ∧ o.cls = .type "StopIteration") → E (.ref e) { s with heap := h', toks := tk }) :
    wpAny (model prog w) A (Builtin.«zip.__next__» ⟨[.ref z], []⟩) Q E s := by
  show wpAny _ _ (field (.ref z) 2 >>= _) _ _ _
  refine wpAny_bind (wpAny_field hz rfl (x := .bool false) rfl ?_)
  show wpAny _ _ (field (.ref z) 3 >>= _) _ _ _
  refine wpAny_bind (wpAny_field hz rfl (x := .ref TI) rfl (wpAny_bind (wpAny_seqItems hTI rfl ?_) |> fun q => q))
  show wpAny _ _ (Builtin.SmallTypes.ownedTupleIsFree (.ref z) >>= _) _ _ _
  refine wpAny_bind (wpAny_tupleHeld_zip hz hT ?_)
  intro h1 hz1 same1
  simp only [Bool.false_eq_true, if_false]
  refine wpAny_bind ?_
  rw [← Array.forIn_toList]
  simp only [List.forIn_cons, List.forIn_nil]
  refine wpAny_bind (wpAny_bind (wpAny_holding ?_))
  show wpAny _ _ (Builtin.SmallTypes.nextOf (.ref i1) >>= _) _ _ _
  have a1 : St1 i h1 := D1.over st1 same1 S.zf1
  have a2 : St2 i h1 := D2.over st2 same1 S.zf2
  by_cases q : i = n1
  · subst q
    refine wpAny_bind (D1.done _ _ _ a1 ?_)
    intro h2 e ext2 stop
    exact hE h2 _ e (fun c o q1 q2 _ x => ext2 _ _ q2 (same1.extBut _ _ q1 x)) stop
  · have q2 : i = n2 := hend.resolve_left q
    subst q2
    refine wpAny_bind (D1.item i _ _ _ (Nat.lt_of_le_of_ne le1 q) a1 ?_)
    intro x h2 tk2 px b1 same2
    refine wpAny_pure (wpAny_pure ?_)
    have b2 : St2 i h2 := D2.over a2 same2 S.sep1_2
    refine wpAny_bind (wpAny_bind (wpAny_holding ?_))
    show wpAny _ _ (Builtin.SmallTypes.nextOf (.ref i2) >>= _) _ _ _
    refine wpAny_bind (D2.done _ _ _ b2 ?_)
    intro h3 e ext3 stop
    exact hE h3 _ e (fun c o q1 q2 q3 x => ext3 _ _ q3 (same2.extBut _ _ q2 (same1.extBut _ _ q1 x))) stop
end
section
variable {prog : Program} {w : World} {A : Around} {z TI TO i1 i2 : Addr} {fp1 fp2 : List Addr} {n1 n2 : Nat} {P1 P2 : Nat → Value → Prop} {St1 St2 : Nat → Heap → Prop}
def ZSt (z TI TO i1 i2 : Addr) (fp1 fp2 : List Addr) (St1 St2 : Nat → Heap → Prop) (i : Nat) (h : Heap) : Prop :=
  IsTupOf2 h TI (.ref i1) (.ref i2) ∧ (∃ a b, IsTupOf2 h TO a b) ∧ St1 i h ∧ St2 i h ∧
    ((i = 0 ∧ IsZip h z TI TO .none) ∨ ∃ T f x y, 0 < i ∧ IsZipHeld h z TI TO T f ∧ h.get? T = some (pairO x y) ∧ T ∉ z :: TI :: TO :: (fp1 ++ fp2))
theorem ZSt.z_there {i : Nat} {h : Heap} (st : ZSt z TI TO i1 i2 fp1 fp2 St1 St2 i h) : ∃ fs, h.get? z = some { cls := .type "zip", data := .fields fs } := by
  rcases st.2.2.2.2 with ⟨_, q⟩ | ⟨T, f, x, y, _, q, _⟩ <;> exact ⟨_, q⟩
theorem pairs_zip (S : ZipSep2 z TI TO i1 i2 fp1 fp2) (D1 : Draws prog w A.in1 i1 fp1 n1 P1 St1) (D2 : Draws prog w A.in1 i2 fp2 n2 P2 St2) (hh : A.handled = none)
    (live1 : ∀ i h, St1 i h → ∀ b ∈ fp1, b < h.objs.size) (live2 : ∀ i h, St2 i h → ∀ b ∈ fp2, b < h.objs.size) :
    Pairs prog w A "zip" z [z, TO, i1, i2] (z :: TI :: TO :: (fp1 ++ fp2)) (min n1 n2) (fun i x y => P1 i x ∧ P2 i y) (ZSt z TI TO i1 i2 fp1 fp2 St1 St2) := by
  have old : ∀ i h, ZSt z TI TO i1 i2 fp1 fp2 St1 St2 i h → ∀ b ∈ z :: TI :: TO :: (fp1 ++ fp2), b < h.objs.size := fun i h st b hb => by
    obtain ⟨fs, hz⟩ := st.z_there
    obtain ⟨x, y, hTO⟩ := st.2.1
    simp only [List.mem_cons, List.mem_append] at hb
    rcases hb with e | e | e | e | e
    · rw [e]; exact Heap.lt_size hz
    · rw [e]; exact Heap.lt_size st.1
    · rw [e]; exact Heap.lt_size hTO
    · exact live1 i h st.2.2.1 b e
    · exact live2 i h st.2.2.2.1 b e
  refine { mem := List.mem_cons_self .., sub := ?_, ty := ?_, old := old, frame := ?_, item := ?_, done := ?_, self := ?_ }
  · intro b hb
    simp only [List.mem_cons, List.not_mem_nil, or_false] at hb
    simp only [List.mem_cons, List.mem_append]
    rcases hb with e | e | e | e
    · exact .inl e
    · exact .inr (.inr (.inl e))
    · rw [e]; exact .inr (.inr (.inr (.inl S.mem1)))
    · rw [e]; exact .inr (.inr (.inr (.inr S.mem2)))
  · intro i s st
    obtain ⟨fs, hz⟩ := st.z_there
    exact ⟨_, hz, rfl⟩
  · intro i h h' Sx acc c st hS hl keep
    simp only [List.mem_cons, List.mem_append, not_or] at hS
    obtain ⟨x, y, hTO⟩ := st.2.1
    refine ⟨keep _ _ (Ne.symm hS.2.1) st.1, ⟨x, y, keep _ _ (Ne.symm hS.2.2.1) hTO⟩, D1.frame _ _ _ st.2.2.1 fun b hb o e => keep b o (fun q => hS.2.2.2.1 (q ▸ hb)) e, D2.frame _ _ _ st.2.2.2.1 fun b hb o e => keep b o (fun q => hS.2.2.2.2 (q ▸ hb)) e, ?_⟩
    rcases st.2.2.2.2 with ⟨i0, q⟩ | ⟨T, f, x, y, i0, q, hT, no⟩
    · exact .inl ⟨i0, keep _ _ (Ne.symm hS.1) q⟩
    · refine .inr ⟨T, f, x, y, i0, keep _ _ (Ne.symm hS.1) q, keep _ _ (fun e => ?_) hT, no⟩
      rw [e, hl] at hT; simp [listO, pairO] at hT
  · intro i s Q E lt st hQ
    have lt1 : i < n1 := Nat.lt_of_lt_of_le lt (Nat.min_le_left _ _)
    have lt2 : i < n2 := Nat.lt_of_lt_of_le lt (Nat.min_le_right _ _)
    have fresh : s.heap.objs.size ∉ z :: TI :: TO :: (fp1 ++ fp2) := fun m => Nat.lt_irrefl _ (old i _ st _ m)
    obtain ⟨hTI, ⟨a, b, hTO⟩, st1, st2, ⟨i0, hz⟩ | ⟨T, f, x, y, i0, hz, hT, no⟩⟩ := st
    · refine wpAny_pyNext_zipD2_item S D1 D2 hz hTI hTO st1 st2 lt1 lt2 ?_
      intro x y h' tk p1 p2 z1 o1 u1 u2 pr sz keep
      have nTI : ∀ c, c ≠ z → c ≠ TO → c ≠ i1 → c ≠ i2 → ∀ o, s.heap.get? c = some o → h'.get? c = some o := fun c q1 q2 q3 q4 o e => keep c o q1 q2 q3 q4 e
      refine hQ h' tk x y ⟨p1, p2⟩ pr sz ⟨nTI TI S.TIz S.TITO S.TIi1 S.TIi2 _ hTI, ⟨_, _, o1⟩, u1, u2, .inr ⟨_, false, x, y, Nat.succ_pos _, z1, pr, fresh⟩⟩ ?_
      intro c o hc e
      simp only [List.mem_cons, List.not_mem_nil, or_false, not_or] at hc
      exact keep c o hc.1 hc.2.1 hc.2.2.1 hc.2.2.2 e
    · have isT : s.TypeIs (.ref z) "zip" := ⟨_, hz, rfl⟩
      unfold pyNext
      refine wpAny_bind (wpAny_attempt (wpAny_callSpecial?_slot (name := Str.ofString "__next__") isT F.slot_zip_next (wpAny_call_entry F.slot_zip_next isT F.entry_zip_next ?_ (F.args_zip_next_1 _))))
      refine zh_item S D1 D2 hz hT hTI st1 st2 lt1 lt2 ?_
      intro x' y' h' tk p1 p2 z1 u1 u2 pr sz keep
      simp only [List.mem_cons, List.mem_append, not_or] at no
      have n1 : T ≠ i1 := fun e => no.2.2.2.1 (e ▸ S.mem1)
      have n2 : T ≠ i2 := fun e => no.2.2.2.2 (e ▸ S.mem2)
      refine wpAny_pure (hQ h' tk x' y' ⟨p1, p2⟩ pr sz ⟨keep TI _ S.TIz S.TIi1 S.TIi2 hTI, ⟨a, b, keep TO _ S.TOz S.Ti1 S.Ti2 hTO⟩, u1, u2,   .inr ⟨T, true, x, y, Nat.succ_pos _, z1, keep T _ no.1 n1 n2 hT, ?_⟩⟩ ?_)
      · simp only [List.mem_cons, List.mem_append, not_or]; exact no
      · intro c o hc e
        simp only [List.mem_cons, List.not_mem_nil, or_false, not_or] at hc
        exact keep c o hc.1 hc.2.2.1 hc.2.2.2 e
  · intro s Q E st hQ
    obtain ⟨hTI, ⟨a, b, hTO⟩, st1, st2, ⟨i0, hz⟩ | ⟨T, f, x, y, i0, hz, hT, no⟩⟩ := st
    · refine wpAny_pyNext_zipD2_end S D1 D2 hz hTI hTO st1 st2 (Nat.min_le_left _ _) (Nat.min_le_right _ _) (by omega) ?_
      intro h' tk keep
      refine hQ h' tk ?_
      intro c o hc e
      simp only [List.mem_cons, List.not_mem_nil, or_false, not_or] at hc
      exact keep c o hc.1 hc.2.1 hc.2.2.1 hc.2.2.2 e
    · have isT : s.TypeIs (.ref z) "zip" := ⟨_, hz, rfl⟩
      unfold pyNext
      refine wpAny_bind (wpAny_attempt (wpAny_callSpecial?_slot (name := Str.ofString "__next__") isT F.slot_zip_next (wpAny_call_entry F.slot_zip_next isT F.entry_zip_next ?_ (F.args_zip_next_1 _))))
      refine zh_end S D1 D2 hz hT hTI st1 st2 (Nat.min_le_left _ _) (Nat.min_le_right _ _) (by omega) ?_
      intro h' tk e keep stop
      obtain ⟨o, ho, hc⟩ := stop
      refine wpAny_bind (wpAny_isInstance (T := "StopIteration") (b := true) ⟨o, ho, hc⟩ isSubtype_stop (wpAny_pure (hQ _ _ ?_)))
      intro c o hc e
      simp only [List.mem_cons, List.not_mem_nil, or_false, not_or] at hc
      exact keep c o hc.1 hc.2.2.1 hc.2.2.2 e
  · intro s Q E st hQ
    rcases st.2.2.2.2 with ⟨_, q⟩ | ⟨T, f, x, y, i0, _⟩
    · exact wpAny_pyIter_zip q hQ
    · exact absurd i0 (Nat.lt_irrefl 0)
end
end LV
namespace LV
open PySem PySem.Spec PyProof.Rows L2

/-- a list of new pairs stands at p -/
structure NewPairs (H H' : Hp) (xs ys : List V) (p : Addr) : Prop where
  same : ∀ a o, H a = some o → H' a = some o
  fresh : H p = none
  ex : ∃ ps : List V, H' p = some (.lst ps) ∧ ps.length = min xs.length ys.length ∧
    ∀ (j : Nat) (x y : V), xs[j]? = some x → ys[j]? = some y → ∃ T, ps[j]? = some (.ref T) ∧ H T = none ∧ H' T = some (.tup [x, y])
theorem lookup_nd {α β : Type} [BEq α] [LawfulBEq α] : ∀ {l : List (α × β)} {j : Nat} {a : α} {b : β}, (l.map (·.1)).Nodup → l[j]? = some (a, b) → l.lookup a = some b
  | [], _, _, _, _, h => by simp at h
  | (k, v) :: l, 0, a, b, _, h => by simp at h; obtain ⟨rfl, rfl⟩ := h; simp
  | (k, v) :: l, j + 1, a, b, nd, h => by
    rw [List.map_cons, List.nodup_cons] at nd
    simp only [List.getElem?_cons_succ] at h
    have hm : a ∈ l.map (·.1) := List.mem_map.mpr ⟨(a, b), List.mem_of_getElem? h, rfl⟩
    have ne : (a == k) = false := beq_eq_false_iff_ne.mpr fun e => nd.1 (e ▸ hm)
    rw [List.lookup_cons, ne]
    exact lookup_nd nd.2 h
theorem lookup_mem {α β : Type} [BEq α] [LawfulBEq α] : ∀ {l : List (α × β)} {a : α} {b : β}, l.lookup a = some b → (a, b) ∈ l
  | [], _, _, h => by simp at h
  | (k, v) :: l, a, b, h => by
    rw [List.lookup_cons] at h
    cases e : (a == k) with
    | true => rw [e] at h; cases h; rw [eq_of_beq e]; exact List.mem_cons_self ..
    | false => rw [e] at h; exact List.mem_cons_of_mem _ (lookup_mem h)
section
variable {X : Cx} {pins : List (Addr × Obj)} {σ : L2.St} {H1 : Hp} {s1 : Shared} {h' : Heap} {tk : Nat}
theorem laid_pairs (I : Inv X pins σ H1 s1) (keep : ∀ b o, s1.heap.get? b = some o → h'.get? b = some o) {L : List Tr} {S : Addr} {c : Nat} {xs ys : List V} {Pt : Nat → Value → Value → Prop} (hpt : ∀ j x y, Pt j x y → (∃ vx, xs[j]? = some vx ∧ RelV vx x) ∧ ∃ vy, ys[j]? = some vy ∧ RelV vy y)
    (hS : s1.heap.objs.size ≤ S) (hL : h'.get? S = some (listO (refsOf L) c)) (held : Held Pt (S + 1) h' L) (hn : L.length = min xs.length ys.length) (hz : xs.length ≤ sizeLine) :
    ∃ H', NewPairs H1 H' xs ys S ∧ Inv X pins σ H' { s1 with heap := h', toks := tk } := by
  let ks := L.map (·.1)
  let tab : List (Addr × (V × V)) := ks.zip (xs.zip ys)
  have tabk : tab.map (·.1) = ks := by
    have : ks.length ≤ (xs.zip ys).length := by simp [ks, hn]
    exact List.map_fst_zip this
  have tnd : (tab.map (·.1)).Nodup := by rw [tabk]; exact held.nd
  have tget : ∀ {j : Nat} {t : Tr}, L[j]? = some t → ∃ x y, xs[j]? = some x ∧ ys[j]? = some y ∧ RelV x t.2.1 ∧ RelV y t.2.2 ∧ tab[j]? = some (t.1, x, y) := fun {j t} e => by
    obtain ⟨⟨vx, ex, rx⟩, vy, ey, ry⟩ := hpt _ _ _ (held.pt j t e)
    refine ⟨vx, vy, ex, ey, rx, ry, ?_⟩
    have ek : ks[j]? = some t.1 := by simp [ks, e]
    have ez : (xs.zip ys)[j]? = some (vx, vy) := by rw [List.getElem?_zip_eq_some]; exact ⟨ex, ey⟩
    rw [List.getElem?_zip_eq_some]; exact ⟨ek, ez⟩
  have tmem : ∀ {b : Addr} {xy : V × V}, tab.lookup b = some xy → ∃ (j : Nat) (t : Tr), L[j]? = some t ∧ t.1 = b ∧ tab[j]? = some (b, xy) := fun {b xy} e => by
    obtain ⟨j, hj⟩ := List.mem_iff_getElem?.mp (lookup_mem e)
    have hk : ks[j]? = some b := (List.getElem?_zip_eq_some.mp hj).1
    simp only [ks, List.getElem?_map, Option.map_eq_some_iff] at hk
    obtain ⟨t, ht, e⟩ := hk
    exact ⟨j, t, ht, e, hj⟩
  let ps : List V := L.map fun t => V.ref t.1
  let H' : Hp := fun b => if b = S then some (.lst ps) else match tab.lookup b with
    | some xy => some (.tup [xy.1, xy.2])
    | none => H1 b
  have h0 : ∀ b o, H1 b = some o → b < s1.heap.objs.size := fun b o e => I.hok.lt e
  have hS' : H' S = some (.lst ps) := if_pos rfl
  have tlo : ∀ {b : Addr} {xy}, tab.lookup b = some xy → S < b := fun {b xy} e => by
    obtain ⟨j, t, ht, rfl, _⟩ := tmem e
    exact (held.at' t (List.mem_of_getElem? ht)).2.1
  have hold : ∀ b, b < s1.heap.objs.size → H' b = H1 b := fun b hb => by
    have ne : b ≠ S := Nat.ne_of_lt (Nat.lt_of_lt_of_le hb hS)
    have nl : tab.lookup b = none := by
      cases q : tab.lookup b with
      | none => rfl
      | some xy => exact absurd (Nat.lt_of_le_of_lt hS (tlo q)) (Nat.not_lt.mpr (Nat.le_of_lt hb))
    show (if b = S then _ else _) = _
    rw [if_neg ne, nl]
  have htup : ∀ {b : Addr} {xy : V × V}, tab.lookup b = some xy → H' b = some (.tup [xy.1, xy.2]) := fun {b xy} e => by
    have ne : b ≠ S := Nat.ne_of_gt (tlo e)
    show (if b = S then _ else _) = _
    rw [if_neg ne, e]
  have same : ∀ b o, H1 b = some o → H' b = some o := fun b o e => (hold b (h0 b o e)).trans e
  have un : Un X.fs [] H1 H' s1.heap h' :=
    { keep := fun b o e _ _ _ => keep b o e
      slot := fun b o e _ _ _ => ⟨o.slots, keep b o e⟩
      free := fun b o e n _ => (hold b (Heap.lt_size e)).trans n
      there := fun b o e _ => ⟨o, keep b o e⟩
      tups := fun b xs e => same b _ e
      frzs := fun b o u e => same b _ e
      tbls := fun b ps e => ⟨#[], by rw [Array.append_empty]; exact same b _ e⟩ }
  have hok : HOk X.prog X.w H' h' := fun b o e => by
    by_cases lt : b < s1.heap.objs.size
    · rw [hold b lt] at e
      exact (I.hok b o e).stay (fun c u _ q => keep c u q) (fun c q => same c _ q) (fun c xs q => same c _ q)
    · by_cases eS : b = S
      · subst eS
        rw [hS'] at e; cases e
        refine ⟨by simp [ps]; omega, (L.map fun t => Value.ref t.1), c, ?_, by rw [hL]; rfl⟩
        have : ∀ l : List Tr, Vals (l.map fun t => V.ref t.1) (l.map fun t => Value.ref t.1) := fun l => by
          induction l with
          | nil => exact .nil
          | cons t l ih => exact .cons rfl ih
        exact this L
      · cases q : tab.lookup b with
        | some xy =>
          rw [htup q] at e; cases e
          obtain ⟨j, t, ht, rfl, hj⟩ := tmem q
          obtain ⟨x, y, ex, ey, rx, ry, hj'⟩ := tget ht
          rw [hj'] at hj; cases hj
          refine ⟨by rw [sizeLine_eq]; show 2 ≤ 16777216; decide, [t.2.1, t.2.2], .cons rx (.cons ry .nil), ?_⟩
          exact ⟨_, (held.at' t (List.mem_of_getElem? ht)).1, rfl, _, rfl⟩
        | none =>
          have : H' b = H1 b := by
            show (if b = S then _ else _) = _
            rw [if_neg eS, q]
          rw [this] at e
          exact absurd (h0 b o e) lt
  refine ⟨H', ⟨same, I.hok.fresh hS, ps, hS', by simp [ps, hn], fun j x y ex ey => ?_⟩, I.un un hok⟩
  have jl : j < L.length := by
    have := (List.getElem?_eq_some_iff.mp ex).1
    have := (List.getElem?_eq_some_iff.mp ey).1
    omega
  obtain ⟨x', y', ex', ey', _, _, hj⟩ := tget (List.getElem?_eq_getElem jl)
  rw [ex] at ex'; rw [ey] at ey'
  cases ex'; cases ey'
  have lk := lookup_nd tnd hj
  have lo := tlo lk
  exact ⟨L[j].1, by simp [ps, jl], I.hok.fresh (Nat.le_of_lt (Nat.lt_of_le_of_lt hS lo)), htup lk⟩
end
/-! ### what zip, enumerate walk -/
structure Src (prog : Program) (w : World) (A : Around) (s : Shared) (v : Value) (items : Array Value) : Prop where
  ex : ∃ (o : Obj) (HH : Heap → Prop) (l : Addr), Begins v o HH ∧ HH s.heap ∧ l < s.heap.objs.size ∧ ∀ it, l ≠ it → ∃ St : Nat → Heap → Prop, Draws prog w A it [it, l] items.size (fun i x => items[i]? = some x) St ∧
    (∀ h', h'.get? it = some o → HH h' → St 0 h') ∧ ∀ i h, St i h → ∀ b ∈ [it, l], b < h.objs.size
section
variable {prog : Program} {w : World} {A : Around} {E : Value → Shared → Prop} {s : Shared}
theorem src_list {a : Addr} {items : Array Value} (hh : A.handled = none) (h : s.heap.IsList a items) : Src prog w A s (.ref a) items := by
  refine ⟨⟨_, _, a, begins_list a items, h, ?_, fun it ne => ⟨_, Draws.list hh it a ne items, fun h' e k => ⟨⟨_, e, rfl, rfl⟩, k⟩, fun i h st b hb => ?_⟩⟩⟩
  · obtain ⟨o, e, _⟩ := h; exact Heap.lt_size e
  · obtain ⟨⟨o, e, _⟩, ⟨o', e', _⟩⟩ := st
    simp only [List.mem_cons, List.not_mem_nil, or_false] at hb
    rcases hb with q | q <;> rw [q]
    · exact Heap.lt_size e
    · exact Heap.lt_size e'
theorem src_tup {a : Addr} {items : Array Value} (hh : A.handled = none) (h : s.heap.IsTuple a items) : Src prog w A s (.ref a) items := by
  refine ⟨⟨_, _, a, begins_tuple a items, h, ?_, fun it ne => ⟨_, Draws.tuple hh it a ne items, fun h' e k => ⟨⟨_, e, rfl, rfl⟩, k⟩, fun i h st b hb => ?_⟩⟩⟩
  · obtain ⟨o, e, _⟩ := h; exact Heap.lt_size e
  · obtain ⟨⟨o, e, _⟩, ⟨o', e', _⟩⟩ := st
    simp only [List.mem_cons, List.not_mem_nil, or_false] at hb
    rcases hb with q | q <;> rw [q]
    · exact Heap.lt_size e
    · exact Heap.lt_size e'
theorem nolen_zip : typeLookup (.type "zip") "__len__" = pure none := by rw [typeLookup_type, builtinLookup_eq_fast]; kernel_rfl
theorem nohint_zip : typeLookup (.type "zip") "__length_hint__" = pure none := by rw [typeLookup_type, builtinLookup_eq_fast]; kernel_rfl
/-- list(zip(a, b)) by values -/
theorem list_zip {v1 v2 : Value} {xs ys : Array Value} {Q : Value → Shared → Prop} (hh : A.handled = none) (s1 : Src prog w A.in1.in1.in1 s v1 xs) (s2 : Src prog w A.in1.in1.in1 s v2 ys) (hn : xs.size ≤ sizeLine)
    (hQ : ∀ h' tk L c S, (∀ b o, s.heap.get? b = some o → h'.get? b = some o) → s.heap.objs.size ≤ S → h'.get? S = some (listO (refsOf L) c) → Held (fun i x y => xs[i]? = some x ∧ ys[i]? = some y) (S + 1) h' L → L.length = min xs.size ys.size →
      Q (.ref S) { s with heap := h', toks := tk }) :
    wpAny (model prog w) A (call (.type "zip") [v1, v2]) (fun z s' => wpAny (model prog w) A (call (.type "list") [z]) Q E s') E s := by
  obtain ⟨o1, H1, l1, B1, h1, lt1, d1⟩ := s1.ex
  obtain ⟨o2, H2, l2, B2, h2, lt2, d2⟩ := s2.ex
  refine zip_begins2 B1 B2 h1 h2 ?_
  intro h' hz hTI hTO e1 e2 sz keep
  obtain ⟨St1, D1, b1, f1⟩ := d1 s.heap.objs.size (Nat.ne_of_lt lt1)
  obtain ⟨St2, D2, b2, f2⟩ := d2 (s.heap.objs.size + 1) (Nat.ne_of_lt (Nat.lt_succ_of_lt lt2))
  have sep : ZipSep2 (s.heap.objs.size + 4) (s.heap.objs.size + 2) (s.heap.objs.size + 3) s.heap.objs.size (s.heap.objs.size + 1) [s.heap.objs.size, l1] [s.heap.objs.size + 1, l2] :=
    zip_sep2 (fp1 := [l1]) (fp2 := [l2]) (fun b hb => by rw [List.mem_singleton.mp hb]; exact lt1) (fun b hb => by rw [List.mem_singleton.mp hb]; exact lt2)
  have W := pairs_zip (A := A.in1.in1) sep D1 D2 hh f1 f2
  have st0 : ∀ h'' : Heap, (∀ b o, h'.get? b = some o → h''.get? b = some o) → ZSt (s.heap.objs.size + 4) (s.heap.objs.size + 2) (s.heap.objs.size + 3) s.heap.objs.size (s.heap.objs.size + 1) [s.heap.objs.size, l1] [s.heap.objs.size + 1, l2] St1 St2 0 h'' := fun h'' k =>
    ⟨k _ _ hTI, ⟨_, _, k _ _ hTO⟩, b1 h'' (k _ _ e1) (B1.keeps _ _ h1 fun b o e => k b o (keep b o e)), b2 h'' (k _ _ e2) (B2.keeps _ _ h2 fun b o e => k b o (keep b o e)), .inl ⟨rfl, k _ _ hz⟩⟩
  refine list_of_pairs (s := { s with heap := h' }) nolen_zip nohint_zip (by decide) (by decide) W (Nat.le_trans (Nat.min_le_left _ _) hn) (st0 h' fun _ _ e => e) (fun h'' S acc c _ k _ => st0 h'' k) ?_
  intro h'' tk L c k eS held hl
  refine hQ h'' tk L c _ (fun b o e => k b o ?_ (keep b o e)) ?_ eS held hl
  · have : b < s.heap.objs.size := Heap.lt_size e
    simp only [List.mem_cons, List.not_mem_nil, or_false, not_or]
    exact ⟨Nat.ne_of_lt (Nat.lt_add_right 4 this), Nat.ne_of_lt (Nat.lt_add_right 3 this), Nat.ne_of_lt this, Nat.ne_of_lt (Nat.lt_add_right 1 this)⟩
  · show s.heap.objs.size ≤ h'.objs.size
    rw [sz]; exact Nat.le_add_right _ _
end
end LV
namespace LV
open PySem PySem.Spec PyProof.Rows L2
section
variable {prog : Program} {w : World} {A : Around} {E : Value → Shared → Prop} {s : Shared} {e it l : Addr} {items : Array Value}
def ESt (e it l : Addr) (items : Array Value) (i : Nat) (h : Heap) : Prop :=
  h.IsListIter it l i ∧ h.IsList l items ∧ ((i = 0 ∧ IsEnum h e it 0 .none) ∨ ∃ T f x y old, 0 < i ∧ IsEnumHeld h e it (i : Int) old T f ∧ h.get? T = some (pairO x y) ∧ T ≠ e ∧ T ≠ it ∧ T ≠ l)
theorem ESt.e_there {i : Nat} {h : Heap} (st : ESt e it l items i h) : ∃ fs, h.get? e = some { cls := .type "enumerate", data := .fields fs } := by
  rcases st.2.2 with ⟨_, q⟩ | ⟨T, f, x, y, old, _, q, _⟩ <;> exact ⟨_, q⟩
theorem pairs_enum (hh : A.handled = none) (ne : e ≠ it) (nl : l ≠ it) (nel : e ≠ l) :
    Pairs prog w A "enumerate" e [e, it] [e, it, l] items.size (fun i x y => (∃ t, x = .int (i : Nat) t) ∧ items[i]? = some y) (ESt e it l items) := by
  have old : ∀ i h, ESt e it l items i h → ∀ b ∈ [e, it, l], b < h.objs.size := fun i h st b hb => by
    obtain ⟨fs, he⟩ := st.e_there
    obtain ⟨⟨o1, h1, _⟩, ⟨o2, h2, _⟩, _⟩ := st
    simp only [List.mem_cons, List.not_mem_nil, or_false] at hb
    rcases hb with q | q | q <;> rw [q]
    · exact Heap.lt_size he
    · exact Heap.lt_size h1
    · exact Heap.lt_size h2
  refine { mem := List.mem_cons_self .., sub := fun b hb => ?_, ty := fun i s st => ?_, old := old, frame := ?_, item := ?_, done := ?_, self := ?_ }
  · simp only [List.mem_cons, List.not_mem_nil, or_false] at hb ⊢
    rcases hb with q | q
    · exact .inl q
    · exact .inr (.inl q)
  · obtain ⟨fs, he⟩ := st.e_there
    exact ⟨_, he, rfl⟩
  · intro i h h' S acc c st hS hl keep
    simp only [List.mem_cons, List.not_mem_nil, or_false, not_or] at hS
    obtain ⟨h1, h2, h3⟩ := st
    refine ⟨h1.at fun o q => keep _ o (Ne.symm hS.2.1) q, h2.at fun o q => keep _ o (Ne.symm hS.2.2) q, ?_⟩
    rcases h3 with ⟨i0, q⟩ | ⟨T, f, x, y, old, i0, q, hT, no⟩
    · exact .inl ⟨i0, keep _ _ (Ne.symm hS.1) q⟩
    · refine .inr ⟨T, f, x, y, old, i0, keep _ _ (Ne.symm hS.1) q, keep _ _ (fun z => ?_) hT, no⟩
      rw [z, hl] at hT; simp [listO, pairO] at hT
  · intro i s Q E lt st hQ
    have fresh : s.heap.objs.size ∉ [e, it, l] := fun m => Nat.lt_irrefl _ (old i _ st _ m)
    simp only [List.mem_cons, List.not_mem_nil, or_false, not_or] at fresh
    have hx : items[i]? = some items[i] := Array.getElem?_eq_getElem lt
    have lst : ∀ {h' : Heap}, (∀ b o, b ≠ e → b ≠ it → s.heap.get? b = some o → h'.get? b = some o) → h'.IsList l items := fun k => st.2.1.at fun o q => k l o (Ne.symm nel) nl q
    obtain ⟨hit, hls, ⟨i0, he⟩ | ⟨T, f, x, y, old', i0, he, hT, no⟩⟩ := st
    · subst i0
      refine wpAny_pyNext_enum_itemC (Draws.list (A := A.in1) hh it l nl items) he ⟨hit, hls⟩ lt ne ?_ ?_
      · simp only [List.mem_cons, List.not_mem_nil, or_false, not_or]; exact ⟨ne, nel⟩
      · intro v h' tk pv he' st' pr sz keep
        refine hQ h' (tk + 1) (.int ((0 : Nat) : Int) tk) v ⟨⟨tk, rfl⟩, pv⟩ pr sz ⟨st'.1, st'.2, .inr ⟨_, false, _, _, _, Nat.succ_pos _, he', pr, fresh⟩⟩ ?_
        intro b o hb q
        simp only [List.mem_cons, List.not_mem_nil, or_false, not_or] at hb
        exact keep b o hb.1 hb.2 q
    · refine wpAny_pyNext_enum_item_held he hT no.1 no.2.1 hit hls hx ne ?_
      intro h' he' hit' pr sz keep
      refine hQ h' (s.toks + 1) _ _ ⟨⟨s.toks, rfl⟩, hx⟩ pr sz ⟨hit', lst keep, .inr ⟨T, true, x, y, _, Nat.succ_pos _, he', keep T _ no.1 no.2.1 hT, no⟩⟩ ?_
      intro b o hb q
      simp only [List.mem_cons, List.not_mem_nil, or_false, not_or] at hb
      exact keep b o hb.1 hb.2 q
  · intro s Q E st hQ
    obtain ⟨hit, hls, ⟨i0, he⟩ | ⟨T, f, x, y, old', i0, he, hT, no⟩⟩ := st
    · refine wpAny_pyNext_enum_endD (Draws.list (A := A.in1) hh it l nl items) he ⟨hit, hls⟩ ?_
      intro h' ext
      refine hQ h' s.toks ?_
      intro b o hb q
      simp only [List.mem_cons, List.not_mem_nil, or_false, not_or] at hb
      exact ext b o hb.2 q
    · refine wpAny_pyNext_enum_end_held hh he hit hls (by simp) ?_
      intro h' ext
      refine hQ h' s.toks ?_
      intro b o hb q
      simp only [List.mem_cons, List.not_mem_nil, or_false, not_or] at hb
      exact ext b o hb.2 q
  · intro s Q E st hQ
    rcases st.2.2 with ⟨_, q⟩ | ⟨T, f, x, y, old, i0, _⟩
    · exact wpAny_pyIter_enum q hQ
    · exact absurd i0 (Nat.lt_irrefl 0)
theorem nolen_enum : typeLookup (.type "enumerate") "__len__" = pure none := by rw [typeLookup_type, builtinLookup_eq_fast]; kernel_rfl
theorem nohint_enum : typeLookup (.type "enumerate") "__length_hint__" = pure none := by rw [typeLookup_type, builtinLookup_eq_fast]; kernel_rfl
theorem list_enum {Q : Value → Shared → Prop} (hh : A.handled = none) (hl : s.heap.IsList l items) (hn : items.size ≤ sizeLine)
    (hQ : ∀ h' tk L c S, (∀ b o, s.heap.get? b = some o → h'.get? b = some o) → s.heap.objs.size ≤ S → h'.get? S = some (listO (refsOf L) c) → Held (fun i x y => (∃ t, x = .int (i : Nat) t) ∧ items[i]? = some y) (S + 1) h' L → L.length = items.size →
      Q (.ref S) { s with heap := h', toks := tk }) :
    wpAny (model prog w) A (call (.type "enumerate") [.ref l]) (fun z s' => wpAny (model prog w) A (call (.type "list") [z]) Q E s') E s := by
  have lt : l < s.heap.objs.size := by
    obtain ⟨o, q, _⟩ := hl; exact Heap.lt_size q
  refine call_enumerate_list hl ?_
  intro h' he hit sz keep
  have W := pairs_enum (prog := prog) (w := w) (A := A.in1.in1) (e := s.heap.objs.size + 1) (it := s.heap.objs.size) (l := l) (items := items) hh (Nat.succ_ne_self _) (Nat.ne_of_lt lt) (Nat.ne_of_gt (Nat.lt_succ_of_lt lt))
  have st0 : ∀ h'' : Heap, (∀ b o, h'.get? b = some o → h''.get? b = some o) → ESt (s.heap.objs.size + 1) s.heap.objs.size l items 0 h'' := fun h'' k =>
    ⟨hit.at fun o q => k _ o q, hl.at fun o q => k _ o (keep _ o q), .inl ⟨rfl, k _ _ he⟩⟩
  refine list_of_pairs (s := { s with heap := h' }) nolen_enum nohint_enum (by decide) (by decide) W hn (st0 h' fun _ _ e => e) (fun h'' S acc c _ k _ => st0 h'' k) ?_
  intro h'' tk L c k eS held hl'
  refine hQ h'' tk L c _ (fun b o e => k b o ?_ (keep b o e)) ?_ eS held hl'
  · have : b < s.heap.objs.size := Heap.lt_size e
    simp only [List.mem_cons, List.not_mem_nil, or_false, not_or]
    exact ⟨Nat.ne_of_lt (Nat.lt_succ_of_lt this), Nat.ne_of_lt this⟩
  · show s.heap.objs.size ≤ h'.objs.size
    rw [sz]; exact Nat.le_add_right _ _
end
/-! ### as expressions -/
section
variable {X : Cx}
def Sq (H : Hp) (a : Addr) (xs : List V) : Prop := H a = some (.lst xs) ∨ H a = some (.tup xs)
def tLz (ta : TA) : TE := fun σ H Q => ta σ H fun vs H1 => ∃ a b xs ys, vs = [.ref a, .ref b] ∧ Sq H1 a xs ∧ Sq H1 b ys ∧ ∀ p H', NewPairs H1 H' xs ys p → Q (.ref p) H'
theorem src_of {pins : List (Addr × Obj)} {σ : L2.St} {H : Hp} {s : Shared} {a : Addr} {xs : List V} {A : Around} (hh : A.handled = none) (I : Inv X pins σ H s) (h : Sq H a xs) : ∃ its : List Value, Vals xs its ∧ Src X.prog X.w A s (.ref a) its.toArray ∧ its.length ≤ sizeLine := by
  rcases h with h | h
  · obtain ⟨its, r, pl, z⟩ := I.list (SqL.of h)
    exact ⟨its, r, src_list hh pl.isList, by rw [← r.length]; exact z⟩
  · obtain ⟨its, r, pt, z⟩ := I.tuple (SqT.of h)
    exact ⟨its, r, src_tup hh pt, by rw [← r.length]; exact z⟩
theorem pe_lzip {a b : Expr} {ta : TA} {p p2 pos pos2 : Pos} (hc : X.calm = true) (g1 : Gl X "list") (m1 : X.mg "list" = none) (g2 : Gl X "zip") (m2 : X.mg "zip" = none) (ha : PA X [a, b] ta)
    (hs : starEach [a, b] X.env = (false, eval a X.env) :: starEach [b] X.env) (hpl : (backTo pos2 (starEach [b] X.env)).any (·.1) = false) :
    PE X (.Call (.Name "list" p) [.Call (.Name "zip" p2) [a, b] [] pos2] [] pos) (tLz ta) := by
  constructor
  intro pins s σ H Q I h
  refine Call_ (ld_blt I g1 m1 boot_list (PyProof.Rows.callWith_type1 (args_cons ?_ rfl) rfl))
  have I' := I.tok (s.toks)
  refine Call_ (ld_blt I g2 m2 PyProof.Rows.boot_zip (PyProof.Rows.callWith_type1 (thn (ha.run pos2 pins s σ H _ I h) ?_) hs hpl))
  rintro us s1 ⟨vs, H1, I1, r1, l1, l2, xs, ys, rfl, hx, hy, q⟩
  obtain ⟨u1, u2, rfl, e1, e2⟩ := vals2 r1
  cases e1; cases e2
  obtain ⟨its1, v1, src1, z1⟩ := src_of (A := X.A.in1.in1.in1) (I1.ok.hd hc) I1 hx
  obtain ⟨its2, v2, src2, z2⟩ := src_of (A := X.A.in1.in1.in1) (I1.ok.hd hc) I1 hy
  refine wpAny_mono (list_zip (Q := fun u s' => EP X pins σ Q u s') (I1.ok.hd hc) src1 src2 (by simpa using z1) ?_) (fun z s' hz => args_nil hz) (fun _ _ q => q)
  intro h' tk L c S keep hS eS held hl
  obtain ⟨H', np, I2⟩ := laid_pairs (tk := tk) I1 keep (xs := xs) (ys := ys) (fun j x y ⟨h1, h2⟩ => by
    have h1' : its1[j]? = some x := by simpa using h1
    have h2' : its2[j]? = some y := by simpa using h2
    constructor
    · have jl : j < its1.length := (List.getElem?_eq_some_iff.mp h1').1
      have jx : j < xs.length := by rw [v1.length]; exact jl
      obtain ⟨u, hu, ru⟩ := v1.get (List.getElem?_eq_getElem jx)
      rw [h1'] at hu; cases hu
      exact ⟨_, List.getElem?_eq_getElem jx, ru⟩
    · have jl : j < its2.length := (List.getElem?_eq_some_iff.mp h2').1
      have jx : j < ys.length := by rw [v2.length]; exact jl
      obtain ⟨u, hu, ru⟩ := v2.get (List.getElem?_eq_getElem jx)
      rw [h2'] at hu; cases hu
      exact ⟨_, List.getElem?_eq_getElem jx, ru⟩) hS eS held (by simpa [v1.length, v2.length] using hl) (by rw [v1.length]; exact z1)
  exact ⟨.ref S, H', I2, rfl, q S H' np⟩
def tLe (ta : TA) : TE := fun σ H Q => ta σ H fun vs H1 => ∃ a xs, vs = [.ref a] ∧ H1 a = some (.lst xs) ∧ ∀ p H', NewPairs H1 H' ((List.range xs.length).map fun (i : Nat) => V.int (i : Int)) xs p → Q (.ref p) H'
theorem pe_lenum {a : Expr} {ta : TA} {p p2 pos pos2 : Pos} (hc : X.calm = true) (g1 : Gl X "list") (m1 : X.mg "list" = none) (g2 : Gl X "enumerate") (m2 : X.mg "enumerate" = none) (ha : PA X [a] ta)
    (hs : starEach [a] X.env = [(false, eval a X.env)]) : PE X (.Call (.Name "list" p) [.Call (.Name "enumerate" p2) [a] [] pos2] [] pos) (tLe ta) := by
  constructor
  intro pins s σ H Q I h
  refine Call_ (ld_blt I g1 m1 boot_list (PyProof.Rows.callWith_type1 (args_cons ?_ rfl) rfl))
  refine Call_ (ld_blt I g2 m2 boot_enumerate (PyProof.Rows.callWith_type1 (thn (ha.run pos2 pins s σ H _ I h) ?_) hs rfl))
  rintro us s1 ⟨vs, H1, I1, r1, l1, xs, rfl, hx, q⟩
  obtain ⟨u1, rfl, e1⟩ := vals1 r1
  cases e1
  obtain ⟨its, rv, pl, z⟩ := I1.list (SqL.of hx)
  refine wpAny_mono (list_enum (Q := fun u s' => EP X pins σ Q u s') (I1.ok.hd hc) pl.isList (by simpa [rv.length] using z) ?_) (fun z s' hz => args_nil hz) (fun _ _ q => q)
  intro h' tk L c S keep hS eS held hl
  have hl' : L.length = xs.length := by rw [hl, rv.length]; simp
  obtain ⟨H', np, I2⟩ := laid_pairs (tk := tk) I1 keep (xs := (List.range xs.length).map fun (i : Nat) => V.int (i : Int)) (ys := xs) (fun j x y ⟨⟨t, ht⟩, h2⟩ => by
    have h2' : its[j]? = some y := by simpa using h2
    have jl : j < its.length := (List.getElem?_eq_some_iff.mp h2').1
    have jx : j < xs.length := by rw [rv.length]; exact jl
    obtain ⟨u, hu, ru⟩ := rv.get (List.getElem?_eq_getElem jx)
    rw [h2'] at hu; cases hu
    refine ⟨⟨.int (j : Nat), ?_, ⟨t, ht⟩⟩, _, List.getElem?_eq_getElem jx, ru⟩
    rw [List.getElem?_map, List.getElem?_range jx]; rfl) hS eS held (by simp [hl']) (by simpa using z)
  exact ⟨.ref S, H', I2, rfl, q S H' np⟩
end
end LV
namespace LV
open PySem PySem.Spec PyProof.Rows L2

/-! ### list(reversed(a list)) -/
section
variable {prog : Program} {w : World} {A : Around} {E : Value → Shared → Prop} {s : Shared}
theorem list_rev {it l : Addr} {items : Array Value} {Q : Value → Shared → Prop} (hh : A.handled = none) (hit : s.heap.IsRevIter it l ((items.size : Int) - 1)) (hl : s.heap.IsList l items) (hne : l ≠ it) (hn : items.size ≤ sizeLine)
    (hQ : ∀ (h' : Heap) (tk : Nat) (acc : Array Value) (c : Nat), (∀ b o, b ≠ it → s.heap.get? b = some o → h'.get? b = some o) → h'.get? s.heap.objs.size = some { cls := .type "list", data := .seq acc c } → ItemsOf (fun i v => items[items.size - 1 - i]? = some v) acc items.size →
      Q (.ref s.heap.objs.size) { s with heap := h', toks := tk }) : wpAny (model prog w) A (call (.type "list") [.ref it]) Q E s := by
  have W := (Walks.listRev (prog := prog) (w := w) (A := A.in1.in1) hh it l hne items).toS
  obtain ⟨oi, hoi, _⟩ := id hit
  obtain ⟨ol, hol, _⟩ := id hl
  have li : it < s.heap.objs.size := Heap.lt_size hoi
  have ll : l < s.heap.objs.size := Heap.lt_size hol
  have hSi : s.heap.objs.size ≠ it := Nat.ne_of_gt li
  have hSf : s.heap.objs.size ∉ [it, l] := by
    simp only [List.mem_cons, List.not_mem_nil, or_false, not_or]
    exact ⟨hSi, Nat.ne_of_gt ll⟩
  refine callType_codes (Q₁ := fun obj z => obj = .ref s.heap.objs.size ∧ z = { s with heap := s.heap.push { cls := .type "list", data := .seq #[] } }) F.called_list (F.typeCall_list_1 _) F.entry_list_init (code_list_new _ ⟨rfl, rfl⟩) ?_
  rintro obj z ⟨rfl, rfl⟩
  have h0 : (s.heap.push { cls := .type "list", data := .seq #[] }).get? s.heap.objs.size = some { cls := .type "list", data := .seq #[] } := Heap.get?_push_size _ rfl
  refine ⟨⟨_, h0, rfl⟩, F.args_list_init_2 _ _, ?_⟩
  show wpAny _ A.in1.in1 (do
    let was ← Builtin.List.listItems (.ref s.heap.objs.size)
    Builtin.List.listUpdate (.ref s.heap.objs.size) (fun _ => #[])
    letGo was.toList.reverse
    Builtin.List.listExtendWith (.ref s.heap.objs.size) (.ref it) .none) _ _ _
  refine wpAny_bind ?_
  unfold Builtin.List.listItems
  refine wpAny_bind (wpAny_seqItems h0 rfl (wpAny_pure ?_))
  show wpAny _ A.in1.in1 (updateSeq s.heap.objs.size (fun _ => #[]) >>= fun _ =>
    letGo (#[] : Array Value).toList.reverse >>= fun _ => Builtin.List.listExtendWith (.ref s.heap.objs.size) (.ref it) .none) _ _ _
  refine wpAny_bind (wpAny_updateSeq h0 rfl ?_)
  refine wpAny_bind (wpAny_letGo ?_)
  have h1 := Heap.get?_update_self (Obj.mapSeq (fun _ => (#[] : Array Value))) h0 rfl
  have keep1 : ∀ b o, s.heap.get? b = some o → ((s.heap.push { cls := .type "list", data := .seq #[] }).update s.heap.objs.size (Obj.mapSeq (fun _ => (#[] : Array Value)))).get? b = some o := fun b o e =>
    (Heap.get?_update_other _ _ (Nat.ne_of_gt (Heap.lt_size e))).trans (Heap.get?_push_of_some _ e)
  have hit1 : Heap.IsRevIter ((s.heap.push { cls := .type "list", data := .seq #[] }).update s.heap.objs.size (Obj.mapSeq (fun _ => (#[] : Array Value)))) it l ((items.size : Int) - 1) := hit.at fun o e => keep1 _ o e
  have hl1 : Heap.IsList ((s.heap.push { cls := .type "list", data := .seq #[] }).update s.heap.objs.size (Obj.mapSeq (fun _ => (#[] : Array Value)))) l items := hl.at fun o e => keep1 _ o e
  unfold Builtin.List.listExtendWith
  refine wpAny_bind (wpAny_typeOf hit1.typeIs ?_)
  have ns : Builtin.List.listSameRef (.ref s.heap.objs.size) (.ref it) = false := by simp [Builtin.List.listSameRef, hSi]
  rw [if_neg (by rw [ns]; decide)]
  refine wpAny_bind (wpAny_pyIter_revIter (s := { s with heap := _ }) hit1 ?_)
  refine wpAny_bind (wpAny_holding ?_)
  unfold Builtin.List.listLengthHint
  refine wpAny_bind (wpAny_specialOf hit1.typeIs RT.nolen_lri ?_)
  show wpAny _ A.in1.in1 (specialOf (Value.ref it) (Str.ofString "__length_hint__") >>= _) _ _ _
  refine wpAny_bind (wpAny_specialOf hit1.typeIs RT.hint_lri ?_)
  generalize hid : ("list_reverseiterator.__length_hint__" : String) = id0
  wp_delta
  rw [show splitId id0 = some ("list_reverseiterator", "__length_hint__") from by subst hid; decide +kernel]
  subst hid
  refine wpAny_bind (wpAny_isInstance (b := true) hit1.typeIs (by rw [isSubtype_type]; kernel_rfl) ?_)
  refine wpAny_pure ?_
  rw [if_neg (by decide)]
  have e0 : ((items.size : Nat) : Int) - 1 - ((0 : Nat) : Int) = (items.size : Int) - 1 := by omega
  refine wpAny_pure ⟨plainId_quiet F.plain_extend_loop _, codeAny_extend_loopS W hn _ hSf _ items.size 0 _ _ _ rfl (Nat.zero_le _) ⟨Nat.zero_le _, by rw [e0]; exact hit1, hl1⟩ h1 (ItemsOf.nil _) fun s' acc c hm hS got => ?_⟩
  rw [Moved.eq_with hm]
  refine ⟨rfl, hQ s'.heap s'.toks acc c (fun b o hb e => hm.heap b o (fun mem => ?_) (keep1 b o e)) hS got⟩
  rcases List.mem_cons.mp mem with q | mem
  · exact absurd (Heap.lt_size e) (by rw [q]; exact Nat.lt_irrefl _)
  · exact hb (List.mem_singleton.mp mem)
end
section
variable {X : Cx}
def rLr (K : PySem.W.Frag) : List V → Hp → VK → Prop := fun vs H Q => ∃ (a : Addr) (xs : List V), vs = [.ref a] ∧ SqL K H a xs ∧ ∀ q, H q = none → Q (.ref q) (upd H q (.lst xs.reverse))
theorem pe_lrev {a : Expr} {ta : TA} {p p2 pos pos2 : Pos} (hc : X.calm = true) (g1 : Gl X "list") (m1 : X.mg "list" = none) (g2 : Gl X "reversed") (m2 : X.mg "reversed" = none) (ha : PA X [a] ta)
    (hs : starEach [a] X.env = [(false, eval a X.env)]) : PE X (.Call (.Name "list" p) [.Call (.Name "reversed" p2) [a] [] pos2] [] pos) (tCB (rLr X.K) ta) := by
  constructor
  intro pins s σ H Q I h
  refine Call_ (ld_blt I g1 m1 boot_list (PyProof.Rows.callWith_type1 (args_cons ?_ rfl) rfl))
  refine Call_ (ld_blt I g2 m2 PyProof.Rows.boot_reversed (PyProof.Rows.callWith_type1 (thn (ha.run pos2 pins s σ H _ I h) ?_) hs rfl))
  rintro us s1 ⟨vs, H1, I1, r1, l1, xs, rfl, hx, q⟩
  obtain ⟨u1, rfl, e1⟩ := vals1 r1
  cases e1
  obtain ⟨its, rv, pl, hz⟩ := I1.list hx
  refine call_reversed_list pl.isList (args_nil ?_)
  have k0 : ∀ b o, s1.heap.get? b = some o → (s1.heap.push (revObj l1 ((its.toArray.size : Int) - 1))).get? b = some o := fun b o e => Heap.get?_push_of_some _ e
  have I2 : Inv X pins σ H1 { s1 with heap := s1.heap.push (revObj l1 ((its.toArray.size : Int) - 1)) } := I1.kept (t' := s1.toks) k0
  obtain ⟨f0, f1, f2, f3, f4, f5⟩ := I1.fpOk (H' := H1) (b := s1.heap.objs.size) (Nat.le_refl _) (I1.hok.fresh (Nat.le_refl _))
  have hl := pl.isList
  obtain ⟨ol, hol, _⟩ := id hl
  have hne : l1 ≠ s1.heap.objs.size := Nat.ne_of_lt (Heap.lt_size hol)
  have hn : its.toArray.size ≤ sizeLine := by rw [List.size_toArray, ← rv.length]; exact hz
  refine list_rev (s := { s1 with heap := _ }) (I1.ok.hd hc) ⟨_, Heap.get?_push_size _ rfl, rfl, rfl⟩ (hl.push _) hne hn fun h' tk acc c hk eS hi => ?_
  have fresh : H1 (s1.heap.push (revObj l1 ((its.toArray.size : Int) - 1))).objs.size = none := I2.hok.fresh (Nat.le_refl _)
  refine ⟨.ref _, _, ?_, rfl, q _ fresh⟩
  refine I1.turnedNew (t' := tk) (ch := [s1.heap.objs.size]) (fun b o hb e => hk b o (fun z => hb (by simp [z])) (k0 b o e)) (fun b hb => ?_) ?_ (show ObjOk X.prog X.w _ _ _ (.lst xs.reverse) from ⟨by rw [List.length_reverse]; exact hz, acc.toList, c, RT.vals_rev rv hi, ?_⟩)
  · rw [List.mem_singleton.mp hb]; exact I1.fpOk (Nat.le_refl _) (I1.hok.fresh (Nat.le_refl _))
  · show s1.heap.objs.size ≤ (s1.heap.push _).objs.size
    rw [Heap.size_push]; exact Nat.le_succ _
  · rw [Array.toArray_toList]; exact eS
end
end LV
namespace LV
open PySem PySem.Spec PyProof.Rows L2

/-! ### is -/
def isNonD : D → Bool
  | .non => true
  | _ => false
def bagD : D → Bool
  | .bag _ => true
  | .scr _ => true
  | _ => false
def fIs : F2 := fun a b Q => match b with
  | .non => bagD a = false ∧ Q (.sh (.bl (isNonD a)))
  | .bl y => match a with
    | .bl x => Q (.sh (.bl (decide (x = y))))
    | _ => False
  | _ => False
def fIsNot : F2 := fun a b Q => match b with
  | .non => bagD a = false ∧ Q (.sh (.bl (!isNonD a)))
  | .bl y => match a with
    | .bl x => Q (.sh (.bl (!decide (x = y))))
    | _ => False
  | _ => False
theorem View.isNon {bv N H d v} (h : View bv N H d v) (nb : bagD d = false) : decide (v = .non) = isNonD d := by
  cases d <;> first | (cases nb; done) | (cases h; rfl) | (obtain ⟨a, vs, rfl, _⟩ := h; rfl)
abbrev rIsA : R2 := fun x y H Q => (fun x y (H : Hp) (Q : VK) => y = .non ∧ Q (.bl (decide (x = .non))) H) x y H Q ∨ rIsB x y H Q
abbrev rIsNotA : R2 := fun x y H Q => (fun x y (H : Hp) (Q : VK) => y = .non ∧ Q (.bl (!decide (x = .non))) H) x y H Q ∨ rNotB x y H Q
theorem op_isA {X : Cx} : OpR X (compareOp .Is) rIsA := op_isN.or op_isBl
theorem op_isNotA {X : Cx} : OpR X (compareOp .IsNot) rIsNotA := op_notN.or op_notBl
theorem View.eqNon {bv N H v} (h : View bv N H .non v) : v = .non := by cases h; rfl
theorem View.eqBl {bv N H b v} (h : View bv N H (.bl b) v) : v = .bl b := by cases h; rfl
theorem opS_is : OpS rIsA fIs := by
  intro g N H0 L H da db x y Qf Q S va vb hq k
  unfold fIs at hq; split at hq
  · exact .inl ⟨vb.eqNon, by rw [va.isNon hq.1]; exact k.sh S .bl hq.2⟩
  · split at hq
    · exact .inr ⟨_, _, va.eqBl, vb.eqBl, k.sh S .bl hq⟩
    · exact hq.elim
  · exact hq.elim
theorem opS_isNot : OpS rIsNotA fIsNot := by
  intro g N H0 L H da db x y Qf Q S va vb hq k
  unfold fIsNot at hq; split at hq
  · exact .inl ⟨vb.eqNon, by rw [va.isNon hq.1]; exact k.sh S .bl hq.2⟩
  · split at hq
    · exact .inr ⟨_, _, va.eqBl, vb.eqBl, k.sh S .bl hq⟩
    · exact hq.elim
  · exact hq.elim

/-! ### isinstance -/
inductive TN where
  | tuple | int | bool | list | str | dict
deriving DecidableEq
def TN.nm : TN → String
  | .tuple => "tuple"
  | .int => "int"
  | .bool => "bool"
  | .list => "list"
  | .str => "str"
  | .dict => "dict"
def tnOf (x : Str) : Option TN :=
  if x = ("tuple" : Str) then some .tuple else if x = ("int" : Str) then some .int else if x = ("bool" : Str) then some .bool else if x = ("list" : Str) then some .list else if x = ("str" : Str) then some .str else if x = ("dict" : Str) then some .dict else none
theorem tnOf_of {x : Str} {T : TN} (h : tnOf x = some T) : bootBuiltins x = some (.type T.nm) ∧ x ≠ "__name__" ∧ (x == ("__debug__" : Str)) = false := by
  unfold tnOf at h
  split at h
  · cases h; subst x; decide +kernel
  split at h
  · cases h; subst x; decide +kernel
  split at h
  · cases h; subst x; decide +kernel
  split at h
  · cases h; subst x; decide +kernel
  split at h
  · cases h; subst x; decide +kernel
  split at h
  · cases h; subst x; decide +kernel
  · cases h
def tyD : D → Option String
  | .non => some "NoneType"
  | .bl _ => some "bool"
  | .int _ => some "int"
  | .str _ => some "str"
  | .tup _ => some "tuple"
  | .lst _ => some "list"
  | .bag _ => none
  | .scr _ => none
def isiB (d : D) (T : TN) : Bool := match T, d with
  | .tuple, .tup _ => true
  | .int, .int _ => true
  | .int, .bl _ => true
  | .bool, .bl _ => true
  | .list, .lst _ => true
  | .str, .str _ => true
  | _, _ => false
theorem kit_isi {K : PySem.W.Frag} {d : D} {t : String} (T : TN) (h : tyD d = some t) : PySem.W.kitOne K (.type t) (.type T.nm) = some (isiB d T) := by
  refine kit_ty ?_
  cases d <;> simp only [tyD, Option.some.injEq] at h <;> first | (cases h; done) | skip
  all_goals (cases h; cases T <;> first | (change kitB _ _ = some true; decide +kernel) | (change kitB _ _ = some false; decide +kernel))
theorem View.tyx {bv N H d v} (K : PySem.W.Frag) {t : String} (h : View bv N H d v) (ht : tyD d = some t) : TyX K H v (.type t) := by
  cases d <;> simp only [tyD, Option.some.injEq] at ht <;> first | cases ht | skip
  · cases h; exact .base .non
  · cases h; exact .base (.bl _)
  · cases h; exact .base (.int _)
  · cases h; exact .base (.str _)
  · obtain ⟨a, vs, rfl, e, _⟩ := h.tup; exact .base (.tup e)
  · obtain ⟨a, vs, rfl, e, _⟩ := h; exact .base (.lst e)
def wIsi (T : TN) (wa : WE) : WE := fun s Q => wa s fun r s1 => rdW s1 r fun d => bagD d = false ∧ Q (.sh (.bl (isiB d T))) s1
theorem le_isi {X : Cx} {a : Expr} {y : Str} {T : TN} {wa : WE} {p p2 pos : Pos} (hg : Gl X "isinstance") (hm : X.mg "isinstance" = none) (hT : tnOf y = some T) (hg2 : Gl X y) (hm2 : X.mg y = none) (hp : plainE a = true) (ha : LE X a wa) :
    LE X (.Call (.Name "isinstance" p) [a, .Name y p2] [] pos) (wIsi T wa) := by
  obtain ⟨t1, h1, h2⟩ := tnOf_of hT
  obtain ⟨ta, pa, la⟩ := ha.ex
  have pt : PE X (.Name y p2) (tC (.ty T.nm)) := pe_bltn hg2 hm2 t1 rfl h1 h2
  refine ⟨⟨_, pe_callB call_isi hg hm (by decide +kernel) (pa_cons pa (pa_cons pt pa_nil rfl) (star_cons hp)) (by decide) (by decide) (star_cons hp) rfl, ?_⟩⟩
  intro g N H0 s σ P H Qw Q hl S h k
  refine la g N H0 s σ P H _ _ hl S h fun r s1 v H1 hl1 S1 rv hh => ?_
  obtain ⟨d, ⟨nb, hq⟩, vd⟩ := S1.rd (fun p h => List.mem_append_left _ h) hl1 (by simp) rv hh
  obtain ⟨t, ht⟩ : ∃ t, tyD d = some t := by cases d <;> first | exact ⟨_, rfl⟩ | cases nb
  exact ⟨v, .ty T.nm, .type t, .type T.nm, isiB d T, rfl, .ty _, vd.tyx X.K ht, kit_isi T ht, k (.sh (.bl (isiB d T))) s1 _ _ hl1 ((S1.addSh .bl).mid (by simp)) (RVal.ok (fun _ e => by cases e)) hq⟩

/-! ### repr -/
def fRepr : FN := fun ds Q => match ds with
  | [d] => sha d ∧ (toPy d).showable = true ∧ (toPy d).shown.length ≤ sizeLine ∧ Q (.sh (.str (toPy d).shown))
  | _ => False
def rRepr (K : PySem.W.Frag) : List V → Hp → VK → Prop := fun xs H Q => ∃ x d, xs = [x] ∧ Dp K H x d ∧ SeqAt.shaped d = true ∧ d.showable = true ∧ d.shown.length ≤ sizeLine ∧ Q (.str d.shown) H
theorem cr_repr {X : Cx} (hg : X.A.guards = some []) (hu : X.A.units + 100 < cLine) : CallR X (.builtin "repr") (rRepr X.K) := by
  intro pins s σ H xs us Q I r h
  obtain ⟨x, d, rfl, hd, hs, hw, hz, q⟩ := h
  obtain ⟨u, rfl, ru⟩ := vals1 r
  obtain ⟨as, hr⟩ := Dp.reads I d x u hd ru
  have hnd := PyData.hasDict_of_canLay d (SeqAt.canLay_of_shaped hs)
  have hdp := SeqAt.depth_of_shaped hs
  have seq : ∀ a, Reads s.heap (.ref a) d as → wpAny (model X.prog X.w) X.A (call (.builtin "repr") [.ref a]) (EP X pins σ Q) X.xe s := fun a hr =>
    repr_of_reads' hr hw (PyData.noDict_hsm hnd) hg (by omega) (fun _ _ e => e) (fun h' t tk hk => ⟨.str d.shown, H, I.kept (t' := tk) hk, ⟨_, rfl⟩, q⟩) hz
  cases hd with
  | non => cases ru; exact PySem.P.repr_of_none ⟨.str "None", H, I.tok _, ⟨_, rfl⟩, q⟩
  | bl b => cases ru; exact PySem.P.repr_of_bool ⟨.str (PyData.bool b).shown, H, I.tok _, ⟨_, by cases b <;> rfl⟩, q⟩
  | int i => obtain ⟨t, rfl⟩ := ru; exact PySem.P.repr_of_int (of_decide_eq_true hw) ⟨.str (PyData.int i).shown, H, I.tok _, ⟨_, rfl⟩, q⟩
  | str y => obtain ⟨t, rfl⟩ := ru; exact PySem.P.repr_of_str ⟨.str (PyData.str y).shown, H, I.tok _, ⟨_, rfl⟩, q⟩ hz
  | lst a b => cases ru; exact seq _ hr
  | tup a b => cases ru; exact seq _ hr
theorem caS_repr {K : PySem.W.Frag} : CaS (rRepr K) fRepr := by
  intro g N H0 L H ds vs Qf Q S vd hq k
  unfold fRepr at hq; split at hq
  · obtain ⟨v, rfl, h⟩ := vd.one
    obtain ⟨h1, h2, h3, hq⟩ := hq
    exact ⟨v, _, rfl, h.dp K h1, h1, h2, h3, k.sh S .str hq⟩
  · exact hq.elim

/-! ### list(zip(xs, ys)), list(enumerate(xs)) -/
def seqD : D → Option (List D)
  | .lst xs => some xs
  | .tup xs => some xs
  | _ => none
def fLz : FN := fun ds Q => match ds with
  | [a, b] => match seqD a, seqD b with
    | some xs, some ys => Q (.fr (zipD xs ys))
    | _, _ => False
  | _ => False
theorem zipD_len : ∀ {xs ys : List D}, (zipD xs ys).length = min xs.length ys.length
  | [], _ => by simp [zipD]
  | _ :: _, [] => by simp [zipD]
  | x :: xs, y :: ys => by simp [zipD, zipD_len (xs := xs) (ys := ys)]
theorem zipD_num : ∀ (ds : List D) (n : Nat), zipD ((List.range' n ds.length).map fun (i : Nat) => .int (i : Int)) ds = enumD n ds
  | [], _ => rfl
  | d :: ds, n => by
    have := zipD_num ds (n + 1)
    simp only [List.length_cons, List.range'_succ, List.map_cons, zipD, enumD, this]
def numD (n : Nat) : List D := (List.range n).map fun (i : Nat) => .int (i : Int)
def fLen0 : FN := fun ds Q => match ds with
  | [.lst xs] => Q (.fr (enumD 0 xs))
  | _ => False
theorem SR.newG {g : Bag} {N : Addr → Prop} {H0 H H' : Hp} {L : List En} (S : SR g N H0 L H) {p : Addr} (hp : H p = none) (hk : ∀ a o, H a = some o → H' a = some o) {ds vs} (he : H' p = some (.lst vs)) (r : Reps g.bv H' (Nn N ((.ow ds, some (.ref p)) :: L)) ds vs) :
    SR g N H0 ((.ow ds, some (.ref p)) :: L) H' := by
  have S1 : SR g N H0 L H' := by
    refine S.grow (g.loc _ _ (fun a b => ?_) S.hg) fun a o e _ => hk a o e
    have := g.dom H a S.hg b
    cases e : H a with
    | none => rw [e] at this; cases this
    | some o => exact hk a o e
  have h0 := S.h0 hp
  have nf := S.nn_fresh hp
  have hc : ∀ a, cnt a ((Sl.ow ds, some (V.ref p)) :: L) = cnt a L + if a = p then 1 else 0 := fun a => by
    show List.countP _ _ = _
    rw [List.countP_cons]
    by_cases e : a = p
    · subst e; simp [owns]
    · have : owns a (Sl.ow ds, some (V.ref p)) = false := by
        simp only [owns, beq_eq_false_iff_ne, ne_eq, Option.some.injEq, V.ref.injEq]; exact fun z => e z.symm
      simp [this, e]
  have hn : ∀ a o, H a = some o → Nn N ((Sl.ow ds, some (V.ref p)) :: L) a → Nn N L a := fun a o e z => z.elim .inl fun z => by
    rw [hc a, if_neg (ne_of_none e hp)] at z; exact .inr z
  have hk' : ∀ a o, H a = some o → ¬ Nn N L a → H' a = some o := fun a o e _ => hk a o e
  refine ⟨S1.hg, S1.sm, S1.nd, S1.bn, fun q hq => ?_, fun a => ?_⟩
  · rcases List.mem_cons.mp hq with e | h
    · subst e; exact ⟨p, vs, rfl, h0, he, r⟩
    · obtain ⟨s, v⟩ := q
      cases s with
      | un => trivial
      | sh d => obtain ⟨v, e, r⟩ := S.each _ h; exact ⟨v, e, r.mono hk' hn⟩
      | ow es =>
        obtain ⟨a, ws, e, n, h0, hh, r, _⟩ := S.own_n h
        exact ⟨a, ws, e, h0, hk a _ hh, r.mono hk' hn⟩
  · rw [hc a]
    by_cases e : a = p
    · subst e
      have : ¬ 0 < cnt a L := fun z => nf (.inr z)
      have : cnt a L = 0 := by omega
      rw [this, if_pos rfl]
      exact Nat.le_refl _
    · rw [if_neg e]; exact S.dist a
theorem Reps.ofGet {bv H N} : ∀ {ds : List D} {vs : List V}, ds.length = vs.length → (∀ (j : Nat) (d : D) (v : V), ds[j]? = some d → vs[j]? = some v → Rep bv H N d v) → Reps bv H N ds vs
  | [], [], _, _ => .nil
  | d :: ds, v :: vs, hl, h => .cons (h 0 d v rfl rfl) (Reps.ofGet (by simpa using hl) fun j d v a b => h (j + 1) d v (by simpa using a) (by simpa using b))
  | [], _ :: _, hl, _ => by simp at hl
  | _ :: _, [], hl, _ => by simp at hl
theorem SR.pairs {g : Bag} {N : Addr → Prop} {H0 H H' : Hp} {L : List En} {xs ys : List V} {ds es : List D} {p : Addr} (S : SR g N H0 L H) (np : NewPairs H H' xs ys p) (rx : Reps g.bv H (Nn N L) ds xs) (ry : Reps g.bv H (Nn N L) es ys) :
    SR g N H0 ((.ow (zipD ds es), some (.ref p)) :: L) H' := by
  obtain ⟨hk, hp, ps, he, hlen, hj⟩ := np
  have hc : ∀ a, cnt a ((Sl.ow (zipD ds es), some (V.ref p)) :: L) = cnt a L + if a = p then 1 else 0 := fun a => by
    show List.countP _ _ = _
    rw [List.countP_cons]
    by_cases e : a = p
    · subst e; simp [owns]
    · have : owns a (Sl.ow (zipD ds es), some (V.ref p)) = false := by
        simp only [owns, beq_eq_false_iff_ne, ne_eq, Option.some.injEq, V.ref.injEq]; exact fun z => e z.symm
      simp [this, e]
  have hn : ∀ a o, H a = some o → Nn N ((Sl.ow (zipD ds es), some (V.ref p)) :: L) a → Nn N L a := fun a o e z => z.elim .inl fun z => by
    rw [hc a, if_neg (ne_of_none e hp)] at z; exact .inr z
  have hk' : ∀ a o, H a = some o → ¬ Nn N L a → H' a = some o := fun a o e _ => hk a o e
  refine S.newG hp hk he (Reps.ofGet (by rw [zipD_len, hlen, rx.length, ry.length]) fun j d v hd hv => ?_)
  obtain ⟨a, b, h1, h2, rfl⟩ := zipD_get _ _ _ _ hd
  obtain ⟨x, hx, rx1⟩ := rx.get h1
  obtain ⟨y, hy, ry1⟩ := ry.get h2
  obtain ⟨T, hT, n0, hT'⟩ := hj j x y hx hy
  rw [hv] at hT; cases hT
  refine .tup hT' (fun z => ?_) (.cons (rx1.mono hk' hn) (.cons (ry1.mono hk' hn) .nil))
  rcases z with z | z
  · have := S.tracked (.inl z); rw [n0] at this; cases this
  · rw [hc] at z
    by_cases e : T = p
    · subst e; rw [he] at hT'; cases hT'
    · rw [if_neg e] at z
      have := S.tracked (.inr z); rw [n0] at this; cases this
theorem View.seq {bv N H d v xs} (h : View bv N H d v) (e : seqD d = some xs) : ∃ a vs, v = .ref a ∧ Sq H a vs ∧ Reps bv H N xs vs := by
  cases d <;> simp only [seqD] at e <;> first | cases e | skip
  · obtain ⟨a, vs, rfl, e, _, r⟩ := h.tup; exact ⟨a, vs, rfl, .inr e, r⟩
  · obtain ⟨a, vs, rfl, e, r⟩ := h; exact ⟨a, vs, rfl, .inl e, r⟩
def rLz : List V → Hp → VK → Prop := fun vs H Q => ∃ a b xs ys, vs = [.ref a, .ref b] ∧ Sq H a xs ∧ Sq H b ys ∧ ∀ p H', NewPairs H H' xs ys p → Q (.ref p) H'
theorem caS_lz : CaS rLz fLz := by
  intro g N H0 L H ds vs Qf Q S vd hq k
  unfold fLz at hq; split at hq
  · obtain ⟨v, w, rfl, h1, h2⟩ := vd.two
    split at hq
    · obtain ⟨a, xs, rfl, sa, ra⟩ := h1.seq (by assumption)
      obtain ⟨b, ys, rfl, sb, rb⟩ := h2.seq (by assumption)
      exact ⟨a, b, xs, ys, rfl, sa, sb, fun p H' np => k (.fr _) _ _ (S.pairs np ra rb) (fun _ h => nomatch h) hq⟩
    · exact hq.elim
  · exact hq.elim
def rLen0 : List V → Hp → VK → Prop := fun vs H Q => ∃ a xs, vs = [.ref a] ∧ H a = some (.lst xs) ∧ ∀ p H', NewPairs H H' ((List.range xs.length).map fun (i : Nat) => V.int (i : Int)) xs p → Q (.ref p) H'
theorem reps_num {bv H N} (n : Nat) : Reps bv H N (numD n) ((List.range n).map fun (i : Nat) => V.int (i : Int)) := by
  refine Reps.ofGet (by simp [numD]) fun j d v hd hv => ?_
  unfold numD at hd
  rw [List.getElem?_map] at hd hv
  obtain ⟨i, h1, rfl⟩ := Option.map_eq_some_iff.mp hd
  rw [h1] at hv
  cases hv
  exact .int
theorem caS_le : CaS rLen0 fLen0 := by
  intro g N H0 L H ds vs Qf Q S vd hq k
  unfold fLen0 at hq; split at hq
  · obtain ⟨v, rfl, h⟩ := vd.one
    obtain ⟨a, xs, rfl, e, r⟩ := h
    refine ⟨a, xs, rfl, e, fun p H' np => ?_⟩
    rw [← r.length] at np
    rename_i zs
    have e0 : zipD (numD zs.length) zs = enumD 0 zs := by
      unfold numD
      rw [List.range_eq_range']
      exact zipD_num zs 0
    rw [← e0] at hq
    exact k (.fr _) _ _ (S.pairs np (reps_num _) r) (fun _ h => nomatch h) hq
  · exact hq.elim
theorem le_lz {X : Cx} {a b : Expr} {wa : WA} {p p2 pos pos2 : Pos} (hc : X.calm = true) (g1 : Gl X "list") (m1 : X.mg "list" = none) (g2 : Gl X "zip") (m2 : X.mg "zip" = none) (ha : LA X [a, b] wa)
    (hp : plainE a = true) (hp2 : plainE b = true) : LE X (.Call (.Name "list" p) [.Call (.Name "zip" p2) [a, b] [] pos2] [] pos) (wCB fLz wa) := by
  obtain ⟨t, pa, l⟩ := ha.ex
  exact ⟨⟨_, pe_lzip hc g1 m1 g2 m2 pa (star_cons hp) (by rw [star_cons hp2]; rfl), let_cb caS_lz l⟩⟩
theorem le_le {X : Cx} {a : Expr} {wa : WA} {p p2 pos pos2 : Pos} (hc : X.calm = true) (g1 : Gl X "list") (m1 : X.mg "list" = none) (g2 : Gl X "enumerate") (m2 : X.mg "enumerate" = none) (ha : LA X [a] wa)
    (hp : plainE a = true) : LE X (.Call (.Name "list" p) [.Call (.Name "enumerate" p2) [a] [] pos2] [] pos) (wCB fLen0 wa) := by
  obtain ⟨t, pa, l⟩ := ha.ex
  exact ⟨⟨_, pe_lenum hc g1 m1 g2 m2 pa (star_cons hp), let_cb caS_le l⟩⟩
def fLrv : FN := fun ds Q => match ds with
  | [.lst xs] => Q (.fr xs.reverse)
  | _ => False
theorem caS_lrv {K : PySem.W.Frag} : CaS (rLr K) fLrv := by
  intro g N H0 L H ds vs Qf Q S vd hq k
  unfold fLrv at hq; split at hq
  · obtain ⟨v, rfl, h⟩ := vd.one
    obtain ⟨a, xs, rfl, e, r⟩ := h
    exact ⟨a, xs, rfl, SqL.of e, fun p hp => k.fr S r.reverse hq p hp⟩
  · exact hq.elim
theorem le_lrv {X : Cx} {a : Expr} {wa : WA} {p p2 pos pos2 : Pos} (hc : X.calm = true) (g1 : Gl X "list") (m1 : X.mg "list" = none) (g2 : Gl X "reversed") (m2 : X.mg "reversed" = none) (ha : LA X [a] wa)
    (hp : plainE a = true) : LE X (.Call (.Name "list" p) [.Call (.Name "reversed" p2) [a] [] pos2] [] pos) (wCB fLrv wa) := by
  obtain ⟨t, pa, l⟩ := ha.ex
  exact ⟨⟨_, pe_lrev hc g1 m1 g2 m2 pa (star_cons hp), let_cb caS_lrv l⟩⟩
/-! ### xs[::-1] of lists -/
def wRev (wa : WE) : WE := fun s Q => wa s fun r s1 => rdW s1 r fun d => match d with
  | .lst xs => Q (.fr xs.reverse) s1
  | _ => False
theorem le_rev {X : Cx} {a : Expr} {wa : WE} {k : Nat} {p1 p2 p3 pos : Pos} (ha : LE X a wa) : LE X (.Subscript a (.Slice none none (some (.UnaryOp .USub (.Constant (.int 1) k p1) p2)) p3) pos) (wRev wa) := by
  obtain ⟨ta, pa, la⟩ := ha.ex
  refine ⟨⟨_, pe_revL pa, fun g N H0 s σ P H Qw Q hl S h k => ?_⟩⟩
  refine la g N H0 s σ P H _ _ hl S h fun r s1 v H1 hl1 S1 rv hh => ?_
  obtain ⟨d, hq, vd⟩ := S1.rd (fun p h => List.mem_append_left _ h) hl1 (by simp) rv hh
  cases d with
  | lst xs =>
    obtain ⟨b, vs, rfl, e, r⟩ := vd
    exact ⟨b, vs, rfl, SqL.of e, fun p hp => k (.fr xs.reverse) s1 _ _ hl1 ((S1.newL hp r.reverse).mid (by simp)) (RVal.ok (fun _ e => by cases e)) hq⟩
  | _ => exact hq.elim
end LV
namespace LV
open PySem PySem.Spec PyProof.Rows L2

/-! ### the bag's cells are taken, one after the other -/
theorem ne_dist {b l : Addr} {H : Hp} {x y : HO} (n : b ≠ l) : upd (upd H l x) b y l = some x := (upd_ne (Ne.symm n)).trans upd_same
def Bag.few (g : Bag) {b l : Addr} (cells : List Int) (h1 : g.bv.1 = 1) (eb : g.bv.2 = .ref b) (n : b ≠ l) (hB : ∀ a, g.B a ↔ a = b ∨ a = l) (pos : ∀ c ∈ cells, 0 ≤ c) : Bag where
  bv := g.bv
  B := g.B
  G := fun H => ∃ (cs : List Int) (cur mixed : Int), cs <+: cells ∧ H b = some (.lst [.ref l, .int cur, .int mixed]) ∧ H l = some (.lst (cs.map V.int)) ∧ 0 ≤ cur ∧ 0 ≤ mixed ∧ mixed < 2147483647
  dom := fun H a ⟨cs, cur, mixed, _, e1, e2, _⟩ hb => by
    rcases (hB a).mp hb with rfl | rfl
    · rw [e1]; rfl
    · rw [e2]; rfl
  loc := fun H H' hs ⟨cs, cur, mixed, q, e1, e2, r⟩ => ⟨cs, cur, mixed, q, (hs b ((hB b).mpr (.inl rfl))).trans e1, (hs l ((hB l).mpr (.inr rfl))).trans e2, r⟩
  sp := ⟨fun _ => ⟨b, l, fun cs => cs <+: cells, eb, n, hB, fun cs ds p q => q.trans p, fun cs p c hc => pos c (p.subset hc), fun H => Iff.rfl⟩, fun e => by rw [h1] at e; cases e⟩
def wBagW (i j : Nat) (wt : WT) (wb : WS) : WS := fun K s => ∃ I : Sg → Prop, I s ∧ ∀ s, I s → s[i]? = some (.sh (.bag 1)) ∧ wt s fun b s1 => s1[i]? = some (.sh (.bag 1)) ∧ K.nx s1 ∧ (b = true → j < s1.length ∧ ∀ v : Int, 0 ≤ v → wb { nx := I, rt := fun _ => False } (s1.set j (.sh (.int v))))
theorem eqv_nil (cells : List Int) : PyData.eqv (.list (cells.map PyData.int)) (.list []) = cells.isEmpty := by cases cells <;> rfl
theorem dp_ints {K : PySem.W.Frag} {H : Hp} : ∀ cells : List Int, DpAll K H (cells.map V.int) (cells.map PyData.int)
  | [] => .nil
  | c :: cs => .cons (.int c) (dp_ints cs)
theorem lay_ints : ∀ cells : List Int, PyData.canLayAll0 (cells.map PyData.int) = true
  | [] => rfl
  | c :: cs => lay_ints cs
theorem dep_ints : ∀ cells : List Int, PyData.depthAll (cells.map PyData.int) = 0
  | [] => rfl
  | c :: cs => by
    show max 0 (PyData.depthAll (cs.map PyData.int)) = 0
    rw [dep_ints cs]; rfl
theorem sha_ints (cells : List Int) : SeqAt.shaped (.list (cells.map PyData.int)) = true := by
  unfold SeqAt.shaped
  refine Bool.and_eq_true_iff.mpr ⟨lay_ints cells, decide_eq_true ?_⟩
  show PyData.depthAll (cells.map PyData.int) + 1 ≤ 64
  rw [dep_ints]; omega
section
variable {X : Cx} {c1 : Expr} {x y : Str} {i j : Nat} {k1 k2 : Nat} {p1 p2 p3 p4 p5 p6 p7 p8 p9 p10 p11 q1 q2 pos : Pos} {rest : List Stmt} {wt : WT} {wb : WS} {k : Nat}
theorem ls_bagw (hr : Room k X.A) (hp : PassesOwn (model X.prog X.w) X.A X.env X.xe) (hx : ∀ p, PE X (.Name x p) (tVar i)) (hN : X.N.Nodup) (hy : X.N[j]? = some y) (hyl : L2.Loc X.env.scope y) (hfn : X.fn y = true ∨ X.env.scope.names.lookup y = some .local)
    (hc : LT X c1 wt) (hb : LSs X rest wb) (hline : (p9.endLine == p10.line) = true) :
    LS X (.While (.BoolOp .And [c1, .Compare (.Subscript (.Name x p1) (.Constant (.int 0) k1 q1) p2) [.NotEq] [.List [] p3] p4] p5)
      (.Assign [.Name y p6] (.Call (.Attribute (.Subscript (.Name x p7) (.Constant (.int 0) k2 q2) p8) "pop" p9) [] [] p10) p11 :: rest) [] pos) (wBagW i j wt wb) := by
  obtain ⟨tc, pc, lc⟩ := hc.ex
  obtain ⟨tb, pb, lb⟩ := hb.ex
  have ix : ∀ {p kk q pp}, PE X (.Subscript (.Name x p) (.Constant (.int 0) kk q) pp) (tOp (fun x y H Q => rIxL X.K x y H Q ∨ rIxT X.K x y H Q) (tVar i) (tC (.int 0))) := pe_ix (ix_list.or ix_tup) (hx _) pe_int (plainIx rfl)
  have pne : PT X (.Compare (.Subscript (.Name x p1) (.Constant (.int 0) k1 q1) p2) [.NotEq] [.List [] p3] p4) _ := pt_cmpR (op_neD hr.units) ix (pe_lst pa_nil) rfl
  have ppop := pe_bm0 (cpos := p10) PySem.F.plainAttrs_list PySem.F.slot_list_pop PySem.F.type_list_pop mt_pop (ix (p := p7) (kk := k2) (q := q2) (pp := p8)) rfl hline
  refine ⟨⟨_, ps_while hp (pw_and pc (pw_and1 pne)).pt (pss_cons (ps_set hN hy hyl ppop rfl hfn) pb), fun g N H0 s σ P H K D hl S h f => ?_⟩⟩
  obtain ⟨I, hI, step⟩ := h
  have bagAt : ∀ {g' : Bag} {s' : Sg} {σ' : L2.St} {H' : Hp}, g'.bv = g.bv → s'.length = σ'.length → SR g' N H0 (s'.zip σ' ++ P) H' → s'[i]? = some (.sh (.bag 1)) → σ'[i]? = some (some g.bv.2) ∧ g.bv.1 = 1 := fun {g' s' σ' H'} eg e S' hs => by
    obtain ⟨v, hv, hm⟩ := zip_get' e hs
    obtain ⟨w, ew, r⟩ := S'.each _ (List.mem_append_left _ hm)
    simp only at ew
    subst ew
    have r := View.of r
    have e1 := r.bag
    have e2 := r.bag2
    rw [eg] at e1 e2
    exact ⟨by rw [hv, e2], e1⟩
  obtain ⟨_, h1⟩ := bagAt (g' := g) rfl hl S (step s hI).1
  obtain ⟨b, l, CS, eb, n, hB, hpre, hpos, hG⟩ := g.sp.1 h1
  let G := fun (cells : List Int) (pos : ∀ c ∈ cells, 0 ≤ c) => g.few cells h1 eb n hB pos
  have few : ∀ {L : List En} {H' : Hp}, SR g N H0 L H' → ∃ cells pos, CS cells ∧ SR (G cells pos) N H0 L H' := fun {L H'} S' => by
    obtain ⟨cells, cur, mixed, cs, e1, e2, e3⟩ := (hG H').mp S'.hg
    exact ⟨cells, hpos cells cs, cs, ⟨cells, cur, mixed, List.prefix_refl _, e1, e2, e3⟩, S'.sm, S'.nd, S'.bn, S'.each, S'.dist⟩
  have back : ∀ {L : List En} {H' : Hp} {cells pos}, CS cells → SR (G cells pos) N H0 L H' → SR g N H0 L H' := fun {L H' cells pos} cs S' => by
    obtain ⟨ds, cur, mixed, q, e1, e2, e3⟩ := S'.hg
    exact ⟨(hG H').mpr ⟨ds, cur, mixed, hpre _ _ cs q, e1, e2, e3⟩, S'.sm, S'.nd, S'.bn, S'.each, S'.dist⟩
  obtain ⟨cells, pos, cs, S0⟩ := few S
  let W : Nat → L2.St → Hp → Prop := fun m σ' H' => ∃ s' cells pos, s'.length = σ'.length ∧ σ'.length = σ.length ∧ CS cells ∧ cells.length ≤ m ∧ SR (G cells pos) N H0 (s'.zip σ' ++ P) H' ∧ I s'
  refine ⟨W, ⟨_, s, cells, pos, hl, rfl, cs, Nat.le_refl _, S0, hI⟩, fun m σ1 H1 ⟨s1, cells, pos, e1, e2, cs, hm, S1, hI1⟩ => ?_⟩
  refine lc _ N H0 s1 σ1 P H1 _ _ e1 S1 (step s1 hI1).2 fun bt s2 H2 e3 S2 ⟨hs2, hnx, hbody⟩ => ?_
  cases bt with
  | false => exact f.nx s2 σ1 H2 e3 e2 (back cs S2) hnx
  | true =>
    obtain ⟨hj, hbody⟩ := hbody rfl
    obtain ⟨hσ, _⟩ := bagAt (g' := G cells pos) rfl e3 S2 hs2
    rw [eb] at hσ
    obtain ⟨ds, cur, mixed, hq, hb2, hl2, r1, r2, r3⟩ := S2.hg
    refine ⟨.ref b, hσ, .inl ⟨b, _, 0, .ref l, rfl, rfl, SqL.of hb2, rfl, Nat.zero_le _, fun p hp => ?_⟩⟩
    have keepP : ∀ a o, H2 a = some o → upd H2 p (.lst []) a = some o := fun a o e => (upd_ne (ne_of_none e hp)).trans e
    have S3 := S2.fresh hp (o := .lst [])
    refine ⟨_, _, .lst (SqL.of (keepP _ _ hl2)) (dp_ints ds), .lst (SqL.of upd_same) .nil, sha_ints ds, rfl, _, rfl, ?_⟩
    rw [eqv_nil]
    have hgone : ds = [] ∨ ds ≠ [] := by cases ds <;> simp
    rcases hgone with hd | hd
    · rw [hd]; exact f.nx s2 σ1 _ e3 e2 (back cs S3) hnx
    · have he : ds.isEmpty = false := by
        cases ds with
        | nil => exact absurd rfl hd
        | cons _ _ => rfl
      rw [he]
      refine ⟨fun σ' H' => ∃ m', m' < m ∧ W m' σ' H', fun σ' H' h => h, ?_⟩
      have hlast : ∃ c, ds[ds.length - 1]? = some c := ⟨_, List.getElem?_eq_getElem (by have := List.length_pos_iff.mpr hd; omega)⟩
      obtain ⟨c, hc⟩ := hlast
      have hb3 := keepP _ _ hb2
      have hl3 := keepP _ _ hl2
      refine ⟨.ref b, hσ, .inl ⟨b, _, 0, .ref l, rfl, rfl, SqL.of hb3, rfl, .inl ⟨rfl, _, SqL.of hl3⟩, l, ds.map V.int, .int c, rfl, rfl, hl3, by rw [List.length_map, List.getElem?_map, hc]; rfl, ?_⟩⟩
      have hds : ds.dropLast <+: cells := (List.dropLast_prefix ds).trans hq
      have pos' : ∀ z ∈ ds.dropLast, 0 ≤ z := fun z hz => pos z (hds.subset hz)
      have cs' : CS ds.dropLast := hpre _ _ cs hds
      have S4 : SR (G ds.dropLast pos') N H0 (s2.zip σ1 ++ P) (upd (upd H2 p (.lst [])) l (.lst (ds.map V.int).dropLast)) := by
        have S3' := back cs S3
        have q := S3'.grow (H' := upd (upd H2 p (.lst [])) l (.lst (ds.map V.int).dropLast)) ((hG _).mpr ⟨ds.dropLast, cur, mixed, cs', (upd_ne n).trans hb3, by rw [upd_same, List.map_dropLast], r1, r2, r3⟩)
          (fun a o e z => (upd_ne fun w => z ((hB a).mpr (.inr w))).trans e)
        exact ⟨⟨ds.dropLast, cur, mixed, List.prefix_refl _, (upd_ne n).trans hb3, by rw [upd_same, List.map_dropLast], r1, r2, r3⟩, q.sm, q.nd, q.bn, q.each, q.dist⟩
      have hc0 : 0 ≤ c := pos c (hq.subset (List.mem_of_getElem? hc))
      have S5 := SR.put' (P := (Sl.sh (.int c), some (V.int c)) :: P) j e3 (List.mem_cons_self ..) rfl ((S4.addSh (d := .int c) .int).mid (List.Sublist.refl _))
      have S6 := S5.drop1 (B' := P) (List.sublist_cons_self _ _)
      refine lb _ N H0 (s2.set j (.sh (.int c))) (σ1.set j (some (.int c))) P _ _ _ (by simp [e3]) S6 (hbody c hc0) ⟨fun s' σ' H' a1 a2 S' h' => ⟨ds.dropLast.length, ?_, s', ds.dropLast, pos', a1, a2.trans (by simp [e2]), cs', Nat.le_refl _, S', h'⟩, fun _ _ _ _ _ _ h => h.elim, fun _ _ _ _ _ _ h => h.elim, fun _ _ _ _ _ _ h => h.elim⟩
      have := hq.length_le
      have h0 := List.length_pos_iff.mpr hd
      rw [List.length_dropLast]
      omega
end
/-- the loop that takes the cells -/
def isZ : Expr → Bool
  | .Constant (.int i) _ _ => i == 0
  | _ => false
theorem isZ_of {e : Expr} (h : isZ e = true) : ∃ k p, e = .Constant (.int 0) k p := by
  unfold isZ at h
  split at h
  · rename_i i k p
    have : i = 0 := by simpa using h
    subst this
    exact ⟨_, _, rfl⟩
  · cases h
def bagLoop (c : Expr) (body : List Stmt) : Option (Expr × Str × Str × List Stmt) := match c, body with
  | .BoolOp .And [c1, .Compare (.Subscript (.Name x _) z1 _) [.NotEq] [.List [] _] _] _, .Assign [.Name y _] (.Call (.Attribute (.Subscript (.Name x' _) z2 _) m ap) [] [] cp) _ :: rest =>
    if isZ z1 = true ∧ isZ z2 = true ∧ x' = x ∧ m = ("pop" : Str) ∧ (ap.endLine == cp.line) = true then some (c1, x, y, rest) else none
  | _, _ => none
theorem ls_bagLoop {X : Cx} {c c1 : Expr} {body rest : List Stmt} {x y : Str} {i j k : Nat} {wt : WT} {wb : WS} {pos : Pos} (h : bagLoop c body = some (c1, x, y, rest)) (hr : Room k X.A) (hp : PassesOwn (model X.prog X.w) X.A X.env X.xe) (hx : ∀ p, PE X (.Name x p) (tVar i))
    (hN : X.N.Nodup) (hy : X.N[j]? = some y) (hyl : L2.Loc X.env.scope y) (hfn : X.fn y = true ∨ X.env.scope.names.lookup y = some .local) (hc : LT X c1 wt) (hb : LSs X rest wb) : LS X (.While c body [] pos) (wBagW i j wt wb) := by
  unfold bagLoop at h
  split at h
  · split at h
    · rename_i hh
      cases h
      obtain ⟨h1, h2, rfl, rfl, h3⟩ := hh
      obtain ⟨_, _, rfl⟩ := isZ_of h1
      obtain ⟨_, _, rfl⟩ := isZ_of h2
      exact ls_bagw hr hp hx hN hy hyl hfn hc hb h3
    · cases h
  · cases h
end LV
namespace LV
open PySem PySem.Spec PyProof.Rows L2

/-! ### a reading that a meaning makes -/
def tOf (w : WE) : TE := fun σ H Q => ∃ g N H0 s P Qw, s.length = σ.length ∧ SR g N H0 (s.zip σ ++ P) H ∧ w s Qw ∧
  ∀ r s' v H', s'.length = σ.length → SR g N H0 (s'.zip σ ++ (r.sl, some v) :: P) H' → RVal σ r v → Qw r s' → Q v H'
theorem LEt_tOf (w : WE) : LEt (tOf w) w := fun g N H0 s σ P H Qw Q hl S h k => ⟨g, N, H0, s, P, Qw, hl, S, h, k⟩
theorem LE.pe {X e w} (h : LE X e w) : PE X e (tOf w) := by
  obtain ⟨t, p, l⟩ := h.ex
  exact ⟨fun pins s σ H Q I ⟨g, N, H0, sg, P, Qw, hl, S, hw, k⟩ => p.run pins s σ H Q I (l g N H0 sg σ P H Qw Q hl S hw k)⟩
def ttOf (w : WT) : TT := fun σ H Q => ∃ g N H0 s P Qw, s.length = σ.length ∧ SR g N H0 (s.zip σ ++ P) H ∧ w s Qw ∧
  ∀ b s' H', s'.length = σ.length → SR g N H0 (s'.zip σ ++ P) H' → Qw b s' → Q b H'
theorem LTt_ttOf (w : WT) : LTt (ttOf w) w := fun g N H0 s σ P H Qw Q hl S h k => ⟨g, N, H0, s, P, Qw, hl, S, h, k⟩
theorem LTs.pts {X e w} (h : LTs X e w) : PTs X e (ttOf w) := by
  obtain ⟨t, p, l⟩ := h.ex
  exact ⟨fun pins s σ H Q I ⟨g, N, H0, sg, P, Qw, hl, S, hw, k⟩ => p.run pins s σ H Q I (l g N H0 sg σ P H Qw Q hl S hw k)⟩
def tgOf (w : WG) (T : List Nat) : TG := fun v σ H Q => ∃ g N H0 s P d Qg, s.length = σ.length ∧ SR g N H0 (s.zip σ ++ P) H ∧ (Sl.sh d, some v) ∈ P ∧ w d s Qg ∧
  ∀ s' σ' H', s'.length = σ'.length → σ'.length = σ.length → (∀ i, i ∉ T → σ'[i]? = σ[i]?) → SR g N H0 (s'.zip σ' ++ P) H' → Qg s' → Q σ' H'
theorem LGt_tgOf (w : WG) (T : List Nat) : LGt (tgOf w T) w T := fun g N H0 s σ P H d v Qg Q hl S hm h k => ⟨g, N, H0, s, P, d, Qg, hl, S, hm, h, k⟩
theorem LG.pg {X e w T} (h : LG X e w T) : PG X e (tgOf w T) := by
  obtain ⟨t, p, l⟩ := h.ex
  exact ⟨fun pins s σ H v u Q I r ⟨g, N, H0, sg, P, d, Qg, hl, S, hm, hw, k⟩ => p.run pins s σ H v u Q I r (l g N H0 sg σ P H d v Qg Q hl S hm hw k)⟩

/-! ### what is known of the names -/
structure Cxt where
  N : List Str
  sc : Scope
  fnb : Str → Bool
  fns : List (Str × List Str × VS)
  kws : List (Str × Nat × List Str)
  bl : List Str
  md : List (Str × String)
  K : PySem.W.Frag
/-- the places of the keywords among what is given by name -/
def kIx (ps : List Str) (n : Nat) (ks : List Str) : List Nat := (ps.drop n).map fun p => ks.idxOf p
def KwOk (fd : FuncData) (ps : List Str) (n : Nat) (ks : List Str) : Prop := ∀ us ws : List Value, us.length = n → ws.length = ks.length → bindArgs fd ⟨us, ks.zip ws⟩ = pure (ps.zip (us ++ (kIx ps n ks).filterMap fun j => ws[j]?))
structure FnF (X : Cx) (C : Cxt) (k : Nat) (x : Str) (ps : List Str) (F : VS) : Prop where
  ex : ∃ (f : Addr) (fd : FuncData), FnG X.prog X.w X.K X.mg X.base CX0 k f fd ps (lift F) ∧ X.mg x = some (.ref f) ∧ PySem.W.keepIn X.K (.ref f) = true ∧ Binds X.K fd ps [] ∧
    ∀ q ∈ C.kws, q.1 = x → KwOk fd ps q.2.1 q.2.2
structure CF (X : Cx) (C : Cxt) (k : Nat) : Prop where
  hN : X.N = C.N
  nd : C.N.Nodup
  sc : X.env.scope = C.sc
  fn : X.fn = C.fnb
  calm : X.calm = true
  room : Room k X.A
  gd : X.A.guards = some []
  K : X.K = C.K
  bk : X.env.blockKind = .function
  bl : ∀ x ∈ C.bl, X.mg x = none
  md : ∀ p ∈ C.md, X.mg p.1 = some (.builtin p.2)
  fns : ∀ p ∈ C.fns, FnF X C k p.1 p.2.1 p.2.2
section
variable {X : Cx} {C : Cxt} {k : Nat}
/-! names -/
def okName (x : Str) : Bool := !(x == ("__debug__" : Str)) && !(x == ("__classdict__" : Str)) && !(x == ("__name__" : Str))
def visB (sc : Scope) (x : Str) : Bool := match sc.names.lookup x with
  | some .local => true
  | some .cell => true
  | some .free => true
  | _ => false
def glB (sc : Scope) (x : Str) : Bool := match sc.names.lookup x with
  | some .globalImplicit => true
  | _ => false
theorem glB_of (F : CF X C k) {x : Str} (h : glB C.sc x = true) : Gl X x := by
  unfold glB at h
  unfold Gl Env.kindOf
  rw [F.sc]
  split at h <;> first | assumption | cases h
theorem okName_of {x : Str} (h : okName x = true) : (x == ("__debug__" : Str)) = false ∧ (x == ("__classdict__" : Str)) = false ∧ x ≠ ("__name__" : Str) := by
  unfold okName at h
  simp only [Bool.and_eq_true, Bool.not_eq_true'] at h
  exact ⟨h.1.1, h.1.2, fun e => by rw [e] at h; simp at h⟩
def slotOf (C : Cxt) (x : Str) : Option Nat := if okName x && visB C.sc x then (if C.N.idxOf x < C.N.length then some (C.N.idxOf x) else none) else none
theorem idx_get {N : List Str} {x : Str} (h : N.idxOf x < N.length) : N[N.idxOf x]? = some x := by
  rw [List.getElem?_eq_getElem h, List.getElem_idxOf h]
theorem slotOf_of (F : CF X C k) {x : Str} {i : Nat} (h : slotOf C x = some i) : X.N[i]? = some x ∧ Vis X.env.scope x ∧ (x == ("__debug__" : Str)) = false ∧ (x == ("__classdict__" : Str)) = false := by
  unfold slotOf at h
  split at h
  · split at h
    · cases h
      have h0 := Bool.and_eq_true_iff.mp (by assumption)
      have hn := okName_of h0.1
      refine ⟨by rw [F.hN]; exact idx_get (by assumption), ?_, hn.1, hn.2.1⟩
      have hv := h0.2
      unfold visB at hv
      unfold Vis
      rw [F.sc]
      split at hv <;> first | (exact .inl (by assumption)) | (exact .inr (.inl (by assumption))) | (exact .inr (.inr (by assumption))) | cases hv
    · cases h
  · cases h
/-- a slot that may be stored to -/
def tgB (C : Cxt) (x : Str) : Bool := match C.sc.names.lookup x with
  | some .local => true
  | some .cell => C.fnb x
  | _ => false
theorem tgB_of (F : CF X C k) {x : Str} (h : tgB C x = true) : L2.Loc X.env.scope x ∧ (X.fn x = true ∨ X.env.scope.names.lookup x = some .local) := by
  unfold tgB at h
  unfold L2.Loc
  rw [F.sc, F.fn]
  split at h
  · exact ⟨.inl (by assumption), .inr (by assumption)⟩
  · exact ⟨.inr (by assumption), .inl h⟩
  · cases h
def tgOf? (C : Cxt) (x : Str) : Option Nat := if tgB C x = true then (if C.N.idxOf x < C.N.length then some (C.N.idxOf x) else none) else none
theorem tgOf_of (F : CF X C k) {x : Str} {i : Nat} (h : tgOf? C x = some i) : X.N.Nodup ∧ X.N[i]? = some x ∧ L2.Loc X.env.scope x ∧ (X.fn x = true ∨ X.env.scope.names.lookup x = some .local) := by
  unfold tgOf? at h
  split at h
  · split at h
    · cases h
      exact ⟨by rw [F.hN]; exact F.nd, by rw [F.hN]; exact idx_get (by assumption), tgB_of F (by assumption)⟩
    · cases h
  · cases h
end

/-! ### tables -/
def binF (op : Operator) : Option F2 := match op with
  | .Add => some fAdd
  | .Sub => some fSub
  | .Mult => some fMul
  | .FloorDiv => some fDiv
  | .Mod => some fMod
  | .Pow => some fPow
  | _ => none
theorem binF_of {X : Cx} {op : Operator} {f : F2} (h : binF op = some f) : ∃ r, OpR X (binaryOp op) r ∧ OpS r f := by
  cases op <;> first | (cases h; done) | skip
  · cases h; exact ⟨_, op_addA, opS_add⟩
  · cases h; exact ⟨_, op_sub, opS_sub⟩
  · cases h; exact ⟨_, op_mulA, opS_mul⟩
  · cases h; exact ⟨_, op_modN, opS_mod⟩
  · cases h; exact ⟨_, op_pow, opS_pow⟩
  · cases h; exact ⟨_, op_fdivA, opS_div⟩
def cmpF (op : CmpOp) : Option F2 := match op with
  | .Eq => some fEq
  | .NotEq => some fNe
  | .Lt => some fLt
  | .LtE => some fLe
  | .Gt => some fGt
  | .GtE => some fGe
  | .Is => some fIs
  | .IsNot => some fIsNot
  | _ => none
theorem cmpF_of {X : Cx} {k : Nat} (hr : Room k X.A) {op : CmpOp} {f : F2} (h : cmpF op = some f) : ∃ r, OpR X (compareOp op) r ∧ OpS r f := by
  cases op <;> first | (cases h; done) | skip
  · cases h; exact ⟨_, op_eqA hr.units, opS_eq⟩
  · cases h; exact ⟨_, op_neA hr.units, opS_ne⟩
  · cases h; exact ⟨_, op_lt, opS_CI⟩
  · cases h; exact ⟨_, op_le, opS_CI⟩
  · cases h; exact ⟨_, op_gt, opS_CI⟩
  · cases h; exact ⟨_, op_ge, opS_CI⟩
  · cases h; exact ⟨_, op_isA, opS_is⟩
  · cases h; exact ⟨_, op_isNotA, opS_isNot⟩
def constD (c : Const) : Option D := match c with
  | .int i => some (.int i)
  | .bool b => some (.bl b)
  | .none => some .non
  | .str x => some (.str x)
  | _ => none
theorem constD_of {X : Cx} {c : Const} {d : D} (h : constD c = some d) {j pos} : ∃ v, PE X (.Constant c j pos) (tC v) ∧ ∀ bv H N, Rep bv H N d v := by
  cases c <;> first | (cases h; done) | skip
  · cases h; exact ⟨_, pe_non, fun _ _ _ => .non⟩
  · cases h; exact ⟨_, pe_bl, fun _ _ _ => .bl⟩
  · cases h; exact ⟨_, pe_int, fun _ _ _ => .int⟩
  · cases h; exact ⟨_, pe_str, fun _ _ _ => .str⟩
/-- built-ins by name -/
def bltF (x : Str) : Option FN :=
  if x = ("len" : Str) then some fLen else if x = ("abs" : Str) then some fAbs else if x = ("int" : Str) then some fInt else if x = ("list" : Str) then some fList else if x = ("tuple" : Str) then some fTuple
  else if x = ("sum" : Str) then some fSum else if x = ("max" : Str) then some fMax else if x = ("min" : Str) then some fMin else if x = ("all" : Str) then some fAll else if x = ("any" : Str) then some fAny else if x = ("repr" : Str) then some fRepr else none
theorem bltF_of {X : Cx} {k : Nat} (hc : X.calm = true) (hgd : X.A.guards = some []) (hr : Room k X.A) {x : Str} {f : FN} (h : bltF x = some f) : ∃ r, CaS r f ∧ ((∃ id, CallR X (.builtin id) r ∧ bootBuiltins x = some (.builtin id)) ∨ (∃ T, CallR X (.type T) r ∧ bootBuiltins x = some (.type T))) := by
  unfold bltF at h
  split at h
  · cases h; subst x; exact ⟨_, caS_len (K := X.K), .inl ⟨_, call_len_seq, by decide +kernel⟩⟩
  split at h
  · cases h; subst x; exact ⟨_, caS_abs, .inl ⟨_, call_abs, by decide +kernel⟩⟩
  split at h
  · cases h; subst x; exact ⟨_, caS_int, .inr ⟨_, call_int1, by decide +kernel⟩⟩
  split at h
  · cases h; subst x; exact ⟨_, caS_list (K := X.K), .inr ⟨_, call_list_of, by decide +kernel⟩⟩
  split at h
  · cases h; subst x; exact ⟨_, caS_tuple (K := X.K), .inr ⟨_, call_tuple_of, by decide +kernel⟩⟩
  split at h
  · cases h; subst x; exact ⟨_, caS_sum (K := X.K), .inl ⟨_, cr_sum hc, by decide +kernel⟩⟩
  split at h
  · cases h; subst x; exact ⟨_, caS_max (K := X.K), .inl ⟨_, (cr_max hc).or (call_max2 hc), by decide +kernel⟩⟩
  split at h
  · cases h; subst x; exact ⟨_, caS_min (K := X.K), .inl ⟨_, (cr_min hc).or (call_min2 hc), by decide +kernel⟩⟩
  split at h
  · cases h; subst x; exact ⟨_, caS_all (K := X.K), .inl ⟨_, cr_all hc, by decide +kernel⟩⟩
  split at h
  · cases h; subst x; exact ⟨_, caS_any (K := X.K), .inl ⟨_, cr_any hc, by decide +kernel⟩⟩
  split at h
  · cases h; subst x; exact ⟨_, caS_repr (K := X.K), .inl ⟨_, cr_repr hgd (by have := hr.un; omega), by decide +kernel⟩⟩
  · cases h
def mdF (id : String) : Option FN := if id = "math.gcd" then some fGcd else none
theorem mdF_of {X : Cx} {id : String} {f : FN} (h : mdF id = some f) : ∃ r, CaS r f ∧ CallR X (.builtin id) r := by
  unfold mdF at h
  split at h
  · cases h; subst id; exact ⟨_, caS_gcd, cr_gcd⟩
  · cases h
end LV
namespace LV
open PySem PySem.Spec PyProof.Rows L2

/-- a call whose later arguments stand by name -/
def wCallK (F : VS) (n : Nat) (ix : List Nat) (wa : WA) : WE := fun s Q => wa s fun rs s1 => fzL s1 rs fun ds s2 => F (ds.take n ++ ix.filterMap fun j => (ds.drop n)[j]?) fun r => Q r s2
/-- what stands by place, then what stands by name -/
def wApp (wa wk : WA) : WA := fun s Q => wa s fun rs s1 => wk s1 fun zs s2 => Q (rs ++ zs) s2
def blkCxt (C : Cxt) (scope : Scope) : Cxt := { C with sc := relS scope C.sc, fnb := fun x => scope.names.lookup x == some .cell }
def ownOf (C : Cxt) (scope : Scope) : List (Str × Nat) := scope.names.filterMap fun (y, k) => if (k == .local || k == .cell) && decide (C.N.idxOf y < C.N.length) then some (y, C.N.idxOf y) else none
def isTup : Expr → Bool
  | .Tuple .. => true
  | _ => false

def cCall (C : Cxt) (x : Str) (es : List Expr) (wa : WA) : Option WE :=
  match C.fns.find? fun p => decide (p.1 = x) with
  | some (_, ps, F) => if es.length = ps.length then some (wCall F wa) else none
  | none => match es with
    | [] => none
    | _ :: _ => if x ∈ C.bl then (bltF x).map fun f => wCB f wa else match C.md.find? fun p => decide (p.1 = x) with
      | some (_, id) => (mdF id).map fun f => wCB f wa
      | none => none
def cCallK (C : Cxt) (x : Str) (es : List Expr) (kws : List Keyword) (wa wk : WA) : Option WE :=
  match C.fns.find? fun p => decide (p.1 = x) with
  | some (_, ps, F) => if 0 < kws.length ∧ (kws.filterMap (·.arg)).length = kws.length ∧ es.length + kws.length = ps.length ∧ (x, es.length, kws.filterMap (·.arg)) ∈ C.kws then some (wCallK F es.length (kIx ps es.length (kws.filterMap (·.arg))) (wApp wa wk)) else none
  | none => none
/-- isinstance(e, T) -/
def isiArgs (C : Cxt) (x : Str) (es : List Expr) : Option (Expr × TN) := match es with
  | [a, .Name y _] => if x = ("isinstance" : Str) ∧ x ∈ C.bl ∧ y ∈ C.bl ∧ glB C.sc y = true ∧ plainE a = true then (tnOf y).map fun T => (a, T) else none
  | _ => none
/-- list(zip(a, b)), list(enumerate(a)) -/
def lzArgs (C : Cxt) (x : Str) (es : List Expr) : Option (List Expr × FN) := match es with
  | [.Call (.Name y _) [a] [] _] => if x = ("list" : Str) ∧ y = ("enumerate" : Str) ∧ x ∈ C.bl ∧ y ∈ C.bl ∧ glB C.sc y = true ∧ plainE a = true then some ([a], fLen0)
    else if x = ("list" : Str) ∧ y = ("reversed" : Str) ∧ x ∈ C.bl ∧ y ∈ C.bl ∧ glB C.sc y = true ∧ plainE a = true then some ([a], fLrv) else none
  | [.Call (.Name y _) [a, b] [] _] => if x = ("list" : Str) ∧ y = ("zip" : Str) ∧ x ∈ C.bl ∧ y ∈ C.bl ∧ glB C.sc y = true ∧ plainE a = true ∧ plainE b = true then some ([a, b], fLz) else none
  | _ => none
def isM1 : Expr → Bool
  | .UnaryOp .USub (.Constant (.int i) _ _) _ => i == 1
  | _ => false
mutual
def cE (C : Cxt) : Nat → Expr → Option WE
  | 0, _ => none
  | n + 1, e => match e with
    | .Name x _ => (slotOf C x).map wV
    | .Constant c _ _ => (constD c).map wC
    | .BinOp a op b _ => do
      let f ← binF op
      let wa ← cE C n a
      let wb ← cE C n b
      return wOp f wa wb
    | .UnaryOp .USub a _ => do
      let wa ← cE C n a
      return wUn fNeg wa
    | .UnaryOp .Not a _ => do
      let wa ← cE C n a
      return wNotV wa
    | .Compare a [op] [b] _ => if behindInMarks op b = true then none else do
      let f ← cmpF op
      let wa ← cE C n a
      let wb ← cE C n b
      return wOp f wa wb
    | .BoolOp .And es _ => cAndV C n es
    | .BoolOp .Or es _ => cOrV C n es
    | .IfExp c a b _ => do
      let wt ← cT C n c
      let wa ← cE C n a
      let wb ← cE C n b
      return wIf wt wa wb
    | .Subscript a (.Slice lo hi none _) _ => do
      let wa ← cE C n a
      let wl ← cO C n lo
      let wh ← cO C n hi
      return wSl C.K wa wl wh
    | .Subscript a (.Slice none none (some st) _) _ => if isM1 st = true then do
        let wa ← cE C n a
        return wRev wa
      else none
    | .Subscript a b _ => if notSlice b = true then do
        let wa ← cE C n a
        let wb ← cE C n b
        return wOp fIx wa wb
      else none
    | .Tuple es _ _ => do
      let wa ← cA C n es
      return wTup wa
    | .List es _ => do
      let wa ← cA C n es
      return wLst wa
    | .Call (.Name x _) es [] _ => if okName x = true ∧ glB C.sc x = true then
        match isiArgs C x es with
        | some (a, T) => do
          let wa ← cE C n a
          return wIsi T wa
        | none => match lzArgs C x es with
          | some (zs, f) => (cA C n zs).bind fun wa => some (wCB f wa)
          | none => (cA C n es).bind fun wa => cCall C x es wa
      else none
    | .Call (.Name x _) es kws _ => if okName x = true ∧ glB C.sc x = true then
        (cA C n es).bind fun wa => (cA C n (kws.map (·.value))).bind fun wk => cCallK C x es kws wa wk
      else none
    | .Call (.Attribute o m ap) [] [] cp => if m = ("pop" : Str) ∧ notCall o = true ∧ (ap.endLine == cp.line) = true then do
        let wo ← cE C n o
        return wPop wo
      else none
    | .Call (.Attribute o m ap) [c] [] cp => if m = ("append" : Str) ∧ notCall o = true ∧ (ap.endLine == cp.line) = true ∧ plainE c = true then do
        let wo ← cE C n o
        let wa ← cE C n c
        return wAppend wo wa
      else none
    | .ListComp elt [⟨tg, iter, ifs, 0⟩] scope _ => if notSet iter = true ∧ blkC C.N C.sc scope (ownOf C scope) = true then do
        let (wa, z) ← cI C n tg iter
        let (wg, T) ← cG (blkCxt C scope) n tg
        let wt ← cTs (blkCxt C scope) n ifs
        let we ← cE (blkCxt C scope) n elt
        if T.all (fun i => ((ownOf C scope).map (·.2)).contains i) then some (wLc wa z ((ownOf C scope).map (·.2)) wg wt we) else none
      else none
    | _ => none
def cO (C : Cxt) : Nat → Option Expr → Option WO
  | 0, _ => none
  | n + 1, e => match e with
    | none => some wONone
    | some e => do
      let w ← cE C n e
      return wOSome w
def cA (C : Cxt) : Nat → List Expr → Option WA
  | 0, _ => none
  | n + 1, es => match es with
    | [] => some wNil
    | e :: es => if plainE e = true then do
        let w ← cE C n e
        let u ← cA C n es
        return wCons w u
      else none
def cAndV (C : Cxt) : Nat → List Expr → Option WE
  | 0, _ => none
  | n + 1, es => match es with
    | [] => none
    | [e] => cE C n e
    | e :: es => do
      let w ← cE C n e
      let u ← cAndV C n es
      return wAndV w u
def cOrV (C : Cxt) : Nat → List Expr → Option WE
  | 0, _ => none
  | n + 1, es => match es with
    | [] => none
    | [e] => cE C n e
    | e :: es => do
      let w ← cE C n e
      let u ← cOrV C n es
      return wOrV w u
def cT (C : Cxt) : Nat → Expr → Option WT
  | 0, _ => none
  | n + 1, e => match e with
    | .Compare a [op] [b] _ => if behindInMarks op b = true then none else do
      let f ← cmpF op
      let wa ← cE C n a
      let wb ← cE C n b
      return wTst (wOp f wa wb)
    | .UnaryOp .Not a _ => do
      let w ← cT C n a
      return wNot w
    | .BoolOp .And es _ => cAnd C n es
    | .BoolOp .Or es _ => cOr C n es
    | e => if truE e = true then do
        let w ← cE C n e
        return wTru w
      else none
def cAnd (C : Cxt) : Nat → List Expr → Option WT
  | 0, _ => none
  | n + 1, es => match es with
    | [] => none
    | [e] => cT C n e
    | e :: es => do
      let w ← cT C n e
      let u ← cAnd C n es
      return wAnd w u
def cOr (C : Cxt) : Nat → List Expr → Option WT
  | 0, _ => none
  | n + 1, es => match es with
    | [] => none
    | [e] => cT C n e
    | e :: es => do
      let w ← cT C n e
      let u ← cOr C n es
      return wOr w u
def cTs (C : Cxt) : Nat → List Expr → Option WT
  | 0, _ => none
  | n + 1, es => match es with
    | [] => some wYes
    | [e] => cT C n e
    | _ => none
def cI (C : Cxt) : Nat → Expr → Expr → Option (WA × ZF)
  | 0, _, _ => none
  | n + 1, tg, e => match e with
    | .Call (.Name x _) [a] [] _ => if x = ("range" : Str) then (if glB C.sc x = true ∧ x ∈ C.bl ∧ plainE a = true then do
          let w ← cA C n [a]
          return (w, zRng1)
        else none)
      else if x = ("enumerate" : Str) then (if glB C.sc x = true ∧ x ∈ C.bl ∧ plainE a = true ∧ isTup tg = true then do
          let w ← cA C n [a]
          return (w, zEnum)
        else none)
      else do
        let w ← cE C n e
        return (w1 w, zSeq)
    | .Call (.Name x _) [a, b] [] _ => if x = ("range" : Str) then (if glB C.sc x = true ∧ x ∈ C.bl ∧ plainE a = true ∧ plainE b = true then do
          let w ← cA C n [a, b]
          return (w, zRng2)
        else none)
      else if x = ("zip" : Str) then (if glB C.sc x = true ∧ x ∈ C.bl ∧ plainE a = true ∧ plainE b = true ∧ isTup tg = true then do
          let w ← cA C n [a, b]
          return (w, zZip)
        else none)
      else do
        let w ← cE C n e
        return (w1 w, zSeq)
    | e => do
      let w ← cE C n e
      return (w1 w, zSeq)
def cG (C : Cxt) : Nat → Expr → Option (WG × List Nat)
  | 0, _ => none
  | n + 1, e => match e with
    | .Name x _ => (tgOf? C x).map fun i => (gN i, [i])
    | .Tuple es _ _ => if es.all plainE = true then do
        let (u, T) ← cGs C n es
        return (gTu u es.length, T)
      else none
    | .Subscript o i _ => if notSlice i = true then do
        let wo ← cE C n o
        let wi ← cE C n i
        return (gIx wo wi, [])
      else none
    | _ => none
def cGs (C : Cxt) : Nat → List Expr → Option (WGs × List Nat)
  | 0, _ => none
  | n + 1, es => match es with
    | [] => some (gNi, [])
    | e :: es => do
      let (w, T) ← cG C n e
      let (u, U) ← cGs C n es
      return (gCo w u, T ++ U)
end
end LV
namespace LV
open PySem PySem.Spec PyProof.Rows L2

/-! ### calls -/
section
variable {X : Cx} {C : Cxt} {k : Nat} {pos : Pos}
/-- .. and how many -/
def LAn (n : Nat) (t : TA) (w : WA) : Prop := ∀ (g : Bag) (N : Addr → Prop) (H0 : Hp) (s : Sg) (σ : L2.St) (P : List En) (H : Hp) (Qw : List RV → Sg → Prop) (Q : List V → Hp → Prop), s.length = σ.length → SR g N H0 (s.zip σ ++ P) H → w s Qw →
  (∀ rs s' vs H', s'.length = σ.length → SR g N H0 (s'.zip σ ++ (pend rs vs ++ P)) H' → RVals σ rs vs → vs.length = n → Qw rs s' → Q vs H') → t σ H Q
theorem LAn.to {n : Nat} {t : TA} {w : WA} (h : LAn n t w) : LAt t w := fun g N H0 s σ P H Qw Q hl S hw k => h g N H0 s σ P H Qw Q hl S hw fun rs s' vs H' a b c _ d => k rs s' vs H' a b c d
structure LAs (X : Cx) (es : List Expr) (w : WA) : Prop where
  ex : ∃ t, PA X es t ∧ LAn es.length t w
theorem LAs.to {es : List Expr} {w : WA} (h : LAs X es w) : LA X es w := let ⟨t, p, l⟩ := h.ex; ⟨⟨t, p, l.to⟩⟩
structure LK' (X : Cx) (kws : List Keyword) (w : WA) : Prop where
  ex : ∃ t, PK X kws t ∧ LAn kws.length t w
theorem lan_nil : LAn 0 tNil wNil := fun g N H0 s σ P H Qw Q hl S h k => k [] s [] H hl S .nil rfl h
theorem lk_nil : LK' X [] wNil := ⟨⟨_, pk_nil, lan_nil⟩⟩
theorem las_nil : LAs X [] wNil := ⟨⟨_, pa_nil, lan_nil⟩⟩
theorem lan_cons {n : Nat} {ta : TE} {tr : TA} {wa : WE} {wr : WA} (la : LEt ta wa) (lr : LAn n tr wr) : LAn (n + 1) (tCons ta tr) (wCons wa wr) := fun g N H0 s σ P H Qw Q hl S h k => by
  refine la g N H0 s σ P H _ _ hl S h fun r s1 v H1 hl1 S1 rv h1 => ?_
  refine lr g N H0 s1 σ ((r.sl, some v) :: P) H1 _ _ hl1 S1 h1 fun rs s2 vs H2 hl2 S2 rvs hn h2 => ?_
  refine k (r :: rs) s2 (v :: vs) H2 hl2 (S2.perm ?_) (.cons rv rvs) (by simp [hn]) h2
  exact List.Perm.append_left _ (List.perm_middle)
theorem lk_cons {e : Expr} {kws : List Keyword} {nm : Option Str} {kpos : Pos} {wa : WE} {wr : WA} (ha : LE X e wa) (hr : LK' X kws wr) : LK' X (⟨nm, e, kpos⟩ :: kws) (wCons wa wr) := by
  obtain ⟨ta, pa, la⟩ := ha.ex
  obtain ⟨tr, pr, lr⟩ := hr.ex
  exact ⟨⟨_, pk_cons pa pr, lan_cons la lr⟩⟩
theorem las_cons {e : Expr} {es : List Expr} {wa : WE} {wr : WA} (ha : LE X e wa) (hr : LAs X es wr) (hs : plainE e = true) : LAs X (e :: es) (wCons wa wr) := by
  obtain ⟨ta, pa, la⟩ := ha.ex
  obtain ⟨tr, pr, lr⟩ := hr.ex
  exact ⟨⟨_, pa_cons pa pr (star_cons hs), lan_cons la lr⟩⟩
theorem pend_app : ∀ {rs rs' : List RV} {vs vs' : List V}, rs.length = vs.length → pend (rs ++ rs') (vs ++ vs') = pend rs vs ++ pend rs' vs'
  | [], _, [], _, _ => rfl
  | r :: rs, rs', v :: vs, vs', h => by simp [pend, pend_app (rs := rs) (vs := vs) (by simpa using h)]
  | [], _, _ :: _, _, h => by simp at h
  | _ :: _, _, [], _, h => by simp at h
theorem RVals.app {σ : L2.St} : ∀ {rs rs' : List RV} {vs vs' : List V}, RVals σ rs vs → RVals σ rs' vs' → RVals σ (rs ++ rs') (vs ++ vs')
  | _, _, _, _, .nil, h => h
  | _, _, _, _, .cons a b, h => .cons a (RVals.app b h)
theorem le_call0 {x : Str} {p : Pos} {ps : List Str} {F : VS} (cf : CF X C k) (hf : FnF X C k x ps F) (hn : okName x = true) (hg : glB C.sc x = true) : LE X (.Call (.Name x p) [] [] pos) (wCall F wNil) := by
  obtain ⟨f, fd, ok, mg, kp, bd, _⟩ := hf.ex
  have hn := okName_of hn
  exact ⟨⟨_, pe_callG0 ok cf.gd cf.room (glB_of cf hg) mg kp bd pass0 hn.1, let_call fun g N H0 s σ P H Qw Q hl S h kk => kk [] s [] H hl S .nil h⟩⟩
theorem le_call {x : Str} {p : Pos} {e : Expr} {es : List Expr} {ps : List Str} {F : VS} {wa : WA} (cf : CF X C k) (hf : FnF X C k x ps F) (hn : okName x = true) (hg : glB C.sc x = true) (ha : LA X (e :: es) wa) (hp : (e :: es).all plainE = true) : LE X (.Call (.Name x p) (e :: es) [] pos) (wCall F wa) := by
  obtain ⟨f, fd, ok, mg, kp, bd, _⟩ := hf.ex
  obtain ⟨t, pa, l⟩ := ha.ex
  have hn := okName_of hn
  have hp' := Bool.and_eq_true_iff.mp hp
  exact ⟨⟨_, pe_callG ok cf.gd cf.room (glB_of cf hg) mg kp bd pass0 pa hn.1 (star_cons hp'.1) (star_plain hp'.2).1, let_call l⟩⟩
/-! keywords -/
def gK {α : Type} (n m : Nat) (ix : List Nat) (us ws : List α) : List α := if us.length = n ∧ ws.length = m then us ++ ix.filterMap fun j => ws[j]? else []
theorem vals_pick {zs : List V} {ws : List Value} (r : Vals zs ws) : ∀ ix : List Nat, Vals (ix.filterMap fun j => zs[j]?) (ix.filterMap fun j => ws[j]?)
  | [] => .nil
  | j :: ix => by
    have ih := vals_pick r ix
    simp only [List.filterMap_cons]
    cases e : zs[j]? with
    | none => rw [r.none_of e]; exact ih
    | some z =>
      obtain ⟨u, h1, h2⟩ := r.get e
      rw [h1]
      exact .cons h2 ih
theorem kbinds {K : PySem.W.Frag} {fd : FuncData} {ps ks : List Str} {n : Nat} (h : KwOk fd ps n ks) (hp : 0 < ps.length) : KBinds K fd ps ks (gK n ks.length (kIx ps n ks)) (gK n ks.length (kIx ps n ks)) where
  to := fun s us ws _ hl => by
    unfold gK at hl ⊢
    split at hl
    · rw [if_pos (by assumption)]
      exact .of_eq (h us ws (by rename_i q; exact q.1) (by rename_i q; exact q.2))
    · simp at hl; omega
  rel := fun {vs us zs ws} r rz => by
    unfold gK
    rw [r.length, rz.length]
    split
    · exact r.append (vals_pick rz _)
    · exact .nil
theorem kw_all {kws : List Keyword} {env : Env} (h : (kws.filterMap (·.arg)).length = kws.length) : (backToKw pos (keywordEach kws env)).all (·.1.isSome) = true ∧ (backToKw pos (keywordEach kws env)).filterMap (·.1) = kws.filterMap (·.arg) ∧ (backToKw pos (keywordEach kws env)).any (·.1.isNone) = false := by
  induction kws with
  | nil => exact ⟨rfl, rfl, rfl⟩
  | cons q kws ih =>
    obtain ⟨a, v, p⟩ := q
    cases a with
    | none =>
      have := List.length_filterMap_le (fun x : Keyword => x.arg) kws
      simp at h; omega
    | some a =>
      have h' : (kws.filterMap (·.arg)).length = kws.length := by simpa using h
      obtain ⟨i1, i2, i3⟩ := ih h'
      obtain ⟨z, e⟩ : ∃ z, backToKw pos (keywordEach (⟨some a, v, p⟩ :: kws) env) = (some a, z) :: backToKw pos (keywordEach kws env) := ⟨_, rfl⟩
      rw [e]
      simp only [List.all_cons, List.filterMap_cons, List.any_cons, i1, i2, i3]
      simp
theorem reps_pick {bv H N} {ds : List D} {vs : List V} (r : Reps bv H N ds vs) : ∀ ix : List Nat, Reps bv H N (ix.filterMap fun j => ds[j]?) (ix.filterMap fun j => vs[j]?)
  | [] => .nil
  | j :: ix => by
    have ih := reps_pick r ix
    simp only [List.filterMap_cons]
    cases e : ds[j]? with
    | none =>
      have : vs[j]? = none := by
        have := r.length
        rw [List.getElem?_eq_none_iff] at e ⊢; omega
      rw [this]; exact ih
    | some z =>
      obtain ⟨u, h1, h2⟩ := r.get e
      rw [h1]
      exact .cons h2 ih
theorem let_callK {F : VS} {wa wk : WA} {t tk : TA} {E : XK} {n m : Nat} {ix : List Nat} (l : LAn n t wa) (lk : LAn m tk wk) :
    LEt (tCallK (lift F) (gK n m ix) E t tk) (wCallK F n ix (wApp wa wk)) := fun g N H0 s σ P H Qw Q hl S h k => by
  refine l g N H0 s σ P H _ _ hl S h fun rs s1 vs H1 hl1 S1 rv hv h1 => ?_
  refine lk g N H0 s1 σ _ H1 _ _ hl1 S1 h1 fun zs s2 ws H2 hl2 S2 rz hw h2 => ?_
  have S3 : SR g N H0 (s2.zip σ ++ ([] ++ (pend (rs ++ zs) (vs ++ ws) ++ P))) H2 := by
    rw [pend_app rv.length]
    simp only [List.nil_append, List.append_assoc]
    exact S2.perm (List.Perm.append_left _ (List.perm_append_comm_assoc _ _ _))
  obtain ⟨ds, s3, h3, hl3, hd, S4⟩ := SR.fzs (A := []) hl2 S3 (rv.app rz) h2
  have r := S4.reps hd (fun p hp => by simp [hp])
  have ev : gK n m ix vs ws = (vs ++ ws).take n ++ ix.filterMap fun j => ((vs ++ ws).drop n)[j]? := by
    unfold gK
    rw [if_pos ⟨hv, hw⟩, ← hv, List.take_left, List.drop_left]
  refine ⟨g, _, _, _, ?_, S4.hg, fun a b => .inl (S4.bn a b), fun a h => S4.tracked h, h3, fun r v H' h4 hs hg hr => ?_⟩
  · rw [ev]
    exact (r.take n).append (reps_pick (r.drop n) ix)
  · obtain ⟨S5, ha⟩ := S4.res hg hs hr
    exact k r s3 v H' hl3 (S5.mid (List.sublist_append_right (pendD ds (vs ++ ws)) P)) (RVal.ok ha) h4
theorem le_callK {x : Str} {p : Pos} {es : List Expr} {kws : List Keyword} {ps : List Str} {F : VS} {wa wk : WA} (cf : CF X C k) (hf : FnF X C k x ps F) (hn : okName x = true) (hg : glB C.sc x = true) (ha : LAs X es wa) (hp : es.all plainE = true) (hk : LK' X kws wk)
    (h0 : 0 < kws.length) (h1 : (kws.filterMap (·.arg)).length = kws.length) (h2 : es.length + kws.length = ps.length) (h3 : (x, es.length, kws.filterMap (·.arg)) ∈ C.kws) (hnil : es = [] → wa = wNil) :
    LE X (.Call (.Name x p) es kws pos) (wCallK F es.length (kIx ps es.length (kws.filterMap (·.arg))) (wApp wa wk)) := by
  obtain ⟨f, fd, ok, mg, kp, bd, hkw⟩ := hf.ex
  obtain ⟨t, pa, l⟩ := ha.ex
  obtain ⟨tk, pk, l2⟩ := hk.ex
  have hn := okName_of hn
  have kb := kbinds (K := X.K) (hkw _ h3 rfl) (by omega)
  obtain ⟨k1, k2, k3⟩ := kw_all (pos := pos) (env := X.env) h1
  rw [h1] at kb
  cases es with
  | nil =>
    have lnil : LAn 0 tNil wa := by rw [hnil rfl]; exact lan_nil
    exact ⟨⟨_, pe_callKG0 ok cf.gd cf.room (glB_of cf hg) mg kp kb pass0 pk k1 k2 k3 hn.1, let_callK lnil l2⟩⟩
  | cons e es =>
    have hp' := Bool.and_eq_true_iff.mp hp
    refine ⟨⟨_, pe_callKG ok cf.gd cf.room (glB_of cf hg) mg kp kb pass0 pa pk k1 k2 hn.1 (star_cons hp'.1) ?_, let_callK l l2⟩⟩
    rw [(star_plain hp).1, k3]; rfl
end

/-! ### the meaning is the model's -/
structure Snd (n : Nat) : Prop where
  e : ∀ {X : Cx} {C : Cxt} {k : Nat}, CF X C k → ∀ {e w}, cE C n e = some w → LE X e w
  o : ∀ {X : Cx} {C : Cxt} {k : Nat}, CF X C k → ∀ {e w}, cO C n e = some w → LO X e w
  a : ∀ {X : Cx} {C : Cxt} {k : Nat}, CF X C k → ∀ {es w}, cA C n es = some w → LAs X es w ∧ es.all plainE = true ∧ (es = [] → w = wNil)
  kw : ∀ {X : Cx} {C : Cxt} {k : Nat}, CF X C k → ∀ {kws : List Keyword} {w}, cA C n (kws.map (·.value)) = some w → LK' X kws w
  andV : ∀ {X : Cx} {C : Cxt} {k : Nat}, CF X C k → ∀ {es w}, cAndV C n es = some w → ∀ pos, LE X (.BoolOp .And es pos) w
  orV : ∀ {X : Cx} {C : Cxt} {k : Nat}, CF X C k → ∀ {es w}, cOrV C n es = some w → ∀ pos, LE X (.BoolOp .Or es pos) w
  t : ∀ {X : Cx} {C : Cxt} {k : Nat}, CF X C k → ∀ {e w}, cT C n e = some w → LT X e w
  and : ∀ {X : Cx} {C : Cxt} {k : Nat}, CF X C k → ∀ {es w}, cAnd C n es = some w → ∀ pos, LW X (.BoolOp .And es pos) w
  or : ∀ {X : Cx} {C : Cxt} {k : Nat}, CF X C k → ∀ {es w}, cOr C n es = some w → ∀ pos, LW X (.BoolOp .Or es pos) w
  ts : ∀ {X : Cx} {C : Cxt} {k : Nat}, CF X C k → ∀ {es w}, cTs C n es = some w → LTs X es w
  i : ∀ {X : Cx} {C : Cxt} {k : Nat}, CF X C k → ∀ {tg e w z}, cI C n tg e = some (w, z) → LI X tg e w z
  g : ∀ {X : Cx} {C : Cxt} {k : Nat}, CF X C k → ∀ {e w T}, cG C n e = some (w, T) → LG X e w T
  gs : ∀ {X : Cx} {C : Cxt} {k : Nat}, CF X C k → ∀ {es w T}, cGs C n es = some (w, T) → es.all plainE = true → LGs X es w T
theorem snd0 : Snd 0 where
  e := fun _ _ _ h => by cases h
  o := fun _ _ _ h => by cases h
  a := fun _ _ _ h => by cases h
  kw := fun _ _ _ h => by cases h
  andV := fun _ _ _ h => by cases h
  orV := fun _ _ _ h => by cases h
  t := fun _ _ _ h => by cases h
  and := fun _ _ _ h => by cases h
  or := fun _ _ _ h => by cases h
  ts := fun _ _ _ h => by cases h
  i := fun _ _ _ _ _ h => by cases h
  g := fun _ _ _ _ h => by cases h
  gs := fun _ _ _ _ h => by cases h
theorem bindS {α β : Type} {x : Option α} {f : α → Option β} {y : β} (h : (x >>= f) = some y) : ∃ a, x = some a ∧ f a = some y := by
  cases x with
  | none => cases h
  | some a => exact ⟨a, rfl, h⟩
theorem CF.blk {X : Cx} {C : Cxt} {k : Nat} (F : CF X C k) {scope : Scope} (hk : scope.kind = .function) (s : Shared) (H : Hp) (D : Addr) (cl : List (Str × Addr)) (fp : List Addr) : CF (X.blk s H scope (compEnvC scope cl D X.env) fp) (blkCxt C scope) k where
  hN := F.hN
  nd := F.nd
  sc := by show relS scope X.env.scope = relS scope C.sc; rw [F.sc]
  fn := rfl
  calm := F.calm
  room := F.room
  gd := F.gd
  K := F.K
  bk := by
    show (if (relS scope X.env.scope).kind.isAnnotationScope then ScopeKind.function else (relS scope X.env.scope).kind) = ScopeKind.function
    have : (relS scope X.env.scope).kind = scope.kind := rfl
    rw [this, hk]; rfl
  bl := F.bl
  md := F.md
  fns := fun p hp => by
    obtain ⟨f, fd, h⟩ := (F.fns p hp).ex
    exact ⟨f, fd, h⟩
theorem snd_call {X : Cx} {C : Cxt} {k : Nat} {x : Str} {p pos : Pos} {es : List Expr} {wa : WA} {w : WE} (F : CF X C k) (hn : okName x = true) (hg : glB C.sc x = true) (ha : LAs X es wa) (hp : es.all plainE = true) (hnil : es = [] → wa = wNil) (h : cCall C x es wa = some w) : LE X (.Call (.Name x p) es [] pos) w := by
  unfold cCall at h
  have hok := okName_of hn
  split at h
  · rename_i x' ps Fv he
    split at h
    · cases h
      have hm := List.mem_of_find?_eq_some he
      have hx : x' = x := by simpa using List.find?_some he
      have hf := F.fns _ hm
      subst hx
      cases es with
      | nil => rw [hnil rfl]; exact le_call0 F hf hn hg
      | cons e es => exact le_call F hf hn hg ha.to hp
    · cases h
  · cases es with
    | nil => cases h
    | cons e es =>
      simp only at h
      have hp' := Bool.and_eq_true_iff.mp hp
      split at h
      · rename_i hb
        obtain ⟨f, hf, rfl⟩ := Option.map_eq_some_iff.mp h
        obtain ⟨r, hc, ⟨id, h1, h2⟩ | ⟨T, h1, h2⟩⟩ := bltF_of (X := X) F.calm F.gd F.room hf
        · exact le_callB h1 hc (glB_of F hg) (F.bl x hb) h2 ha.to hok.2.2 hok.1 (star_cons hp'.1) (star_plain hp'.2).1
        · exact le_callTy h1 hc (glB_of F hg) (F.bl x hb) h2 ha.to hok.2.2 hok.1 (star_cons hp'.1) (star_plain hp'.2).1
      · split at h
        · rename_i x' id he
          obtain ⟨f, hf, rfl⟩ := Option.map_eq_some_iff.mp h
          have hm := List.mem_of_find?_eq_some he
          have hx : x' = x := by simpa using List.find?_some he
          subst hx
          obtain ⟨r, hc, h1⟩ := mdF_of (X := X) hf
          exact le_callM h1 hc (glB_of F hg) (F.md _ hm) ha.to hok.1 (star_cons hp'.1) (star_plain hp'.2).1
        · cases h
theorem snd_callK {X : Cx} {C : Cxt} {k : Nat} {x : Str} {p pos : Pos} {es : List Expr} {kws : List Keyword} {wa wk : WA} {w : WE} (F : CF X C k) (hn : okName x = true) (hg : glB C.sc x = true) (ha : LAs X es wa) (hp : es.all plainE = true) (hnil : es = [] → wa = wNil) (hk : LK' X kws wk)
    (h : cCallK C x es kws wa wk = some w) : LE X (.Call (.Name x p) es kws pos) w := by
  unfold cCallK at h
  split at h
  · rename_i x' ps Fv he
    split at h
    · rename_i hh
      cases h
      have hm := List.mem_of_find?_eq_some he
      have hx : x' = x := by simpa using List.find?_some he
      have hf := F.fns _ hm
      subst hx
      exact le_callK F hf hn hg ha hp hk hh.1 hh.2.1 hh.2.2.1 hh.2.2.2 hnil
    · cases h
  · cases h
theorem tup_of {e : Expr} (h : isTup e = true) : ∃ es k p, e = .Tuple es k p := by
  cases e with
  | Tuple a b c => exact ⟨_, _, _, rfl⟩
  | _ => cases h
theorem all1 {X : Cx} {a : Expr} (h : plainE a = true) : starEach [a] X.env = [(false, eval a X.env)] := star_cons h
theorem pg_ixs {X : Cx} {o i : Expr} {pos : Pos} {to ti : TE} (ho : PE X o to) (hi : PE X i ti) (hs : notSlice i = true) : PG X (.Subscript o i pos) (gSub to ti rSetL) :=
  pg_sub ho hi set_list fun v => by cases i <;> first | rfl | cases hs
theorem snd_rev {X : Cx} {a st : Expr} {wa : WE} {p pos : Pos} (ha : LE X a wa) (h : isM1 st = true) : LE X (.Subscript a (.Slice none none (some st) p) pos) (wRev wa) := by
  unfold isM1 at h
  split at h
  · rename_i i _ _ _
    have : i = 1 := by simpa using h
    subst this
    exact le_rev ha
  · cases h
theorem snd_isi {X : Cx} {C : Cxt} {k : Nat} {x : Str} {p pos : Pos} {es : List Expr} {a : Expr} {T : TN} {wa : WE} (F : CF X C k) (hg : glB C.sc x = true) (h : isiArgs C x es = some (a, T)) (ha : LE X a wa) : LE X (.Call (.Name x p) es [] pos) (wIsi T wa) := by
  unfold isiArgs at h
  split at h
  · split at h
    · rename_i hh
      obtain ⟨T', hT, e⟩ := Option.map_eq_some_iff.mp h
      cases e
      obtain ⟨rfl, h1, h2, h3, h4⟩ := hh
      exact le_isi (glB_of F hg) (F.bl _ h1) hT (glB_of F h3) (F.bl _ h2) h4 ha
    · cases h
  · cases h
theorem snd_lz {X : Cx} {C : Cxt} {k : Nat} {x : Str} {p pos : Pos} {es zs : List Expr} {f : FN} {wa : WA} (F : CF X C k) (hg : glB C.sc x = true) (h : lzArgs C x es = some (zs, f)) (ha : LA X zs wa) : LE X (.Call (.Name x p) es [] pos) (wCB f wa) := by
  unfold lzArgs at h
  split at h
  · split at h
    · rename_i hh
      cases h
      obtain ⟨rfl, rfl, h1, h2, h3, h4⟩ := hh
      exact le_le F.calm (glB_of F hg) (F.bl _ h1) (glB_of F h3) (F.bl _ h2) ha h4
    · split at h
      · rename_i hh
        cases h
        obtain ⟨rfl, rfl, h1, h2, h3, h4⟩ := hh
        exact le_lrv F.calm (glB_of F hg) (F.bl _ h1) (glB_of F h3) (F.bl _ h2) ha h4
      · cases h
  · split at h
    · rename_i hh
      cases h
      obtain ⟨rfl, rfl, h1, h2, h3, h4, h5⟩ := hh
      exact le_lz F.calm (glB_of F hg) (F.bl _ h1) (glB_of F h3) (F.bl _ h2) ha h4 h5
    · cases h
  · cases h
theorem snd_succ {n : Nat} (I : Snd n) : Snd (n + 1) where
  e := fun {X C k} F {e w} h => by
    simp only [cE] at h
    split at h
    · obtain ⟨i, hi, rfl⟩ := Option.map_eq_some_iff.mp h
      obtain ⟨h1, h2, h3, h4⟩ := slotOf_of F hi
      exact le_v (pe_var h1 h2 h3 h4)
    · obtain ⟨d, hd, rfl⟩ := Option.map_eq_some_iff.mp h
      obtain ⟨v, h1, h2⟩ := constD_of hd
      exact le_c h1 h2
    · obtain ⟨f, hf, h⟩ := bindS h
      obtain ⟨wa, ha, h⟩ := bindS h
      obtain ⟨wb, hb, h⟩ := bindS h
      cases h
      obtain ⟨r, h1, h2⟩ := binF_of (X := X) hf
      exact le_op h1 h2 (I.e F ha) (I.e F hb)
    · obtain ⟨wa, ha, h⟩ := bindS h
      cases h
      exact le_un un_neg unS_neg (I.e F ha)
    · obtain ⟨wa, ha, h⟩ := bindS h
      cases h
      exact le_not (I.e F ha)
    · split at h
      · cases h
      · obtain ⟨f, hf, h⟩ := bindS h
        obtain ⟨wa, ha, h⟩ := bindS h
        obtain ⟨wb, hb, h⟩ := bindS h
        cases h
        obtain ⟨r, h1, h2⟩ := cmpF_of (X := X) F.room hf
        exact le_cmp h1 h2 (I.e F ha) (I.e F hb) (Bool.eq_false_iff.mpr (by assumption))
    · exact I.andV F h _
    · exact I.orV F h _
    · obtain ⟨wt, ht, h⟩ := bindS h
      obtain ⟨wa, ha, h⟩ := bindS h
      obtain ⟨wb, hb, h⟩ := bindS h
      cases h
      exact le_if (I.t F ht) (I.e F ha) (I.e F hb)
    · obtain ⟨wa, ha, h⟩ := bindS h
      obtain ⟨wl, hl, h⟩ := bindS h
      obtain ⟨wh, hh, h⟩ := bindS h
      cases h
      rw [← F.K]
      exact le_sl (I.e F ha) (I.o F hl) (I.o F hh)
    · split at h
      · obtain ⟨wa, ha, h⟩ := bindS h
        cases h
        exact snd_rev (I.e F ha) (by assumption)
      · cases h
    · split at h
      · obtain ⟨wa, ha, h⟩ := bindS h
        obtain ⟨wb, hb, h⟩ := bindS h
        cases h
        exact le_ix (I.e F ha) (I.e F hb) (plainIx (by assumption))
      · cases h
    · obtain ⟨wa, ha, h⟩ := bindS h
      cases h
      exact le_tup (I.a F ha).1.to
    · obtain ⟨wa, ha, h⟩ := bindS h
      cases h
      exact le_lst (I.a F ha).1.to
    · split at h
      · rename_i hh
        split at h
        · rename_i hi
          obtain ⟨wa, ha, h⟩ := bindS h
          cases h
          exact snd_isi F hh.2 hi (I.e F ha)
        · split at h
          · rename_i hi
            obtain ⟨wa, ha, h⟩ := bindS h
            cases h
            exact snd_lz F hh.2 hi (I.a F ha).1.to
          · obtain ⟨wa, ha, h⟩ := bindS h
            obtain ⟨a1, a2, a3⟩ := I.a F ha
            exact snd_call F hh.1 hh.2 a1 a2 a3 h
      · cases h
    · split at h
      · rename_i hh
        obtain ⟨wa, ha, h⟩ := bindS h
        obtain ⟨wk, hk, h⟩ := bindS h
        obtain ⟨a1, a2, a3⟩ := I.a F ha
        exact snd_callK F hh.1 hh.2 a1 a2 a3 (I.kw F hk) h
      · cases h
    · split at h
      · rename_i hh
        obtain ⟨wo, ho, h⟩ := bindS h
        cases h
        obtain ⟨rfl, h2, h3⟩ := hh
        exact le_pop (I.e F ho) (attrbase h2) h3
      · cases h
    · split at h
      · rename_i hh
        obtain ⟨wo, ho, h⟩ := bindS h
        obtain ⟨wa, ha, h⟩ := bindS h
        cases h
        obtain ⟨rfl, h2, h3, h4⟩ := hh
        refine le_append (I.e F ho) (I.e F ha) (attrbase h2) ?_ h3 (star_cons h4)
        rw [star_cons h4]; rfl
      · cases h
    · split at h
      · rename_i hh
        obtain ⟨⟨wa, z⟩, hi, h⟩ := bindS h
        obtain ⟨⟨wg, T⟩, hg, h⟩ := bindS h
        obtain ⟨wt, ht, h⟩ := bindS h
        obtain ⟨we, he, h⟩ := bindS h
        simp only at h
        split at h
        · rename_i hT
          cases h
          have ok := blkOk_by hh.2
          have Fb := fun s H D cl fp => F.blk ok.kind s H D cl fp
          have okX := ok
          rw [← F.hN, ← F.sc] at okX
          exact le_lc F.calm (by rw [F.hN]; exact F.nd) (I.i F hi) okX ⟨_, LGt_tgOf _ _, fun s H D cl fp => (I.g (Fb s H D cl fp) hg).pg⟩ ⟨_, LTt_ttOf _, fun s H D cl fp => (I.ts (Fb s H D cl fp) ht).pts⟩
            ⟨_, LEt_tOf _, fun s H D cl fp => (I.e (Fb s H D cl fp) he).pe⟩ (fun i hi => by
              have := (List.all_eq_true.mp hT) i hi
              simpa using this) (foldset hh.1)
        · cases h
      · cases h
    · cases h
  o := fun {X C k} F {e w} h => by
    simp only [cO] at h
    split at h
    · cases h; exact lo_none
    · obtain ⟨wa, ha, h⟩ := bindS h
      cases h
      exact lo_some (I.e F ha)
  a := fun {X C k} F {es w} h => by
    simp only [cA] at h
    split at h
    · cases h; exact ⟨las_nil, rfl, fun _ => rfl⟩
    · split at h
      · obtain ⟨wa, ha, h⟩ := bindS h
        obtain ⟨wr, hr, h⟩ := bindS h
        cases h
        obtain ⟨a1, a2, a3⟩ := I.a F hr
        exact ⟨las_cons (I.e F ha) a1 (by assumption), by simp only [List.all_cons, a2, Bool.and_true]; assumption, fun e => nomatch e⟩
      · cases h
  kw := fun {X C k} F {kws w} h => by
    cases kws with
    | nil =>
      simp only [cA, List.map_nil] at h
      cases h; exact lk_nil
    | cons q kws =>
      obtain ⟨nm, v, p⟩ := q
      simp only [cA, List.map_cons] at h
      split at h
      · obtain ⟨wa, ha, h⟩ := bindS h
        obtain ⟨wr, hr, h⟩ := bindS h
        cases h
        exact lk_cons (I.e F ha) (I.kw F hr)
      · cases h
  andV := fun {X C k} F {es w} h pos => by
    simp only [cAndV] at h
    split at h
    · cases h
    · exact le_one (I.e F h)
    · rename_i e es hne
      obtain ⟨wa, ha, h⟩ := bindS h
      obtain ⟨wr, hr, h⟩ := bindS h
      cases h
      cases es with
      | nil => exact absurd rfl hne
      | cons b es => exact le_and (I.e F ha) (I.andV F hr pos)
  orV := fun {X C k} F {es w} h pos => by
    simp only [cOrV] at h
    split at h
    · cases h
    · exact le_one (I.e F h)
    · rename_i e es hne
      obtain ⟨wa, ha, h⟩ := bindS h
      obtain ⟨wr, hr, h⟩ := bindS h
      cases h
      cases es with
      | nil => exact absurd rfl hne
      | cons b es => exact le_or (I.e F ha) (I.orV F hr pos)
  t := fun {X C k} F {e w} h => by
    simp only [cT] at h
    split at h
    · split at h
      · cases h
      · obtain ⟨f, hf, h⟩ := bindS h
        obtain ⟨wa, ha, h⟩ := bindS h
        obtain ⟨wb, hb, h⟩ := bindS h
        cases h
        obtain ⟨r, h1, h2⟩ := cmpF_of (X := X) F.room hf
        exact lt_cmp h1 h2 (I.e F ha) (I.e F hb) (Bool.eq_false_iff.mpr (by assumption))
    · obtain ⟨wa, ha, h⟩ := bindS h
      cases h
      exact lt_not (I.t F ha)
    · exact (I.and F h _).lt
    · exact (I.or F h _).lt
    · split at h
      · obtain ⟨wa, ha, h⟩ := bindS h
        cases h
        exact lt_tru (I.e F ha) (tru_plain (by assumption))
      · cases h
  and := fun {X C k} F {es w} h pos => by
    simp only [cAnd] at h
    split at h
    · cases h
    · exact lw_and1 (I.t F h)
    · rename_i e es hne
      obtain ⟨wa, ha, h⟩ := bindS h
      obtain ⟨wr, hr, h⟩ := bindS h
      cases h
      cases es with
      | nil => exact absurd rfl hne
      | cons b es => exact lw_and (I.t F ha) (I.and F hr pos)
  or := fun {X C k} F {es w} h pos => by
    simp only [cOr] at h
    split at h
    · cases h
    · exact lw_or1 (I.t F h)
    · rename_i e es hne
      obtain ⟨wa, ha, h⟩ := bindS h
      obtain ⟨wr, hr, h⟩ := bindS h
      cases h
      cases es with
      | nil => exact absurd rfl hne
      | cons b es => exact lw_or (I.t F ha) (I.or F hr pos)
  ts := fun {X C k} F {es w} h => by
    simp only [cTs] at h
    split at h
    · cases h; exact lts_nil
    · exact lts_one (I.t F h)
    · cases h
  i := fun {X C k} F {tg e w z} h => by
    simp only [cI] at h
    split at h
    · rename_i x p a pos
      split at h
      · subst x
        split at h
        · rename_i hh
          obtain ⟨wa, ha, h⟩ := bindS h
          cases h
          exact li_rng1 (glB_of F hh.1) (F.bl _ hh.2.1) (I.a F ha).1.to (all1 hh.2.2)
        · cases h
      · split at h
        · subst x
          split at h
          · rename_i hh
            obtain ⟨wa, ha, h⟩ := bindS h
            cases h
            obtain ⟨es, kk, tp, rfl⟩ := tup_of hh.2.2.2
            exact li_enum (glB_of F hh.1) (F.bl _ hh.2.1) (I.a F ha).1.to (all1 hh.2.2.1)
          · cases h
        · obtain ⟨wa, ha, h⟩ := bindS h
          cases h
          exact li_seq (I.e F ha)
    · rename_i x p a b pos
      split at h
      · subst x
        split at h
        · rename_i hh
          obtain ⟨wa, ha, h⟩ := bindS h
          cases h
          exact li_rng2 (glB_of F hh.1) (F.bl _ hh.2.1) (I.a F ha).1.to (by rw [star_cons hh.2.2.1, all1 hh.2.2.2]) (all1 hh.2.2.2)
        · cases h
      · split at h
        · subst x
          split at h
          · rename_i hh
            obtain ⟨wa, ha, h⟩ := bindS h
            cases h
            obtain ⟨es, kk, tp, rfl⟩ := tup_of hh.2.2.2.2
            exact li_zip (glB_of F hh.1) (F.bl _ hh.2.1) (I.a F ha).1.to (star_cons hh.2.2.1) (by rw [all1 hh.2.2.2.1]; rfl)
          · cases h
        · obtain ⟨wa, ha, h⟩ := bindS h
          cases h
          exact li_seq (I.e F ha)
    · obtain ⟨wa, ha, h⟩ := bindS h
      cases h
      exact li_seq (I.e F ha)
  g := fun {X C k} F {e w T} h => by
    simp only [cG] at h
    split at h
    · obtain ⟨i, hi, he⟩ := Option.map_eq_some_iff.mp h
      cases he
      obtain ⟨h1, h2, h3, h4⟩ := tgOf_of F hi
      exact lg_n (pg_name h1 h2 h3 h4)
    · split at h
      · rename_i hp
        obtain ⟨⟨u, T⟩, hu, h⟩ := bindS h
        cases h
        have := asg_plain (env := X.env) hp
        exact lg_tu F.calm (I.gs F hu hp) this.1 this.2
      · cases h
    · split at h
      · obtain ⟨wo, ho, h⟩ := bindS h
        obtain ⟨wi, hi, h⟩ := bindS h
        cases h
        exact lg_ix (I.e F ho) (I.e F hi) fun p1 p2 => pg_ixs p1 p2 (by assumption)
      · cases h
    · cases h
  gs := fun {X C k} F {es w T} h hp => by
    simp only [cGs] at h
    split at h
    · cases h; exact lgs_nil
    · obtain ⟨⟨w1, T1⟩, h1, h⟩ := bindS h
      obtain ⟨⟨u, U⟩, hu, h⟩ := bindS h
      cases h
      have hp' := Bool.and_eq_true_iff.mp hp
      refine lgs_cons (I.g F h1) (I.gs F hu hp'.2) ?_
      rw [asg_cons hp'.1]; rfl
theorem snd : ∀ n, Snd n
  | 0 => snd0
  | n + 1 => snd_succ (snd n)
end LV
namespace LV
open PySem PySem.Spec PyProof.Rows L2

/-! ### several names at once -/
def gNm : List Nat → TGs
  | [] => gNil
  | i :: is => gCons (gName i) (gNm is)
theorem gNm_of : ∀ (is : List Nat) (vs : List V) (σ : L2.St) (H : Hp) (Q : L2.St → Hp → Prop), vs.length = is.length → Q (putV is vs σ) H → gNm is vs σ H Q
  | [], [], _, _, _, _, h => ⟨rfl, h⟩
  | [], _ :: _, _, _, _, e, _ => by simp at e
  | _ :: _, [], _, _, _, e, _ => by simp at e
  | i :: is, v :: vs, σ, H, Q, e, h => ⟨v, vs, rfl, gNm_of is vs _ H Q (by simpa using e) h⟩
theorem let_parG {K : PySem.W.Frag} {n : Nat} {is : List Nat} {ta : TA} {wa : WA} (hn : is.length = n) (h1000 : n ≤ 1000) (l : LAt ta wa) : LSt (tAsg (tTup ta) (gTup K n (gNm is))) (wPar is wa) := fun g N H0 s σ P H Kk D hl S h f => by
  show ta σ H fun xs H1 => xs.length ≤ sizeLine ∧ ∀ p, H1 p = none → gTup K n (gNm is) (.ref p) σ (upd H1 p (.tup xs)) D.nx
  refine l g N H0 s σ P H _ _ hl S h fun rs s1 vs H1 hl1 S1 rv h1 => ?_
  obtain ⟨rs', s2, h2, hl2, hnn, S2⟩ := SR.un (A := []) hl1 S1 rv h1
  have hv : vs.length = is.length := hnn.symm.trans h2.1
  refine ⟨le1000 (by omega), fun p hp => ⟨p, vs, rfl, SqT.of upd_same, by omega, ?_⟩⟩
  have S3 := S2.fresh hp (o := .tup vs)
  obtain ⟨e, S4⟩ := SR.puts (is := is) hl2 hnn S3
  exact gNm_of is vs σ _ _ hv (f.nx _ _ _ e (by rw [putV_length]) S4 h2.2)
def nameIx (C : Cxt) : List Expr → Option (List Nat)
  | [] => some []
  | .Name x _ :: es => do
    let i ← tgOf? C x
    let is ← nameIx C es
    return i :: is
  | _ :: _ => none
theorem nameIx_of {X : Cx} {C : Cxt} {k : Nat} (F : CF X C k) : ∀ {es : List Expr} {is : List Nat}, nameIx C es = some is → PGs X es (gNm is) ∧ es.all plainE = true ∧ is.length = es.length
  | [], is, h => by
    simp only [nameIx] at h
    cases h; exact ⟨pgs_nil, rfl, rfl⟩
  | e :: es, is, h => by
    unfold nameIx at h
    split at h
    · rename_i e1; cases e1
    · rename_i x p es' e1
      cases e1
      obtain ⟨i, hi, h⟩ := bindS h
      obtain ⟨js, hj, h⟩ := bindS h
      cases h
      obtain ⟨a, b, c⟩ := nameIx_of F hj
      obtain ⟨h1, h2, h3, h4⟩ := tgOf_of F hi
      refine ⟨pgs_cons (pg_name h1 h2 h3 h4) a (by rw [asg_cons rfl]; rfl), ?_, by simp [c]⟩
      simp only [List.all_cons, b]; rfl
    · cases h
/-- which names the model swaps (2 or 3 plain locals); none: not said -/
def swN (C : Cxt) (ts vs : List Expr) : Option (Option (List Str)) :=
  if (!(ts.length == 2 || ts.length == 3) || vs.length != ts.length) = true then some none
  else if (vs.any fun | .Starred .. => true | _ => false) = true then some none
  else
    let line := (ts.head?.map (·.pos.line)).getD 0
    let names := ts.filterMap fun
      | .Name id pos => if (C.sc.names.lookup id == some .local && pos.line == line) = true then some id else none
      | _ => none
    if (names.length != ts.length || names.eraseDups.length != names.length) = true then some none
    else if vs.all (foldedForSure 8) = true then some none
    else if vs.all (constantsAlone 8) = true then none
    else some (some names)
theorem swN_of {X : Cx} {C : Cxt} {k : Nat} (F : CF X C k) {ts vs : List Expr} {r : Option (List Str)} (h : swN C ts vs = some r) (kt pt k2 pt2) : swappedStores [.Tuple ts kt pt] (.Tuple vs k2 pt2) X.env = pure r := by
  have hk : ∀ id, X.env.kindOf id = C.sc.names.lookup id := fun id => by unfold Env.kindOf; rw [F.sc]
  unfold swN at h
  unfold swappedStores
  simp only [F.bk, hk]
  have hb : (ScopeKind.function != ScopeKind.function) = false := by decide
  simp only [hb, Bool.or_false]
  split at h
  · rw [if_pos (by assumption)]; cases h; rfl
  · rw [if_neg (by assumption)]
    split at h
    · rw [if_pos (by assumption)]; cases h; rfl
    · rw [if_neg (by assumption)]
      simp only at h
      split at h
      · rw [if_pos (by assumption)]; cases h; rfl
      · rw [if_neg (by assumption)]
        split at h
        · rw [if_pos (by assumption)]; cases h; rfl
        · rw [if_neg (by assumption)]
          split at h
          · cases h
          · rw [if_neg (by assumption)]; cases h; rfl
end LV
namespace LV
open PySem PySem.Spec PyProof.Rows L2
theorem let_par2 {i j : Nat} {ta : TA} {wa : WA} (l : LAt ta wa) : LSt (tPar i j ta) (wPar [i, j] wa) := fun g N H0 s σ P H Kk D hl S h f => by
  refine l g N H0 s σ P H _ _ hl S h fun rs s1 vs H1 hl1 S1 rv h1 => ?_
  obtain ⟨rs', s2, h2, hl2, hnn, S2⟩ := SR.un (A := []) hl1 S1 rv h1
  have hv : vs.length = 2 := hnn.symm.trans h2.1
  obtain ⟨e, S4⟩ := SR.puts (is := [i, j]) hl2 hnn S2
  match vs, hv with
  | [v, w], _ => exact ⟨v, w, rfl, f.nx _ _ _ e (by simp) S4 h2.2⟩
theorem let_par3 {i j k : Nat} {ta : TA} {wa : WA} (l : LAt ta wa) : LSt (tPar3 i j k ta) (wPar [i, j, k] wa) := fun g N H0 s σ P H Kk D hl S h f => by
  refine l g N H0 s σ P H _ _ hl S h fun rs s1 vs H1 hl1 S1 rv h1 => ?_
  obtain ⟨rs', s2, h2, hl2, hnn, S2⟩ := SR.un (A := []) hl1 S1 rv h1
  have hv : vs.length = 3 := hnn.symm.trans h2.1
  obtain ⟨e, S4⟩ := SR.puts (is := [i, j, k]) hl2 hnn S2
  match vs, hv with
  | [u, v, w], _ => exact ⟨u, v, w, rfl, f.nx _ _ _ e (by simp) S4 h2.2⟩
/-- which rule stores a tuple's display into names -/
def parOk (C : Cxt) (ts : List Expr) (is : List Nat) (r : Option (List Str)) : Bool := match r with
  | none => decide (is.length ≤ 1000)
  | some names => match ts, is with
    | [.Name x _, .Name y _], [i, j] => decide (names = [x, y]) && (C.sc.names.lookup x == some .local) && (C.sc.names.lookup y == some .local) && decide (i ≠ j)
    | [.Name x _, .Name y _, .Name z _], [i, j, k] => decide (names = [x, y, z]) && (C.sc.names.lookup x == some .local) && (C.sc.names.lookup y == some .local) && (C.sc.names.lookup z == some .local) && decide (i ≠ j) && decide (i ≠ k) && decide (j ≠ k)
    | _, _ => false
/-- is the store of a comprehension a part of it -/
def swB (C : Cxt) (e : Expr) (x : Str) (p : Pos) : Option Bool := match e with
  | .ListComp _ _ s pos => some (C.sc.names.lookup x == some .local && p.line == pos.line && !(s.names.any fun (n, k) => n == x && (k == .local || k == .cell)))
  | .SetComp .. => none
  | .DictComp .. => none
  | _ => some false
def notName : Expr → Bool
  | .Name .. => false
  | _ => true
mutual
def cS (C : Cxt) : Nat → Stmt → Option WS
  | 0, _ => none
  | n + 1, st => match st with
    | .Assign [.Name x p] e _ => do
      let i ← tgOf? C x
      let w ← cE C n e
      let _ ← swB C e x p
      return wSet i w
    | .Assign [.Tuple ts kt pt] e _ => match e with
      | .Tuple vs k2 pt2 => match nameIx C ts with
        | some is => do
          let wa ← cA C n vs
          let r ← swN C ts vs
          if parOk C ts is r = true then some (wPar is wa) else none
        | none => do
          let we ← cE C n (.Tuple vs k2 pt2)
          let (wg, _) ← cG C n (.Tuple ts kt pt)
          let r ← swN C ts vs
          if r = none then some (wAsg we wg) else none
      | e => do
        let we ← cE C n e
        let (wg, _) ← cG C n (.Tuple ts kt pt)
        return wAsg we wg
    | .Assign [.Subscript o i pt] e _ => do
      let we ← cE C n e
      let (wg, _) ← cG C n (.Subscript o i pt)
      return wAsg we wg
    | .If c a b _ => do
      let wt ← cT C n c
      let wa ← cSs C n a
      let wb ← cSs C n b
      return wIfS wt wa wb
    | .While c body [] _ => match bagLoop c body with
      | some (c1, x, y, rest) => do
        let i ← slotOf C x
        let j ← tgOf? C y
        let wt ← cT C n c1
        let wb ← cSs C n rest
        return wBagW i j wt wb
      | none => do
        let wt ← cT C n c
        let wb ← cSs C n body
        return wWhile wt wb
    | .For tg iter body [] _ => if notSet iter = true then do
        let (wa, z) ← cI C n tg iter
        let (wg, _) ← cG C n tg
        let wb ← cSs C n body
        return wFor wa z wg wb
      else none
    | .Return (some e) _ => do
      let w ← cE C n e
      return wRet w
    | .Return none _ => some wRetN
    | .Expr e _ => if notComp e = true then do
        let w ← cE C n e
        return wDrop w
      else none
    | .Pass _ => some wNext
    | .Break _ => some wBreak
    | .Continue _ => some wCont
    | .Raise .. => some wNever
    | _ => none
def cSs (C : Cxt) : Nat → List Stmt → Option WS
  | 0, _ => none
  | n + 1, sts => match sts with
    | [] => some wNext
    | [st] => cS C n st
    | st :: sts => do
      let w ← cS C n st
      let u ← cSs C n sts
      return wSeq w u
end
section
variable {X : Cx} {C : Cxt} {k : Nat}
theorem swB_of (F : CF X C k) {e : Expr} {x : Str} {p : Pos} {b : Bool} {l : Nat} (h : swB C e x p = some b) : swapsWith e (some (.Name x p)) l X.env = pure b := by
  unfold swB at h
  split at h
  · cases h
    show (pure (X.env.blockKind == .function && X.env.kindOf x == some .local && _ && _) : Sem Bool) = _
    have : X.env.kindOf x = C.sc.names.lookup x := by unfold Env.kindOf; rw [F.sc]
    rw [F.bk, this]
    rfl
  · cases h
  · cases h
  · rename_i n1 n2 n3
    cases h
    cases e <;> first | rfl | exact (n1 _ _ _ _ rfl).elim | exact (n2 _ _ _ _ rfl).elim | exact (n3 _ _ _ _ _ rfl).elim
theorem noswapT {e t : Expr} {l : Nat} {env : Env} (h : notName t = true) : swapsWith e (some t) l env = pure false := by
  cases e <;> first | rfl | (cases t <;> first | rfl | cases h)
theorem soleT {e t : Expr} {l : Nat} {env : Env} (h : notName t = true) : swapsWithSole [t] e l env = pure false := by
  rw [swapsWithSole]; exact noswapT h
theorem noStores {ts : List Expr} {kt pt} {e : Expr} {env : Env} (h : ∀ vs k p, e ≠ .Tuple vs k p) : swappedStores [.Tuple ts kt pt] e env = pure none := by
  cases e <;> first | rfl | exact absurd rfl (h _ _ _)
theorem snd_setLc {n : Nat} {y : Str} {py spos pos : Pos} {elt : Expr} {gens : List Comprehension} {scope : Scope} {w : WE} {i : Nat} (F : CF X C k) (hi : tgOf? C y = some i) (hw : cE C n (.ListComp elt gens scope pos) = some w) (hsw : swB C (.ListComp elt gens scope pos) y py = some true) :
    LS X (.Assign [.Name y py] (.ListComp elt gens scope pos) spos) (wSet i w) := by
  obtain ⟨h1, h2, h3, h4⟩ := tgOf_of F hi
  have hloc : X.env.scope.names.lookup y = some .local := by
    have : C.sc.names.lookup y == some .local := by
      unfold swB at hsw
      simp only [Option.some.injEq, Bool.and_eq_true] at hsw
      exact hsw.1.1
    rw [F.sc]; exact eq_of_beq this
  cases n with
  | zero => cases hw
  | succ n =>
    have I := snd n
    simp only [cE] at hw
    split at hw <;> first | (rename_i q; cases q; done) | skip
    · rename_i q
      cases q
      split at hw
      · rename_i hh
        obtain ⟨⟨wa, z⟩, hi, hw⟩ := bindS hw
        obtain ⟨⟨wg, T⟩, hg, hw⟩ := bindS hw
        obtain ⟨wt, ht, hw⟩ := bindS hw
        obtain ⟨we, he, hw⟩ := bindS hw
        simp only at hw
        split at hw
        · rename_i hT
          cases hw
          have ok := blkOk_by hh.2
          have Fb := fun s H D cl fp => F.blk ok.kind s H D cl fp
          have okX := ok
          rw [← F.hN, ← F.sc] at okX
          exact ls_setLc F.calm h1 h2 hloc (swB_of F hsw) (I.i F hi) okX ⟨_, LGt_tgOf _ _, fun s H D cl fp => (I.g (Fb s H D cl fp) hg).pg⟩ ⟨_, LTt_ttOf _, fun s H D cl fp => (I.ts (Fb s H D cl fp) ht).pts⟩
            ⟨_, LEt_tOf _, fun s H D cl fp => (I.e (Fb s H D cl fp) he).pe⟩ (fun i hi => by
              have := (List.all_eq_true.mp hT) i hi
              simpa using this) (foldset hh.1)
        · cases hw
      · cases hw
    · cases hw
theorem snd_set {n : Nat} {y : Str} {py spos : Pos} {e : Expr} {w : WE} {i : Nat} {b : Bool} (F : CF X C k) (hi : tgOf? C y = some i) (hw : cE C n e = some w) (hsw : swB C e y py = some b) : LS X (.Assign [.Name y py] e spos) (wSet i w) := by
  cases b with
  | true =>
    cases e with
    | ListComp elt gens scope pos => exact snd_setLc F hi hw hsw
    | _ => cases hsw
  | false =>
    obtain ⟨h1, h2, h3, h4⟩ := tgOf_of F hi
    obtain ⟨t, p, l⟩ := ((snd n).e F hw).ex
    exact ⟨⟨_, ps_set h1 h2 h3 p (swB_of F hsw) h4, let_set l⟩⟩
structure SndS (n : Nat) : Prop where
  s : ∀ {X : Cx} {C : Cxt} {k : Nat}, CF X C k → PassesOwn (model X.prog X.w) X.A X.env X.xe → ∀ {st w}, cS C n st = some w → LS X st w
  ss : ∀ {X : Cx} {C : Cxt} {k : Nat}, CF X C k → PassesOwn (model X.prog X.w) X.A X.env X.xe → ∀ {sts w}, cSs C n sts = some w → LSs X sts w
theorem snd_par {n : Nat} {ts vs : List Expr} {kt pt k2 pt2 pos} {is : List Nat} {wa : WA} {r : Option (List Str)} (F : CF X C k) (hi : nameIx C ts = some is) (ha : cA C n vs = some wa) (hr : swN C ts vs = some r) (hp : parOk C ts is r = true) :
    LS X (.Assign [.Tuple ts kt pt] (.Tuple vs k2 pt2) pos) (wPar is wa) := by
  obtain ⟨t, pa, l⟩ := (((snd n).a F ha).1.to).ex
  obtain ⟨pg, pl, ln⟩ := nameIx_of F hi
  have sw := swN_of F hr kt pt k2 pt2
  cases r with
  | none =>
    have := asg_plain (env := X.env) pl
    exact ⟨⟨_, ps_asg (pe_tup pa) (pg_tup F.calm pg this.1 this.2) (soleT rfl) sw rfl, let_parG ln (by rw [← ln]; exact of_decide_eq_true hp) l⟩⟩
  | some names =>
    simp only [parOk] at hp
    split at hp
    · rename_i x px y py i j
      simp only [Bool.and_eq_true, decide_eq_true_eq] at hp
      obtain ⟨⟨⟨e, hx⟩, hy⟩, hij⟩ := hp
      subst e
      have hx := eq_of_beq hx
      have hy := eq_of_beq hy
      simp only [nameIx] at hi
      obtain ⟨i', hi1, hi⟩ := bindS hi
      obtain ⟨js, hj, hi⟩ := bindS hi
      cases hi
      obtain ⟨j', hj1, hj⟩ := bindS hj
      obtain ⟨ks, hk, hj⟩ := bindS hj
      cases hj; cases hk
      obtain ⟨n1, a1, _, _⟩ := tgOf_of F hi1
      obtain ⟨_, b1, _, _⟩ := tgOf_of F hj1
      obtain ⟨c1, pa1⟩ : ∃ a b, vs = [a, b] := by
        unfold swN at hr
        split at hr
        · cases hr
        · rename_i hq
          simp at hq
          match vs, hq with
          | [a, b], _ => exact ⟨a, b, rfl⟩
      obtain ⟨b, rfl⟩ := pa1
      exact ⟨⟨_, ps_par F.calm n1 a1 b1 hij (by rw [F.sc]; exact hx) (by rw [F.sc]; exact hy) pa sw (soleT rfl), let_par2 l⟩⟩
    · rename_i x px y py z pz i j q
      simp only [Bool.and_eq_true, decide_eq_true_eq] at hp
      obtain ⟨⟨⟨⟨⟨⟨e, hx⟩, hy⟩, hz⟩, hij⟩, hik⟩, hjk⟩ := hp
      subst e
      have hx := eq_of_beq hx
      have hy := eq_of_beq hy
      have hz := eq_of_beq hz
      simp only [nameIx] at hi
      obtain ⟨i', hi1, hi⟩ := bindS hi
      obtain ⟨js, hj, hi⟩ := bindS hi
      cases hi
      obtain ⟨j', hj1, hj⟩ := bindS hj
      obtain ⟨ks, hk, hj⟩ := bindS hj
      cases hj
      obtain ⟨q', hq1, hk⟩ := bindS hk
      obtain ⟨ms, hm, hk⟩ := bindS hk
      cases hk; cases hm
      obtain ⟨n1, a1, _, _⟩ := tgOf_of F hi1
      obtain ⟨_, b1, _, _⟩ := tgOf_of F hj1
      obtain ⟨_, d1, _, _⟩ := tgOf_of F hq1
      obtain ⟨c1, c2, c3, rfl⟩ : ∃ a b c, vs = [a, b, c] := by
        unfold swN at hr
        split at hr
        · cases hr
        · rename_i hq
          simp at hq
          match vs, hq with
          | [a, b, c], _ => exact ⟨a, b, c, rfl⟩
      exact ⟨⟨_, ps_par3 F.calm n1 a1 b1 d1 hij hik hjk (by rw [F.sc]; exact hx) (by rw [F.sc]; exact hy) (by rw [F.sc]; exact hz) pa sw (soleT rfl), let_par3 l⟩⟩
    · cases hp
theorem snd_asg {n : Nat} {e tg : Expr} {pos : Pos} {we : WE} {wg : WG} {T : List Nat} (F : CF X C k) (he : cE C n e = some we) (hg : cG C n tg = some (wg, T)) (h1 : notName tg = true) (h2 : plainE tg = true) (hw : swappedStores [tg] e X.env = pure none) : LS X (.Assign [tg] e pos) (wAsg we wg) := by
  obtain ⟨t, p, l⟩ := ((snd n).e F he).ex
  obtain ⟨tg', pg, lg⟩ := ((snd n).g F hg).ex
  exact ⟨⟨_, ps_asg p pg (soleT h1) hw (by rw [asg_cons h2]; rfl), let_asg l lg⟩⟩
theorem sndS0 : SndS 0 where
  s := fun _ _ _ _ h => by cases h
  ss := fun _ _ _ _ h => by cases h
theorem sndS_succ {n : Nat} (J : SndS n) : SndS (n + 1) where
  s := fun {X C k} F hp {st w} h => by
    have I := snd n
    simp only [cS] at h
    split at h
    · obtain ⟨i, hi, h⟩ := bindS h
      obtain ⟨we, he, h⟩ := bindS h
      obtain ⟨b, hb, h⟩ := bindS h
      cases h
      exact snd_set F hi he hb
    · split at h
      · split at h
        · obtain ⟨wa, ha, h⟩ := bindS h
          obtain ⟨r, hr, h⟩ := bindS h
          split at h
          · cases h
            exact snd_par F (by assumption) ha hr (by assumption)
          · cases h
        · obtain ⟨we, he, h⟩ := bindS h
          obtain ⟨⟨wg, T⟩, hg, h⟩ := bindS h
          obtain ⟨r, hr, h⟩ := bindS h
          split at h
          · cases h
            subst r
            exact snd_asg F he hg rfl rfl (swN_of F hr _ _ _ _)
          · cases h
      · obtain ⟨we, he, h⟩ := bindS h
        obtain ⟨⟨wg, T⟩, hg, h⟩ := bindS h
        cases h
        exact snd_asg F he hg rfl rfl (noStores (by assumption))
    · obtain ⟨we, he, h⟩ := bindS h
      obtain ⟨⟨wg, T⟩, hg, h⟩ := bindS h
      cases h
      exact snd_asg F he hg rfl rfl rfl
    · obtain ⟨wt, ht, h⟩ := bindS h
      obtain ⟨wa, ha, h⟩ := bindS h
      obtain ⟨wb, hb, h⟩ := bindS h
      cases h
      exact ls_if (I.t F ht) (J.ss F hp ha) (J.ss F hp hb)
    · split at h
      · obtain ⟨i, hi, h⟩ := bindS h
        obtain ⟨j, hj, h⟩ := bindS h
        obtain ⟨wt, ht, h⟩ := bindS h
        obtain ⟨wb, hb, h⟩ := bindS h
        cases h
        obtain ⟨h1, h2, h3, h4⟩ := slotOf_of F hi
        obtain ⟨a1, a2, a3, a4⟩ := tgOf_of F hj
        exact ls_bagLoop (by assumption) F.room hp (fun p => pe_var h1 h2 h3 h4) a1 a2 a3 a4 (I.t F ht) (J.ss F hp hb)
      · obtain ⟨wt, ht, h⟩ := bindS h
        obtain ⟨wb, hb, h⟩ := bindS h
        cases h
        exact ls_while hp (I.t F ht) (J.ss F hp hb)
    · split at h
      · obtain ⟨⟨wa, z⟩, hi, h⟩ := bindS h
        obtain ⟨⟨wg, T⟩, hg, h⟩ := bindS h
        obtain ⟨wb, hb, h⟩ := bindS h
        cases h
        exact ls_for hp F.calm (I.i F hi) (I.g F hg) (J.ss F hp hb) (foldset (by assumption))
      · cases h
    · obtain ⟨we, he, h⟩ := bindS h
      cases h
      exact ls_ret (I.e F he)
    · cases h; exact ls_retN
    · split at h
      · obtain ⟨we, he, h⟩ := bindS h
        cases h
        exact ls_expr (I.e F he) (noswap (by assumption))
      · cases h
    · cases h; exact ls_pass
    · cases h; exact ls_break
    · cases h; exact ls_cont
    · cases h; exact ls_never
    · cases h
  ss := fun {X C k} F hp {sts w} h => by
    simp only [cSs] at h
    split at h
    · cases h; exact lss_nil
    · exact lss_one (J.s F hp h)
    · obtain ⟨w1, h1, h⟩ := bindS h
      obtain ⟨w2, h2, h⟩ := bindS h
      cases h
      exact lss_cons (J.s F hp h1) (J.ss F hp h2)
theorem sndS : ∀ n, SndS n
  | 0 => sndS0
  | n + 1 => sndS_succ (sndS n)
end
end LV
namespace LV
open PySem PySem.Spec PyProof.Rows L2

/-- the defs that are known, wherever they are called -/
structure GF (P : Program) (w : World) (K : PySem.W.Frag) (mg : Str → Option Value) (base : Heap) (C : Cxt) (k : Nat) : Prop where
  bl : ∀ x ∈ C.bl, mg x = none
  md : ∀ p ∈ C.md, mg p.1 = some (.builtin p.2)
  fns : ∀ p ∈ C.fns, ∃ (f : Addr) (fd : FuncData), FnG P w K mg base CX0 k f fd p.2.1 (lift p.2.2) ∧ mg p.1 = some (.ref f) ∧ PySem.W.keepIn K (.ref f) = true ∧ Binds K fd p.2.1 [] ∧
    ∀ q ∈ C.kws, q.1 = p.1 → KwOk fd p.2.1 q.2.1 q.2.2
theorem SR.base {g : Bag} {N : Addr → Prop} {H : Hp} (hg : g.G H) (hb : ∀ a, g.B a → N a) (hn : ∀ a, N a → (H a).isSome = true) : SR g N H [] H :=
  { hg := hg, sm := .refl H, nd := hn, bn := hb, each := (fun _ h => nomatch h), dist := (fun _ => Nat.zero_le _) }
theorem pendD_zip : ∀ (ds : List D) (vs : List V), ds.length = vs.length → pendD ds vs = (ds.map Sl.sh).zip (vs.map some)
  | [], [], _ => rfl
  | d :: ds, v :: vs, h => by simp [pendD, pendD_zip ds vs (by simpa using h)]
  | [], _ :: _, h => by simp at h
  | _ :: _, [], h => by simp at h
theorem SR.uns {g N H0 H} {L : List En} (S : SR g N H0 L H) : ∀ n : Nat, SR g N H0 (L ++ (List.replicate n Sl.un).zip (List.replicate n none)) H
  | 0 => by simpa using S
  | n + 1 => by
    have S1 := SR.uns S n
    have S2 := (S1.addUn (v := none)).mid (List.Sublist.refl _)
    have e : (List.replicate (n + 1) Sl.un).zip (List.replicate (n + 1) (none : Option V)) = (Sl.un, none) :: (List.replicate n Sl.un).zip (List.replicate n none) := by
      rw [List.replicate_succ, List.replicate_succ, List.zip_cons_cons]
    rw [e]; exact S2
/-- the slots at the start -/
def begin (n : Nat) (ds : List D) : Sg := ds.map Sl.sh ++ List.replicate (n - ds.length) Sl.un
theorem SR.start {g : Bag} {N : Addr → Prop} {H : Hp} {ds : List D} {vs : List V} (M : List Str) (hg : g.G H) (hb : ∀ a, g.B a → N a) (hn : ∀ a, N a → (H a).isSome = true) (r : Reps g.bv H N ds vs) :
    SR g N H ((begin M.length ds).zip (L2.start M vs) ++ []) H ∧ (begin M.length ds).length = (L2.start M vs).length := by
  have S0 := SR.base hg hb hn
  have r' : Reps g.bv H (Nn N []) ds vs := r.mono (fun _ _ e _ => e) fun a _ _ z => z.elim id fun z => absurd z (Nat.lt_irrefl 0)
  have S1 := (Reps.pends S0 r').uns (M.length - ds.length)
  unfold begin L2.start
  rw [r.length] at *
  rw [List.zip_append (by simp [r.length]), ← pendD_zip _ _ r.length]
  refine ⟨by simpa using S1, by simp [r.length]⟩
/-- a def keeps its promise, by its meaning -/
theorem def_ok {P : Program} {w : World} {K : PySem.W.Frag} {mg : Str → Option Value} {base : Heap} {x qual : Str} {st : Stmt} {f : Addr} {fd : FuncData} {C : Cxt} {n k : Nat} {F : VS} {ws : WS} {ps : List Str}
    (Fn : Fun K x qual st f fd) (S : FnScope C.N ps (defScope st)) (hsc : C.sc = defScope st) (hfn : C.fnb = fun _ => true) (hK : C.K = K) (hc : cSs C n (defBody st) = some ws) (G : GF P w K mg base C k)
    (hF : ∀ ds Qf, F ds Qf → ds.length = ps.length ∧ ws { nx := fun _ => Qf (.sh .non), rt := Qf } (begin C.N.length ds)) : FnG P w K mg base CX0 (k + 1) f fd ps (lift F) := by
  refine fnG_of Fn S (fun vs H Q E h => ?_) fun cdv A outer s H vs Q E hgd hr h => ?_
  · obtain ⟨g, N, ds, Qf, r, _, _, _, h, _⟩ := h
    rw [← r.length]; exact (hF ds Qf h).1
  · obtain ⟨g, N, ds, Qf, r, hg, hb, hn, h, hq⟩ := h
    obtain ⟨hl, hw⟩ := hF ds Qf h
    have cf : CF (cxOf CX0 P w K mg base C.N qual (defScope st) f cdv A outer s H E).nox C k :=
      { hN := rfl, nd := S.nd, sc := hsc.symm, fn := hfn.symm, calm := rfl, room := hr, gd := hgd, K := hK.symm,
        bk := by
          show (if (defScope st).kind.isAnnotationScope then ScopeKind.function else (defScope st).kind) = .function
          rw [S.kind]; rfl
        bl := G.bl, md := G.md, fns := fun p hp => ⟨G.fns p hp⟩ }
    obtain ⟨t, p, l⟩ := ((sndS n).ss cf PassesOwn.never hc).ex
    refine ⟨t, p.nox, ?_⟩
    obtain ⟨S0, e0⟩ := SR.start C.N hg hb hn r
    have fin : ∀ {r : RV} {v : V} {H' : Hp} {L' : List En}, SR g N H ((r.sl, some v) :: L') H' → (∀ i, r ≠ .al i) → Qf r → Q v H' := fun {r v H' L'} S1 ha h1 => by
      refine hq r v H' h1 S1.sm S1.hg ?_
      cases r with
      | sh d =>
        obtain ⟨u, e, rr⟩ := S1.each (Sl.sh d, some v) (List.mem_cons_self ..)
        cases e
        exact rr.mono (fun _ _ e _ => e) fun a _ _ z => .inl z
      | fr ds =>
        obtain ⟨a, vs, e, hN, h0, hh, rr, hp⟩ := S1.own_n (ds := ds) (v := some v) (List.mem_cons_self ..)
        cases e
        exact ⟨a, vs, rfl, h0, hh, rr.mono (fun _ _ e _ => e) fun b _ _ z => z.elim .inl fun z => by subst z; exact .inr hp⟩
      | al i => exact absurd rfl (ha i)
    refine l g N H (begin C.N.length ds) (L2.start C.N vs) [] H _ _ e0 S0 hw ⟨fun s' σ' H' e1 e2 S1 h1 => ?_, fun s' σ' H' _ _ _ h => h.elim, fun s' σ' H' _ _ _ h => h.elim, fun r v H' L' S1 ha h1 => fin S1 ha h1⟩
    exact fin (r := .sh .non) (S1.addSh .non) (fun _ h => nomatch h) h1
end LV
namespace LV
open PySem PySem.Spec PyProof.Rows L2

/-! ### the law's own call -/
section
variable {P : Program} {w : World} {K : PySem.W.Frag} {mg mb : Str → Option Value} {CX : CXT} {k : Nat} {fa a : Addr} {fd : FuncData} {x : Str} {sp : Sp} {s₁ : Shared} {vs : List Value} {ns : List Int}
/-- what is tracked at the start: nothing, or the script alone -/
structure Started (P : Program) (w : World) (K : PySem.W.Frag) (s₁ : Shared) (a : Addr) (ns : List Int) (H : Hp) : Prop where
  only : Only H
  script : SqL K H a (ns.map V.int)
  ok : HOk P w H s₁.heap
  at_a : ∀ b u, H b = some u → b = a
  free : ∀ u, H a = some u → K.lookup a = none
theorem started (KX : K.In s₁.heap) (ha : s₁.heap.get? a = some { cls := .type "list", data := .seq vs.toArray }) (hi : IntsAre vs ns) (hl : ns.length ≤ sizeLine) : ∃ H, Started P w K s₁ a ns H := by
  have rel : Vals (ns.map V.int) vs := vals_ints hi
  have hlen : vs.length = ns.length := hi.length
  rcases hk : K.lookup a with _ | o
  · let ob : Obj := { cls := .type "list", data := .seq vs.toArray }
    let H : Hp := fun b => if b = a then some (.frz ob (.lst (ns.map V.int))) else none
    have hA : H a = some (.frz ob (.lst (ns.map V.int))) := if_pos rfl
    have hN : ∀ b u, H b = some u → b = a ∧ u = .frz ob (.lst (ns.map V.int)) := fun b u h => by
      by_cases e : b = a
      · subst e; exact ⟨rfl, Option.some.inj (h.symm.trans hA)⟩
      · exact absurd ((if_neg e).symm.trans h) (fun z => nomatch z)
    refine ⟨H, ⟨fun b => ?_, .inl (.inr ⟨ob, hA⟩), fun b u h => ?_, fun b u h => (hN b u h).1, fun _ _ => hk⟩⟩
    · cases q : H b with
      | none => exact .inl rfl
      | some u => exact .inr ⟨_, _, by rw [(hN b u q).2]⟩
    · obtain ⟨rfl, rfl⟩ := hN b u h
      refine ⟨ha, ?_, vs, _, rel, ha⟩
      rw [List.length_map]; exact hl
  · have here := KX a o hk
    rw [ha] at here
    cases here
    refine ⟨fun _ => none, ⟨fun _ => .inl rfl, .inr ⟨_, vs.toArray, _, hk, rfl, rfl, rfl, ?_, ?_⟩, (fun _ _ h => nomatch h), (fun _ _ h => nomatch h), (fun _ h => nomatch h)⟩⟩
    · rw [List.size_toArray, hlen]; exact hl
    · simpa using rel
theorem lawG (KX : K.In s₁.heap) (hns : s₁.heap.Ns mainGlobals mg) (hb : s₁.heap.Ns builtinsNs mb) (hbb : ∀ x : Str, x ≠ "__name__" → mb x = bootBuiltins x) (hlim : s₁.heap.NoLimit) (hg : s₁.gens = #[])
    (ha : s₁.heap.get? a = some { cls := .type "list", data := .seq vs.toArray }) (hi : IntsAre vs ns) (hl : ns.length ≤ sizeLine) (hr : Room k callerA)
    (F : ∀ base : Heap, K.In base → base.Ns mainGlobals mg → FnG P w K mg base CX k fa fd [x] sp) (hbind : ∀ (s : Shared) (u : Value), BindsTo s fd ⟨[u], []⟩ [(x, u)])
    (hsp : ∀ H : Hp, Only H → SqL K H a (ns.map V.int) → sp [.ref a] H (fun v _ => v = .bl true) fun _ _ _ => False)
    (hCX : ∀ H e s', CX [] H s₁ (fun _ _ _ => False) e s' → False) :
    codeAny (model P w) callerA (.call (.ref fa) ⟨[.ref a], []⟩) (fun r s' => r = .ok (.ret (.bool true)) ∧ OldK s₁.heap s'.heap ∧ s'.os = s₁.os ∧ AllBare s'.gens) s₁ := by
  obtain ⟨H, st⟩ := started (P := P) (w := w) KX ha hi hl
  let base := hidT s₁.heap H
  have into : ∀ {b : Addr} {o : Obj}, s₁.heap.get? b = some o → H b = none → base.get? b = some o := fun e n => hidT_get e n
  have dicts : ∀ {b : Addr} {m : Str → Option Value}, s₁.heap.Ns b m → base.Ns b m := by
    rintro b m ⟨o, es, ep, e, d, r⟩
    refine ⟨o, es, ep, into e ?_, d, r⟩
    cases q : H b with
    | none => rfl
    | some u =>
      have e' := st.at_a b u q
      subst e'
      rw [ha] at e
      cases e
      cases d
  have kin : K.In base := fun b o e => into (KX b o e) (by
    cases q : H b with
    | none => rfl
    | some u =>
      have e' := st.at_a b u q
      subst e'
      rw [st.free u q] at e
      cases e)
  have e0 : Env0 P w K mg base callerA [] s₁ H := {
    frames := rfl
    mod := ⟨kin, dicts hns, ⟨mb, dicts hb, hbb⟩, by
      obtain ⟨mc, h1, h2⟩ := hlim
      exact ⟨mc, dicts h1, h2⟩⟩
    bs := fun b o e => of_hidT e
    bsz := Nat.le_of_eq (hidT_size _ _)
    funs := trivial
    frf := fun b z => nomatch z
    hok := st.ok
    bare := .of_eq hg }
  have run := (F base kin (dicts hns)).run callerA [] s₁ H ⟨[.ref a], []⟩ [.ref a] [.ref a] _ _ rfl hr e0 (hbind s₁ (.ref a)) (.cons rfl .nil) (hsp H st.only st.script)
  refine codeAny_mono run ?_
  intro r s' h
  match r, h with
  | .error e, h => exact (hCX H e s' h).elim
  | .ok .next, h => exact h.elim
  | .ok .brk, h => exact h.elim
  | .ok .cont, h => exact h.elim
  | .ok (.ret u), ⟨v, H', os, bare, un, hok', rv, hv⟩ =>
    subst hv
    cases rv
    refine ⟨rfl, OldK.of_keep ?_, os, bare⟩
    intro b o e
    rcases st.only b with n | ⟨ob, xs, fz⟩
    · exact un.keep b o e n (fun z => nomatch z) (fun z => nomatch z)
    · have before := (st.ok b _ fz).1
      have behind := (hok' b _ (un.frzs b ob _ fz)).1
      rw [e] at before
      cases before
      exact behind
end
/-- the goal that k_head leaves, out of the law's promise -/
theorem walkG {l : PySem.W.OpenLaw} {n k : Nat} {q : Program} {loose : List Str} {XP : (Str → Option Value) → Heap → Prop} {YP : World → Heap → Prop} {d : DefRec} {K : Params → PySem.W.Frag} {CX : World → CXT} {sp : World → Sp} {x : Str}
    (hn : l.most = some n) (hn2 : n ≤ sizeLine) (hdf : d.params.defaults = []) (hr : Room k callerA) (hY : ∀ (w : World) (h : Heap), YP w h → (K w.params).In h)
    (F : ∀ (w : World) (mg : Str → Option Value) (fa : Addr) (h : Heap), (K w.params).In h → h.Ns mainGlobals mg → mg d.name = some (.ref fa) →
      ∃ fd : FuncData, (∀ (s : Shared) (u : Value), BindsTo s fd ⟨[u], []⟩ [(x, u)]) ∧ ∀ base : Heap, (K w.params).In base → base.Ns mainGlobals mg → FnG l.prog w (K w.params) mg base (CX w) k fa fd [x] (sp w))
    (hsp : ∀ (w : World) (H : Hp) (a : Addr) (ns : List Int), ns.length ≤ n → Only H → SqL (K w.params) H a (ns.map V.int) → sp w [.ref a] H (fun v _ => v = .bl true) fun _ _ _ => False)
    (hCX : ∀ (w : World) (H : Hp) (s : Shared) (e : Value) (s' : Shared), CX w [] H s (fun _ _ _ => False) e s' → False) :
    PySem.W.WalkO q loose XP YP l.row.toRowW d [] (fun f vs => PySem.call f vs) := by
  refine Att.attach_call hn hdf ?_
  intro w s₀ s₁ mg mb fa o pm cd doc a vs ns G Y ho hd hcd hmg hobj hints hlen hg
  have inK := hY w _ Y
  obtain ⟨fd, binds, prom⟩ := F w mg fa _ inK G.T.g hmg
  refine lawG inK G.T.g G.T.b G.T.builtins G.T.nolimit hg hobj hints (Nat.le_trans hlen hn2) hr prom binds ?_ ?_
  · intro H only script
    exact hsp w H a ns hlen only script
  · intro H e s'
    exact hCX w H s₁ e s'
end LV
namespace LV
open PySem PySem.Spec PyProof.Rows L2

/-! ### what the top holds -/
structure Dn (K : PySem.W.Frag) (x : Str) (st : Stmt) : Prop where
  ex : ∃ (f : Addr) (oc : Value) (od : Option Addr) (kV doc pm : Value) (an : Option Addr) (cdv ct : Value) (osl : Array (Option Value)),
    PySem.W.nsIn K mainGlobals x = some (some (.ref f)) ∧ K.lookup f = some ⟨oc, od, .func (PySem.W.fnOf x x (defArgs st) (defBody st) (defScope st) .none kV doc pm an cdv ct), osl⟩ ∧
      PySem.W.codeIn K cdv x = true ∧ PySem.W.keepIn K (.ref f) = true
structure Tp (K : PySem.W.Frag) (ds : List (Str × Stmt)) (zs : List Str) (ms : List (Str × String)) : Prop where
  dn : ∀ p ∈ ds, Dn K p.1 p.2
  zn : ∀ x ∈ zs, PySem.W.nsIn K mainGlobals x = some none
  md : ∀ p ∈ ms, PySem.W.nsIn K mainGlobals p.1 = some (some (.builtin p.2))
section
variable {P : Program} {w : World} {K : PySem.W.Frag} {mg : Str → Option Value} {base : Heap}
structure Kn (P : Program) (w : World) (K : PySem.W.Frag) (mg : Str → Option Value) (base : Heap) (k : Nat) (x : Str) (ps : List Str) (F : VS) (kws : List (Nat × List Str)) : Prop where
  ex : ∃ (f : Addr) (fd : FuncData), FnG P w K mg base CX0 k f fd ps (lift F) ∧ mg x = some (.ref f) ∧ PySem.W.keepIn K (.ref f) = true ∧ Binds K fd ps [] ∧ ∀ q ∈ kws, KwOk fd ps q.1 q.2
def BindOk (x : Str) (st : Stmt) (ps : List Str) : Prop := ∀ (kV doc pm : Value) (an : Option Addr) (cdv ct : Value) (us : List Value), us.length = ps.length → bindArgs (PySem.W.fnOf x x (defArgs st) (defBody st) (defScope st) .none kV doc pm an cdv ct) ⟨us, []⟩ = pure (ps.zip us)
def KwsOk (x : Str) (st : Stmt) (ps : List Str) (kws : List (Nat × List Str)) : Prop := ∀ (kV doc pm : Value) (an : Option Addr) (cdv ct : Value), ∀ q ∈ kws, KwOk (PySem.W.fnOf x x (defArgs st) (defBody st) (defScope st) .none kV doc pm an cdv ct) ps q.1 q.2
theorem Kn.up {j k : Nat} {x ps F kws} (h : Kn P w K mg base j x ps F kws) (hjk : j ≤ k) : Kn P w K mg base k x ps F kws := let ⟨f, fd, a, b⟩ := h.ex; ⟨f, fd, a.up hjk, b⟩
/-- the defs that a def calls -/
def FnsOk (P : Program) (w : World) (K : PySem.W.Frag) (mg : Str → Option Value) (base : Heap) (k : Nat) (ckws : List (Str × Nat × List Str)) (fns : List (Str × List Str × VS)) : Prop := ∀ p ∈ fns, ∃ kws, Kn P w K mg base k p.1 p.2.1 p.2.2 kws ∧ ∀ q ∈ ckws, q.1 = p.1 → (q.2.1, q.2.2) ∈ kws
theorem fns_nil {k ckws} : FnsOk P w K mg base k ckws [] := fun _ h => nomatch h
theorem fns_cons {j k ckws x ps F kws fns} (h : Kn P w K mg base j x ps F kws) (hjk : j ≤ k) (hq : (ckws.all fun q => !(decide (q.1 = x)) || decide ((q.2.1, q.2.2) ∈ kws)) = true) (r : FnsOk P w K mg base k ckws fns) : FnsOk P w K mg base k ckws ((x, ps, F) :: fns) := fun p hp => by
  rcases List.mem_cons.mp hp with e | hp
  · subst e
    refine ⟨kws, h.up hjk, fun q hm e => ?_⟩
    have := List.all_eq_true.mp hq q hm
    simp only [Bool.or_eq_true, Bool.not_eq_true', decide_eq_false_iff_not, decide_eq_true_eq] at this
    exact this.resolve_left fun n => n e
  · exact r p hp
theorem gf_of {ds zs ms} {C : Cxt} {k : Nat} (T : Tp K ds zs ms) (XK : K.In base) (G : base.Ns mainGlobals mg) (hz : (C.bl.all fun x => decide (x ∈ zs)) = true) (hm : (C.md.all fun x => decide (x ∈ ms)) = true) (h : FnsOk P w K mg base k C.kws C.fns) : GF P w K mg base C k where
  bl := fun x hx => PySem.W.mg_none_of XK G (T.zn x (of_decide_eq_true (List.all_eq_true.mp hz x hx)))
  md := fun p hp => PySem.W.mg_of XK G (T.md p (of_decide_eq_true (List.all_eq_true.mp hm p hp)))
  fns := fun p hp => by
    obtain ⟨kws, hk, hq⟩ := h p hp
    obtain ⟨f, fd, a, b, c, d, e⟩ := hk.ex
    exact ⟨f, fd, a, b, c, d, fun q hm he => e _ (hq q hm he)⟩
theorem kn_of {ds zs ms} {C : Cxt} {n k : Nat} {x : Str} {st : Stmt} {ps : List Str} {F : VS} {ws : WS} {kws : List (Nat × List Str)} (T : Tp K ds zs ms) (hd : (x, st) ∈ ds) (XK : K.In base) (G : base.Ns mainGlobals mg)
    (S : FnScope C.N ps (defScope st)) (hc : cSs C n (defBody st) = some ws) (hsc : C.sc = defScope st) (hfn : C.fnb = fun _ => true) (hK : C.K = K) (gf : GF P w K mg base C k) (hb : BindOk x st ps) (hkw : KwsOk x st ps kws)
    (hF : ∀ ds Qf, F ds Qf → ds.length = ps.length ∧ ws { nx := fun _ => Qf (.sh .non), rt := Qf } (begin C.N.length ds)) : Kn P w K mg base (k + 1) x ps F kws := by
  obtain ⟨f, oc, od, kV, doc, pm, an, cdv, ct, osl, a, l, c, kp⟩ := (T.dn _ hd).ex
  have Fn : Fun K x x st f _ := ⟨⟨oc, od, kV, doc, pm, an, cdv, ct, osl, rfl, l, c⟩, kp⟩
  exact ⟨f, _, def_ok Fn S hsc hfn hK hc gf hF, PySem.W.mg_of XK G a, kp, .all (hb kV doc pm an cdv ct), hkw kV doc pm an cdv ct⟩
end
/-! ### the law: its bag is made, and is drawn from -/
def noBag : Bag := { bv := (9, .non), B := fun _ => False, G := fun _ => True, dom := fun _ _ _ h => h.elim, loc := fun _ _ _ _ => trivial, sp := ⟨fun h => absurd h (by decide), fun h => absurd h (by decide)⟩ }
def ownBag (b l : Addr) (n : b ≠ l) : Bag where
  bv := (1, .ref b)
  B := fun a => a = b ∨ a = l
  G := fun H => ∃ (cs : List Int) (cur mixed : Int), (∀ c ∈ cs, 0 ≤ c) ∧ H b = some (.lst [.ref l, .int cur, .int mixed]) ∧ H l = some (.lst (cs.map V.int)) ∧ 0 ≤ cur ∧ 0 ≤ mixed ∧ mixed < 2147483647
  dom := fun H a ⟨cs, cur, mixed, _, e1, e2, _⟩ hb => by
    rcases hb with rfl | rfl
    · rw [e1]; rfl
    · rw [e2]; rfl
  loc := fun H H' hs ⟨cs, cur, mixed, q, e1, e2, r⟩ => ⟨cs, cur, mixed, q, (hs b (.inl rfl)).trans e1, (hs l (.inr rfl)).trans e2, r⟩
  sp := ⟨fun _ => ⟨b, l, fun cs => ∀ c ∈ cs, 0 ≤ c, rfl, n, fun a => Iff.rfl, fun cs ds p q c hc => p c (q.subset hc), fun cs p => p, fun H => Iff.rfl⟩, fun e => by cases e⟩
def lawSp (K : PySem.W.Frag) : Sp := fun vs H Q _ => ∃ (a : Addr) (ns : List Int), vs = [.ref a] ∧ ns.length ≤ 63 ∧ Only H ∧ SqL K H a (ns.map V.int) ∧ ∀ H', Q (.bl true) H'
/-- what a bag's maker keeps -/
def FOwn (K : PySem.W.Frag) : VS := fun ds Q => ds = [.scr K] ∧ ∀ (cells : List Int) (mixed : Int), (∀ c ∈ cells, 0 ≤ c) → 0 ≤ mixed → mixed < 2147483647 → Q (.fr [.lst (cells.map D.int), .int 0, .int mixed])
def FDraw : VS := fun ds Q => ∃ n : Int, ds = [.bag 1, .int n] ∧ 0 < n ∧ n.natAbs.log2 < 9000 ∧ ∀ r : Int, 0 ≤ r → r < n → Q (.sh (.int r))
theorem Rep.ofScr {bv N H} {K : PySem.W.Frag} {a : Addr} {ns : List Int} (o : Only H) (h : SqL K H a (ns.map V.int)) (hl : ns.length ≤ 63) (hn : ∀ a, ¬ N a) : Rep bv H N (.scr K) (.ref a) := by
  rcases h with (h | ⟨ob, h⟩) | h
  · rcases o a with e | ⟨_, _, e⟩ <;> rw [e] at h <;> cases h
  · exact .scrF h (hn a) hl
  · exact .scrK h hl
theorem law_ok {P : Program} {w : World} {K : PySem.W.Frag} {mg : Str → Option Value} {base : Heap} {x qual : Str} {st : Stmt} {f : Addr} {fd : FuncData} {C : Cxt} {n k ib : Nat} {w1 w2 : WS} {p : Str}
    (Fn : Fun K x qual st f fd) (S : FnScope C.N [p] (defScope st)) (hc1 : cSs C n ((defBody st).take 1) = some w1) (hc2 : cSs C n ((defBody st).drop 1) = some w2) (hsc : C.sc = defScope st) (hfn : C.fnb = fun _ => true) (hK : C.K = K) (G : GF P w K mg base C k)
    (h1 : w1 { nx := fun s => ∃ (cells : List Int) (mixed : Int), (∀ c ∈ cells, 0 ≤ c) ∧ 0 ≤ mixed ∧ mixed < 2147483647 ∧ s[ib]? = some (.ow [.lst (cells.map D.int), .int 0, .int mixed]), rt := fun _ => False } (begin C.N.length [.scr K]))
    (h2 : w2 { nx := fun _ => False, rt := fun r => r = .sh (.bl true) } ((List.replicate C.N.length .un).set ib (.sh (.bag 1)))) : FnG P w K mg base CX0 (k + 1) f fd [p] (lawSp K) := by
  refine fnG_of Fn S (fun vs H Q E h => ?_) fun cdv A outer s H vs Q E hgd hr h => ?_
  · obtain ⟨a, ns, rfl, _⟩ := h; rfl
  · obtain ⟨a, ns, rfl, hlen, only, script, hq⟩ := h
    have cf : CF (cxOf CX0 P w K mg base C.N qual (defScope st) f cdv A outer s H E).nox C k :=
      { hN := rfl, nd := S.nd, sc := hsc.symm, fn := hfn.symm, calm := rfl, room := hr, gd := hgd, K := hK.symm,
        bk := by
          show (if (defScope st).kind.isAnnotationScope then ScopeKind.function else (defScope st).kind) = .function
          rw [S.kind]; rfl
        bl := G.bl, md := G.md, fns := fun p hp => ⟨G.fns p hp⟩ }
    cases n with
    | zero => cases hc1
    | succ n =>
    cases hbd : defBody st with
    | nil =>
      rw [hbd] at hc2
      cases hc2
      exact h2.elim
    | cons s1 rest =>
      rw [hbd] at hc1 hc2
      obtain ⟨t1, p1, l1⟩ := ((sndS n).s cf PassesOwn.never (show cS C n s1 = some w1 from hc1)).ex
      obtain ⟨t2, p2, l2⟩ := ((sndS (n + 1)).ss cf PassesOwn.never (show cSs C (n + 1) rest = some w2 from hc2)).ex
      refine ⟨_, (pss_cons p1 p2).nox, ?_⟩
      have rep : Reps noBag.bv H (fun _ => False) [D.scr K] [V.ref a] := .cons (Rep.ofScr only script hlen fun _ => id) .nil
      obtain ⟨S0, e0⟩ := SR.start (g := noBag) C.N trivial (fun _ h => h) (fun _ h => h.elim) rep
      refine l1 noBag (fun _ => False) H (begin C.N.length [.scr K]) (L2.start C.N [.ref a]) [] H _ _ e0 S0 h1 ⟨fun s' σ' H1 e1 e2 S1 h => ?_, fun _ _ _ _ _ _ h => h.elim, fun _ _ _ _ _ _ h => h.elim, fun _ _ _ _ _ _ h => h.elim⟩
      obtain ⟨cells, mixed, q1, q2, q3, hs⟩ := h
      obtain ⟨v, hv, hm⟩ := zip_get' e1 hs
      obtain ⟨b, vs, e, _, _, hb, r, cb⟩ := S1.own_n (List.mem_append_left _ hm)
      subst e
      obtain ⟨l, rfl, nl, hl⟩ : ∃ l, vs = [.ref l, .int 0, .int mixed] ∧ ¬ Nn (fun _ => False) (s'.zip σ' ++ []) l ∧ H1 l = some (.lst (cells.map V.int)) := by
        cases r with
        | cons a1 r =>
          cases r with
          | cons a2 r =>
            cases r with
            | cons a3 r =>
              cases r
              cases a2
              cases a3
              cases a1 with
              | lst h1 h2 h3 => exact ⟨_, rfl, h2, by rw [h1, h3.ints]⟩
      have nbl : b ≠ l := fun z => nl (.inr (z ▸ cb))
      have hlen' : s'.length = C.N.length := by
        have := e2
        rw [e1, e2, ← e0]
        simp only [begin, List.length_append, List.length_map, List.length_replicate, List.length_cons, List.length_nil]
        have hp := congrArg List.length S.pre
        simp only [List.length_take, List.length_cons, List.length_nil] at hp
        omega
      have hib : ib < s'.length := (List.getElem?_eq_some_iff.mp hs).1
      let s2 : Sg := (List.replicate C.N.length Sl.un).set ib (.sh (.bag 1))
      have hs2 : s2.length = σ'.length := by simp [s2, ← hlen', e1]
      have zero : ∀ a, cnt a (s2.zip σ' ++ []) = 0 := fun a => by
        refine List.countP_eq_zero.mpr fun p hp => ?_
        rw [List.append_nil] at hp
        have := (List.of_mem_zip (show (p.1, p.2) ∈ s2.zip σ' from hp)).1
        rcases List.mem_or_eq_of_mem_set this with h | h
        · have := (List.mem_replicate.mp h).2
          unfold owns; rw [this]; simp
        · unfold owns; rw [h]; simp
      have S2 : SR (ownBag b l nbl) (fun a => a = b ∨ a = l) H1 (s2.zip σ' ++ []) H1 := {
        hg := ⟨cells, 0, mixed, q1, hb, hl, Int.le_refl _, q2, q3⟩
        sm := .refl _
        nd := fun a h => by
          rcases h with rfl | rfl
          · rw [hb]; rfl
          · rw [hl]; rfl
        bn := fun a h => h
        each := fun p hp => by
          rw [List.append_nil] at hp
          obtain ⟨i, hi⟩ := List.mem_iff_getElem?.mp hp
          rw [List.getElem?_zip_eq_some] at hi
          obtain ⟨i1, i2⟩ := hi
          obtain ⟨x, y⟩ := p
          by_cases hx : i = ib
          · subst hx
            rw [List.getElem?_set_self (by simp [← hlen', hib])] at i1
            rw [hv] at i2
            cases i1; cases i2
            exact ⟨_, rfl, .bag rfl⟩
          · rw [List.getElem?_set_ne (Ne.symm hx), List.getElem?_replicate] at i1
            split at i1
            · cases i1; exact trivial
            · cases i1
        dist := fun a => by rw [zero]; exact Nat.zero_le _ }
      refine l2 _ _ H1 s2 σ' [] H1 _ _ hs2 S2 h2 ⟨fun _ _ _ _ _ _ h => h.elim, fun _ _ _ _ _ _ h => h.elim, fun _ _ _ _ _ _ h => h.elim, fun r v H' L' S' _ h => ?_⟩
      subst h
      obtain ⟨u, e, rr⟩ := S'.each _ (List.mem_cons_self ..)
      cases e
      cases rr
      exact hq H'
end LV
namespace LV
open PySem PySem.Spec PyProof.Rows L2
/-! ### items, evaluated -/
section
variable {α : Type} {x y z u v : α} {xs : List α}
theorem at_0 : L2.atI (x :: xs) 0 = some x := atI_nat (j := 0) rfl
theorem at_1 : L2.atI (x :: y :: xs) 1 = some y := atI_nat (j := 1) rfl
theorem at_2 : L2.atI (x :: y :: z :: xs) 2 = some z := atI_nat (j := 2) rfl
theorem at_3 : L2.atI (x :: y :: z :: u :: xs) 3 = some u := atI_nat (j := 3) rfl
theorem at_m1a : L2.atI [x] (-1) = some x := rfl
theorem at_m1b : L2.atI [x, y] (-1) = some y := rfl
theorem at_m1c : L2.atI [x, y, z] (-1) = some z := rfl
theorem at_m1d : L2.atI [x, y, z, u] (-1) = some u := rfl
theorem at_m2b : L2.atI [x, y] (-2) = some x := rfl
theorem at_m2c : L2.atI [x, y, z] (-2) = some y := rfl
theorem at_m1 : L2.atI (xs ++ [x]) (-1) = some x := by
  unfold L2.atI
  have e : ixN (xs ++ [x]).length (-1) = some xs.length := by
    unfold ixN
    simp
    omega
  rw [e]; simp
theorem at_m2 : L2.atI (xs ++ [x, y]) (-2) = some x := by
  unfold L2.atI
  have e : ixN (xs ++ [x, y]).length (-2) = some xs.length := by
    unfold ixN
    simp
    omega
  rw [e]; simp
end
theorem eqD_int (i j : Int) : eqD (.int i) (.int j) = decide (i = j) := by
  show (i == j) = _
  exact Bool.beq_eq_decide_eq i j
theorem sha_int {i : Int} : sha (.int i) := rfl
/-! ### pairs of ints -/
abbrev fD (p : Int × Int) : D := .tup [.int p.1, .int p.2]
/-- below 2 ^ n -/
def sm (n : Nat) (i : Int) : Prop := i.natAbs < 2 ^ n
theorem toPys_map {α : Type} (f : α → D) : ∀ l : List α, toPys (l.map f) = l.map fun x => toPy (f x)
  | [] => rfl
  | x :: l => by simp [toPys, toPys_map f l]
theorem lay_pairs : ∀ l : List (Int × Int), PyData.canLayAll0 (toPys (l.map fD)) = true
  | [] => rfl
  | x :: l => lay_pairs l
theorem dep_pairs : ∀ l : List (Int × Int), PyData.depthAll (toPys (l.map fD)) ≤ 1
  | [] => Nat.zero_le _
  | x :: l => by
    have ih := dep_pairs l
    show max (PyData.depth (toPy (fD x))) (PyData.depthAll (toPys (l.map fD))) ≤ 1
    have : PyData.depth (toPy (fD x)) = 1 := rfl
    rw [this]
    exact Nat.max_le.mpr ⟨Nat.le_refl _, ih⟩
theorem sha_pairs (l : List (Int × Int)) : sha (.tup (l.map fD)) := by
  unfold sha SeqAt.shaped
  refine Bool.and_eq_true_iff.mpr ⟨lay_pairs l, decide_eq_true ?_⟩
  show PyData.depthAll (toPys (l.map fD)) + 1 ≤ 64
  have := dep_pairs l
  omega
theorem sha_pair (p : Int × Int) : sha (fD p) := rfl
theorem log_lt {i : Int} (h : sm 1900 i) : i.natAbs.log2 < 1920 := by
  by_cases e : i.natAbs = 0
  · rw [e]; decide
  · exact Nat.lt_trans ((Nat.log2_lt e).mpr h) (by decide)
theorem show_pairs : ∀ l : List (Int × Int), (∀ x ∈ l, sm 1900 x.1 ∧ sm 1900 x.2) → PyData.showableAll (toPys (l.map fD)) = true
  | [], _ => rfl
  | x :: l, h => by
    have h1 := h x (List.mem_cons_self ..)
    show ((decide (x.1.natAbs.log2 < 1920) && (decide (x.2.natAbs.log2 < 1920) && true)) && PyData.showableAll (toPys (l.map fD))) = true
    rw [show_pairs l fun y hy => h y (List.mem_cons_of_mem _ hy), decide_eq_true (log_lt h1.1), decide_eq_true (log_lt h1.2)]
    rfl
theorem int_short {a : Int} (h : sm 1900 a) : (PyData.shown (.int a)).length ≤ 1921 := by
  have e := int_text_length_le (k := 1920) (by decide) (log_lt h)
  show (Str.ofString (toString a)).length ≤ 1921
  rw [PySem.ofString_length]; omega
theorem short_pairs : ∀ l : List (Int × Int), (∀ x ∈ l, sm 1900 x.1 ∧ sm 1900 x.2) → PyData.leavesShortAll 1921 (toPys (l.map fD)) = true
  | [], _ => rfl
  | x :: l, h => by
    have h1 := h x (List.mem_cons_self ..)
    show ((decide ((PyData.shown (.int x.1)).length ≤ 1921) && (decide ((PyData.shown (.int x.2)).length ≤ 1921) && true)) && PyData.leavesShortAll 1921 (toPys (l.map fD))) = true
    rw [short_pairs l fun y hy => h y (List.mem_cons_of_mem _ hy), decide_eq_true (int_short h1.1), decide_eq_true (int_short h1.2)]
    rfl
theorem bulk_pairs : ∀ l : List (Int × Int), PyData.bulkAll (toPys (l.map fD)) = 3 * l.length
  | [] => rfl
  | x :: l => by
    show 2 + 1 + PyData.bulkAll (toPys (l.map fD)) = 3 * (l.length + 1)
    rw [bulk_pairs l]; omega
theorem len_pairs (l : List (Int × Int)) (hl : l.length ≤ 1000) (h : ∀ x ∈ l, sm 1900 x.1 ∧ sm 1900 x.2) : (toPy (.tup (l.map fD))).shown.length ≤ sizeLine := by
  have e := PyData.shown_le_bulk 1921 (by decide) (toPy (.tup (l.map fD))) (short_pairs l h)
  have b : (toPy (.tup (l.map fD))).bulk = 3 * l.length := bulk_pairs l
  rw [b] at e
  rw [sizeLine_eq]
  omega
/-- what repr asks of a tuple of pairs -/
theorem repr_pairs {l : List (Int × Int)} {Q : RV → Prop} (hl : l.length ≤ 1000) (h : ∀ x ∈ l, sm 1900 x.1 ∧ sm 1900 x.2) (q : Q (.sh (.str (toPy (.tup (l.map fD))).shown))) : fRepr [.tup (l.map fD)] Q :=
  ⟨sha_pairs l, show_pairs l h, len_pairs l hl h, q⟩
theorem repr_pair {p : Int × Int} {Q : RV → Prop} (h : sm 1900 p.1 ∧ sm 1900 p.2) (q : Q (.sh (.str (toPy (fD p)).shown))) : fRepr [fD p] Q := by
  refine ⟨sha_pair p, ?_, ?_, q⟩
  · show (decide (p.1.natAbs.log2 < 1920) && (decide (p.2.natAbs.log2 < 1920) && true)) = true
    rw [decide_eq_true (log_lt h.1), decide_eq_true (log_lt h.2)]; rfl
  · have e := PyData.shown_le_bulk 1921 (by decide) (toPy (fD p)) (by
      show (decide ((PyData.shown (.int p.1)).length ≤ 1921) && (decide ((PyData.shown (.int p.2)).length ≤ 1921) && true)) = true
      rw [decide_eq_true (int_short h.1), decide_eq_true (int_short h.2)]; rfl)
    have b : (toPy (fD p)).bulk = 2 := rfl
    rw [b] at e
    rw [sizeLine_eq]
    omega
theorem repr_bl {b : Bool} {Q : RV → Prop} (q : Q (.sh (.str (toPy (.bl b)).shown))) : fRepr [.bl b] Q := by
  refine ⟨rfl, rfl, ?_, q⟩
  rw [sizeLine_eq]
  cases b <;> decide
/-! ### small ranges, small numbers -/
theorem zr_0 : zRng1 [.int 0] = some [] := rfl
theorem zr_1 : zRng1 [.int 1] = some [.int 0] := rfl
theorem zr_2 : zRng1 [.int 2] = some [.int 0, .int 1] := rfl
theorem zr_3 : zRng1 [.int 3] = some [.int 0, .int 1, .int 2] := rfl
theorem zr_4 : zRng1 [.int 4] = some [.int 0, .int 1, .int 2, .int 3] := rfl
theorem nc_0 : ((0 : Nat) : Int) = 0 := rfl
theorem nc_1 : ((1 : Nat) : Int) = 1 := rfl
theorem nc_2 : ((2 : Nat) : Int) = 2 := rfl
theorem nc_3 : ((3 : Nat) : Int) = 3 := rfl
theorem nc_4 : ((4 : Nat) : Int) = 4 := rfl
/-! ### folds of loops -/
theorem seq_cut {a b : WS} {K : LK} {s : Sg} (J : Sg → Prop) (h1 : ∀ nx : Sg → Prop, (∀ s, J s → nx s) → a { K with nx := nx } s) (h2 : ∀ s, J s → b K s) : wSeq a b K s := h1 _ h2
theorem cut_map {α : Type} (f : α → D) (l : List α) (lo hi : Option Int) : ∃ m : List α, cutD (l.map f) lo hi = m.map f ∧ m.length ≤ l.length ∧ ∀ x ∈ m, x ∈ l := by
  unfold cutD
  rw [List.length_map, ← List.map_drop, ← List.map_take]
  refine ⟨_, rfl, ?_, fun x hx => ?_⟩
  · rw [List.length_take, List.length_drop]; omega
  · exact List.mem_of_mem_drop (List.mem_of_mem_take hx)
/-- the bag's loop, by what holds at its head -/
theorem bagw {i j : Nat} {wt : WT} {wb : WS} {K : LK} {s : Sg} (I : Sg → Prop) (hI : I s) (hb : ∀ s, I s → s[i]? = some (.sh (.bag 1))) (hn : ∀ s, I s → K.nx s) (hw : ∀ s, I s → wt s fun b s1 => (I s1 ∧ (b = true → j < s1.length ∧ ∀ v : Int, 0 ≤ v → wb { nx := I, rt := fun _ => False } (s1.set j (.sh (.int v)))))) (mono : ∀ s (Q1 Q2 : Bool → Sg → Prop), (∀ b s, Q1 b s → Q2 b s) → wt s Q1 → wt s Q2) :
    wBagW i j wt wb K s := ⟨I, hI, fun s h => ⟨hb s h, mono s _ _ (fun b s1 ⟨h1, h2⟩ => ⟨hb s1 h1, hn s1 h1, h2⟩) (hw s h)⟩⟩
/-- a loop's promise, by an invariant along the items -/
theorem forL {α : Type} {wg : WG} {wb : WS} {K : LK} (f : α → D) (J : List α → List α → Sg → Prop)
    (hs : ∀ done x rest s (nx : Sg → Prop), J done (x :: rest) s → (∀ s', J (done ++ [x]) rest s' → nx s') → wg (f x) s fun s1 => wb { K with nx := nx, ct := nx, bk := K.nx } s1) (he : ∀ done s, J done [] s → K.nx s) :
    ∀ (rest done : List α) (s : Sg), J done rest s → wForL wg wb K (rest.map f) s
  | [], done, s, h => he done s h
  | x :: rest, done, s, h => hs done x rest s _ h fun s' h' => forL f J hs he rest (done ++ [x]) s' h'
/-- .. of the items themselves -/
theorem forD {wg : WG} {wb : WS} {K : LK} (J : List D → List D → Sg → Prop)
    (hs : ∀ done x rest s (nx : Sg → Prop), J done (x :: rest) s → (∀ s', J (done ++ [x]) rest s' → nx s') → wg x s fun s1 => wb { K with nx := nx, ct := nx, bk := K.nx } s1) (he : ∀ done s, J done [] s → K.nx s) :
    ∀ (rest done : List D) (s : Sg), J done rest s → wForL wg wb K rest s
  | [], done, s, h => he done s h
  | x :: rest, done, s, h => hs done x rest s _ h fun s' h' => forD J hs he rest (done ++ [x]) s' h'
/-- .. of a comprehension without a test; the items' values may depend on what is told -/
theorem lcL {α : Type} {rs : List RV} {srcs : List D} {own : List Nat} {wg : WG} {we : WE} {Q : RV → Sg → Prop} (f : α → D) (J : List α → List α → List D → Sg → Prop)
    (hs : ∀ done x rest acc s (nx : D → Sg → Prop), J done (x :: rest) acc s → (∀ e s', J (done ++ [x]) rest (acc ++ [e]) (backS s own s') → nx e (backS s own s')) →
      rdL s rs (fun ds => ds = srcs) ∧ acc.length < 16777216 ∧ own.all (fun i => notOw (s.getD i .un)) = true ∧ wg (f x) (wipeS own s) fun s1 => we s1 fun r s3 => fzW s3 r fun e s4 => nx e (backS s own s4))
    (he : ∀ done acc s, J done [] acc s → rdL s rs (fun ds => ds = srcs) ∧ Q (.fr acc) s) :
    ∀ (rest done : List α) (acc : List D) (s : Sg), J done rest acc s → wLcL rs srcs own wg wYes we Q (rest.map f) acc s
  | [], done, acc, s, h => he done acc s h
  | x :: rest, done, acc, s, h => by
    have q := hs done x rest acc s (fun e s' => wLcL rs srcs own wg wYes we Q (rest.map f) (acc ++ [e]) s') h fun e s' h' => lcL f J hs he rest (done ++ [x]) (acc ++ [e]) _ h'
    exact ⟨q.1, q.2.1, q.2.2.1, q.2.2.2⟩
end LV
namespace LV
/-! ### fractions by themselves -/
abbrev Fr := Int × Int
/-- a / b in lowest terms -/
def low (a b : Int) : Fr := if 0 < b then (a.fdiv (Int.gcd a b), b.fdiv (Int.gcd a b)) else (a.fdiv (-(Int.gcd a b : Int)), b.fdiv (-(Int.gcd a b : Int)))
/-- x is A / B in lowest terms -/
structure Low (x : Fr) (A B : Int) : Prop where
  pos : 0 < x.2
  cop : Int.gcd x.1 x.2 = 1
  eq : x.1 * B = A * x.2
theorem cop_div {a b : Int} (h : b ≠ 0) : ∃ x y : Int, a = Int.gcd a b * x ∧ b = Int.gcd a b * y ∧ Int.gcd x y = 1 := by
  have h0 : 0 < Int.gcd a b := Int.gcd_pos_of_ne_zero_right _ h
  obtain ⟨x, hx⟩ := Int.gcd_dvd_left a b
  obtain ⟨y, hy⟩ := Int.gcd_dvd_right a b
  refine ⟨x, y, hx, hy, ?_⟩
  have h1 : Int.gcd a b = Int.gcd a b * Int.gcd x y := by
    have := Int.gcd_mul_left (Int.gcd a b : Int) x y
    rw [← hx, ← hy] at this
    simpa using this
  have : Int.gcd a b * 1 = Int.gcd a b * Int.gcd x y := by omega
  exact (Nat.eq_of_mul_eq_mul_left h0 this).symm
theorem low_ok (a b : Int) (h : b ≠ 0) : Low (low a b) a b := by
  have h0 : 0 < Int.gcd a b := Int.gcd_pos_of_ne_zero_right _ h
  obtain ⟨x, y, hx, hy, hc⟩ := cop_div (a := a) h
  have g0 : (Int.gcd a b : Int) ≠ 0 := by omega
  have gp : (0 : Int) < (Int.gcd a b : Int) := by omega
  unfold low
  generalize Int.gcd a b = g at *
  split
  · rename_i hb
    have e1 : a.fdiv g = x := by rw [hx]; exact Int.mul_fdiv_cancel_left _ g0
    have e2 : b.fdiv g = y := by rw [hy]; exact Int.mul_fdiv_cancel_left _ g0
    rw [e1, e2]
    refine ⟨?_, hc, ?_⟩
    · rw [hy] at hb
      exact Int.pos_of_mul_pos_right hb gp
    · show x * b = a * y
      rw [hx, hy]; grind
  · rename_i hb
    have e1 : a.fdiv (-(g : Int)) = -x := by
      have : a = -(g : Int) * -x := by rw [hx]; grind
      rw [this]; exact Int.mul_fdiv_cancel_left _ (by omega)
    have e2 : b.fdiv (-(g : Int)) = -y := by
      have : b = -(g : Int) * -y := by rw [hy]; grind
      rw [this]; exact Int.mul_fdiv_cancel_left _ (by omega)
    rw [e1, e2]
    refine ⟨?_, ?_, ?_⟩
    · have hb' : 0 < (g : Int) * -y := by
        have : (g : Int) * -y = -b := by rw [hy]; grind
        omega
      exact Int.pos_of_mul_pos_right hb' gp
    · show Int.gcd (-x) (-y) = 1
      rw [Int.gcd_neg, Int.neg_gcd]; exact hc
    · show -x * b = a * -y
      rw [hx, hy]; grind
theorem dvd_cop {a b c : Int} (h : a ∣ b * c) (g : Int.gcd a b = 1) : a ∣ c := by
  rw [← Int.natAbs_dvd_natAbs] at h ⊢
  rw [Int.natAbs_mul] at h
  exact Nat.Coprime.dvd_of_dvd_mul_left (show Nat.gcd a.natAbs b.natAbs = 1 from g) h
theorem Low.dvd2 {x : Fr} {A B : Int} (h : Low x A B) : x.2 ∣ B := by
  have : x.2 ∣ x.1 * B := ⟨A, by rw [h.eq]; grind⟩
  exact dvd_cop this (by rw [Int.gcd_comm]; exact h.cop)
theorem Low.dvd1 {x : Fr} {A B : Int} (h : Low x A B) : x.1 ∣ A := by
  have : x.1 ∣ A * x.2 := ⟨B, by rw [← h.eq]⟩
  rw [Int.mul_comm] at this
  exact dvd_cop this h.cop
theorem Low.le2 {x : Fr} {A B : Int} (h : Low x A B) (hB : B ≠ 0) : x.2.natAbs ≤ B.natAbs := Nat.le_of_dvd (by omega) (Int.natAbs_dvd_natAbs.mpr h.dvd2)
theorem Low.le1 {x : Fr} {A B : Int} (h : Low x A B) (hB : B ≠ 0) : x.1.natAbs ≤ A.natAbs := by
  by_cases hA : A = 0
  · have := h.eq
    rw [hA, Int.zero_mul] at this
    rcases Int.mul_eq_zero.mp this with e | e
    · rw [e]; exact Nat.zero_le _
    · exact absurd e hB
  · exact Nat.le_of_dvd (by omega) (Int.natAbs_dvd_natAbs.mpr h.dvd1)
theorem Low.uniq {x y : Fr} {A B C D : Int} (h : Low x A B) (k : Low y C D) (hB : B ≠ 0) (hD : D ≠ 0) (e : A * D = C * B) : x = y := by
  have cross : x.1 * y.2 = y.1 * x.2 := by
    have e1 := h.eq
    have e2 := k.eq
    have hBD : B * D ≠ 0 := fun z => (Int.mul_eq_zero.mp z).elim hB hD
    refine Int.eq_of_mul_eq_mul_right hBD ?_
    have : x.1 * y.2 * (B * D) = (x.1 * B) * (y.2 * D) := by grind
    rw [this, e1]
    have : A * x.2 * (y.2 * D) = (A * D) * (x.2 * y.2) := by grind
    rw [this, e]
    have : y.1 * x.2 * (B * D) = (y.1 * D) * (x.2 * B) := by grind
    rw [this, e2]; grind
  have d1 : x.2 ∣ y.2 := dvd_cop (⟨y.1, by rw [cross]; grind⟩ : x.2 ∣ x.1 * y.2) (by rw [Int.gcd_comm]; exact h.cop)
  have d2 : y.2 ∣ x.2 := dvd_cop (⟨x.1, by rw [← cross]; grind⟩ : y.2 ∣ y.1 * x.2) (by rw [Int.gcd_comm]; exact k.cop)
  have e2 : x.2 = y.2 := by
    have a1 := Int.le_of_dvd k.pos d1
    have a2 := Int.le_of_dvd h.pos d2
    omega
  have e1 : x.1 = y.1 := by
    rw [e2] at cross
    exact Int.eq_of_mul_eq_mul_right (by have := k.pos; omega) cross
  exact Prod.ext e1 e2
theorem sm.mono {n m : Nat} {i : Int} (h : sm n i) (hm : n ≤ m) : sm m i := Nat.lt_of_lt_of_le h (Nat.pow_le_pow_right (by decide) hm)
theorem sm.le {n : Nat} {i j : Int} (h : sm n i) (hj : j.natAbs ≤ i.natAbs) : sm n j := Nat.lt_of_le_of_lt hj h
theorem sm.mul {n m : Nat} {i j : Int} (h : sm n i) (k : sm m j) : sm (n + m) (i * j) := by
  unfold sm at *
  rw [Int.natAbs_mul, Nat.pow_add]
  exact Nat.mul_lt_mul_of_lt_of_lt h k
theorem sm.add {n : Nat} {i j : Int} (h : sm n i) (k : sm n j) : sm (n + 1) (i + j) := by
  unfold sm at *
  have := Int.natAbs_add_le i j
  rw [Nat.pow_succ]; omega
theorem sm.neg {n : Nat} {i : Int} (h : sm n i) : sm n (-i) := by unfold sm at *; rw [Int.natAbs_neg]; exact h
theorem sm.sub {n : Nat} {i j : Int} (h : sm n i) (k : sm n j) : sm (n + 1) (i - j) := by
  rw [Int.sub_eq_add_neg]; exact h.add k.neg
theorem sm.log {n : Nat} {i : Int} (h : sm n i) : i.natAbs.log2 ≤ n := by
  by_cases e : i.natAbs = 0
  · rw [e]; exact Nat.zero_le _
  · exact Nat.le_of_lt ((Nat.log2_lt e).mpr h)
theorem sm.of {n m : Nat} {i : Int} (h : i.natAbs < m) (hm : m ≤ 2 ^ n) : sm n i := Nat.lt_of_lt_of_le h hm
theorem sm.mulW {n m : Nat} {i j : Int} (h : sm n i) (k : sm m j) (hl : n + m < 1000000) : L2.CMulW i j := by
  have := h.log
  have := k.log
  show i.natAbs.log2 + j.natAbs.log2 < 1000000
  omega
theorem sm.divA {n : Nat} {i j : Int} (k : sm n j) (h0 : j ≠ 0) (hn : n < 9000) : CDivA i j := ⟨h0, Nat.lt_of_le_of_lt k.log hn⟩
end LV
namespace Q
open PySem PySem.Spec PyProof.Rows L2 LV
def topS (i : Nat) : Stmt := PySem.Challenge.pw_stepsstaycalm_k35_whole_quotients.main.body.getD i (.Pass ⟨0, 0, 0, 0⟩)
abbrev s_fraction_of : Stmt := topS 2
abbrev s_fraction_sum : Stmt := topS 3
abbrev s_fraction_less : Stmt := topS 4
abbrev s_fraction_times : Stmt := topS 5
abbrev s_quotient_share : Stmt := topS 7
abbrev s_is_quotient_calm : Stmt := topS 8
abbrev s_quotient_run : Stmt := topS 9
abbrev s_quotient_sum : Stmt := topS 10
abbrev s_common_divisor : Stmt := topS 12
abbrev s_power : Stmt := topS 13
abbrev s_whole_row : Stmt := topS 14
abbrev s_product_poly : Stmt := topS 15
abbrev s_place_poly : Stmt := topS 16
abbrev s_slope_weights : Stmt := topS 17
abbrev s_uneven_backward : Stmt := topS 19
abbrev s__law_own_bag : Stmt := topS 21
abbrev s__law_draw : Stmt := topS 22
abbrev s__law_pick : Stmt := topS 23
abbrev s__law_common : Stmt := topS 24
abbrev s__law_is : Stmt := topS 25
abbrev s__law_are : Stmt := topS 26
abbrev s__law_lowest : Stmt := topS 27
abbrev s__law_near : Stmt := topS 28
abbrev s__law_quotient : Stmt := topS 29
abbrev s__law_own_quotients : Stmt := topS 30
abbrev s__law_value : Stmt := topS 31
abbrev s__law_share : Stmt := topS 32
abbrev s__law_is_due_calm : Stmt := topS 33
abbrev s__law_sums : Stmt := topS 34
abbrev s__law_values : Stmt := topS 35
abbrev s__law_greatest : Stmt := topS 36
abbrev s__law_is_bound_right : Stmt := topS 37
abbrev s__law_is_run_right : Stmt := topS 38
abbrev s__law_is_one_right : Stmt := topS 39
abbrev s__law_is_beside_right : Stmt := topS 40
abbrev s_law : Stmt := topS 41
def DS : List (Str × Stmt) := ("fraction_of", s_fraction_of) :: ("fraction_sum", s_fraction_sum) :: ("fraction_less", s_fraction_less) :: ("fraction_times", s_fraction_times) :: ("quotient_share", s_quotient_share) :: ("is_quotient_calm", s_is_quotient_calm) :: ("quotient_run", s_quotient_run) :: ("quotient_sum", s_quotient_sum) :: ("common_divisor", s_common_divisor) :: ("power", s_power) :: ("whole_row", s_whole_row) :: ("product_poly", s_product_poly) :: ("place_poly", s_place_poly) :: ("slope_weights", s_slope_weights) :: ("uneven_backward", s_uneven_backward) :: ("_law_own_bag", s__law_own_bag) :: ("_law_draw", s__law_draw) :: ("_law_pick", s__law_pick) :: ("_law_common", s__law_common) :: ("_law_is", s__law_is) :: ("_law_are", s__law_are) :: ("_law_lowest", s__law_lowest) :: ("_law_near", s__law_near) :: ("_law_quotient", s__law_quotient) :: ("_law_own_quotients", s__law_own_quotients) :: ("_law_value", s__law_value) :: ("_law_share", s__law_share) :: ("_law_is_due_calm", s__law_is_due_calm) :: ("_law_sums", s__law_sums) :: ("_law_values", s__law_values) :: ("_law_greatest", s__law_greatest) :: ("_law_is_bound_right", s__law_is_bound_right) :: ("_law_is_run_right", s__law_is_run_right) :: ("_law_is_one_right", s__law_is_one_right) :: ("_law_is_beside_right", s__law_is_beside_right) :: []
def ZS : List Str := ["tuple", "abs", "range", "zip", "enumerate", "len", "sum", "list", "reversed", "int", "isinstance", "bool", "repr"]
def MS : List (Str × String) := [("gcd", "math.gcd")]
/-! what the defs promise -/
def F_fraction_of : VS := fun ds Q => match ds with
  | [.int a, .int b] => b ≠ 0 ∧ sm 8000 a ∧ sm 8000 b ∧ Q (.sh (fD (low a b)))
  | _ => False
def F_fraction_sum : VS := fun ds Q => match ds with
  | [.tup [.int a, .int b], .tup [.int c, .int d]] => b ≠ 0 ∧ d ≠ 0 ∧ sm 3900 a ∧ sm 3900 b ∧ sm 3900 c ∧ sm 3900 d ∧ Q (.sh (fD (low (a * d + c * b) (b * d))))
  | _ => False
def F_fraction_less : VS := fun ds Q => match ds with
  | [.tup [.int a, .int b], .tup [.int c, .int d]] => b ≠ 0 ∧ d ≠ 0 ∧ sm 3900 a ∧ sm 3900 b ∧ sm 3900 c ∧ sm 3900 d ∧ Q (.sh (fD (low (a * d - c * b) (b * d))))
  | _ => False
def F_fraction_times : VS := fun ds Q => match ds with
  | [.tup [.int a, .int b], .tup [.int c, .int d]] => b ≠ 0 ∧ d ≠ 0 ∧ sm 3900 a ∧ sm 3900 b ∧ sm 3900 c ∧ sm 3900 d ∧ Q (.sh (fD (low (a * c) (b * d))))
  | _ => False
/-- a quotient: both parts from 1 to 1000 -/
def Qt (w : Fr) : Prop := 1 ≤ w.1 ∧ w.1 ≤ 1000 ∧ 1 ≤ w.2 ∧ w.2 ≤ 1000
def shA (w : Fr) : Int := w.1 * w.1
def shB (w : Fr) : Int := w.2 * w.2 + 2 * w.1 * w.2
def F_quotient_share : VS := fun ds Q => match ds with
  | [.tup [.int a, .int b]] => Qt (a, b) ∧ Q (.sh (fD (low (shA (a, b)) (shB (a, b)))))
  | _ => False
def F_is_quotient_calm : VS := fun ds Q => match ds with
  | [.tup [.int a, .int b]] => Qt (a, b) ∧ Q (.sh (.bl (decide (shA (a, b) < shB (a, b)))))
  | _ => False
/-- above, below, product along quotients -/
structure Sm3 where
  a : Int
  b : Int
  p : Int
def Sm3.go (s : Sm3) (w : Fr) : Sm3 := ⟨s.a * shB w + s.p * shA w, s.b * shB w, s.p * shA w⟩
def sm3 (l : List Fr) : Sm3 := l.foldl Sm3.go ⟨0, 1, 1⟩
/-- first, or second, plus that share of their gap -/
def dueA (f s : Fr) (t : Sm3) : Int := s.1 * f.2 * t.b + (s.1 * f.2 - f.1 * s.2) * t.a
def dueB (f s : Fr) (t : Sm3) : Int := f.2 * s.2 * t.b
def sumsL (s : Sm3) : List Fr → List Sm3
  | [] => [s]
  | w :: l => s :: sumsL (s.go w) l
def runL (l : List Fr) (f s : Fr) : List Fr := f :: (sumsL ⟨0, 1, 1⟩ l).map fun t => low (dueA f s t) (dueB f s t)
/-- a value: lowest terms, parts to 1000 -/
def Vl (x : Fr) : Prop := 0 < x.2 ∧ x.2 ≤ 1000 ∧ -1000 ≤ x.1 ∧ x.1 ≤ 1000 ∧ Int.gcd x.1 x.2 = 1
def GoodL (l : List Fr) : Prop := l.length ≤ 40 ∧ ∀ w ∈ l, Qt w
def F_quotient_run : VS := fun ds Q => ∃ (l : List Fr) (f s : Fr), ds = [.tup (l.map fD), fD f, fD s] ∧ GoodL l ∧ Vl f ∧ Vl s ∧ Q (.sh (.tup ((runL l f s).map fD)))
def F_quotient_sum : VS := fun ds Q => ∃ (l : List Fr), ds = [.tup (l.map fD)] ∧ GoodL l ∧ Q (.sh (fD (low (sm3 l).a (sm3 l).b)))
def F_common_divisor : VS := fun ds Q => match ds with
  | [.int a, .int b] => Q (.sh (.int (Int.gcd a b)))
  | _ => False
def F_power : VS := fun ds Q => match ds with
  | [.int a, .int n] => sm 40 a ∧ (n = 0 ∨ n = 1) ∧ Q (.sh (.int (a ^ n.toNat)))
  | _ => False
def PQ (p q : Int) : Prop := 1 ≤ p ∧ 1 ≤ q ∧ p + q ≤ 1000
def F_whole_row : VS := fun ds Q => ∃ p q : Int, ds = [.tup [fD (0, 1), fD (1, 1), fD (p + q, q)]] ∧ PQ p q ∧ Q (.sh (.tup [.int q, .lst [.int 0, .int q, .int (p + q)]]))
def F_product_poly : VS := fun ds Q => match ds with
  | [.lst [.int a, .int b]] => sm 20 a ∧ sm 20 b ∧ Q (.fr [.int (a * b), .int (-a - b), .int 1])
  | _ => False
def plcW (a b c i : Int) : Int × Int × Int × Int := if i = 0 then (b * c, -b - c, 1, (a - b) * (a - c)) else if i = 1 then (a * c, -a - c, 1, (b - a) * (b - c)) else (a * b, -a - b, 1, (c - a) * (c - b))
def F_place_poly : VS := fun ds Q => match ds with
  | [.lst [.int a, .int b, .int c], .int i] => sm 20 a ∧ sm 20 b ∧ sm 20 c ∧ (i = 0 ∨ i = 1 ∨ i = 2) ∧ ∃ c0 c1 c2 wo, (c0, c1, c2, wo) = plcW a b c i ∧ Q (.sh (.tup [.lst [.int c0, .int c1, .int c2], .int wo]))
  | _ => False
def F_slope_weights : VS := fun ds Q => ∃ p q : Int, ds = [.lst [.int 0, .int q, .int (p + q)], .int (p + q), .int q] ∧ PQ p q ∧ Q (.sh (.tup [fD (low p (p + q)), fD (low (-p - q) p), fD (low (q * (2 * p + q)) ((p + q) * p))]))
def F_uneven_backward : VS := fun ds Q => ∃ p q : Int, ds = [.tup [fD (0, 1), fD (1, 1), fD (p + q, q)]] ∧ PQ p q ∧ Q (.sh (.tup [fD (low p (p + q)), fD (low (-p - q) p), fD (low (q * (2 * p + q)) ((p + q) * p))]))
abbrev F__law_own_bag := FOwn
abbrev F__law_draw := FDraw
def F__law_pick : VS := fun ds Q => ∃ xs : List D, ds = [.bag 1, .lst xs] ∧ xs ≠ [] ∧ xs.length ≤ 1000 ∧ ∀ d ∈ xs, Q (.sh d)
def F__law_common : VS := fun ds Q => match ds with
  | [.int a, .int b] => Q (.sh (.int (Int.gcd a b)))
  | _ => False
/-- x is due, in lowest terms, both of few figures -/
def Due (x d : Fr) : Prop := Low x d.1 d.2 ∧ sm 1900 x.1 ∧ sm 1900 x.2 ∧ sm 1900 d.1 ∧ sm 1900 d.2
def F__law_is : VS := fun ds Q => ∃ x d : Fr, ds = [fD x, .int d.1, .int d.2] ∧ Due x d ∧ Q (.sh (.bl true))
inductive Dues : List Fr → List Fr → Prop
  | nil : Dues [] []
  | cons {x d xs ds} : Due x d → Dues xs ds → Dues (x :: xs) (d :: ds)
def F__law_are : VS := fun ds Q => ∃ xs dus : List Fr, ds = [.tup (xs.map fD), .lst (dus.map fD)] ∧ xs.length ≤ 100 ∧ Dues xs dus ∧ Q (.sh (.bl true))
def F__law_lowest : VS := fun ds Q => match ds with
  | [.int a, .int b] => 0 < b ∧ sm 1000 a ∧ sm 1000 b ∧ Q (.sh (fD (low a b)))
  | _ => False
def nearL : List Fr := [(12, 5), (29, 12), (70, 29), (5, 2), (41, 17), (169, 70), (408, 169), (985, 408), (1, 1), (2, 1), (3, 1)]
def F__law_near : VS := fun ds Q => match ds with
  | [] => Q (.fr (nearL.map fD))
  | _ => False
def F__law_quotient : VS := fun ds Q => match ds with
  | [.bag 1, .int m] => 1 ≤ m ∧ m ≤ 1000 ∧ ∀ w : Fr, Qt w → Q (.sh (fD w))
  | _ => False
def F__law_own_quotients : VS := fun ds Q => match ds with
  | [.bag 1, .int n, .int m] => 1 ≤ m ∧ m ≤ 1000 ∧ 0 ≤ n ∧ n ≤ 40 ∧ ∀ l : List Fr, GoodL l → Q (.sh (.tup (l.map fD)))
  | _ => False
def F__law_value : VS := fun ds Q => match ds with
  | [.bag 1, .int m] => 1 ≤ m ∧ m ≤ 1000 ∧ ∀ x : Fr, Vl x → Q (.sh (fD x))
  | _ => False
def F__law_share : VS := fun ds Q => match ds with
  | [.tup [.int a, .int b]] => Qt (a, b) ∧ Q (.sh (fD (shA (a, b), shB (a, b))))
  | _ => False
def F__law_is_due_calm : VS := fun ds Q => match ds with
  | [.tup [.int a, .int b]] => Qt (a, b) ∧ Q (.sh (.bl (decide (shA (a, b) < shB (a, b)))))
  | _ => False
def ab (s : Sm3) : Fr := (s.a, s.b)
def F__law_sums : VS := fun ds Q => ∃ l : List Fr, ds = [.tup (l.map fD)] ∧ GoodL l ∧ Q (.fr ((sumsL ⟨0, 1, 1⟩ l).map fun s => fD (ab s)))
def F__law_values : VS := fun ds Q => ∃ (l : List Fr) (f s : Fr), ds = [.lst ((sumsL ⟨0, 1, 1⟩ l).map fun s => fD (ab s)), fD f, fD s] ∧ GoodL l ∧ Vl f ∧ Vl s ∧ Q (.fr (fD f :: (sumsL ⟨0, 1, 1⟩ l).map fun t => fD (dueA f s t, dueB f s t)))
def F__law_greatest : VS := fun ds Q => ∃ l : List Fr, ds = [.tup (l.map fD)] ∧ GoodL l ∧ l ≠ [] ∧ ∀ w ∈ l, (∀ v ∈ l, v.1 * w.2 ≤ w.1 * v.2) → Q (.sh (fD w))
def F__law_is_bound_right : VS := fun ds Q => ∃ l : List Fr, ds = [.tup (l.map fD), fD (low (sm3 l).a (sm3 l).b)] ∧ GoodL l ∧ Q (.sh (.bl true))
def F__law_is_run_right : VS := fun ds Q => ∃ (l : List Fr) (f s : Fr) (t : Bool), ds = [.tup (l.map fD), fD f, fD s, .bl t] ∧ GoodL l ∧ Vl f ∧ Vl s ∧ Q (.sh (.bl true))
def F__law_is_one_right : VS := fun ds Q => ∃ (w : Fr) (t : Bool), ds = [fD w, .bl t] ∧ Qt w ∧ Q (.sh (.bl true))
def F__law_is_beside_right : VS := fun ds Q => ∃ (w f s : Fr), ds = [fD w, fD f, fD s] ∧ Qt w ∧ w.1 + w.2 ≤ 1000 ∧ Vl f ∧ Vl s ∧ Q (.sh (.bl true))
def W_fraction_of (K : PySem.W.Frag) : WS :=
    wSeq (wSet 2 (wIf (wTst (wOp fGt (wV 1) (wC (.int 0)))) (wCB fGcd (wCons (wV 0) (wCons (wV 1) wNil))) (wUn fNeg (wCB fGcd (wCons (wV 0) (wCons (wV 1) wNil))))))
    (wRet (wTup (wCons (wOp fDiv (wV 0) (wV 2)) (wCons (wOp fDiv (wV 1) (wV 2)) wNil))))
def W_fraction_sum (K : PySem.W.Frag) : WS :=
    wRet (wCall F_fraction_of (wCons (wOp fAdd (wOp fMul (wOp fIx (wV 0) (wC (.int 0))) (wOp fIx (wV 1) (wC (.int 1)))) (wOp fMul (wOp fIx (wV 1) (wC (.int 0))) (wOp fIx (wV 0) (wC (.int 1))))) (wCons (wOp fMul (wOp fIx (wV 0) (wC (.int 1))) (wOp fIx (wV 1) (wC (.int 1)))) wNil)))
def W_fraction_less (K : PySem.W.Frag) : WS :=
    wRet (wCall F_fraction_of (wCons (wOp fSub (wOp fMul (wOp fIx (wV 0) (wC (.int 0))) (wOp fIx (wV 1) (wC (.int 1)))) (wOp fMul (wOp fIx (wV 1) (wC (.int 0))) (wOp fIx (wV 0) (wC (.int 1))))) (wCons (wOp fMul (wOp fIx (wV 0) (wC (.int 1))) (wOp fIx (wV 1) (wC (.int 1)))) wNil)))
def W_fraction_times (K : PySem.W.Frag) : WS :=
    wRet (wCall F_fraction_of (wCons (wOp fMul (wOp fIx (wV 0) (wC (.int 0))) (wOp fIx (wV 1) (wC (.int 0)))) (wCons (wOp fMul (wOp fIx (wV 0) (wC (.int 1))) (wOp fIx (wV 1) (wC (.int 1)))) wNil)))
def W_quotient_share (K : PySem.W.Frag) : WS :=
    wSeq (wAsg (wV 0) (gTu (gCo (gN 1) (gCo (gN 2) gNi)) 2))
    (wRet (wCall F_fraction_of (wCons (wOp fMul (wV 1) (wV 1)) (wCons (wOp fAdd (wOp fMul (wV 2) (wV 2)) (wOp fMul (wOp fMul (wC (.int 2)) (wV 1)) (wV 2))) wNil))))
def W_is_quotient_calm (K : PySem.W.Frag) : WS :=
    wSeq (wSet 1 (wCall F_quotient_share (wCons (wV 0) wNil)))
    (wRet (wOp fLt (wOp fIx (wV 1) (wC (.int 0))) (wOp fIx (wV 1) (wC (.int 1)))))
def W_quotient_run (K : PySem.W.Frag) : WS :=
    wSeq (wSet 3 (wLst (wCons (wV 1) (wCons (wV 2) wNil))))
    (wSeq (wFor (w1 (wV 0)) zSeq (gN 4) (wSeq (wSet 5 (wCall F_fraction_times (wCons (wCall F_quotient_share (wCons (wV 4) wNil)) (wCons (wCall F_fraction_less (wCons (wOp fIx (wV 3) (wUn fNeg (wC (.int 1)))) (wCons (wOp fIx (wV 3) (wUn fNeg (wC (.int 2)))) wNil))) wNil))))
    (wDrop (wAppend (wV 3) (wCall F_fraction_sum (wCons (wOp fIx (wV 3) (wUn fNeg (wC (.int 1)))) (wCons (wV 5) wNil)))))))
    (wRet (wCB fTuple (wCons (wV 3) wNil))))
def W_quotient_sum (K : PySem.W.Frag) : WS :=
    wSeq (wPar [1, 2] (wCons (wTup (wCons (wC (.int 0)) (wCons (wC (.int 1)) wNil))) (wCons (wTup (wCons (wC (.int 1)) (wCons (wC (.int 1)) wNil))) wNil)))
    (wSeq (wFor (w1 (wV 0)) zSeq (gN 3) (wSeq (wSet 2 (wCall F_fraction_times (wCons (wV 2) (wCons (wCall F_quotient_share (wCons (wV 3) wNil)) wNil))))
    (wSet 1 (wCall F_fraction_sum (wCons (wV 1) (wCons (wV 2) wNil))))))
    (wRet (wV 1)))
def W_common_divisor (K : PySem.W.Frag) : WS :=
    wSeq (wPar [0, 1] (wCons (wCB fAbs (wCons (wV 0) wNil)) (wCons (wCB fAbs (wCons (wV 1) wNil)) wNil)))
    (wSeq (wWhile (wTst (wOp fNe (wV 1) (wC (.int 0)))) (wPar [0, 1] (wCons (wV 1) (wCons (wOp fMod (wV 0) (wV 1)) wNil))))
    (wRet (wV 0)))
def W_power (K : PySem.W.Frag) : WS :=
    wSeq (wSet 2 (wC (.int 1)))
    (wSeq (wFor (wCons (wV 1) wNil) zRng1 (gN 3) (wSet 2 (wOp fMul (wV 2) (wV 0))))
    (wRet (wV 2)))
def W_whole_row (K : PySem.W.Frag) : WS :=
    wSeq (wSet 1 (wC (.int 1)))
    (wSeq (wFor (w1 (wV 0)) zSeq (gN 2) (wSet 1 (wOp fMul (wOp fDiv (wV 1) (wCall F_common_divisor (wCons (wV 1) (wCons (wOp fIx (wV 2) (wC (.int 1))) wNil)))) (wOp fIx (wV 2) (wC (.int 1))))))
    (wRet (wTup (wCons (wV 1) (wCons (wLc (w1 (wV 0)) zSeq [2] (gN 2) (wYes) (wOp fMul (wOp fIx (wV 2) (wC (.int 0))) (wOp fDiv (wV 1) (wOp fIx (wV 2) (wC (.int 1)))))) wNil)))))
def W_product_poly (K : PySem.W.Frag) : WS :=
    wSeq (wSet 1 (wLst (wCons (wC (.int 1)) wNil)))
    (wSeq (wFor (w1 (wV 0)) zSeq (gN 2) (wSet 1 (wLc (wCons (wOp fAdd (wLst (wCons (wC (.int 0)) wNil)) (wV 1)) (wCons (wOp fAdd (wV 1) (wLst (wCons (wC (.int 0)) wNil))) wNil)) zZip [3, 4] (gTu (gCo (gN 3) (gCo (gN 4) gNi)) 2) (wYes) (wOp fSub (wV 3) (wOp fMul (wV 2) (wV 4))))))
    (wRet (wV 1)))
def W_place_poly (K : PySem.W.Frag) : WS :=
    wSeq (wSet 2 (wLc (wCons (wV 0) wNil) zEnum [3, 4] (gTu (gCo (gN 3) (gCo (gN 4) gNi)) 2) (wTst (wOp fNe (wV 3) (wV 1))) (wV 4)))
    (wSeq (wSet 5 (wC (.int 1)))
    (wSeq (wFor (w1 (wV 2)) zSeq (gN 6) (wSet 5 (wOp fMul (wV 5) (wOp fSub (wOp fIx (wV 0) (wV 1)) (wV 6)))))
    (wRet (wTup (wCons (wCall F_product_poly (wCons (wV 2) wNil)) (wCons (wV 5) wNil))))))
def W_slope_weights (K : PySem.W.Frag) : WS :=
    wSeq (wSet 3 (wLst (wNil)))
    (wSeq (wFor (wCons (wCB fLen (wCons (wV 0) wNil)) wNil) zRng1 (gN 4) (wSeq (wAsg (wCall F_place_poly (wCons (wV 0) (wCons (wV 4) wNil))) (gTu (gCo (gN 5) (gCo (gN 6) gNi)) 2))
    (wSeq (wSet 7 (wCB fSum (wCons (wLc (wCons (wV 5) wNil) zEnum [8, 9] (gTu (gCo (gN 8) (gCo (gN 9) gNi)) 2) (wTst (wOp fGt (wV 8) (wC (.int 0)))) (wOp fMul (wOp fMul (wV 8) (wV 9)) (wCall F_power (wCons (wV 1) (wCons (wOp fSub (wV 8) (wC (.int 1))) wNil))))) wNil)))
    (wDrop (wAppend (wV 3) (wCall F_fraction_of (wCons (wOp fMul (wV 7) (wV 2)) (wCons (wV 6) wNil))))))))
    (wRet (wCB fTuple (wCons (wV 3) wNil))))
def W_uneven_backward (K : PySem.W.Frag) : WS :=
    wSeq (wAsg (wCall F_whole_row (wCons (wV 0) wNil)) (gTu (gCo (gN 1) (gCo (gN 2) gNi)) 2))
    (wRet (wCall F_slope_weights (wCons (wV 2) (wCons (wOp fIx (wV 2) (wUn fNeg (wC (.int 1)))) (wCons (wV 1) wNil)))))
def W__law_own_bag (K : PySem.W.Frag) : WS :=
    wSeq (wSet 1 (wLc (w1 (wSl K (wV 0) wONone (wOSome (wC (.int 63))))) zSeq [2] (gN 2) (wYes) (wOp fMod (wCB fInt (wCons (wCB fAbs (wCons (wV 2) wNil)) wNil)) (wOp fPow (wC (.int 10)) (wC (.int 64))))))
    (wSeq (wSet 3 (wOp fAdd (wC (.int 2468)) (wCB fLen (wCons (wV 1) wNil))))
    (wSeq (wFor (w1 (wV 1)) zSeq (gN 2) (wSet 3 (wOp fMod (wCB fInt (wCons (wOp fAdd (wOp fAdd (wOp fMul (wV 3) (wC (.int 48271))) (wOp fMod (wCB fInt (wCons (wV 2) wNil)) (wC (.int 2147483629)))) (wC (.int 7))) wNil)) (wC (.int 2147483647)))))
    (wRet (wLst (wCons (wCB fLrv (wCons (wCB fList (wCons (wV 1) wNil)) wNil)) (wCons (wC (.int 0)) (wCons (wV 3) wNil)))))))
def W__law_draw (K : PySem.W.Frag) : WS :=
    wSeq (wBagW 0 2 (wTst (wOp fEq (wOp fIx (wV 0) (wC (.int 1))) (wC (.int 0)))) (wAsg (wIf (wTst (wOp fGt (wV 2) (wOp fPow (wC (.int 10)) (wC (.int 9))))) (wV 2) (wC (.int 0))) (gIx (wV 0) (wC (.int 1)))))
    (wSeq (wIfS (wTst (wOp fGt (wOp fIx (wV 0) (wC (.int 1))) (wC (.int 0)))) (wSeq (wSet 3 (wOp fMod (wCB fInt (wCons (wOp fIx (wV 0) (wC (.int 1))) wNil)) (wV 1)))
    (wSeq (wAsg (wOp fDiv (wOp fIx (wV 0) (wC (.int 1))) (wV 1)) (gIx (wV 0) (wC (.int 1))))
    (wRet (wV 3)))) (wNext))
    (wSeq (wAsg (wOp fMod (wCB fInt (wCons (wOp fAdd (wOp fMul (wOp fIx (wV 0) (wC (.int 2))) (wC (.int 48271))) (wC (.int 11))) wNil)) (wC (.int 2147483647))) (gIx (wV 0) (wC (.int 2))))
    (wSeq (wSet 4 (wOp fMod (wCB fInt (wCons (wOp fMul (wOp fIx (wV 0) (wC (.int 2))) (wOp fIx (wV 0) (wC (.int 2)))) wNil)) (wC (.int 2147483629))))
    (wRet (wOp fMod (wCB fInt (wCons (wOp fDiv (wV 4) (wC (.int 7))) wNil)) (wV 1))))))
def W__law_pick (K : PySem.W.Frag) : WS :=
    wRet (wOp fIx (wV 1) (wCall F__law_draw (wCons (wV 0) (wCons (wCB fLen (wCons (wV 1) wNil)) wNil))))
def W__law_common (K : PySem.W.Frag) : WS :=
    wSeq (wPar [0, 1] (wCons (wCB fAbs (wCons (wV 0) wNil)) (wCons (wCB fAbs (wCons (wV 1) wNil)) wNil)))
    (wSeq (wWhile (wTst (wOp fGt (wV 1) (wC (.int 0)))) (wPar [0, 1] (wCons (wV 1) (wCons (wOp fMod (wCB fInt (wCons (wV 0) wNil)) (wV 1)) wNil))))
    (wRet (wV 0)))
def W__law_is (K : PySem.W.Frag) : WS :=
    wSeq (wIfS (wOr (wNot (wTru (wIsi .tuple (wV 0)))) (wTst (wOp fNe (wCB fLen (wCons (wV 0) wNil)) (wC (.int 2))))) (wRet (wC (.bl false))) (wNext))
    (wSeq (wAsg (wV 0) (gTu (gCo (gN 3) (gCo (gN 4) gNi)) 2))
    (wSeq (wIfS (wOr (wNot (wTru (wIsi .int (wV 3)))) (wOr (wNot (wTru (wIsi .int (wV 4)))) (wOr (wTru (wIsi .bool (wV 3))) (wTru (wIsi .bool (wV 4)))))) (wRet (wC (.bl false))) (wNext))
    (wRet (wAndV (wOp fGt (wV 4) (wC (.int 0))) (wAndV (wOp fEq (wOp fMul (wV 3) (wV 2)) (wOp fMul (wV 1) (wV 4))) (wOp fEq (wCall F__law_common (wCons (wV 3) (wCons (wV 4) wNil))) (wC (.int 1))))))))
def W__law_are (K : PySem.W.Frag) : WS :=
    wSeq (wIfS (wOr (wNot (wTru (wIsi .tuple (wV 0)))) (wTst (wOp fNe (wCB fLen (wCons (wV 0) wNil)) (wCB fLen (wCons (wV 1) wNil))))) (wRet (wC (.bl false))) (wNext))
    (wSeq (wFor (w1 (wCB fLz (wCons (wV 0) (wCons (wV 1) wNil)))) zSeq (gTu (gCo (gN 2) (gCo (gN 3) gNi)) 2) (wIfS (wNot (wTru (wCall F__law_is (wCons (wV 2) (wCons (wOp fIx (wV 3) (wC (.int 0))) (wCons (wOp fIx (wV 3) (wC (.int 1))) wNil)))))) (wRet (wC (.bl false))) (wNext)))
    (wRet (wOp fEq (wCB fRepr (wCons (wV 0) wNil)) (wCB fRepr (wCons (wCB fTuple (wCons (wLc (w1 (wV 0)) zSeq [2] (gN 2) (wYes) (wTup (wCons (wCB fInt (wCons (wOp fIx (wV 2) (wC (.int 0))) wNil)) (wCons (wCB fInt (wCons (wOp fIx (wV 2) (wC (.int 1))) wNil)) wNil)))) wNil)) wNil)))))
def W__law_lowest (K : PySem.W.Frag) : WS :=
    wSeq (wSet 2 (wCall F__law_common (wCons (wV 0) (wCons (wV 1) wNil))))
    (wRet (wTup (wCons (wOp fDiv (wV 0) (wV 2)) (wCons (wOp fDiv (wV 1) (wV 2)) wNil))))
def W__law_near (K : PySem.W.Frag) : WS :=
    wRet (wLst (wCons (wTup (wCons (wC (.int 12)) (wCons (wC (.int 5)) wNil))) (wCons (wTup (wCons (wC (.int 29)) (wCons (wC (.int 12)) wNil))) (wCons (wTup (wCons (wC (.int 70)) (wCons (wC (.int 29)) wNil))) (wCons (wTup (wCons (wC (.int 5)) (wCons (wC (.int 2)) wNil))) (wCons (wTup (wCons (wC (.int 41)) (wCons (wC (.int 17)) wNil))) (wCons (wTup (wCons (wC (.int 169)) (wCons (wC (.int 70)) wNil))) (wCons (wTup (wCons (wC (.int 408)) (wCons (wC (.int 169)) wNil))) (wCons (wTup (wCons (wC (.int 985)) (wCons (wC (.int 408)) wNil))) (wCons (wTup (wCons (wC (.int 1)) (wCons (wC (.int 1)) wNil))) (wCons (wTup (wCons (wC (.int 2)) (wCons (wC (.int 1)) wNil))) (wCons (wTup (wCons (wC (.int 3)) (wCons (wC (.int 1)) wNil))) wNil))))))))))))
def W__law_quotient (K : PySem.W.Frag) : WS :=
    wSeq (wIfS (wTst (wOp fEq (wCall F__law_draw (wCons (wV 0) (wCons (wC (.int 4)) wNil))) (wC (.int 0)))) (wRet (wCall F__law_pick (wCons (wV 0) (wCons (wCall F__law_near (wNil)) wNil)))) (wNext))
    (wRet (wCall F__law_lowest (wCons (wOp fAdd (wC (.int 1)) (wCall F__law_draw (wCons (wV 0) (wCons (wV 1) wNil)))) (wCons (wOp fAdd (wC (.int 1)) (wCall F__law_draw (wCons (wV 0) (wCons (wV 1) wNil)))) wNil))))
def W__law_own_quotients (K : PySem.W.Frag) : WS :=
    wSeq (wIfS (wTst (wOp fEq (wCall F__law_draw (wCons (wV 0) (wCons (wC (.int 3)) wNil))) (wC (.int 0)))) (wRet (wOp fMul (wTup (wCons (wCall F__law_quotient (wCons (wV 0) (wCons (wV 2) wNil))) wNil)) (wV 1))) (wNext))
    (wRet (wCB fTuple (wCons (wLc (wCons (wV 1) wNil) zRng1 [3] (gN 3) (wYes) (wCall F__law_quotient (wCons (wV 0) (wCons (wV 2) wNil)))) wNil)))
def W__law_value (K : PySem.W.Frag) : WS :=
    wRet (wCall F__law_lowest (wCons (wOp fSub (wCall F__law_draw (wCons (wV 0) (wCons (wOp fAdd (wOp fMul (wC (.int 2)) (wV 1)) (wC (.int 1))) wNil))) (wV 1)) (wCons (wOp fAdd (wC (.int 1)) (wCall F__law_draw (wCons (wV 0) (wCons (wV 1) wNil)))) wNil)))
def W__law_share (K : PySem.W.Frag) : WS :=
    wRet (wTup (wCons (wOp fMul (wOp fIx (wV 0) (wC (.int 0))) (wOp fIx (wV 0) (wC (.int 0)))) (wCons (wOp fMul (wOp fIx (wV 0) (wC (.int 1))) (wOp fAdd (wOp fIx (wV 0) (wC (.int 1))) (wOp fMul (wC (.int 2)) (wOp fIx (wV 0) (wC (.int 0)))))) wNil)))
def W__law_is_due_calm (K : PySem.W.Frag) : WS :=
    wRet (wOp fLt (wOp fMul (wOp fIx (wV 0) (wC (.int 0))) (wOp fIx (wV 0) (wC (.int 0)))) (wOp fAdd (wOp fMul (wOp fIx (wV 0) (wC (.int 1))) (wOp fIx (wV 0) (wC (.int 1)))) (wOp fMul (wOp fMul (wC (.int 2)) (wOp fIx (wV 0) (wC (.int 0)))) (wOp fIx (wV 0) (wC (.int 1))))))
def W__law_sums (K : PySem.W.Frag) : WS :=
    wSeq (wPar [1, 2, 3, 4] (wCons (wLst (wCons (wTup (wCons (wC (.int 0)) (wCons (wC (.int 1)) wNil))) wNil)) (wCons (wC (.int 0)) (wCons (wC (.int 1)) (wCons (wC (.int 1)) wNil)))))
    (wSeq (wFor (w1 (wV 0)) zSeq (gN 5) (wSeq (wAsg (wCall F__law_share (wCons (wV 5) wNil)) (gTu (gCo (gN 6) (gCo (gN 7) gNi)) 2))
    (wSeq (wPar [4, 3] (wCons (wOp fMul (wV 4) (wV 6)) (wCons (wOp fMul (wV 3) (wV 7)) wNil)))
    (wSeq (wSet 2 (wOp fAdd (wOp fMul (wV 2) (wV 7)) (wV 4)))
    (wDrop (wAppend (wV 1) (wTup (wCons (wV 2) (wCons (wV 3) wNil)))))))))
    (wRet (wV 1)))
def W__law_values (K : PySem.W.Frag) : WS :=
    wSeq (wSet 3 (wOp fMul (wOp fIx (wV 1) (wC (.int 1))) (wOp fIx (wV 2) (wC (.int 1)))))
    (wSeq (wPar [4, 5] (wCons (wOp fMul (wOp fIx (wV 2) (wC (.int 0))) (wOp fIx (wV 1) (wC (.int 1)))) (wCons (wOp fSub (wOp fMul (wOp fIx (wV 2) (wC (.int 0))) (wOp fIx (wV 1) (wC (.int 1)))) (wOp fMul (wOp fIx (wV 1) (wC (.int 0))) (wOp fIx (wV 2) (wC (.int 1))))) wNil)))
    (wSeq (wSet 6 (wLst (wCons (wV 1) wNil)))
    (wSeq (wFor (w1 (wV 0)) zSeq (gTu (gCo (gN 7) (gCo (gN 8) gNi)) 2) (wDrop (wAppend (wV 6) (wTup (wCons (wOp fAdd (wOp fMul (wV 4) (wV 8)) (wOp fMul (wV 5) (wV 7))) (wCons (wOp fMul (wV 3) (wV 8)) wNil))))))
    (wRet (wV 6)))))
def W__law_greatest (K : PySem.W.Frag) : WS :=
    wSeq (wSet 1 (wOp fIx (wV 0) (wC (.int 0))))
    (wSeq (wFor (w1 (wV 0)) zSeq (gN 2) (wIfS (wTst (wOp fGt (wOp fMul (wOp fIx (wV 2) (wC (.int 0))) (wOp fIx (wV 1) (wC (.int 1)))) (wOp fMul (wOp fIx (wV 1) (wC (.int 0))) (wOp fIx (wV 2) (wC (.int 1)))))) (wSet 1 (wV 2)) (wNext)))
    (wRet (wV 1)))
def W__law_is_bound_right (K : PySem.W.Frag) : WS :=
    wSeq (wIfS (wOr (wTst (wOp fEq (wV 0) (wTup (wNil)))) (wNot (wTru (wCall F__law_is_due_calm (wCons (wCall F__law_greatest (wCons (wV 0) wNil)) wNil))))) (wRet (wC (.bl true))) (wNext))
    (wSeq (wAsg (wCall F__law_share (wCons (wCall F__law_greatest (wCons (wV 0) wNil)) wNil)) (gTu (gCo (gN 2) (gCo (gN 3) gNi)) 2))
    (wRet (wOp fLt (wOp fMul (wOp fIx (wV 1) (wC (.int 0))) (wOp fSub (wV 3) (wV 2))) (wOp fMul (wV 2) (wOp fIx (wV 1) (wC (.int 1)))))))
def W__law_is_run_right (K : PySem.W.Frag) : WS :=
    wSeq (wSet 4 (wCall F__law_sums (wCons (wV 0) wNil)))
    (wSeq (wSet 5 (wCall F__law_values (wCons (wV 4) (wCons (wV 1) (wCons (wV 2) wNil)))))
    (wSeq (wSet 6 (wCall F_quotient_run (wCons (wV 0) (wCons (wV 1) (wCons (wV 2) wNil)))))
    (wSeq (wIfS (wNot (wTru (wCall F__law_are (wCons (wV 6) (wCons (wV 5) wNil))))) (wRet (wC (.bl false))) (wNext))
    (wSeq (wIfS (wAnd (wTru (wV 3)) (wTst (wOp fNe (wCB fRepr (wCons (wCallK F_quotient_run 0 [0, 1, 2] (wApp (wNil) (wCons (wV 0) (wCons (wV 1) (wCons (wV 2) wNil))))) wNil)) (wCB fRepr (wCons (wV 6) wNil))))) (wRet (wC (.bl false))) (wNext))
    (wSeq (wSet 7 (wCall F_quotient_sum (wCons (wV 0) wNil)))
    (wSeq (wIfS (wOr (wNot (wTru (wCall F__law_are (wCons (wTup (wCons (wV 7) wNil)) (wCons (wLst (wCons (wOp fIx (wV 4) (wUn fNeg (wC (.int 1)))) wNil)) wNil))))) (wNot (wTru (wCall F__law_is_bound_right (wCons (wV 0) (wCons (wV 7) wNil)))))) (wRet (wC (.bl false))) (wNext))
    (wSeq (wAsg (wTup (wCons (wV 1) (wCons (wV 2) (wCons (wOp fIx (wV 6) (wUn fNeg (wC (.int 1)))) wNil)))) (gTu (gCo (gTu (gCo (gN 8) (gCo (gN 9) gNi)) 2) (gCo (gTu (gCo (gN 10) (gCo (gN 11) gNi)) 2) (gCo (gTu (gCo (gN 12) (gCo (gN 13) gNi)) 2) gNi))) 3))
    (wSeq (wIfS (wTst (wOp fNe (wOp fMul (wOp fMul (wOp fMul (wV 12) (wOp fIx (wV 7) (wC (.int 1)))) (wV 9)) (wV 11)) (wOp fMul (wV 13) (wOp fAdd (wOp fMul (wOp fMul (wV 10) (wV 9)) (wOp fIx (wV 7) (wC (.int 1)))) (wOp fMul (wOp fIx (wV 7) (wC (.int 0))) (wOp fSub (wOp fMul (wV 10) (wV 9)) (wOp fMul (wV 8) (wV 11)))))))) (wRet (wC (.bl false))) (wNext))
    (wRet (wOrV (wNotV (wV 3)) (wOp fEq (wCB fRepr (wCons (wCallK F_quotient_sum 0 [0] (wApp (wNil) (wCons (wV 0) wNil))) wNil)) (wCB fRepr (wCons (wV 7) wNil)))))))))))))
def W__law_is_one_right (K : PySem.W.Frag) : WS :=
    wSeq (wSet 2 (wIf (wTru (wV 1)) (wCallK F_quotient_share 0 [0] (wApp (wNil) (wCons (wV 0) wNil))) (wCall F_quotient_share (wCons (wV 0) wNil))))
    (wSeq (wIfS (wNot (wTru (wCall F__law_are (wCons (wTup (wCons (wV 2) wNil)) (wCons (wLst (wCons (wCall F__law_share (wCons (wV 0) wNil)) wNil)) wNil))))) (wRet (wC (.bl false))) (wNext))
    (wSeq (wSet 3 (wIf (wTru (wV 1)) (wCallK F_is_quotient_calm 0 [0] (wApp (wNil) (wCons (wV 0) wNil))) (wCall F_is_quotient_calm (wCons (wV 0) wNil))))
    (wRet (wOp fEq (wCB fRepr (wCons (wV 3) wNil)) (wCB fRepr (wCons (wCall F__law_is_due_calm (wCons (wV 0) wNil)) wNil))))))
def W__law_is_beside_right (K : PySem.W.Frag) : WS :=
    wSeq (wAsg (wV 0) (gTu (gCo (gN 3) (gCo (gN 4) gNi)) 2))
    (wSeq (wSet 5 (wCall F_uneven_backward (wCons (wTup (wCons (wTup (wCons (wC (.int 0)) (wCons (wC (.int 1)) wNil))) (wCons (wTup (wCons (wC (.int 1)) (wCons (wC (.int 1)) wNil))) (wCons (wTup (wCons (wOp fAdd (wV 3) (wV 4)) (wCons (wV 4) wNil))) wNil)))) wNil)))
    (wSeq (wIfS (wNot (wTru (wCall F__law_are (wCons (wV 5) (wCons (wLst (wCons (wTup (wCons (wV 3) (wCons (wOp fAdd (wV 3) (wV 4)) wNil))) (wCons (wTup (wCons (wOp fSub (wUn fNeg (wV 3)) (wV 4)) (wCons (wV 3) wNil))) (wCons (wTup (wCons (wOp fMul (wV 4) (wOp fAdd (wOp fMul (wC (.int 2)) (wV 3)) (wV 4))) (wCons (wOp fMul (wOp fAdd (wV 3) (wV 4)) (wV 3)) wNil))) wNil)))) wNil))))) (wRet (wC (.bl false))) (wNext))
    (wSeq (wSet 6 (wCall F_quotient_run (wCons (wTup (wCons (wV 0) wNil)) (wCons (wV 1) (wCons (wV 2) wNil)))))
    (wSeq (wIfS (wNot (wTru (wCall F__law_are (wCons (wV 6) (wCons (wCall F__law_values (wCons (wCall F__law_sums (wCons (wTup (wCons (wV 0) wNil)) wNil)) (wCons (wV 1) (wCons (wV 2) wNil)))) wNil))))) (wRet (wC (.bl false))) (wNext))
    (wSeq (wPar [7, 8] (wCons (wC (.int 0)) (wCons (wC (.int 1)) wNil)))
    (wSeq (wFor (w1 (wCB fLz (wCons (wV 5) (wCons (wV 6) wNil)))) zSeq (gTu (gCo (gN 9) (gCo (gN 10) gNi)) 2) (wSeq (wSet 7 (wOp fAdd (wOp fMul (wOp fMul (wV 7) (wOp fIx (wV 9) (wC (.int 1)))) (wOp fIx (wV 10) (wC (.int 1)))) (wOp fMul (wOp fMul (wV 8) (wOp fIx (wV 9) (wC (.int 0)))) (wOp fIx (wV 10) (wC (.int 0))))))
    (wSet 8 (wOp fMul (wOp fMul (wV 8) (wOp fIx (wV 9) (wC (.int 1)))) (wOp fIx (wV 10) (wC (.int 1)))))))
    (wRet (wOp fEq (wV 7) (wC (.int 0))))))))))
def W_law1 (K : PySem.W.Frag) : WS :=
    wSet 1 (wCall (F__law_own_bag K) (wCons (wV 0) wNil))
def W_law2 (K : PySem.W.Frag) : WS :=
    wSeq (wSet 2 (wIf (wTst (wOp fEq (wCall F__law_draw (wCons (wV 1) (wCons (wC (.int 8)) wNil))) (wC (.int 0)))) (wC (.int 1000)) (wC (.int 12))))
    (wSeq (wSet 3 (wCall F__law_value (wCons (wV 1) (wCons (wV 2) wNil))))
    (wSeq (wSet 4 (wIf (wTst (wOp fEq (wCall F__law_draw (wCons (wV 1) (wCons (wC (.int 6)) wNil))) (wC (.int 0)))) (wV 3) (wCall F__law_value (wCons (wV 1) (wCons (wV 2) wNil)))))
    (wSeq (wSet 5 (wLc (wCons (wC (.int 3)) wNil) zRng1 [6] (gN 6) (wYes) (wCall F__law_quotient (wCons (wV 1) (wCons (wIf (wTst (wOp fEq (wV 6) (wC (.int 0)))) (wC (.int 1000)) (wC (.int 50))) wNil)))))
    (wSeq (wSet 5 (wOp fAdd (wV 5) (wLc (wCons (wC (.int 3)) wNil) zRng1 [6] (gN 6) (wYes) (wCall F__law_pick (wCons (wV 1) (wCons (wCall F__law_near (wNil)) wNil))))))
    (wSeq (wPar [7, 8] (wCons (wCall F__law_draw (wCons (wV 1) (wCons (wC (.int 24)) wNil))) (wCons (wC (.bl true)) wNil)))
    (wSeq (wSet 9 (wCall F__law_own_quotients (wCons (wV 1) (wCons (wCall F__law_draw (wCons (wV 1) (wCons (wC (.int 7)) wNil))) (wCons (wC (.int 50)) wNil)))))
    (wSeq (wIfS (wTst (wOp fEq (wV 7) (wC (.int 0)))) (wPar [10, 8] (wCons (wCall F__law_own_quotients (wCons (wV 1) (wCons (wC (.int 40)) (wCons (wC (.int 1000)) wNil)))) (wCons (wC (.bl false)) wNil))) (wIfS (wTst (wOp fLt (wV 7) (wC (.int 3)))) (wSet 10 (wCall F__law_own_quotients (wCons (wV 1) (wCons (wOp fAdd (wC (.int 1)) (wCall F__law_draw (wCons (wV 1) (wCons (wC (.int 12)) wNil)))) (wCons (wC (.int 1000)) wNil))))) (wIfS (wTst (wOp fLt (wV 7) (wC (.int 10)))) (wSeq (wSet 11 (wIf (wTst (wOp fLt (wV 7) (wC (.int 7)))) (wC (.int 40)) (wOp fAdd (wC (.int 13)) (wCall F__law_draw (wCons (wV 1) (wCons (wC (.int 28)) wNil))))))
    (wPar [10, 8] (wCons (wCall F__law_own_quotients (wCons (wV 1) (wCons (wV 11) (wCons (wC (.int 50)) wNil)))) (wCons (wOp fEq (wV 7) (wC (.int 9))) wNil)))) (wSet 10 (wCall F__law_own_quotients (wCons (wV 1) (wCons (wCall F__law_draw (wCons (wV 1) (wCons (wC (.int 13)) wNil))) (wCons (wC (.int 50)) wNil))))))))
    (wSeq (wFor (w1 (wCB fLen0 (wCons (wV 5) wNil))) zSeq (gTu (gCo (gN 6) (gCo (gN 12) gNi)) 2) (wSeq (wIfS (wNot (wTru (wCall F__law_is_one_right (wCons (wV 12) (wCons (wOp fEq (wOp fMod (wCB fInt (wCons (wOp fAdd (wV 6) (wV 7)) wNil)) (wC (.int 2))) (wC (.int 0))) wNil))))) (wRet (wC (.bl false))) (wNext))
    (wIfS (wAnd (wTst (wOp fLt (wV 6) (wC (.int 3)))) (wAnd (wTst (wOp fLe (wOp fAdd (wOp fIx (wV 12) (wC (.int 0))) (wOp fIx (wV 12) (wC (.int 1)))) (wC (.int 1000)))) (wNot (wTru (wCall F__law_is_beside_right (wCons (wV 12) (wCons (wV 3) (wCons (wV 4) wNil)))))))) (wRet (wC (.bl false))) (wNext))))
    (wSeq (wSet 13 (wCB fRepr (wCons (wCall F_quotient_run (wCons (wV 9) (wCons (wV 3) (wCons (wV 4) wNil)))) wNil)))
    (wSeq (wIfS (wOr (wNot (wTru (wCall F__law_is_run_right (wCons (wV 10) (wCons (wV 3) (wCons (wV 4) (wCons (wV 8) wNil))))))) (wNot (wTru (wCall F__law_is_run_right (wCons (wV 9) (wCons (wV 3) (wCons (wV 4) (wCons (wC (.bl true)) wNil)))))))) (wRet (wC (.bl false))) (wNext))
    (wRet (wAndV (wOp fEq (wCB fRepr (wCons (wCall F_quotient_run (wCons (wV 9) (wCons (wV 3) (wCons (wV 4) wNil)))) wNil)) (wV 13)) (wCall F__law_is_one_right (wCons (wOp fIx (wV 5) (wC (.int 0))) (wCons (wOp fLt (wV 7) (wC (.int 12))) wNil)))))))))))))))
theorem p_fraction_of {K : PySem.W.Frag} : ∀ ds Qf, F_fraction_of ds Qf → ds.length = 2 ∧ W_fraction_of K { nx := fun _ => Qf (.sh .non), rt := Qf } (begin 3 ds) := by
  intro ds Qf h
  unfold F_fraction_of at h; split at h
  · rename_i a b
    obtain ⟨h0, ha, hb, hq⟩ := h
    refine ⟨rfl, ?_⟩
    have g0 : 0 < Int.gcd a b := Int.gcd_pos_of_ne_zero_right _ h0
    have gs : sm 8000 (Int.gcd a b : Int) := by
      refine hb.le ?_
      rw [Int.natAbs_natCast]
      exact Nat.le_of_dvd (by omega) (Nat.gcd_dvd_right _ _)
    simp only [W_fraction_of, LV.begin, at_0, at_1, at_2, at_3, at_m1a, at_m1b, at_m1c, at_m1d, at_m2b, at_m2c, decide_true, eq_self, Int.reduceEq, true_and, and_true, false_and, and_false, or_false, false_or, Int.reduceNeg, gIx, decide_false, Bool.and_true, Bool.true_and, Bool.or_true, wSeq, wSet, wAsg, wPar, wIf, wIfS, wTst, LV.wTru, LV.wNot, wAnd, wOr, wAndV, wOrV, wNotV, wOp, wUn, wV, wC, fCI, fAdd, fSub, fMul, fDiv, fMod, fPow, fNeg, fIx, fIs, fIsNot, fEq, fNe, fLt, fLe, fGt, fGe, wCB, wCons, wNil, w1, wApp, wIsi, isiB, bagD, isNonD, fLen, fAbs, fInt, fGcd, fList, fTuple, fRepr, fLz, fLen0, fLrv, fSum, fMax, fMin, fAll, fAny, seqD, rdL, rdW, fzL, fzW, unL, putS, RV.sl, wRet, wRetN, wNever, wNext, wDrop, wTup, wLst, outW, placeW, gN, gTu, gCo, gNi, wFor, zSeq, zr_0, zr_1, zr_2, zr_3, zr_4, nc_0, nc_1, nc_2, nc_3, nc_4, zEnum, zZip, ixD, tru, wCall, wCallK, wAppend, owW, wSl, fSl, wONone, wOSome, wLc, wYes, List.map, List.replicate, List.length, List.append, List.set, List.take, List.drop, List.getLast?, List.dropLast, List.filterMap, List.getElem?_cons_zero, List.getElem?_cons_succ, List.getElem?_nil, Nat.reduceAdd, Nat.reduceSub, Nat.reduceLT, List.cons_append, List.nil_append, Option.some.injEq, reduceCtorEq, reduceIte, Bool.not_true, Bool.not_false, Bool.false_eq_true, List.isEmpty]
    have e : Nat.gcd a.natAbs b.natAbs = Int.gcd a b := rfl
    rw [e]
    unfold low at hq
    by_cases c : 0 < b
    · rw [if_pos c] at hq
      simp only [decide_eq_true c, ↓reduceIte, List.set, List.length, Nat.reduceAdd]
      exact ⟨gs.divA (by omega) (by omega), gs.divA (by omega) (by omega), by omega, hq⟩
    · rw [if_neg c] at hq
      simp only [decide_eq_false c, Bool.false_eq_true, ↓reduceIte, List.set, List.length, Nat.reduceAdd]
      exact ⟨gs.neg.divA (by omega) (by omega), gs.neg.divA (by omega) (by omega), by omega, hq⟩
  · exact h.elim
theorem p_fraction_sum {K : PySem.W.Frag} : ∀ ds Qf, F_fraction_sum ds Qf → ds.length = 2 ∧ W_fraction_sum K { nx := fun _ => Qf (.sh .non), rt := Qf } (begin 2 ds) := by
  intro ds Qf h
  unfold F_fraction_sum at h; split at h
  · obtain ⟨h1, h2, ha, hb, hc, hd, hq⟩ := h
    refine ⟨rfl, ?_⟩
    simp only [W_fraction_sum, F_fraction_of, LV.begin, at_0, at_1, at_2, at_3, at_m1a, at_m1b, at_m1c, at_m1d, at_m2b, at_m2c, decide_true, eq_self, Int.reduceEq, true_and, and_true, false_and, and_false, or_false, false_or, Int.reduceNeg, gIx, decide_false, Bool.and_true, Bool.true_and, Bool.or_true, wSeq, wSet, wAsg, wPar, wIf, wIfS, wTst, LV.wTru, LV.wNot, wAnd, wOr, wAndV, wOrV, wNotV, wOp, wUn, wV, wC, fCI, fAdd, fSub, fMul, fDiv, fMod, fPow, fNeg, fIx, fIs, fIsNot, fEq, fNe, fLt, fLe, fGt, fGe, wCB, wCons, wNil, w1, wApp, wIsi, isiB, bagD, isNonD, fLen, fAbs, fInt, fGcd, fList, fTuple, fRepr, fLz, fLen0, fLrv, fSum, fMax, fMin, fAll, fAny, seqD, rdL, rdW, fzL, fzW, unL, putS, RV.sl, wRet, wRetN, wNever, wNext, wDrop, wTup, wLst, outW, placeW, gN, gTu, gCo, gNi, wFor, zSeq, zr_0, zr_1, zr_2, zr_3, zr_4, nc_0, nc_1, nc_2, nc_3, nc_4, zEnum, zZip, ixD, tru, wCall, wCallK, wAppend, owW, wSl, fSl, wONone, wOSome, wLc, wYes, List.map, List.replicate, List.length, List.append, List.set, List.take, List.drop, List.getLast?, List.dropLast, List.filterMap, List.getElem?_cons_zero, List.getElem?_cons_succ, List.getElem?_nil, Nat.reduceAdd, Nat.reduceSub, Nat.reduceLT, List.cons_append, List.nil_append, Option.some.injEq, reduceCtorEq, reduceIte, Bool.not_true, Bool.not_false, Bool.false_eq_true, List.isEmpty]
    exact ⟨ha.mulW hd (by omega), hc.mulW hb (by omega), hb.mulW hd (by omega), Int.mul_ne_zero h1 h2, ((ha.mul hd).add (hc.mul hb)).mono (by omega), (hb.mul hd).mono (by omega), hq⟩
  · exact h.elim
theorem p_fraction_less {K : PySem.W.Frag} : ∀ ds Qf, F_fraction_less ds Qf → ds.length = 2 ∧ W_fraction_less K { nx := fun _ => Qf (.sh .non), rt := Qf } (begin 2 ds) := by
  intro ds Qf h
  unfold F_fraction_less at h; split at h
  · obtain ⟨h1, h2, ha, hb, hc, hd, hq⟩ := h
    refine ⟨rfl, ?_⟩
    simp only [W_fraction_less, F_fraction_of, LV.begin, at_0, at_1, at_2, at_3, at_m1a, at_m1b, at_m1c, at_m1d, at_m2b, at_m2c, decide_true, eq_self, Int.reduceEq, true_and, and_true, false_and, and_false, or_false, false_or, Int.reduceNeg, gIx, decide_false, Bool.and_true, Bool.true_and, Bool.or_true, wSeq, wSet, wAsg, wPar, wIf, wIfS, wTst, LV.wTru, LV.wNot, wAnd, wOr, wAndV, wOrV, wNotV, wOp, wUn, wV, wC, fCI, fAdd, fSub, fMul, fDiv, fMod, fPow, fNeg, fIx, fIs, fIsNot, fEq, fNe, fLt, fLe, fGt, fGe, wCB, wCons, wNil, w1, wApp, wIsi, isiB, bagD, isNonD, fLen, fAbs, fInt, fGcd, fList, fTuple, fRepr, fLz, fLen0, fLrv, fSum, fMax, fMin, fAll, fAny, seqD, rdL, rdW, fzL, fzW, unL, putS, RV.sl, wRet, wRetN, wNever, wNext, wDrop, wTup, wLst, outW, placeW, gN, gTu, gCo, gNi, wFor, zSeq, zr_0, zr_1, zr_2, zr_3, zr_4, nc_0, nc_1, nc_2, nc_3, nc_4, zEnum, zZip, ixD, tru, wCall, wCallK, wAppend, owW, wSl, fSl, wONone, wOSome, wLc, wYes, List.map, List.replicate, List.length, List.append, List.set, List.take, List.drop, List.getLast?, List.dropLast, List.filterMap, List.getElem?_cons_zero, List.getElem?_cons_succ, List.getElem?_nil, Nat.reduceAdd, Nat.reduceSub, Nat.reduceLT, List.cons_append, List.nil_append, Option.some.injEq, reduceCtorEq, reduceIte, Bool.not_true, Bool.not_false, Bool.false_eq_true, List.isEmpty]
    exact ⟨ha.mulW hd (by omega), hc.mulW hb (by omega), hb.mulW hd (by omega), Int.mul_ne_zero h1 h2, ((ha.mul hd).sub (hc.mul hb)).mono (by omega), (hb.mul hd).mono (by omega), hq⟩
  · exact h.elim
theorem p_fraction_times {K : PySem.W.Frag} : ∀ ds Qf, F_fraction_times ds Qf → ds.length = 2 ∧ W_fraction_times K { nx := fun _ => Qf (.sh .non), rt := Qf } (begin 2 ds) := by
  intro ds Qf h
  unfold F_fraction_times at h; split at h
  · obtain ⟨h1, h2, ha, hb, hc, hd, hq⟩ := h
    refine ⟨rfl, ?_⟩
    simp only [W_fraction_times, F_fraction_of, LV.begin, at_0, at_1, at_2, at_3, at_m1a, at_m1b, at_m1c, at_m1d, at_m2b, at_m2c, decide_true, eq_self, Int.reduceEq, true_and, and_true, false_and, and_false, or_false, false_or, Int.reduceNeg, gIx, decide_false, Bool.and_true, Bool.true_and, Bool.or_true, wSeq, wSet, wAsg, wPar, wIf, wIfS, wTst, LV.wTru, LV.wNot, wAnd, wOr, wAndV, wOrV, wNotV, wOp, wUn, wV, wC, fCI, fAdd, fSub, fMul, fDiv, fMod, fPow, fNeg, fIx, fIs, fIsNot, fEq, fNe, fLt, fLe, fGt, fGe, wCB, wCons, wNil, w1, wApp, wIsi, isiB, bagD, isNonD, fLen, fAbs, fInt, fGcd, fList, fTuple, fRepr, fLz, fLen0, fLrv, fSum, fMax, fMin, fAll, fAny, seqD, rdL, rdW, fzL, fzW, unL, putS, RV.sl, wRet, wRetN, wNever, wNext, wDrop, wTup, wLst, outW, placeW, gN, gTu, gCo, gNi, wFor, zSeq, zr_0, zr_1, zr_2, zr_3, zr_4, nc_0, nc_1, nc_2, nc_3, nc_4, zEnum, zZip, ixD, tru, wCall, wCallK, wAppend, owW, wSl, fSl, wONone, wOSome, wLc, wYes, List.map, List.replicate, List.length, List.append, List.set, List.take, List.drop, List.getLast?, List.dropLast, List.filterMap, List.getElem?_cons_zero, List.getElem?_cons_succ, List.getElem?_nil, Nat.reduceAdd, Nat.reduceSub, Nat.reduceLT, List.cons_append, List.nil_append, Option.some.injEq, reduceCtorEq, reduceIte, Bool.not_true, Bool.not_false, Bool.false_eq_true, List.isEmpty]
    exact ⟨ha.mulW hc (by omega), hb.mulW hd (by omega), Int.mul_ne_zero h1 h2, (ha.mul hc).mono (by omega), (hb.mul hd).mono (by omega), hq⟩
  · exact h.elim
theorem sm10 {i : Int} (h1 : -1000 ≤ i) (h2 : i ≤ 1000) : sm 10 i := by
  show i.natAbs < 2 ^ 10
  omega
theorem Qt.s1 {w : Fr} (h : Qt w) : sm 10 w.1 := sm10 (by have := h.1; omega) h.2.1
theorem Qt.s2 {w : Fr} (h : Qt w) : sm 10 w.2 := sm10 (by have := h.2.2.1; omega) h.2.2.2
theorem Qt.sA {w : Fr} (h : Qt w) : sm 20 (shA w) := h.s1.mul h.s1
theorem Qt.sB {w : Fr} (h : Qt w) : sm 23 (shB w) := by
  have h2 : sm 2 (2 : Int) := by show (2 : Int).natAbs < 2 ^ 2; decide
  exact (((h.s2.mul h.s2).mono (by omega) : sm 22 _).add ((h2.mul h.s1).mul h.s2)).mono (by omega)
theorem Qt.pA {w : Fr} (h : Qt w) : 0 < shA w := Int.mul_pos (by have := h.1; omega) (by have := h.1; omega)
theorem Qt.pB {w : Fr} (h : Qt w) : 0 < shB w := by
  have a := h.1
  have b := h.2.2.1
  have h1 : 0 < w.2 * w.2 := Int.mul_pos (by omega) (by omega)
  have h2 : 0 < 2 * w.1 * w.2 := Int.mul_pos (by omega) (by omega)
  show 0 < w.2 * w.2 + 2 * w.1 * w.2
  omega
theorem two2 : sm 2 (2 : Int) := by show (2 : Int).natAbs < 2 ^ 2; decide
theorem p_quotient_share {K : PySem.W.Frag} : ∀ ds Qf, F_quotient_share ds Qf → ds.length = 1 ∧ W_quotient_share K { nx := fun _ => Qf (.sh .non), rt := Qf } (begin 3 ds) := by
  intro ds Qf h
  unfold F_quotient_share at h; split at h
  · rename_i a b
    obtain ⟨hw, hq⟩ := h
    refine ⟨rfl, ?_⟩
    simp only [W_quotient_share, F_fraction_of, LV.begin, at_0, at_1, at_2, at_3, at_m1a, at_m1b, at_m1c, at_m1d, at_m2b, at_m2c, decide_true, eq_self, Int.reduceEq, true_and, and_true, false_and, and_false, or_false, false_or, Int.reduceNeg, gIx, decide_false, Bool.and_true, Bool.true_and, Bool.or_true, wSeq, wSet, wAsg, wPar, wIf, wIfS, wTst, LV.wTru, LV.wNot, wAnd, wOr, wAndV, wOrV, wNotV, wOp, wUn, wV, wC, fCI, fAdd, fSub, fMul, fDiv, fMod, fPow, fNeg, fIx, fIs, fIsNot, fEq, fNe, fLt, fLe, fGt, fGe, wCB, wCons, wNil, w1, wApp, wIsi, isiB, bagD, isNonD, fLen, fAbs, fInt, fGcd, fList, fTuple, fRepr, fLz, fLen0, fLrv, fSum, fMax, fMin, fAll, fAny, seqD, rdL, rdW, fzL, fzW, unL, putS, RV.sl, wRet, wRetN, wNever, wNext, wDrop, wTup, wLst, outW, placeW, gN, gTu, gCo, gNi, wFor, zSeq, zr_0, zr_1, zr_2, zr_3, zr_4, nc_0, nc_1, nc_2, nc_3, nc_4, zEnum, zZip, ixD, tru, wCall, wCallK, wAppend, owW, wSl, fSl, wONone, wOSome, wLc, wYes, List.map, List.replicate, List.length, List.append, List.set, List.take, List.drop, List.getLast?, List.dropLast, List.filterMap, List.getElem?_cons_zero, List.getElem?_cons_succ, List.getElem?_nil, Nat.reduceAdd, Nat.reduceSub, Nat.reduceLT, List.cons_append, List.nil_append, Option.some.injEq, reduceCtorEq, reduceIte, Bool.not_true, Bool.not_false, Bool.false_eq_true, List.isEmpty]
    have s1 := hw.s1
    have s2 := hw.s2
    have pb := hw.pB
    exact ⟨s1.mulW s1 (by omega), s2.mulW s2 (by omega), two2.mulW s1 (by omega), (two2.mul s1).mulW s2 (by omega), by show shB (a, b) ≠ 0; omega, hw.sA.mono (by omega), hw.sB.mono (by omega), hq⟩
  · exact h.elim
theorem p_is_quotient_calm {K : PySem.W.Frag} : ∀ ds Qf, F_is_quotient_calm ds Qf → ds.length = 1 ∧ W_is_quotient_calm K { nx := fun _ => Qf (.sh .non), rt := Qf } (begin 2 ds) := by
  intro ds Qf h
  unfold F_is_quotient_calm at h; split at h
  · rename_i a b
    obtain ⟨hw, hq⟩ := h
    refine ⟨rfl, ?_⟩
    simp only [W_is_quotient_calm, F_quotient_share, LV.begin, at_0, at_1, at_2, at_3, at_m1a, at_m1b, at_m1c, at_m1d, at_m2b, at_m2c, decide_true, eq_self, Int.reduceEq, true_and, and_true, false_and, and_false, or_false, false_or, Int.reduceNeg, gIx, decide_false, Bool.and_true, Bool.true_and, Bool.or_true, wSeq, wSet, wAsg, wPar, wIf, wIfS, wTst, LV.wTru, LV.wNot, wAnd, wOr, wAndV, wOrV, wNotV, wOp, wUn, wV, wC, fCI, fAdd, fSub, fMul, fDiv, fMod, fPow, fNeg, fIx, fIs, fIsNot, fEq, fNe, fLt, fLe, fGt, fGe, wCB, wCons, wNil, w1, wApp, wIsi, isiB, bagD, isNonD, fLen, fAbs, fInt, fGcd, fList, fTuple, fRepr, fLz, fLen0, fLrv, fSum, fMax, fMin, fAll, fAny, seqD, rdL, rdW, fzL, fzW, unL, putS, RV.sl, wRet, wRetN, wNever, wNext, wDrop, wTup, wLst, outW, placeW, gN, gTu, gCo, gNi, wFor, zSeq, zr_0, zr_1, zr_2, zr_3, zr_4, nc_0, nc_1, nc_2, nc_3, nc_4, zEnum, zZip, ixD, tru, wCall, wCallK, wAppend, owW, wSl, fSl, wONone, wOSome, wLc, wYes, List.map, List.replicate, List.length, List.append, List.set, List.take, List.drop, List.getLast?, List.dropLast, List.filterMap, List.getElem?_cons_zero, List.getElem?_cons_succ, List.getElem?_nil, Nat.reduceAdd, Nat.reduceSub, Nat.reduceLT, List.cons_append, List.nil_append, Option.some.injEq, reduceCtorEq, reduceIte, Bool.not_true, Bool.not_false, Bool.false_eq_true, List.isEmpty]
    refine ⟨hw, ?_⟩
    have l := low_ok (shA (a, b)) (shB (a, b)) (by have := hw.pB; omega)
    have e : decide ((low (shA (a, b)) (shB (a, b))).1 < (low (shA (a, b)) (shB (a, b))).2) = decide (shA (a, b) < shB (a, b)) := by
      have e1 := l.eq
      have e2 := l.pos
      have e3 := hw.pB
      have e4 := hw.pA
      generalize low (shA (a, b)) (shB (a, b)) = x at *
      generalize shA (a, b) = A at *
      generalize shB (a, b) = B at *
      refine decide_eq_decide.mpr ⟨fun h => ?_, fun h => ?_⟩
      · have : x.1 * B < x.2 * B := Int.mul_lt_mul_of_pos_right h e3
        rw [e1] at this
        have : A * x.2 < B * x.2 := by rw [Int.mul_comm B]; exact this
        exact Int.lt_of_mul_lt_mul_right this (by omega)
      · have : A * x.2 < B * x.2 := Int.mul_lt_mul_of_pos_right h e2
        rw [← e1] at this
        have : x.1 * B < x.2 * B := by rw [Int.mul_comm x.2]; exact this
        exact Int.lt_of_mul_lt_mul_right this (by omega)
    rw [e]; exact hq
  · exact h.elim
theorem fmod_rg {a b : Int} (hb : 0 < b) : 0 ≤ a.fmod b ∧ a.fmod b < b := ⟨Int.fmod_nonneg_of_pos a hb, Int.fmod_lt_of_pos a hb⟩
theorem sm31 {v : Int} (h0 : 0 ≤ v) (h1 : v < 2147483647) : sm 31 v := by
  show v.natAbs < 2 ^ 31
  omega
theorem fdiv_nn {a b : Int} (ha : 0 ≤ a) (hb : 0 < b) : 0 ≤ a.fdiv b := Int.fdiv_nonneg ha (by omega)
theorem p__law_draw {K : PySem.W.Frag} : ∀ ds Qf, F__law_draw ds Qf → ds.length = 2 ∧ W__law_draw K { nx := fun _ => Qf (.sh .non), rt := Qf } (begin 5 ds) := by
  intro ds Qf h
  obtain ⟨n, rfl, hn, hl, hq⟩ := h
  refine ⟨rfl, ?_⟩
  simp only [W__law_draw, wSeq]
  refine ⟨fun s => ∃ x, s = [.sh (.bag 1), .sh (.int n), x, .un, .un], ⟨.un, rfl⟩, ?_⟩
  rintro s ⟨x, rfl⟩
  refine ⟨rfl, ?_⟩
  simp only [LV.begin, at_0, at_1, at_2, at_3, at_m1a, at_m1b, at_m1c, at_m1d, at_m2b, at_m2c, decide_true, eq_self, Int.reduceEq, true_and, and_true, false_and, and_false, or_false, false_or, Int.reduceNeg, gIx, decide_false, Bool.and_true, Bool.true_and, Bool.or_true, wSeq, wSet, wAsg, wPar, wIf, wIfS, wTst, LV.wTru, LV.wNot, wAnd, wOr, wAndV, wOrV, wNotV, wOp, wUn, wV, wC, fCI, fAdd, fSub, fMul, fDiv, fMod, fPow, fNeg, fIx, fIs, fIsNot, fEq, fNe, fLt, fLe, fGt, fGe, wCB, wCons, wNil, w1, wApp, wIsi, isiB, bagD, isNonD, fLen, fAbs, fInt, fGcd, fList, fTuple, fRepr, fLz, fLen0, fLrv, fSum, fMax, fMin, fAll, fAny, seqD, rdL, rdW, fzL, fzW, unL, putS, RV.sl, wRet, wRetN, wNever, wNext, wDrop, wTup, wLst, outW, placeW, gN, gTu, gCo, gNi, wFor, zSeq, zr_0, zr_1, zr_2, zr_3, zr_4, nc_0, nc_1, nc_2, nc_3, nc_4, zEnum, zZip, ixD, tru, wCall, wCallK, wAppend, owW, wSl, fSl, wONone, wOSome, wLc, wYes, List.map, List.replicate, List.length, List.append, List.set, List.take, List.drop, List.getLast?, List.dropLast, List.filterMap, List.getElem?_cons_zero, List.getElem?_cons_succ, List.getElem?_nil, Nat.reduceAdd, Nat.reduceSub, Nat.reduceLT, List.cons_append, List.nil_append, Option.some.injEq, reduceCtorEq, reduceIte, Bool.not_true, Bool.not_false, Bool.false_eq_true, List.isEmpty]
  intro v hv
  refine ⟨?_, ?_⟩
  · intro v hv
    split
    · exact fun v hv => ⟨by omega, fun u hu => ⟨⟨by omega, hl⟩, fdiv_nn hu hn, hq _ (fmod_rg hn).1 (fmod_rg hn).2⟩⟩
    · refine fun v h1 h2 => ⟨(sm31 h1 h2).mulW (sm31 (v := 48271) (by decide) (by decide)) (by omega), by decide, fmod_rg (by decide), fun u h3 h4 z h5 h6 => ⟨(sm31 h3 h4).mulW (sm31 h5 h6) (by omega), by decide, ⟨by decide, by decide⟩, by omega, hq _ (fmod_rg hn).1 (fmod_rg hn).2⟩⟩
  · intro hv0
    intro u hu
    refine ⟨⟨by decide, by decide, by decide⟩, ?_⟩
    split
    · exact ⟨hu, _, rfl⟩
    · exact ⟨by decide, _, rfl⟩
theorem p__law_own_bag {K : PySem.W.Frag} : ∀ ds Qf, F__law_own_bag K ds Qf → ds.length = 1 ∧ W__law_own_bag K { nx := fun _ => Qf (.sh .non), rt := Qf } (begin 4 ds) := by
  intro ds Qf h
  obtain ⟨rfl, hq⟩ := h
  refine ⟨rfl, ?_⟩
  unfold W__law_own_bag
  refine seq_cut (fun s => ∃ cells : List Int, (∀ c ∈ cells, 0 ≤ c) ∧ cells.length ≤ 63 ∧ s = [.sh (.scr K), .ow (cells.map D.int), .un, .un]) (fun nx hn => ?_) ?_
  · simp only [LV.begin, at_0, at_1, at_2, at_3, at_m1a, at_m1b, at_m1c, at_m1d, at_m2b, at_m2c, decide_true, eq_self, Int.reduceEq, true_and, and_true, false_and, and_false, or_false, false_or, Int.reduceNeg, gIx, decide_false, Bool.and_true, Bool.true_and, Bool.or_true, wSeq, wSet, wAsg, wPar, wIf, wIfS, wTst, LV.wTru, LV.wNot, wAnd, wOr, wAndV, wOrV, wNotV, wOp, wUn, wV, wC, fCI, fAdd, fSub, fMul, fDiv, fMod, fPow, fNeg, fIx, fIs, fIsNot, fEq, fNe, fLt, fLe, fGt, fGe, wCB, wCons, wNil, w1, wApp, wIsi, isiB, bagD, isNonD, fLen, fAbs, fInt, fGcd, fList, fTuple, fRepr, fLz, fLen0, fLrv, fSum, fMax, fMin, fAll, fAny, seqD, rdL, rdW, fzL, fzW, unL, putS, RV.sl, wRet, wRetN, wNever, wNext, wDrop, wTup, wLst, outW, placeW, gN, gTu, gCo, gNi, wFor, zSeq, zr_0, zr_1, zr_2, zr_3, zr_4, nc_0, nc_1, nc_2, nc_3, nc_4, zEnum, zZip, ixD, tru, wCall, wCallK, wAppend, owW, wSl, fSl, wONone, wOSome, wLc, wYes, List.map, List.replicate, List.length, List.append, List.set, List.take, List.drop, List.getLast?, List.dropLast, List.filterMap, List.getElem?_cons_zero, List.getElem?_cons_succ, List.getElem?_nil, Nat.reduceAdd, Nat.reduceSub, Nat.reduceLT, List.cons_append, List.nil_append, Option.some.injEq, reduceCtorEq, reduceIte, Bool.not_true, Bool.not_false, Bool.false_eq_true, List.isEmpty]
    intro ns hns
    obtain ⟨ms, e, hl, _⟩ := cut_map D.int ns none (some 63)
    refine ⟨_, rfl, ?_⟩
    rw [e]
    refine lcL D.int (fun done rest acc s => ∃ cells : List Int, acc = cells.map D.int ∧ (∀ c ∈ cells, 0 ≤ c) ∧ cells.length + rest.length = ms.length ∧ s = [.sh (.scr K), .un, .un, .un]) ?_ ?_ ms [] [] _ ⟨[], rfl, (fun _ h => nomatch h), by simp, rfl⟩
    · rintro done x rest acc s nx2 ⟨cells, rfl, hc, hlen, rfl⟩ hnx
      refine ⟨?_, by simp at hlen ⊢; omega, rfl, ?_⟩
      · simp only [LV.begin, at_0, at_1, at_2, at_3, at_m1a, at_m1b, at_m1c, at_m1d, at_m2b, at_m2c, decide_true, eq_self, Int.reduceEq, true_and, and_true, false_and, and_false, or_false, false_or, Int.reduceNeg, gIx, decide_false, Bool.and_true, Bool.true_and, Bool.or_true, wSeq, wSet, wAsg, wPar, wIf, wIfS, wTst, LV.wTru, LV.wNot, wAnd, wOr, wAndV, wOrV, wNotV, wOp, wUn, wV, wC, fCI, fAdd, fSub, fMul, fDiv, fMod, fPow, fNeg, fIx, fIs, fIsNot, fEq, fNe, fLt, fLe, fGt, fGe, wCB, wCons, wNil, w1, wApp, wIsi, isiB, bagD, isNonD, fLen, fAbs, fInt, fGcd, fList, fTuple, fRepr, fLz, fLen0, fLrv, fSum, fMax, fMin, fAll, fAny, seqD, rdL, rdW, fzL, fzW, unL, putS, RV.sl, wRet, wRetN, wNever, wNext, wDrop, wTup, wLst, outW, placeW, gN, gTu, gCo, gNi, wFor, zSeq, zr_0, zr_1, zr_2, zr_3, zr_4, nc_0, nc_1, nc_2, nc_3, nc_4, zEnum, zZip, ixD, tru, wCall, wCallK, wAppend, owW, wSl, fSl, wONone, wOSome, wLc, wYes, List.map, List.replicate, List.length, List.append, List.set, List.take, List.drop, List.getLast?, List.dropLast, List.filterMap, List.getElem?_cons_zero, List.getElem?_cons_succ, List.getElem?_nil, Nat.reduceAdd, Nat.reduceSub, Nat.reduceLT, List.cons_append, List.nil_append, Option.some.injEq, reduceCtorEq, reduceIte, Bool.not_true, Bool.not_false, Bool.false_eq_true, List.isEmpty]
      · simp only [wipeS, LV.begin, at_0, at_1, at_2, at_3, at_m1a, at_m1b, at_m1c, at_m1d, at_m2b, at_m2c, decide_true, eq_self, Int.reduceEq, true_and, and_true, false_and, and_false, or_false, false_or, Int.reduceNeg, gIx, decide_false, Bool.and_true, Bool.true_and, Bool.or_true, wSeq, wSet, wAsg, wPar, wIf, wIfS, wTst, LV.wTru, LV.wNot, wAnd, wOr, wAndV, wOrV, wNotV, wOp, wUn, wV, wC, fCI, fAdd, fSub, fMul, fDiv, fMod, fPow, fNeg, fIx, fIs, fIsNot, fEq, fNe, fLt, fLe, fGt, fGe, wCB, wCons, wNil, w1, wApp, wIsi, isiB, bagD, isNonD, fLen, fAbs, fInt, fGcd, fList, fTuple, fRepr, fLz, fLen0, fLrv, fSum, fMax, fMin, fAll, fAny, seqD, rdL, rdW, fzL, fzW, unL, putS, RV.sl, wRet, wRetN, wNever, wNext, wDrop, wTup, wLst, outW, placeW, gN, gTu, gCo, gNi, wFor, zSeq, zr_0, zr_1, zr_2, zr_3, zr_4, nc_0, nc_1, nc_2, nc_3, nc_4, zEnum, zZip, ixD, tru, wCall, wCallK, wAppend, owW, wSl, fSl, wONone, wOSome, wLc, wYes, List.map, List.replicate, List.length, List.append, List.set, List.take, List.drop, List.getLast?, List.dropLast, List.filterMap, List.getElem?_cons_zero, List.getElem?_cons_succ, List.getElem?_nil, Nat.reduceAdd, Nat.reduceSub, Nat.reduceLT, List.cons_append, List.nil_append, Option.some.injEq, reduceCtorEq, reduceIte, Bool.not_true, Bool.not_false, Bool.false_eq_true, List.isEmpty]
        refine ⟨⟨by decide, by decide, by decide⟩, by decide, hnx _ _ ⟨cells ++ [(if x < 0 then -x else x).fmod (10 ^ Int.toNat 64)], by simp, fun c h => ?_, by simp at hlen ⊢; omega, rfl⟩⟩
        rcases List.mem_append.mp h with h | h
        · exact hc c h
        · rw [List.mem_singleton.mp h]
          exact (fmod_rg (by decide)).1
    · rintro done acc s ⟨cells, rfl, hc, hlen, rfl⟩
      refine ⟨?_, ?_⟩
      · simp only [LV.begin, at_0, at_1, at_2, at_3, at_m1a, at_m1b, at_m1c, at_m1d, at_m2b, at_m2c, decide_true, eq_self, Int.reduceEq, true_and, and_true, false_and, and_false, or_false, false_or, Int.reduceNeg, gIx, decide_false, Bool.and_true, Bool.true_and, Bool.or_true, wSeq, wSet, wAsg, wPar, wIf, wIfS, wTst, LV.wTru, LV.wNot, wAnd, wOr, wAndV, wOrV, wNotV, wOp, wUn, wV, wC, fCI, fAdd, fSub, fMul, fDiv, fMod, fPow, fNeg, fIx, fIs, fIsNot, fEq, fNe, fLt, fLe, fGt, fGe, wCB, wCons, wNil, w1, wApp, wIsi, isiB, bagD, isNonD, fLen, fAbs, fInt, fGcd, fList, fTuple, fRepr, fLz, fLen0, fLrv, fSum, fMax, fMin, fAll, fAny, seqD, rdL, rdW, fzL, fzW, unL, putS, RV.sl, wRet, wRetN, wNever, wNext, wDrop, wTup, wLst, outW, placeW, gN, gTu, gCo, gNi, wFor, zSeq, zr_0, zr_1, zr_2, zr_3, zr_4, nc_0, nc_1, nc_2, nc_3, nc_4, zEnum, zZip, ixD, tru, wCall, wCallK, wAppend, owW, wSl, fSl, wONone, wOSome, wLc, wYes, List.map, List.replicate, List.length, List.append, List.set, List.take, List.drop, List.getLast?, List.dropLast, List.filterMap, List.getElem?_cons_zero, List.getElem?_cons_succ, List.getElem?_nil, Nat.reduceAdd, Nat.reduceSub, Nat.reduceLT, List.cons_append, List.nil_append, Option.some.injEq, reduceCtorEq, reduceIte, Bool.not_true, Bool.not_false, Bool.false_eq_true, List.isEmpty]
      · simp only [LV.begin, at_0, at_1, at_2, at_3, at_m1a, at_m1b, at_m1c, at_m1d, at_m2b, at_m2c, decide_true, eq_self, Int.reduceEq, true_and, and_true, false_and, and_false, or_false, false_or, Int.reduceNeg, gIx, decide_false, Bool.and_true, Bool.true_and, Bool.or_true, wSeq, wSet, wAsg, wPar, wIf, wIfS, wTst, LV.wTru, LV.wNot, wAnd, wOr, wAndV, wOrV, wNotV, wOp, wUn, wV, wC, fCI, fAdd, fSub, fMul, fDiv, fMod, fPow, fNeg, fIx, fIs, fIsNot, fEq, fNe, fLt, fLe, fGt, fGe, wCB, wCons, wNil, w1, wApp, wIsi, isiB, bagD, isNonD, fLen, fAbs, fInt, fGcd, fList, fTuple, fRepr, fLz, fLen0, fLrv, fSum, fMax, fMin, fAll, fAny, seqD, rdL, rdW, fzL, fzW, unL, putS, RV.sl, wRet, wRetN, wNever, wNext, wDrop, wTup, wLst, outW, placeW, gN, gTu, gCo, gNi, wFor, zSeq, zr_0, zr_1, zr_2, zr_3, zr_4, nc_0, nc_1, nc_2, nc_3, nc_4, zEnum, zZip, ixD, tru, wCall, wCallK, wAppend, owW, wSl, fSl, wONone, wOSome, wLc, wYes, List.map, List.replicate, List.length, List.append, List.set, List.take, List.drop, List.getLast?, List.dropLast, List.filterMap, List.getElem?_cons_zero, List.getElem?_cons_succ, List.getElem?_nil, Nat.reduceAdd, Nat.reduceSub, Nat.reduceLT, List.cons_append, List.nil_append, Option.some.injEq, reduceCtorEq, reduceIte, Bool.not_true, Bool.not_false, Bool.false_eq_true, List.isEmpty]
        exact hn _ ⟨cells, hc, by simp at hlen; omega, rfl⟩
  · rintro s ⟨cells, hc, hl, rfl⟩
    simp only [LV.begin, at_0, at_1, at_2, at_3, at_m1a, at_m1b, at_m1c, at_m1d, at_m2b, at_m2c, decide_true, eq_self, Int.reduceEq, true_and, and_true, false_and, and_false, or_false, false_or, Int.reduceNeg, gIx, decide_false, Bool.and_true, Bool.true_and, Bool.or_true, wSeq, wSet, wAsg, wPar, wIf, wIfS, wTst, LV.wTru, LV.wNot, wAnd, wOr, wAndV, wOrV, wNotV, wOp, wUn, wV, wC, fCI, fAdd, fSub, fMul, fDiv, fMod, fPow, fNeg, fIx, fIs, fIsNot, fEq, fNe, fLt, fLe, fGt, fGe, wCB, wCons, wNil, w1, wApp, wIsi, isiB, bagD, isNonD, fLen, fAbs, fInt, fGcd, fList, fTuple, fRepr, fLz, fLen0, fLrv, fSum, fMax, fMin, fAll, fAny, seqD, rdL, rdW, fzL, fzW, unL, putS, RV.sl, wRet, wRetN, wNever, wNext, wDrop, wTup, wLst, outW, placeW, gN, gTu, gCo, gNi, wFor, zSeq, zr_0, zr_1, zr_2, zr_3, zr_4, nc_0, nc_1, nc_2, nc_3, nc_4, zEnum, zZip, ixD, tru, wCall, wCallK, wAppend, owW, wSl, fSl, wONone, wOSome, wLc, wYes, List.map, List.replicate, List.length, List.append, List.set, List.take, List.drop, List.getLast?, List.dropLast, List.filterMap, List.getElem?_cons_zero, List.getElem?_cons_succ, List.getElem?_nil, Nat.reduceAdd, Nat.reduceSub, Nat.reduceLT, List.cons_append, List.nil_append, Option.some.injEq, reduceCtorEq, reduceIte, Bool.not_true, Bool.not_false, Bool.false_eq_true, List.isEmpty]
    refine ⟨_, rfl, ?_⟩
    refine forL D.int (fun done rest s => ∃ (x : Sl) (m : Int), 0 ≤ m ∧ sm 31 m ∧ (rest ≠ [] ∨ m < 2147483647) ∧ s = [.sh (.scr K), .sh (.lst (cells.map D.int)), x, .sh (.int m)]) ?_ ?_ cells [] _ ⟨_, _, by omega, ?_, ?_, rfl⟩
    · rintro done x rest s nx2 ⟨y, m, h1, h2, h3, rfl⟩ hnx
      simp only [LV.begin, at_0, at_1, at_2, at_3, at_m1a, at_m1b, at_m1c, at_m1d, at_m2b, at_m2c, decide_true, eq_self, Int.reduceEq, true_and, and_true, false_and, and_false, or_false, false_or, Int.reduceNeg, gIx, decide_false, Bool.and_true, Bool.true_and, Bool.or_true, wSeq, wSet, wAsg, wPar, wIf, wIfS, wTst, LV.wTru, LV.wNot, wAnd, wOr, wAndV, wOrV, wNotV, wOp, wUn, wV, wC, fCI, fAdd, fSub, fMul, fDiv, fMod, fPow, fNeg, fIx, fIs, fIsNot, fEq, fNe, fLt, fLe, fGt, fGe, wCB, wCons, wNil, w1, wApp, wIsi, isiB, bagD, isNonD, fLen, fAbs, fInt, fGcd, fList, fTuple, fRepr, fLz, fLen0, fLrv, fSum, fMax, fMin, fAll, fAny, seqD, rdL, rdW, fzL, fzW, unL, putS, RV.sl, wRet, wRetN, wNever, wNext, wDrop, wTup, wLst, outW, placeW, gN, gTu, gCo, gNi, wFor, zSeq, zr_0, zr_1, zr_2, zr_3, zr_4, nc_0, nc_1, nc_2, nc_3, nc_4, zEnum, zZip, ixD, tru, wCall, wCallK, wAppend, owW, wSl, fSl, wONone, wOSome, wLc, wYes, List.map, List.replicate, List.length, List.append, List.set, List.take, List.drop, List.getLast?, List.dropLast, List.filterMap, List.getElem?_cons_zero, List.getElem?_cons_succ, List.getElem?_nil, Nat.reduceAdd, Nat.reduceSub, Nat.reduceLT, List.cons_append, List.nil_append, Option.some.injEq, reduceCtorEq, reduceIte, Bool.not_true, Bool.not_false, Bool.false_eq_true, List.isEmpty]
      refine ⟨h2.mulW (sm31 (v := 48271) (by decide) (by decide)) (by omega), by decide, by decide, hnx _ ⟨_, _, (fmod_rg (by decide)).1, sm31 (fmod_rg (by decide)).1 (fmod_rg (by decide)).2, .inr (fmod_rg (by decide)).2, rfl⟩⟩
    · rintro done s ⟨y, m, h1, h2, h3, rfl⟩
      simp only [LV.begin, at_0, at_1, at_2, at_3, at_m1a, at_m1b, at_m1c, at_m1d, at_m2b, at_m2c, decide_true, eq_self, Int.reduceEq, true_and, and_true, false_and, and_false, or_false, false_or, Int.reduceNeg, gIx, decide_false, Bool.and_true, Bool.true_and, Bool.or_true, wSeq, wSet, wAsg, wPar, wIf, wIfS, wTst, LV.wTru, LV.wNot, wAnd, wOr, wAndV, wOrV, wNotV, wOp, wUn, wV, wC, fCI, fAdd, fSub, fMul, fDiv, fMod, fPow, fNeg, fIx, fIs, fIsNot, fEq, fNe, fLt, fLe, fGt, fGe, wCB, wCons, wNil, w1, wApp, wIsi, isiB, bagD, isNonD, fLen, fAbs, fInt, fGcd, fList, fTuple, fRepr, fLz, fLen0, fLrv, fSum, fMax, fMin, fAll, fAny, seqD, rdL, rdW, fzL, fzW, unL, putS, RV.sl, wRet, wRetN, wNever, wNext, wDrop, wTup, wLst, outW, placeW, gN, gTu, gCo, gNi, wFor, zSeq, zr_0, zr_1, zr_2, zr_3, zr_4, nc_0, nc_1, nc_2, nc_3, nc_4, zEnum, zZip, ixD, tru, wCall, wCallK, wAppend, owW, wSl, fSl, wONone, wOSome, wLc, wYes, List.map, List.replicate, List.length, List.append, List.set, List.take, List.drop, List.getLast?, List.dropLast, List.filterMap, List.getElem?_cons_zero, List.getElem?_cons_succ, List.getElem?_nil, Nat.reduceAdd, Nat.reduceSub, Nat.reduceLT, List.cons_append, List.nil_append, Option.some.injEq, reduceCtorEq, reduceIte, Bool.not_true, Bool.not_false, Bool.false_eq_true, List.isEmpty]
      rw [← List.map_reverse]
      exact ⟨by omega, hq cells.reverse m (fun c h => hc c (List.mem_reverse.mp h)) h1 (h3.resolve_left fun n => n rfl)⟩
    · rw [List.length_map]
      exact sm31 (by omega) (by omega)
    · rw [List.length_map]
      exact .inr (by omega)
theorem p__law_pick {K : PySem.W.Frag} : ∀ ds Qf, F__law_pick ds Qf → ds.length = 2 ∧ W__law_pick K { nx := fun _ => Qf (.sh .non), rt := Qf } (begin 2 ds) := by
  intro ds Qf h
  obtain ⟨xs, rfl, hne, hl, hq⟩ := h
  refine ⟨rfl, ?_⟩
  have hp := List.length_pos_iff.mpr hne
  simp only [W__law_pick, FDraw, LV.begin, at_0, at_1, at_2, at_3, at_m1a, at_m1b, at_m1c, at_m1d, at_m2b, at_m2c, decide_true, eq_self, Int.reduceEq, true_and, and_true, false_and, and_false, or_false, false_or, Int.reduceNeg, gIx, decide_false, Bool.and_true, Bool.true_and, Bool.or_true, wSeq, wSet, wAsg, wPar, wIf, wIfS, wTst, LV.wTru, LV.wNot, wAnd, wOr, wAndV, wOrV, wNotV, wOp, wUn, wV, wC, fCI, fAdd, fSub, fMul, fDiv, fMod, fPow, fNeg, fIx, fIs, fIsNot, fEq, fNe, fLt, fLe, fGt, fGe, wCB, wCons, wNil, w1, wApp, wIsi, isiB, bagD, isNonD, fLen, fAbs, fInt, fGcd, fList, fTuple, fRepr, fLz, fLen0, fLrv, fSum, fMax, fMin, fAll, fAny, seqD, rdL, rdW, fzL, fzW, unL, putS, RV.sl, wRet, wRetN, wNever, wNext, wDrop, wTup, wLst, outW, placeW, gN, gTu, gCo, gNi, wFor, zSeq, zr_0, zr_1, zr_2, zr_3, zr_4, nc_0, nc_1, nc_2, nc_3, nc_4, zEnum, zZip, ixD, tru, wCall, wCallK, wAppend, owW, wSl, fSl, wONone, wOSome, wLc, wYes, List.map, List.replicate, List.length, List.append, List.set, List.take, List.drop, List.getLast?, List.dropLast, List.filterMap, List.getElem?_cons_zero, List.getElem?_cons_succ, List.getElem?_nil, Nat.reduceAdd, Nat.reduceSub, Nat.reduceLT, List.cons_append, List.nil_append, Option.some.injEq, reduceCtorEq, reduceIte, Bool.not_true, Bool.not_false, Bool.false_eq_true, List.isEmpty]
  refine ⟨_, rfl, by omega, ?_, fun r h0 h1 => ?_⟩
  · have : sm 10 (xs.length : Int) := sm10 (by omega) (by omega)
    exact Nat.lt_of_le_of_lt this.log (by decide)
  · have hr : r.toNat < xs.length := by omega
    obtain ⟨j, rfl⟩ : ∃ j : Nat, r = (j : Int) := ⟨r.toNat, by omega⟩
    have e : atI xs (j : Int) = some xs[((j : Int)).toNat] := atI_nat (List.getElem?_eq_getElem hr)
    simp only [e]
    exact hq _ (List.getElem_mem hr)
theorem gcd_loop {K : LK} {wb : WS} {wt : WT} (ht : ∀ (a b : Int) (Q : Bool → Sg → Prop), 0 ≤ b → Q (decide (0 < b)) [.sh (.int a), .sh (.int b)] → wt [.sh (.int a), .sh (.int b)] Q)
    (hb : ∀ (a b : Int) (K : LK), 0 < b → K.nx [.sh (.int b), .sh (.int (a.fmod b))] → wb K [.sh (.int a), .sh (.int b)]) :
    ∀ (n : Nat) (a b : Nat), b < n → K.nx [.sh (.int (Nat.gcd a b)), .sh (.int 0)] → wWhileN wt wb K n [.sh (.int a), .sh (.int b)]
  | 0, a, b, h, _ => absurd h (Nat.not_lt_zero _)
  | n + 1, a, b, h, hk => by
    refine ht _ _ _ (by omega) ?_
    by_cases h0 : b = 0
    · subst h0
      rw [Nat.gcd_zero_right] at hk
      exact hk
    · have hb0 : (0 : Int) < (b : Int) := by omega
      rw [decide_eq_true hb0]
      refine hb _ _ _ hb0 ?_
      have e : (a : Int).fmod (b : Int) = ((a % b : Nat) : Int) := by
        rw [Int.fmod_eq_emod_of_nonneg _ (by omega)]; rfl
      rw [e]
      have hm := Nat.mod_lt a (by omega : b > 0)
      exact gcd_loop ht hb n b (a % b) (by omega) (by
        have e2 : Nat.gcd b (a % b) = Nat.gcd a b := by rw [Nat.gcd_comm b, ← Nat.gcd_rec, Nat.gcd_comm]
        rw [e2]; exact hk)
theorem abs_nat (i : Int) : (if i < 0 then -i else i) = ((i.natAbs : Nat) : Int) := by split <;> omega
theorem p__law_common {K : PySem.W.Frag} : ∀ ds Qf, F__law_common ds Qf → ds.length = 2 ∧ W__law_common K { nx := fun _ => Qf (.sh .non), rt := Qf } (begin 2 ds) := by
  intro ds Qf h
  unfold F__law_common at h; split at h
  · rename_i a b
    refine ⟨rfl, ?_⟩
    simp only [W__law_common, abs_nat, LV.begin, at_0, at_1, at_2, at_3, at_m1a, at_m1b, at_m1c, at_m1d, at_m2b, at_m2c, decide_true, eq_self, Int.reduceEq, true_and, and_true, false_and, and_false, or_false, false_or, Int.reduceNeg, gIx, decide_false, Bool.and_true, Bool.true_and, Bool.or_true, wSeq, wSet, wAsg, wPar, wIf, wIfS, wTst, LV.wTru, LV.wNot, wAnd, wOr, wAndV, wOrV, wNotV, wOp, wUn, wV, wC, fCI, fAdd, fSub, fMul, fDiv, fMod, fPow, fNeg, fIx, fIs, fIsNot, fEq, fNe, fLt, fLe, fGt, fGe, wCB, wCons, wNil, w1, wApp, wIsi, isiB, bagD, isNonD, fLen, fAbs, fInt, fGcd, fList, fTuple, fRepr, fLz, fLen0, fLrv, fSum, fMax, fMin, fAll, fAny, seqD, rdL, rdW, fzL, fzW, unL, putS, RV.sl, wRet, wRetN, wNever, wNext, wDrop, wTup, wLst, outW, placeW, gN, gTu, gCo, gNi, wFor, zSeq, zr_0, zr_1, zr_2, zr_3, zr_4, nc_0, nc_1, nc_2, nc_3, nc_4, zEnum, zZip, ixD, tru, wCall, wCallK, wAppend, owW, wSl, fSl, wONone, wOSome, wLc, wYes, List.map, List.replicate, List.length, List.append, List.set, List.take, List.drop, List.getLast?, List.dropLast, List.filterMap, List.getElem?_cons_zero, List.getElem?_cons_succ, List.getElem?_nil, Nat.reduceAdd, Nat.reduceSub, Nat.reduceLT, List.cons_append, List.nil_append, Option.some.injEq, reduceCtorEq, reduceIte, Bool.not_true, Bool.not_false, Bool.false_eq_true, List.isEmpty]
    refine ⟨b.natAbs + 1, gcd_loop (fun a b Q h0 h => ?_) (fun a b K h0 h => ?_) _ _ _ (Nat.lt_succ_self _) ?_⟩
    · simp only [LV.begin, at_0, at_1, at_2, at_3, at_m1a, at_m1b, at_m1c, at_m1d, at_m2b, at_m2c, decide_true, eq_self, Int.reduceEq, true_and, and_true, false_and, and_false, or_false, false_or, Int.reduceNeg, gIx, decide_false, Bool.and_true, Bool.true_and, Bool.or_true, wSeq, wSet, wAsg, wPar, wIf, wIfS, wTst, LV.wTru, LV.wNot, wAnd, wOr, wAndV, wOrV, wNotV, wOp, wUn, wV, wC, fCI, fAdd, fSub, fMul, fDiv, fMod, fPow, fNeg, fIx, fIs, fIsNot, fEq, fNe, fLt, fLe, fGt, fGe, wCB, wCons, wNil, w1, wApp, wIsi, isiB, bagD, isNonD, fLen, fAbs, fInt, fGcd, fList, fTuple, fRepr, fLz, fLen0, fLrv, fSum, fMax, fMin, fAll, fAny, seqD, rdL, rdW, fzL, fzW, unL, putS, RV.sl, wRet, wRetN, wNever, wNext, wDrop, wTup, wLst, outW, placeW, gN, gTu, gCo, gNi, wFor, zSeq, zr_0, zr_1, zr_2, zr_3, zr_4, nc_0, nc_1, nc_2, nc_3, nc_4, zEnum, zZip, ixD, tru, wCall, wCallK, wAppend, owW, wSl, fSl, wONone, wOSome, wLc, wYes, List.map, List.replicate, List.length, List.append, List.set, List.take, List.drop, List.getLast?, List.dropLast, List.filterMap, List.getElem?_cons_zero, List.getElem?_cons_succ, List.getElem?_nil, Nat.reduceAdd, Nat.reduceSub, Nat.reduceLT, List.cons_append, List.nil_append, Option.some.injEq, reduceCtorEq, reduceIte, Bool.not_true, Bool.not_false, Bool.false_eq_true, List.isEmpty]; exact h
    · simp only [LV.begin, at_0, at_1, at_2, at_3, at_m1a, at_m1b, at_m1c, at_m1d, at_m2b, at_m2c, decide_true, eq_self, Int.reduceEq, true_and, and_true, false_and, and_false, or_false, false_or, Int.reduceNeg, gIx, decide_false, Bool.and_true, Bool.true_and, Bool.or_true, wSeq, wSet, wAsg, wPar, wIf, wIfS, wTst, LV.wTru, LV.wNot, wAnd, wOr, wAndV, wOrV, wNotV, wOp, wUn, wV, wC, fCI, fAdd, fSub, fMul, fDiv, fMod, fPow, fNeg, fIx, fIs, fIsNot, fEq, fNe, fLt, fLe, fGt, fGe, wCB, wCons, wNil, w1, wApp, wIsi, isiB, bagD, isNonD, fLen, fAbs, fInt, fGcd, fList, fTuple, fRepr, fLz, fLen0, fLrv, fSum, fMax, fMin, fAll, fAny, seqD, rdL, rdW, fzL, fzW, unL, putS, RV.sl, wRet, wRetN, wNever, wNext, wDrop, wTup, wLst, outW, placeW, gN, gTu, gCo, gNi, wFor, zSeq, zr_0, zr_1, zr_2, zr_3, zr_4, nc_0, nc_1, nc_2, nc_3, nc_4, zEnum, zZip, ixD, tru, wCall, wCallK, wAppend, owW, wSl, fSl, wONone, wOSome, wLc, wYes, List.map, List.replicate, List.length, List.append, List.set, List.take, List.drop, List.getLast?, List.dropLast, List.filterMap, List.getElem?_cons_zero, List.getElem?_cons_succ, List.getElem?_nil, Nat.reduceAdd, Nat.reduceSub, Nat.reduceLT, List.cons_append, List.nil_append, Option.some.injEq, reduceCtorEq, reduceIte, Bool.not_true, Bool.not_false, Bool.false_eq_true, List.isEmpty]; exact ⟨by omega, h⟩
    · simp only [LV.begin, at_0, at_1, at_2, at_3, at_m1a, at_m1b, at_m1c, at_m1d, at_m2b, at_m2c, decide_true, eq_self, Int.reduceEq, true_and, and_true, false_and, and_false, or_false, false_or, Int.reduceNeg, gIx, decide_false, Bool.and_true, Bool.true_and, Bool.or_true, wSeq, wSet, wAsg, wPar, wIf, wIfS, wTst, LV.wTru, LV.wNot, wAnd, wOr, wAndV, wOrV, wNotV, wOp, wUn, wV, wC, fCI, fAdd, fSub, fMul, fDiv, fMod, fPow, fNeg, fIx, fIs, fIsNot, fEq, fNe, fLt, fLe, fGt, fGe, wCB, wCons, wNil, w1, wApp, wIsi, isiB, bagD, isNonD, fLen, fAbs, fInt, fGcd, fList, fTuple, fRepr, fLz, fLen0, fLrv, fSum, fMax, fMin, fAll, fAny, seqD, rdL, rdW, fzL, fzW, unL, putS, RV.sl, wRet, wRetN, wNever, wNext, wDrop, wTup, wLst, outW, placeW, gN, gTu, gCo, gNi, wFor, zSeq, zr_0, zr_1, zr_2, zr_3, zr_4, nc_0, nc_1, nc_2, nc_3, nc_4, zEnum, zZip, ixD, tru, wCall, wCallK, wAppend, owW, wSl, fSl, wONone, wOSome, wLc, wYes, List.map, List.replicate, List.length, List.append, List.set, List.take, List.drop, List.getLast?, List.dropLast, List.filterMap, List.getElem?_cons_zero, List.getElem?_cons_succ, List.getElem?_nil, Nat.reduceAdd, Nat.reduceSub, Nat.reduceLT, List.cons_append, List.nil_append, Option.some.injEq, reduceCtorEq, reduceIte, Bool.not_true, Bool.not_false, Bool.false_eq_true, List.isEmpty]; exact h
  · exact h.elim
theorem p_common_divisor {K : PySem.W.Frag} : ∀ ds Qf, F_common_divisor ds Qf → ds.length = 2 ∧ W_common_divisor K { nx := fun _ => Qf (.sh .non), rt := Qf } (begin 2 ds) := by
  intro ds Qf h
  unfold F_common_divisor at h; split at h
  · rename_i a b
    refine ⟨rfl, ?_⟩
    simp only [W_common_divisor, abs_nat, LV.begin, at_0, at_1, at_2, at_3, at_m1a, at_m1b, at_m1c, at_m1d, at_m2b, at_m2c, decide_true, eq_self, Int.reduceEq, true_and, and_true, false_and, and_false, or_false, false_or, Int.reduceNeg, gIx, decide_false, Bool.and_true, Bool.true_and, Bool.or_true, wSeq, wSet, wAsg, wPar, wIf, wIfS, wTst, LV.wTru, LV.wNot, wAnd, wOr, wAndV, wOrV, wNotV, wOp, wUn, wV, wC, fCI, fAdd, fSub, fMul, fDiv, fMod, fPow, fNeg, fIx, fIs, fIsNot, fEq, fNe, fLt, fLe, fGt, fGe, wCB, wCons, wNil, w1, wApp, wIsi, isiB, bagD, isNonD, fLen, fAbs, fInt, fGcd, fList, fTuple, fRepr, fLz, fLen0, fLrv, fSum, fMax, fMin, fAll, fAny, seqD, rdL, rdW, fzL, fzW, unL, putS, RV.sl, wRet, wRetN, wNever, wNext, wDrop, wTup, wLst, outW, placeW, gN, gTu, gCo, gNi, wFor, zSeq, zr_0, zr_1, zr_2, zr_3, zr_4, nc_0, nc_1, nc_2, nc_3, nc_4, zEnum, zZip, ixD, tru, wCall, wCallK, wAppend, owW, wSl, fSl, wONone, wOSome, wLc, wYes, List.map, List.replicate, List.length, List.append, List.set, List.take, List.drop, List.getLast?, List.dropLast, List.filterMap, List.getElem?_cons_zero, List.getElem?_cons_succ, List.getElem?_nil, Nat.reduceAdd, Nat.reduceSub, Nat.reduceLT, List.cons_append, List.nil_append, Option.some.injEq, reduceCtorEq, reduceIte, Bool.not_true, Bool.not_false, Bool.false_eq_true, List.isEmpty]
    refine ⟨b.natAbs + 1, gcd_loop (fun a b Q h0 h => ?_) (fun a b K h0 h => ?_) _ _ _ (Nat.lt_succ_self _) ?_⟩
    · simp only [LV.begin, at_0, at_1, at_2, at_3, at_m1a, at_m1b, at_m1c, at_m1d, at_m2b, at_m2c, decide_true, eq_self, Int.reduceEq, true_and, and_true, false_and, and_false, or_false, false_or, Int.reduceNeg, gIx, decide_false, Bool.and_true, Bool.true_and, Bool.or_true, wSeq, wSet, wAsg, wPar, wIf, wIfS, wTst, LV.wTru, LV.wNot, wAnd, wOr, wAndV, wOrV, wNotV, wOp, wUn, wV, wC, fCI, fAdd, fSub, fMul, fDiv, fMod, fPow, fNeg, fIx, fIs, fIsNot, fEq, fNe, fLt, fLe, fGt, fGe, wCB, wCons, wNil, w1, wApp, wIsi, isiB, bagD, isNonD, fLen, fAbs, fInt, fGcd, fList, fTuple, fRepr, fLz, fLen0, fLrv, fSum, fMax, fMin, fAll, fAny, seqD, rdL, rdW, fzL, fzW, unL, putS, RV.sl, wRet, wRetN, wNever, wNext, wDrop, wTup, wLst, outW, placeW, gN, gTu, gCo, gNi, wFor, zSeq, zr_0, zr_1, zr_2, zr_3, zr_4, nc_0, nc_1, nc_2, nc_3, nc_4, zEnum, zZip, ixD, tru, wCall, wCallK, wAppend, owW, wSl, fSl, wONone, wOSome, wLc, wYes, List.map, List.replicate, List.length, List.append, List.set, List.take, List.drop, List.getLast?, List.dropLast, List.filterMap, List.getElem?_cons_zero, List.getElem?_cons_succ, List.getElem?_nil, Nat.reduceAdd, Nat.reduceSub, Nat.reduceLT, List.cons_append, List.nil_append, Option.some.injEq, reduceCtorEq, reduceIte, Bool.not_true, Bool.not_false, Bool.false_eq_true, List.isEmpty]
      have e : (!decide (b = 0)) = decide (0 < b) := by
        by_cases hb : b = 0
        · subst hb; rfl
        · rw [decide_eq_false hb, decide_eq_true (by omega)]; rfl
      rw [e]; exact h
    · simp only [LV.begin, at_0, at_1, at_2, at_3, at_m1a, at_m1b, at_m1c, at_m1d, at_m2b, at_m2c, decide_true, eq_self, Int.reduceEq, true_and, and_true, false_and, and_false, or_false, false_or, Int.reduceNeg, gIx, decide_false, Bool.and_true, Bool.true_and, Bool.or_true, wSeq, wSet, wAsg, wPar, wIf, wIfS, wTst, LV.wTru, LV.wNot, wAnd, wOr, wAndV, wOrV, wNotV, wOp, wUn, wV, wC, fCI, fAdd, fSub, fMul, fDiv, fMod, fPow, fNeg, fIx, fIs, fIsNot, fEq, fNe, fLt, fLe, fGt, fGe, wCB, wCons, wNil, w1, wApp, wIsi, isiB, bagD, isNonD, fLen, fAbs, fInt, fGcd, fList, fTuple, fRepr, fLz, fLen0, fLrv, fSum, fMax, fMin, fAll, fAny, seqD, rdL, rdW, fzL, fzW, unL, putS, RV.sl, wRet, wRetN, wNever, wNext, wDrop, wTup, wLst, outW, placeW, gN, gTu, gCo, gNi, wFor, zSeq, zr_0, zr_1, zr_2, zr_3, zr_4, nc_0, nc_1, nc_2, nc_3, nc_4, zEnum, zZip, ixD, tru, wCall, wCallK, wAppend, owW, wSl, fSl, wONone, wOSome, wLc, wYes, List.map, List.replicate, List.length, List.append, List.set, List.take, List.drop, List.getLast?, List.dropLast, List.filterMap, List.getElem?_cons_zero, List.getElem?_cons_succ, List.getElem?_nil, Nat.reduceAdd, Nat.reduceSub, Nat.reduceLT, List.cons_append, List.nil_append, Option.some.injEq, reduceCtorEq, reduceIte, Bool.not_true, Bool.not_false, Bool.false_eq_true, List.isEmpty]; exact ⟨by omega, h⟩
    · simp only [LV.begin, at_0, at_1, at_2, at_3, at_m1a, at_m1b, at_m1c, at_m1d, at_m2b, at_m2c, decide_true, eq_self, Int.reduceEq, true_and, and_true, false_and, and_false, or_false, false_or, Int.reduceNeg, gIx, decide_false, Bool.and_true, Bool.true_and, Bool.or_true, wSeq, wSet, wAsg, wPar, wIf, wIfS, wTst, LV.wTru, LV.wNot, wAnd, wOr, wAndV, wOrV, wNotV, wOp, wUn, wV, wC, fCI, fAdd, fSub, fMul, fDiv, fMod, fPow, fNeg, fIx, fIs, fIsNot, fEq, fNe, fLt, fLe, fGt, fGe, wCB, wCons, wNil, w1, wApp, wIsi, isiB, bagD, isNonD, fLen, fAbs, fInt, fGcd, fList, fTuple, fRepr, fLz, fLen0, fLrv, fSum, fMax, fMin, fAll, fAny, seqD, rdL, rdW, fzL, fzW, unL, putS, RV.sl, wRet, wRetN, wNever, wNext, wDrop, wTup, wLst, outW, placeW, gN, gTu, gCo, gNi, wFor, zSeq, zr_0, zr_1, zr_2, zr_3, zr_4, nc_0, nc_1, nc_2, nc_3, nc_4, zEnum, zZip, ixD, tru, wCall, wCallK, wAppend, owW, wSl, fSl, wONone, wOSome, wLc, wYes, List.map, List.replicate, List.length, List.append, List.set, List.take, List.drop, List.getLast?, List.dropLast, List.filterMap, List.getElem?_cons_zero, List.getElem?_cons_succ, List.getElem?_nil, Nat.reduceAdd, Nat.reduceSub, Nat.reduceLT, List.cons_append, List.nil_append, Option.some.injEq, reduceCtorEq, reduceIte, Bool.not_true, Bool.not_false, Bool.false_eq_true, List.isEmpty]; exact h
  · exact h.elim
theorem p__law_is {K : PySem.W.Frag} : ∀ ds Qf, F__law_is ds Qf → ds.length = 3 ∧ W__law_is K { nx := fun _ => Qf (.sh .non), rt := Qf } (begin 5 ds) := by
  intro ds Qf h
  obtain ⟨x, d, rfl, ⟨hl, s1, s2, s3, s4⟩, hq⟩ := h
  refine ⟨rfl, ?_⟩
  simp only [W__law_is, F__law_common, LV.begin, at_0, at_1, at_2, at_3, at_m1a, at_m1b, at_m1c, at_m1d, at_m2b, at_m2c, decide_true, eq_self, Int.reduceEq, true_and, and_true, false_and, and_false, or_false, false_or, Int.reduceNeg, gIx, decide_false, Bool.and_true, Bool.true_and, Bool.or_true, wSeq, wSet, wAsg, wPar, wIf, wIfS, wTst, LV.wTru, LV.wNot, wAnd, wOr, wAndV, wOrV, wNotV, wOp, wUn, wV, wC, fCI, fAdd, fSub, fMul, fDiv, fMod, fPow, fNeg, fIx, fIs, fIsNot, fEq, fNe, fLt, fLe, fGt, fGe, wCB, wCons, wNil, w1, wApp, wIsi, isiB, bagD, isNonD, fLen, fAbs, fInt, fGcd, fList, fTuple, fRepr, fLz, fLen0, fLrv, fSum, fMax, fMin, fAll, fAny, seqD, rdL, rdW, fzL, fzW, unL, putS, RV.sl, wRet, wRetN, wNever, wNext, wDrop, wTup, wLst, outW, placeW, gN, gTu, gCo, gNi, wFor, zSeq, zr_0, zr_1, zr_2, zr_3, zr_4, nc_0, nc_1, nc_2, nc_3, nc_4, zEnum, zZip, ixD, tru, wCall, wCallK, wAppend, owW, wSl, fSl, wONone, wOSome, wLc, wYes, List.map, List.replicate, List.length, List.append, List.set, List.take, List.drop, List.getLast?, List.dropLast, List.filterMap, List.getElem?_cons_zero, List.getElem?_cons_succ, List.getElem?_nil, Nat.reduceAdd, Nat.reduceSub, Nat.reduceLT, List.cons_append, List.nil_append, Option.some.injEq, reduceCtorEq, reduceIte, Bool.not_true, Bool.not_false, Bool.false_eq_true, List.isEmpty]
  have e1 := hl.eq
  have e2 := hl.pos
  have e3 := hl.cop
  simp only [decide_eq_true e2, decide_eq_true e1, ↓reduceIte]
  refine ⟨s1.mulW s4 (by omega), s3.mulW s2 (by omega), ?_⟩
  have e4 : decide (((Int.gcd x.1 x.2 : Nat) : Int) = 1) = true := decide_eq_true (by omega)
  rw [e4]; exact hq
theorem zip_map {α β : Type} (f : α → D) (g : β → D) : ∀ (xs : List α) (ys : List β), zipD (xs.map f) (ys.map g) = (xs.zip ys).map fun p => .tup [f p.1, g p.2]
  | [], _ => rfl
  | _ :: _, [] => rfl
  | x :: xs, y :: ys => by simp [zipD, zip_map f g xs ys]
theorem Dues.len : ∀ {xs ds}, Dues xs ds → xs.length = ds.length
  | _, _, .nil => rfl
  | _, _, .cons _ h => by simp [h.len]
theorem Dues.all : ∀ {xs ds}, Dues xs ds → ∀ p ∈ xs.zip ds, Due p.1 p.2
  | _, _, .nil => fun _ h => nomatch h
  | _, _, .cons a h => fun p hp => by
    rcases List.mem_cons.mp hp with e | hp
    · subst e; exact a
    · exact h.all p hp
theorem Dues.small : ∀ {xs ds}, Dues xs ds → ∀ x ∈ xs, sm 1900 x.1 ∧ sm 1900 x.2
  | _, _, .nil => fun _ h => nomatch h
  | _, _, .cons a h => fun p hp => by
    rcases List.mem_cons.mp hp with e | hp
    · subst e; exact ⟨a.2.1, a.2.2.1⟩
    · exact h.small p hp
theorem p__law_are {K : PySem.W.Frag} : ∀ ds Qf, F__law_are ds Qf → ds.length = 2 ∧ W__law_are K { nx := fun _ => Qf (.sh .non), rt := Qf } (begin 4 ds) := by
  intro ds Qf h
  obtain ⟨xs, dus, rfl, hl, hd, hq⟩ := h
  refine ⟨rfl, ?_⟩
  simp only [W__law_are, LV.begin, at_0, at_1, at_2, at_3, at_m1a, at_m1b, at_m1c, at_m1d, at_m2b, at_m2c, decide_true, eq_self, Int.reduceEq, true_and, and_true, false_and, and_false, or_false, false_or, Int.reduceNeg, gIx, decide_false, Bool.and_true, Bool.true_and, Bool.or_true, wSeq, wSet, wAsg, wPar, wIf, wIfS, wTst, LV.wTru, LV.wNot, wAnd, wOr, wAndV, wOrV, wNotV, wOp, wUn, wV, wC, fCI, fAdd, fSub, fMul, fDiv, fMod, fPow, fNeg, fIx, fIs, fIsNot, fEq, fNe, fLt, fLe, fGt, fGe, wCB, wCons, wNil, w1, wApp, wIsi, isiB, bagD, isNonD, fLen, fAbs, fInt, fGcd, fList, fTuple, fRepr, fLz, fLen0, fLrv, fSum, fMax, fMin, fAll, fAny, seqD, rdL, rdW, fzL, fzW, unL, putS, RV.sl, wRet, wRetN, wNever, wNext, wDrop, wTup, wLst, outW, placeW, gN, gTu, gCo, gNi, wFor, zSeq, zr_0, zr_1, zr_2, zr_3, zr_4, nc_0, nc_1, nc_2, nc_3, nc_4, zEnum, zZip, ixD, tru, wCall, wCallK, wAppend, owW, wSl, fSl, wONone, wOSome, wLc, wYes, List.map, List.replicate, List.length, List.append, List.set, List.take, List.drop, List.getLast?, List.dropLast, List.filterMap, List.getElem?_cons_zero, List.getElem?_cons_succ, List.getElem?_nil, Nat.reduceAdd, Nat.reduceSub, Nat.reduceLT, List.cons_append, List.nil_append, Option.some.injEq, reduceCtorEq, reduceIte, Bool.not_true, Bool.not_false, Bool.false_eq_true, List.isEmpty]
  have e : decide (((xs.map fD).length : Int) = ((dus.map fD).length : Int)) = true := decide_eq_true (by rw [List.length_map, List.length_map, hd.len])
  simp only [e, LV.begin, at_0, at_1, at_2, at_3, at_m1a, at_m1b, at_m1c, at_m1d, at_m2b, at_m2c, decide_true, eq_self, Int.reduceEq, true_and, and_true, false_and, and_false, or_false, false_or, Int.reduceNeg, gIx, decide_false, Bool.and_true, Bool.true_and, Bool.or_true, wSeq, wSet, wAsg, wPar, wIf, wIfS, wTst, LV.wTru, LV.wNot, wAnd, wOr, wAndV, wOrV, wNotV, wOp, wUn, wV, wC, fCI, fAdd, fSub, fMul, fDiv, fMod, fPow, fNeg, fIx, fIs, fIsNot, fEq, fNe, fLt, fLe, fGt, fGe, wCB, wCons, wNil, w1, wApp, wIsi, isiB, bagD, isNonD, fLen, fAbs, fInt, fGcd, fList, fTuple, fRepr, fLz, fLen0, fLrv, fSum, fMax, fMin, fAll, fAny, seqD, rdL, rdW, fzL, fzW, unL, putS, RV.sl, wRet, wRetN, wNever, wNext, wDrop, wTup, wLst, outW, placeW, gN, gTu, gCo, gNi, wFor, zSeq, zr_0, zr_1, zr_2, zr_3, zr_4, nc_0, nc_1, nc_2, nc_3, nc_4, zEnum, zZip, ixD, tru, wCall, wCallK, wAppend, owW, wSl, fSl, wONone, wOSome, wLc, wYes, List.map, List.replicate, List.length, List.append, List.set, List.take, List.drop, List.getLast?, List.dropLast, List.filterMap, List.getElem?_cons_zero, List.getElem?_cons_succ, List.getElem?_nil, Nat.reduceAdd, Nat.reduceSub, Nat.reduceLT, List.cons_append, List.nil_append, Option.some.injEq, reduceCtorEq, reduceIte, Bool.not_true, Bool.not_false, Bool.false_eq_true, List.isEmpty]
  refine ⟨_, zip_map fD fD xs dus, ?_⟩
  refine forL (fun p : Fr × Fr => D.tup [fD p.1, fD p.2]) (fun done rest s => (∀ p ∈ rest, Due p.1 p.2) ∧ ∃ x y, notOw x = true ∧ s = [.sh (.tup (xs.map fD)), .sh (.lst (dus.map fD)), x, y]) ?_ ?_ _ [] _ ⟨hd.all, _, _, rfl, rfl⟩
  · rintro done p rest s nx ⟨hp, x, y, _, rfl⟩ hnx
    simp only [F__law_is, LV.begin, at_0, at_1, at_2, at_3, at_m1a, at_m1b, at_m1c, at_m1d, at_m2b, at_m2c, decide_true, eq_self, Int.reduceEq, true_and, and_true, false_and, and_false, or_false, false_or, Int.reduceNeg, gIx, decide_false, Bool.and_true, Bool.true_and, Bool.or_true, wSeq, wSet, wAsg, wPar, wIf, wIfS, wTst, LV.wTru, LV.wNot, wAnd, wOr, wAndV, wOrV, wNotV, wOp, wUn, wV, wC, fCI, fAdd, fSub, fMul, fDiv, fMod, fPow, fNeg, fIx, fIs, fIsNot, fEq, fNe, fLt, fLe, fGt, fGe, wCB, wCons, wNil, w1, wApp, wIsi, isiB, bagD, isNonD, fLen, fAbs, fInt, fGcd, fList, fTuple, fRepr, fLz, fLen0, fLrv, fSum, fMax, fMin, fAll, fAny, seqD, rdL, rdW, fzL, fzW, unL, putS, RV.sl, wRet, wRetN, wNever, wNext, wDrop, wTup, wLst, outW, placeW, gN, gTu, gCo, gNi, wFor, zSeq, zr_0, zr_1, zr_2, zr_3, zr_4, nc_0, nc_1, nc_2, nc_3, nc_4, zEnum, zZip, ixD, tru, wCall, wCallK, wAppend, owW, wSl, fSl, wONone, wOSome, wLc, wYes, List.map, List.replicate, List.length, List.append, List.set, List.take, List.drop, List.getLast?, List.dropLast, List.filterMap, List.getElem?_cons_zero, List.getElem?_cons_succ, List.getElem?_nil, Nat.reduceAdd, Nat.reduceSub, Nat.reduceLT, List.cons_append, List.nil_append, Option.some.injEq, reduceCtorEq, reduceIte, Bool.not_true, Bool.not_false, Bool.false_eq_true, List.isEmpty]
    exact ⟨p.1, p.2, rfl, hp p (List.mem_cons_self ..), hnx _ ⟨fun q hq => hp q (List.mem_cons_of_mem _ hq), _, _, rfl, rfl⟩⟩
  · rintro done s ⟨_, x, y, hx0, rfl⟩
    simp only [LV.begin, at_0, at_1, at_2, at_3, at_m1a, at_m1b, at_m1c, at_m1d, at_m2b, at_m2c, decide_true, eq_self, Int.reduceEq, true_and, and_true, false_and, and_false, or_false, false_or, Int.reduceNeg, gIx, decide_false, Bool.and_true, Bool.true_and, Bool.or_true, wSeq, wSet, wAsg, wPar, wIf, wIfS, wTst, LV.wTru, LV.wNot, wAnd, wOr, wAndV, wOrV, wNotV, wOp, wUn, wV, wC, fCI, fAdd, fSub, fMul, fDiv, fMod, fPow, fNeg, fIx, fIs, fIsNot, fEq, fNe, fLt, fLe, fGt, fGe, wCB, wCons, wNil, w1, wApp, wIsi, isiB, bagD, isNonD, fLen, fAbs, fInt, fGcd, fList, fTuple, fRepr, fLz, fLen0, fLrv, fSum, fMax, fMin, fAll, fAny, seqD, rdL, rdW, fzL, fzW, unL, putS, RV.sl, wRet, wRetN, wNever, wNext, wDrop, wTup, wLst, outW, placeW, gN, gTu, gCo, gNi, wFor, zSeq, zr_0, zr_1, zr_2, zr_3, zr_4, nc_0, nc_1, nc_2, nc_3, nc_4, zEnum, zZip, ixD, tru, wCall, wCallK, wAppend, owW, wSl, fSl, wONone, wOSome, wLc, wYes, List.map, List.replicate, List.length, List.append, List.set, List.take, List.drop, List.getLast?, List.dropLast, List.filterMap, List.getElem?_cons_zero, List.getElem?_cons_succ, List.getElem?_nil, Nat.reduceAdd, Nat.reduceSub, Nat.reduceLT, List.cons_append, List.nil_append, Option.some.injEq, reduceCtorEq, reduceIte, Bool.not_true, Bool.not_false, Bool.false_eq_true, List.isEmpty]
    refine ⟨sha_pairs xs, show_pairs xs hd.small, len_pairs xs (by omega) hd.small, _, rfl, ?_⟩
    refine lcL fD (fun done rest acc s => done ++ rest = xs ∧ acc = done.map fD ∧ s = [.sh (.tup (xs.map fD)), .sh (.lst (dus.map fD)), x, y]) ?_ ?_ xs [] [] _ ⟨rfl, rfl, rfl⟩
    · rintro done z rest acc s nx2 ⟨hx, rfl, rfl⟩ hnx
      have hlen : done.length ≤ xs.length := by rw [← hx, List.length_append]; omega
      refine ⟨?_, by rw [List.length_map]; omega, by simp [hx0], ?_⟩
      · simp only [LV.begin, at_0, at_1, at_2, at_3, at_m1a, at_m1b, at_m1c, at_m1d, at_m2b, at_m2c, decide_true, eq_self, Int.reduceEq, true_and, and_true, false_and, and_false, or_false, false_or, Int.reduceNeg, gIx, decide_false, Bool.and_true, Bool.true_and, Bool.or_true, wSeq, wSet, wAsg, wPar, wIf, wIfS, wTst, LV.wTru, LV.wNot, wAnd, wOr, wAndV, wOrV, wNotV, wOp, wUn, wV, wC, fCI, fAdd, fSub, fMul, fDiv, fMod, fPow, fNeg, fIx, fIs, fIsNot, fEq, fNe, fLt, fLe, fGt, fGe, wCB, wCons, wNil, w1, wApp, wIsi, isiB, bagD, isNonD, fLen, fAbs, fInt, fGcd, fList, fTuple, fRepr, fLz, fLen0, fLrv, fSum, fMax, fMin, fAll, fAny, seqD, rdL, rdW, fzL, fzW, unL, putS, RV.sl, wRet, wRetN, wNever, wNext, wDrop, wTup, wLst, outW, placeW, gN, gTu, gCo, gNi, wFor, zSeq, zr_0, zr_1, zr_2, zr_3, zr_4, nc_0, nc_1, nc_2, nc_3, nc_4, zEnum, zZip, ixD, tru, wCall, wCallK, wAppend, owW, wSl, fSl, wONone, wOSome, wLc, wYes, List.map, List.replicate, List.length, List.append, List.set, List.take, List.drop, List.getLast?, List.dropLast, List.filterMap, List.getElem?_cons_zero, List.getElem?_cons_succ, List.getElem?_nil, Nat.reduceAdd, Nat.reduceSub, Nat.reduceLT, List.cons_append, List.nil_append, Option.some.injEq, reduceCtorEq, reduceIte, Bool.not_true, Bool.not_false, Bool.false_eq_true, List.isEmpty]
      · simp only [wipeS, LV.begin, at_0, at_1, at_2, at_3, at_m1a, at_m1b, at_m1c, at_m1d, at_m2b, at_m2c, decide_true, eq_self, Int.reduceEq, true_and, and_true, false_and, and_false, or_false, false_or, Int.reduceNeg, gIx, decide_false, Bool.and_true, Bool.true_and, Bool.or_true, wSeq, wSet, wAsg, wPar, wIf, wIfS, wTst, LV.wTru, LV.wNot, wAnd, wOr, wAndV, wOrV, wNotV, wOp, wUn, wV, wC, fCI, fAdd, fSub, fMul, fDiv, fMod, fPow, fNeg, fIx, fIs, fIsNot, fEq, fNe, fLt, fLe, fGt, fGe, wCB, wCons, wNil, w1, wApp, wIsi, isiB, bagD, isNonD, fLen, fAbs, fInt, fGcd, fList, fTuple, fRepr, fLz, fLen0, fLrv, fSum, fMax, fMin, fAll, fAny, seqD, rdL, rdW, fzL, fzW, unL, putS, RV.sl, wRet, wRetN, wNever, wNext, wDrop, wTup, wLst, outW, placeW, gN, gTu, gCo, gNi, wFor, zSeq, zr_0, zr_1, zr_2, zr_3, zr_4, nc_0, nc_1, nc_2, nc_3, nc_4, zEnum, zZip, ixD, tru, wCall, wCallK, wAppend, owW, wSl, fSl, wONone, wOSome, wLc, wYes, List.map, List.replicate, List.length, List.append, List.set, List.take, List.drop, List.getLast?, List.dropLast, List.filterMap, List.getElem?_cons_zero, List.getElem?_cons_succ, List.getElem?_nil, Nat.reduceAdd, Nat.reduceSub, Nat.reduceLT, List.cons_append, List.nil_append, Option.some.injEq, reduceCtorEq, reduceIte, Bool.not_true, Bool.not_false, Bool.false_eq_true, List.isEmpty]
        exact ⟨by decide, hnx _ _ ⟨by simpa using hx, by simp, rfl⟩⟩
    · rintro done acc s ⟨hx, rfl, rfl⟩
      rw [List.append_nil] at hx
      subst hx
      refine ⟨?_, ?_⟩
      · simp only [LV.begin, at_0, at_1, at_2, at_3, at_m1a, at_m1b, at_m1c, at_m1d, at_m2b, at_m2c, decide_true, eq_self, Int.reduceEq, true_and, and_true, false_and, and_false, or_false, false_or, Int.reduceNeg, gIx, decide_false, Bool.and_true, Bool.true_and, Bool.or_true, wSeq, wSet, wAsg, wPar, wIf, wIfS, wTst, LV.wTru, LV.wNot, wAnd, wOr, wAndV, wOrV, wNotV, wOp, wUn, wV, wC, fCI, fAdd, fSub, fMul, fDiv, fMod, fPow, fNeg, fIx, fIs, fIsNot, fEq, fNe, fLt, fLe, fGt, fGe, wCB, wCons, wNil, w1, wApp, wIsi, isiB, bagD, isNonD, fLen, fAbs, fInt, fGcd, fList, fTuple, fRepr, fLz, fLen0, fLrv, fSum, fMax, fMin, fAll, fAny, seqD, rdL, rdW, fzL, fzW, unL, putS, RV.sl, wRet, wRetN, wNever, wNext, wDrop, wTup, wLst, outW, placeW, gN, gTu, gCo, gNi, wFor, zSeq, zr_0, zr_1, zr_2, zr_3, zr_4, nc_0, nc_1, nc_2, nc_3, nc_4, zEnum, zZip, ixD, tru, wCall, wCallK, wAppend, owW, wSl, fSl, wONone, wOSome, wLc, wYes, List.map, List.replicate, List.length, List.append, List.set, List.take, List.drop, List.getLast?, List.dropLast, List.filterMap, List.getElem?_cons_zero, List.getElem?_cons_succ, List.getElem?_nil, Nat.reduceAdd, Nat.reduceSub, Nat.reduceLT, List.cons_append, List.nil_append, Option.some.injEq, reduceCtorEq, reduceIte, Bool.not_true, Bool.not_false, Bool.false_eq_true, List.isEmpty]
      · simp only [LV.begin, at_0, at_1, at_2, at_3, at_m1a, at_m1b, at_m1c, at_m1d, at_m2b, at_m2c, decide_true, eq_self, Int.reduceEq, true_and, and_true, false_and, and_false, or_false, false_or, Int.reduceNeg, gIx, decide_false, Bool.and_true, Bool.true_and, Bool.or_true, wSeq, wSet, wAsg, wPar, wIf, wIfS, wTst, LV.wTru, LV.wNot, wAnd, wOr, wAndV, wOrV, wNotV, wOp, wUn, wV, wC, fCI, fAdd, fSub, fMul, fDiv, fMod, fPow, fNeg, fIx, fIs, fIsNot, fEq, fNe, fLt, fLe, fGt, fGe, wCB, wCons, wNil, w1, wApp, wIsi, isiB, bagD, isNonD, fLen, fAbs, fInt, fGcd, fList, fTuple, fRepr, fLz, fLen0, fLrv, fSum, fMax, fMin, fAll, fAny, seqD, rdL, rdW, fzL, fzW, unL, putS, RV.sl, wRet, wRetN, wNever, wNext, wDrop, wTup, wLst, outW, placeW, gN, gTu, gCo, gNi, wFor, zSeq, zr_0, zr_1, zr_2, zr_3, zr_4, nc_0, nc_1, nc_2, nc_3, nc_4, zEnum, zZip, ixD, tru, wCall, wCallK, wAppend, owW, wSl, fSl, wONone, wOSome, wLc, wYes, List.map, List.replicate, List.length, List.append, List.set, List.take, List.drop, List.getLast?, List.dropLast, List.filterMap, List.getElem?_cons_zero, List.getElem?_cons_succ, List.getElem?_nil, Nat.reduceAdd, Nat.reduceSub, Nat.reduceLT, List.cons_append, List.nil_append, Option.some.injEq, reduceCtorEq, reduceIte, Bool.not_true, Bool.not_false, Bool.false_eq_true, List.isEmpty]
        exact ⟨sha_pairs _, show_pairs _ hd.small, len_pairs _ (by omega) hd.small, hq⟩
theorem p__law_lowest {K : PySem.W.Frag} : ∀ ds Qf, F__law_lowest ds Qf → ds.length = 2 ∧ W__law_lowest K { nx := fun _ => Qf (.sh .non), rt := Qf } (begin 3 ds) := by
  intro ds Qf h
  unfold F__law_lowest at h; split at h
  · rename_i a b
    obtain ⟨h0, ha, hb, hq⟩ := h
    refine ⟨rfl, ?_⟩
    have g0 : 0 < Int.gcd a b := Int.gcd_pos_of_ne_zero_right _ (by omega)
    have gs : sm 1000 (Int.gcd a b : Int) := by
      refine hb.le ?_
      rw [Int.natAbs_natCast]
      exact Nat.le_of_dvd (by omega) (Nat.gcd_dvd_right _ _)
    simp only [W__law_lowest, F__law_common, LV.begin, at_0, at_1, at_2, at_3, at_m1a, at_m1b, at_m1c, at_m1d, at_m2b, at_m2c, decide_true, eq_self, Int.reduceEq, true_and, and_true, false_and, and_false, or_false, false_or, Int.reduceNeg, gIx, decide_false, Bool.and_true, Bool.true_and, Bool.or_true, wSeq, wSet, wAsg, wPar, wIf, wIfS, wTst, LV.wTru, LV.wNot, wAnd, wOr, wAndV, wOrV, wNotV, wOp, wUn, wV, wC, fCI, fAdd, fSub, fMul, fDiv, fMod, fPow, fNeg, fIx, fIs, fIsNot, fEq, fNe, fLt, fLe, fGt, fGe, wCB, wCons, wNil, w1, wApp, wIsi, isiB, bagD, isNonD, fLen, fAbs, fInt, fGcd, fList, fTuple, fRepr, fLz, fLen0, fLrv, fSum, fMax, fMin, fAll, fAny, seqD, rdL, rdW, fzL, fzW, unL, putS, RV.sl, wRet, wRetN, wNever, wNext, wDrop, wTup, wLst, outW, placeW, gN, gTu, gCo, gNi, wFor, zSeq, zr_0, zr_1, zr_2, zr_3, zr_4, nc_0, nc_1, nc_2, nc_3, nc_4, zEnum, zZip, ixD, tru, wCall, wCallK, wAppend, owW, wSl, fSl, wONone, wOSome, wLc, wYes, List.map, List.replicate, List.length, List.append, List.set, List.take, List.drop, List.getLast?, List.dropLast, List.filterMap, List.getElem?_cons_zero, List.getElem?_cons_succ, List.getElem?_nil, Nat.reduceAdd, Nat.reduceSub, Nat.reduceLT, List.cons_append, List.nil_append, Option.some.injEq, reduceCtorEq, reduceIte, Bool.not_true, Bool.not_false, Bool.false_eq_true, List.isEmpty]
    unfold low at hq
    rw [if_pos h0] at hq
    exact ⟨gs.divA (by omega) (by omega), gs.divA (by omega) (by omega), by decide, hq⟩
  · exact h.elim
theorem p__law_near {K : PySem.W.Frag} : ∀ ds Qf, F__law_near ds Qf → ds.length = 0 ∧ W__law_near K { nx := fun _ => Qf (.sh .non), rt := Qf } (begin 0 ds) := by
  intro ds Qf h
  unfold F__law_near at h; split at h
  · refine ⟨rfl, ?_⟩
    simp only [W__law_near, LV.begin, at_0, at_1, at_2, at_3, at_m1a, at_m1b, at_m1c, at_m1d, at_m2b, at_m2c, decide_true, eq_self, Int.reduceEq, true_and, and_true, false_and, and_false, or_false, false_or, Int.reduceNeg, gIx, decide_false, Bool.and_true, Bool.true_and, Bool.or_true, wSeq, wSet, wAsg, wPar, wIf, wIfS, wTst, LV.wTru, LV.wNot, wAnd, wOr, wAndV, wOrV, wNotV, wOp, wUn, wV, wC, fCI, fAdd, fSub, fMul, fDiv, fMod, fPow, fNeg, fIx, fIs, fIsNot, fEq, fNe, fLt, fLe, fGt, fGe, wCB, wCons, wNil, w1, wApp, wIsi, isiB, bagD, isNonD, fLen, fAbs, fInt, fGcd, fList, fTuple, fRepr, fLz, fLen0, fLrv, fSum, fMax, fMin, fAll, fAny, seqD, rdL, rdW, fzL, fzW, unL, putS, RV.sl, wRet, wRetN, wNever, wNext, wDrop, wTup, wLst, outW, placeW, gN, gTu, gCo, gNi, wFor, zSeq, zr_0, zr_1, zr_2, zr_3, zr_4, nc_0, nc_1, nc_2, nc_3, nc_4, zEnum, zZip, ixD, tru, wCall, wCallK, wAppend, owW, wSl, fSl, wONone, wOSome, wLc, wYes, List.map, List.replicate, List.length, List.append, List.set, List.take, List.drop, List.getLast?, List.dropLast, List.filterMap, List.getElem?_cons_zero, List.getElem?_cons_succ, List.getElem?_nil, Nat.reduceAdd, Nat.reduceSub, Nat.reduceLT, List.cons_append, List.nil_append, Option.some.injEq, reduceCtorEq, reduceIte, Bool.not_true, Bool.not_false, Bool.false_eq_true, List.isEmpty]
    exact ⟨by decide, by decide, by decide, by decide, by decide, by decide, by decide, by decide, by decide, by decide, by decide, by decide, h⟩
  · exact h.elim
theorem log_small {n : Int} (h1 : 0 ≤ n) (h2 : n ≤ 100000) : n.natAbs.log2 < 9000 := by
  have : sm 17 n := by
    show n.natAbs < 2 ^ 17
    omega
  exact Nat.lt_of_le_of_lt this.log (by decide)
theorem near_ok : ∀ w ∈ nearL, Qt w := by
  unfold nearL Qt
  decide
theorem low_qt {a b : Int} (h1 : 1 ≤ a) (h2 : a ≤ 1000) (h3 : 1 ≤ b) (h4 : b ≤ 1000) : Qt (low a b) := by
  have l := low_ok a b (by omega)
  have e1 := l.le1 (by omega)
  have e2 := l.le2 (by omega)
  have e3 := l.pos
  have e4 := l.eq
  refine ⟨?_, by omega, by omega, by omega⟩
  have : 0 < (low a b).1 * b := by rw [e4]; exact Int.mul_pos (by omega) e3
  have := Int.pos_of_mul_pos_left this (by omega)
  omega
theorem p__law_quotient {K : PySem.W.Frag} : ∀ ds Qf, F__law_quotient ds Qf → ds.length = 2 ∧ W__law_quotient K { nx := fun _ => Qf (.sh .non), rt := Qf } (begin 2 ds) := by
  intro ds Qf h
  unfold F__law_quotient at h; split at h
  · rename_i m
    obtain ⟨h1, h2, hq⟩ := h
    refine ⟨rfl, ?_⟩
    simp only [W__law_quotient, FDraw, F__law_pick, F__law_near, F__law_lowest, LV.begin, at_0, at_1, at_2, at_3, at_m1a, at_m1b, at_m1c, at_m1d, at_m2b, at_m2c, decide_true, eq_self, Int.reduceEq, true_and, and_true, false_and, and_false, or_false, false_or, Int.reduceNeg, gIx, decide_false, Bool.and_true, Bool.true_and, Bool.or_true, wSeq, wSet, wAsg, wPar, wIf, wIfS, wTst, LV.wTru, LV.wNot, wAnd, wOr, wAndV, wOrV, wNotV, wOp, wUn, wV, wC, fCI, fAdd, fSub, fMul, fDiv, fMod, fPow, fNeg, fIx, fIs, fIsNot, fEq, fNe, fLt, fLe, fGt, fGe, wCB, wCons, wNil, w1, wApp, wIsi, isiB, bagD, isNonD, fLen, fAbs, fInt, fGcd, fList, fTuple, fRepr, fLz, fLen0, fLrv, fSum, fMax, fMin, fAll, fAny, seqD, rdL, rdW, fzL, fzW, unL, putS, RV.sl, wRet, wRetN, wNever, wNext, wDrop, wTup, wLst, outW, placeW, gN, gTu, gCo, gNi, wFor, zSeq, zr_0, zr_1, zr_2, zr_3, zr_4, nc_0, nc_1, nc_2, nc_3, nc_4, zEnum, zZip, ixD, tru, wCall, wCallK, wAppend, owW, wSl, fSl, wONone, wOSome, wLc, wYes, List.map, List.replicate, List.length, List.append, List.set, List.take, List.drop, List.getLast?, List.dropLast, List.filterMap, List.getElem?_cons_zero, List.getElem?_cons_succ, List.getElem?_nil, Nat.reduceAdd, Nat.reduceSub, Nat.reduceLT, List.cons_append, List.nil_append, Option.some.injEq, reduceCtorEq, reduceIte, Bool.not_true, Bool.not_false, Bool.false_eq_true, List.isEmpty]
    refine ⟨4, rfl, by decide, log_small (by decide) (by decide), fun r h3 h4 => ?_⟩
    split
    · refine ⟨_, rfl, by decide, by decide, fun d hd => ?_⟩
      obtain ⟨w, hw, rfl⟩ := List.mem_map.mp hd
      exact hq w (near_ok w hw)
    · refine ⟨m, rfl, by omega, log_small (by omega) (by omega), fun r1 h5 h6 => ⟨m, rfl, by omega, log_small (by omega) (by omega), fun r2 h7 h8 => ?_⟩⟩
      exact ⟨by omega, (sm10 (by omega) (by omega)).mono (by omega), (sm10 (by omega) (by omega)).mono (by omega), hq _ (low_qt (by omega) (by omega) (by omega) (by omega))⟩
  · exact h.elim
theorem p__law_own_quotients {K : PySem.W.Frag} : ∀ ds Qf, F__law_own_quotients ds Qf → ds.length = 3 ∧ W__law_own_quotients K { nx := fun _ => Qf (.sh .non), rt := Qf } (begin 4 ds) := by
  intro ds Qf h
  unfold F__law_own_quotients at h; split at h
  · rename_i n m
    obtain ⟨h1, h2, h3, h4, hq⟩ := h
    refine ⟨rfl, ?_⟩
    simp only [W__law_own_quotients, FDraw, F__law_quotient, LV.begin, at_0, at_1, at_2, at_3, at_m1a, at_m1b, at_m1c, at_m1d, at_m2b, at_m2c, decide_true, eq_self, Int.reduceEq, true_and, and_true, false_and, and_false, or_false, false_or, Int.reduceNeg, gIx, decide_false, Bool.and_true, Bool.true_and, Bool.or_true, wSeq, wSet, wAsg, wPar, wIf, wIfS, wTst, LV.wTru, LV.wNot, wAnd, wOr, wAndV, wOrV, wNotV, wOp, wUn, wV, wC, fCI, fAdd, fSub, fMul, fDiv, fMod, fPow, fNeg, fIx, fIs, fIsNot, fEq, fNe, fLt, fLe, fGt, fGe, wCB, wCons, wNil, w1, wApp, wIsi, isiB, bagD, isNonD, fLen, fAbs, fInt, fGcd, fList, fTuple, fRepr, fLz, fLen0, fLrv, fSum, fMax, fMin, fAll, fAny, seqD, rdL, rdW, fzL, fzW, unL, putS, RV.sl, wRet, wRetN, wNever, wNext, wDrop, wTup, wLst, outW, placeW, gN, gTu, gCo, gNi, wFor, zSeq, zr_0, zr_1, zr_2, zr_3, zr_4, nc_0, nc_1, nc_2, nc_3, nc_4, zEnum, zZip, ixD, tru, wCall, wCallK, wAppend, owW, wSl, fSl, wONone, wOSome, wLc, wYes, List.map, List.replicate, List.length, List.append, List.set, List.take, List.drop, List.getLast?, List.dropLast, List.filterMap, List.getElem?_cons_zero, List.getElem?_cons_succ, List.getElem?_nil, Nat.reduceAdd, Nat.reduceSub, Nat.reduceLT, List.cons_append, List.nil_append, Option.some.injEq, reduceCtorEq, reduceIte, Bool.not_true, Bool.not_false, Bool.false_eq_true, List.isEmpty]
    refine ⟨3, rfl, by decide, log_small (by decide) (by decide), fun r h5 h6 => ?_⟩
    split
    · refine ⟨h1, h2, fun w hw => ⟨by decide, List.cons_ne_nil _ _, by omega, by omega, by decide, ?_⟩⟩
      have e : (List.replicate n.toNat [fD w]).flatten = (List.replicate n.toNat w).map fD := by
        generalize n.toNat = k
        induction k with
        | zero => rfl
        | succ k ih => simp [List.replicate_succ, ih]
      rw [e]
      refine hq _ ⟨by rw [List.length_replicate]; omega, fun v hv => ?_⟩
      rw [(List.mem_replicate.mp hv).2]; exact hw
    · have rg : rgOk n = true := by
        unfold rgOk
        rw [decide_eq_true (by omega), decide_eq_true (by omega)]; rfl
      simp only [zRng1, rg, LV.begin, at_0, at_1, at_2, at_3, at_m1a, at_m1b, at_m1c, at_m1d, at_m2b, at_m2c, decide_true, eq_self, Int.reduceEq, true_and, and_true, false_and, and_false, or_false, false_or, Int.reduceNeg, gIx, decide_false, Bool.and_true, Bool.true_and, Bool.or_true, wSeq, wSet, wAsg, wPar, wIf, wIfS, wTst, LV.wTru, LV.wNot, wAnd, wOr, wAndV, wOrV, wNotV, wOp, wUn, wV, wC, fCI, fAdd, fSub, fMul, fDiv, fMod, fPow, fNeg, fIx, fIs, fIsNot, fEq, fNe, fLt, fLe, fGt, fGe, wCB, wCons, wNil, w1, wApp, wIsi, isiB, bagD, isNonD, fLen, fAbs, fInt, fGcd, fList, fTuple, fRepr, fLz, fLen0, fLrv, fSum, fMax, fMin, fAll, fAny, seqD, rdL, rdW, fzL, fzW, unL, putS, RV.sl, wRet, wRetN, wNever, wNext, wDrop, wTup, wLst, outW, placeW, gN, gTu, gCo, gNi, wFor, zSeq, zr_0, zr_1, zr_2, zr_3, zr_4, nc_0, nc_1, nc_2, nc_3, nc_4, zEnum, zZip, ixD, tru, wCall, wCallK, wAppend, owW, wSl, fSl, wONone, wOSome, wLc, wYes, List.map, List.replicate, List.length, List.append, List.set, List.take, List.drop, List.getLast?, List.dropLast, List.filterMap, List.getElem?_cons_zero, List.getElem?_cons_succ, List.getElem?_nil, Nat.reduceAdd, Nat.reduceSub, Nat.reduceLT, List.cons_append, List.nil_append, Option.some.injEq, reduceCtorEq, reduceIte, Bool.not_true, Bool.not_false, Bool.false_eq_true, List.isEmpty]
      refine ⟨_, rfl, ?_⟩
      refine lcL (fun i : Nat => D.int (0 + (i : Int))) (fun done rest acc s => ∃ l : List Fr, acc = l.map fD ∧ (∀ w ∈ l, Qt w) ∧ l.length + rest.length = n.toNat ∧ s = [.sh (.bag 1), .sh (.int n), .sh (.int m), .un]) ?_ ?_ (List.range n.toNat) [] [] _ ⟨[], rfl, (fun _ h => nomatch h), by simp, rfl⟩
      · rintro done z rest acc s nx2 ⟨l, rfl, hl, hlen, rfl⟩ hnx
        rw [List.length_cons] at hlen
        refine ⟨?_, by rw [List.length_map]; omega, rfl, ?_⟩
        · simp only [LV.begin, at_0, at_1, at_2, at_3, at_m1a, at_m1b, at_m1c, at_m1d, at_m2b, at_m2c, decide_true, eq_self, Int.reduceEq, true_and, and_true, false_and, and_false, or_false, false_or, Int.reduceNeg, gIx, decide_false, Bool.and_true, Bool.true_and, Bool.or_true, wSeq, wSet, wAsg, wPar, wIf, wIfS, wTst, LV.wTru, LV.wNot, wAnd, wOr, wAndV, wOrV, wNotV, wOp, wUn, wV, wC, fCI, fAdd, fSub, fMul, fDiv, fMod, fPow, fNeg, fIx, fIs, fIsNot, fEq, fNe, fLt, fLe, fGt, fGe, wCB, wCons, wNil, w1, wApp, wIsi, isiB, bagD, isNonD, fLen, fAbs, fInt, fGcd, fList, fTuple, fRepr, fLz, fLen0, fLrv, fSum, fMax, fMin, fAll, fAny, seqD, rdL, rdW, fzL, fzW, unL, putS, RV.sl, wRet, wRetN, wNever, wNext, wDrop, wTup, wLst, outW, placeW, gN, gTu, gCo, gNi, wFor, zSeq, zr_0, zr_1, zr_2, zr_3, zr_4, nc_0, nc_1, nc_2, nc_3, nc_4, zEnum, zZip, ixD, tru, wCall, wCallK, wAppend, owW, wSl, fSl, wONone, wOSome, wLc, wYes, List.map, List.replicate, List.length, List.append, List.set, List.take, List.drop, List.getLast?, List.dropLast, List.filterMap, List.getElem?_cons_zero, List.getElem?_cons_succ, List.getElem?_nil, Nat.reduceAdd, Nat.reduceSub, Nat.reduceLT, List.cons_append, List.nil_append, Option.some.injEq, reduceCtorEq, reduceIte, Bool.not_true, Bool.not_false, Bool.false_eq_true, List.isEmpty]
        · simp only [wipeS, F__law_quotient, LV.begin, at_0, at_1, at_2, at_3, at_m1a, at_m1b, at_m1c, at_m1d, at_m2b, at_m2c, decide_true, eq_self, Int.reduceEq, true_and, and_true, false_and, and_false, or_false, false_or, Int.reduceNeg, gIx, decide_false, Bool.and_true, Bool.true_and, Bool.or_true, wSeq, wSet, wAsg, wPar, wIf, wIfS, wTst, LV.wTru, LV.wNot, wAnd, wOr, wAndV, wOrV, wNotV, wOp, wUn, wV, wC, fCI, fAdd, fSub, fMul, fDiv, fMod, fPow, fNeg, fIx, fIs, fIsNot, fEq, fNe, fLt, fLe, fGt, fGe, wCB, wCons, wNil, w1, wApp, wIsi, isiB, bagD, isNonD, fLen, fAbs, fInt, fGcd, fList, fTuple, fRepr, fLz, fLen0, fLrv, fSum, fMax, fMin, fAll, fAny, seqD, rdL, rdW, fzL, fzW, unL, putS, RV.sl, wRet, wRetN, wNever, wNext, wDrop, wTup, wLst, outW, placeW, gN, gTu, gCo, gNi, wFor, zSeq, zr_0, zr_1, zr_2, zr_3, zr_4, nc_0, nc_1, nc_2, nc_3, nc_4, zEnum, zZip, ixD, tru, wCall, wCallK, wAppend, owW, wSl, fSl, wONone, wOSome, wLc, wYes, List.map, List.replicate, List.length, List.append, List.set, List.take, List.drop, List.getLast?, List.dropLast, List.filterMap, List.getElem?_cons_zero, List.getElem?_cons_succ, List.getElem?_nil, Nat.reduceAdd, Nat.reduceSub, Nat.reduceLT, List.cons_append, List.nil_append, Option.some.injEq, reduceCtorEq, reduceIte, Bool.not_true, Bool.not_false, Bool.false_eq_true, List.isEmpty]
          refine ⟨h1, h2, fun w hw => hnx _ _ ⟨l ++ [w], by simp, fun v hv => ?_, by simp; omega, rfl⟩⟩
          rcases List.mem_append.mp hv with h | h
          · exact hl v h
          · rw [List.mem_singleton.mp h]; exact hw
      · rintro done acc s ⟨l, rfl, hl, hlen, rfl⟩
        refine ⟨?_, ?_⟩
        · simp only [LV.begin, at_0, at_1, at_2, at_3, at_m1a, at_m1b, at_m1c, at_m1d, at_m2b, at_m2c, decide_true, eq_self, Int.reduceEq, true_and, and_true, false_and, and_false, or_false, false_or, Int.reduceNeg, gIx, decide_false, Bool.and_true, Bool.true_and, Bool.or_true, wSeq, wSet, wAsg, wPar, wIf, wIfS, wTst, LV.wTru, LV.wNot, wAnd, wOr, wAndV, wOrV, wNotV, wOp, wUn, wV, wC, fCI, fAdd, fSub, fMul, fDiv, fMod, fPow, fNeg, fIx, fIs, fIsNot, fEq, fNe, fLt, fLe, fGt, fGe, wCB, wCons, wNil, w1, wApp, wIsi, isiB, bagD, isNonD, fLen, fAbs, fInt, fGcd, fList, fTuple, fRepr, fLz, fLen0, fLrv, fSum, fMax, fMin, fAll, fAny, seqD, rdL, rdW, fzL, fzW, unL, putS, RV.sl, wRet, wRetN, wNever, wNext, wDrop, wTup, wLst, outW, placeW, gN, gTu, gCo, gNi, wFor, zSeq, zr_0, zr_1, zr_2, zr_3, zr_4, nc_0, nc_1, nc_2, nc_3, nc_4, zEnum, zZip, ixD, tru, wCall, wCallK, wAppend, owW, wSl, fSl, wONone, wOSome, wLc, wYes, List.map, List.replicate, List.length, List.append, List.set, List.take, List.drop, List.getLast?, List.dropLast, List.filterMap, List.getElem?_cons_zero, List.getElem?_cons_succ, List.getElem?_nil, Nat.reduceAdd, Nat.reduceSub, Nat.reduceLT, List.cons_append, List.nil_append, Option.some.injEq, reduceCtorEq, reduceIte, Bool.not_true, Bool.not_false, Bool.false_eq_true, List.isEmpty]
        · simp only [LV.begin, at_0, at_1, at_2, at_3, at_m1a, at_m1b, at_m1c, at_m1d, at_m2b, at_m2c, decide_true, eq_self, Int.reduceEq, true_and, and_true, false_and, and_false, or_false, false_or, Int.reduceNeg, gIx, decide_false, Bool.and_true, Bool.true_and, Bool.or_true, wSeq, wSet, wAsg, wPar, wIf, wIfS, wTst, LV.wTru, LV.wNot, wAnd, wOr, wAndV, wOrV, wNotV, wOp, wUn, wV, wC, fCI, fAdd, fSub, fMul, fDiv, fMod, fPow, fNeg, fIx, fIs, fIsNot, fEq, fNe, fLt, fLe, fGt, fGe, wCB, wCons, wNil, w1, wApp, wIsi, isiB, bagD, isNonD, fLen, fAbs, fInt, fGcd, fList, fTuple, fRepr, fLz, fLen0, fLrv, fSum, fMax, fMin, fAll, fAny, seqD, rdL, rdW, fzL, fzW, unL, putS, RV.sl, wRet, wRetN, wNever, wNext, wDrop, wTup, wLst, outW, placeW, gN, gTu, gCo, gNi, wFor, zSeq, zr_0, zr_1, zr_2, zr_3, zr_4, nc_0, nc_1, nc_2, nc_3, nc_4, zEnum, zZip, ixD, tru, wCall, wCallK, wAppend, owW, wSl, fSl, wONone, wOSome, wLc, wYes, List.map, List.replicate, List.length, List.append, List.set, List.take, List.drop, List.getLast?, List.dropLast, List.filterMap, List.getElem?_cons_zero, List.getElem?_cons_succ, List.getElem?_nil, Nat.reduceAdd, Nat.reduceSub, Nat.reduceLT, List.cons_append, List.nil_append, Option.some.injEq, reduceCtorEq, reduceIte, Bool.not_true, Bool.not_false, Bool.false_eq_true, List.isEmpty]
          exact hq l ⟨by simp at hlen; omega, hl⟩
  · exact h.elim
theorem low_vl {a b : Int} (h1 : -1000 ≤ a) (h2 : a ≤ 1000) (h3 : 1 ≤ b) (h4 : b ≤ 1000) : Vl (low a b) := by
  have l := low_ok a b (by omega)
  have e1 := l.le1 (by omega)
  have e2 := l.le2 (by omega)
  have e3 := l.pos
  exact ⟨e3, by omega, by omega, by omega, l.cop⟩
theorem p__law_value {K : PySem.W.Frag} : ∀ ds Qf, F__law_value ds Qf → ds.length = 2 ∧ W__law_value K { nx := fun _ => Qf (.sh .non), rt := Qf } (begin 2 ds) := by
  intro ds Qf h
  unfold F__law_value at h; split at h
  · rename_i m
    obtain ⟨h1, h2, hq⟩ := h
    refine ⟨rfl, ?_⟩
    have hm := sm10 (i := m) (by omega) (by omega)
    simp only [W__law_value, FDraw, F__law_lowest, LV.begin, at_0, at_1, at_2, at_3, at_m1a, at_m1b, at_m1c, at_m1d, at_m2b, at_m2c, decide_true, eq_self, Int.reduceEq, true_and, and_true, false_and, and_false, or_false, false_or, Int.reduceNeg, gIx, decide_false, Bool.and_true, Bool.true_and, Bool.or_true, wSeq, wSet, wAsg, wPar, wIf, wIfS, wTst, LV.wTru, LV.wNot, wAnd, wOr, wAndV, wOrV, wNotV, wOp, wUn, wV, wC, fCI, fAdd, fSub, fMul, fDiv, fMod, fPow, fNeg, fIx, fIs, fIsNot, fEq, fNe, fLt, fLe, fGt, fGe, wCB, wCons, wNil, w1, wApp, wIsi, isiB, bagD, isNonD, fLen, fAbs, fInt, fGcd, fList, fTuple, fRepr, fLz, fLen0, fLrv, fSum, fMax, fMin, fAll, fAny, seqD, rdL, rdW, fzL, fzW, unL, putS, RV.sl, wRet, wRetN, wNever, wNext, wDrop, wTup, wLst, outW, placeW, gN, gTu, gCo, gNi, wFor, zSeq, zr_0, zr_1, zr_2, zr_3, zr_4, nc_0, nc_1, nc_2, nc_3, nc_4, zEnum, zZip, ixD, tru, wCall, wCallK, wAppend, owW, wSl, fSl, wONone, wOSome, wLc, wYes, List.map, List.replicate, List.length, List.append, List.set, List.take, List.drop, List.getLast?, List.dropLast, List.filterMap, List.getElem?_cons_zero, List.getElem?_cons_succ, List.getElem?_nil, Nat.reduceAdd, Nat.reduceSub, Nat.reduceLT, List.cons_append, List.nil_append, Option.some.injEq, reduceCtorEq, reduceIte, Bool.not_true, Bool.not_false, Bool.false_eq_true, List.isEmpty]
    refine ⟨two2.mulW hm (by omega), 2 * m + 1, rfl, by omega, log_small (by omega) (by omega), fun r h3 h4 => ⟨m, rfl, by omega, log_small (by omega) (by omega), fun r2 h5 h6 => ?_⟩⟩
    exact ⟨by omega, (sm10 (by omega) (by omega)).mono (by omega), (sm10 (by omega) (by omega)).mono (by omega), hq _ (low_vl (by omega) (by omega) (by omega) (by omega))⟩
  · exact h.elim
theorem p__law_share {K : PySem.W.Frag} : ∀ ds Qf, F__law_share ds Qf → ds.length = 1 ∧ W__law_share K { nx := fun _ => Qf (.sh .non), rt := Qf } (begin 1 ds) := by
  intro ds Qf h
  unfold F__law_share at h; split at h
  · rename_i a b
    obtain ⟨hw, hq⟩ := h
    refine ⟨rfl, ?_⟩
    have s1 : sm 10 a := hw.s1
    have s2 : sm 10 b := hw.s2
    have e : b * (b + 2 * a) = shB (a, b) := by
      show b * (b + 2 * a) = b * b + 2 * a * b
      grind
    simp only [W__law_share, LV.begin, at_0, at_1, at_2, at_3, at_m1a, at_m1b, at_m1c, at_m1d, at_m2b, at_m2c, decide_true, eq_self, Int.reduceEq, true_and, and_true, false_and, and_false, or_false, false_or, Int.reduceNeg, gIx, decide_false, Bool.and_true, Bool.true_and, Bool.or_true, wSeq, wSet, wAsg, wPar, wIf, wIfS, wTst, LV.wTru, LV.wNot, wAnd, wOr, wAndV, wOrV, wNotV, wOp, wUn, wV, wC, fCI, fAdd, fSub, fMul, fDiv, fMod, fPow, fNeg, fIx, fIs, fIsNot, fEq, fNe, fLt, fLe, fGt, fGe, wCB, wCons, wNil, w1, wApp, wIsi, isiB, bagD, isNonD, fLen, fAbs, fInt, fGcd, fList, fTuple, fRepr, fLz, fLen0, fLrv, fSum, fMax, fMin, fAll, fAny, seqD, rdL, rdW, fzL, fzW, unL, putS, RV.sl, wRet, wRetN, wNever, wNext, wDrop, wTup, wLst, outW, placeW, gN, gTu, gCo, gNi, wFor, zSeq, zr_0, zr_1, zr_2, zr_3, zr_4, nc_0, nc_1, nc_2, nc_3, nc_4, zEnum, zZip, ixD, tru, wCall, wCallK, wAppend, owW, wSl, fSl, wONone, wOSome, wLc, wYes, List.map, List.replicate, List.length, List.append, List.set, List.take, List.drop, List.getLast?, List.dropLast, List.filterMap, List.getElem?_cons_zero, List.getElem?_cons_succ, List.getElem?_nil, Nat.reduceAdd, Nat.reduceSub, Nat.reduceLT, List.cons_append, List.nil_append, Option.some.injEq, reduceCtorEq, reduceIte, Bool.not_true, Bool.not_false, Bool.false_eq_true, List.isEmpty]
    refine ⟨s1.mulW s1 (by omega), two2.mulW s1 (by omega), s2.mulW (((s2.mono (by omega) : sm 12 b).add (two2.mul s1))) (by omega), by decide, ?_⟩
    rw [e]; exact hq
  · exact h.elim
theorem p__law_is_due_calm {K : PySem.W.Frag} : ∀ ds Qf, F__law_is_due_calm ds Qf → ds.length = 1 ∧ W__law_is_due_calm K { nx := fun _ => Qf (.sh .non), rt := Qf } (begin 1 ds) := by
  intro ds Qf h
  unfold F__law_is_due_calm at h; split at h
  · rename_i a b
    obtain ⟨hw, hq⟩ := h
    refine ⟨rfl, ?_⟩
    have s1 : sm 10 a := hw.s1
    have s2 : sm 10 b := hw.s2
    simp only [W__law_is_due_calm, LV.begin, at_0, at_1, at_2, at_3, at_m1a, at_m1b, at_m1c, at_m1d, at_m2b, at_m2c, decide_true, eq_self, Int.reduceEq, true_and, and_true, false_and, and_false, or_false, false_or, Int.reduceNeg, gIx, decide_false, Bool.and_true, Bool.true_and, Bool.or_true, wSeq, wSet, wAsg, wPar, wIf, wIfS, wTst, LV.wTru, LV.wNot, wAnd, wOr, wAndV, wOrV, wNotV, wOp, wUn, wV, wC, fCI, fAdd, fSub, fMul, fDiv, fMod, fPow, fNeg, fIx, fIs, fIsNot, fEq, fNe, fLt, fLe, fGt, fGe, wCB, wCons, wNil, w1, wApp, wIsi, isiB, bagD, isNonD, fLen, fAbs, fInt, fGcd, fList, fTuple, fRepr, fLz, fLen0, fLrv, fSum, fMax, fMin, fAll, fAny, seqD, rdL, rdW, fzL, fzW, unL, putS, RV.sl, wRet, wRetN, wNever, wNext, wDrop, wTup, wLst, outW, placeW, gN, gTu, gCo, gNi, wFor, zSeq, zr_0, zr_1, zr_2, zr_3, zr_4, nc_0, nc_1, nc_2, nc_3, nc_4, zEnum, zZip, ixD, tru, wCall, wCallK, wAppend, owW, wSl, fSl, wONone, wOSome, wLc, wYes, List.map, List.replicate, List.length, List.append, List.set, List.take, List.drop, List.getLast?, List.dropLast, List.filterMap, List.getElem?_cons_zero, List.getElem?_cons_succ, List.getElem?_nil, Nat.reduceAdd, Nat.reduceSub, Nat.reduceLT, List.cons_append, List.nil_append, Option.some.injEq, reduceCtorEq, reduceIte, Bool.not_true, Bool.not_false, Bool.false_eq_true, List.isEmpty]
    exact ⟨s1.mulW s1 (by omega), s2.mulW s2 (by omega), two2.mulW s1 (by omega), (two2.mul s1).mulW s2 (by omega), hq⟩
  · exact h.elim
/-- how far the sums have gone -/
structure SmOk (n : Nat) (t : Sm3) : Prop where
  a : 0 ≤ t.a
  b : 0 < t.b
  p : 0 < t.p
  sa : sm (24 * n + 1) t.a
  sb : sm (23 * n + 1) t.b
  sp : sm (20 * n + 1) t.p
theorem SmOk.zero : SmOk 0 ⟨0, 1, 1⟩ := ⟨by decide, by decide, by decide, by unfold sm; decide, by unfold sm; decide, by unfold sm; decide⟩
theorem SmOk.go {n : Nat} {t : Sm3} {w : Fr} (h : SmOk n t) (hw : Qt w) : SmOk (n + 1) (t.go w) := by
  have pa := hw.pA
  have pb := hw.pB
  have sA := hw.sA
  have sB := hw.sB
  refine ⟨?_, Int.mul_pos h.b pb, Int.mul_pos h.p pa, ?_, (h.sb.mul sB).mono (by omega), (h.sp.mul sA).mono (by omega)⟩
  · have h1 := Int.mul_nonneg h.a (Int.le_of_lt pb)
    have h2 := Int.mul_pos h.p pa
    show 0 ≤ t.a * shB w + t.p * shA w
    omega
  · exact (((h.sa.mul sB).mono (by omega) : sm (24 * n + 24) _).add ((h.sp.mul sA).mono (by omega))).mono (by omega)
theorem sumsL_snoc (l : List Fr) (w : Fr) : ∀ s : Sm3, sumsL s (l ++ [w]) = sumsL s l ++ [(l ++ [w]).foldl Sm3.go s] := by
  induction l with
  | nil => intro s; rfl
  | cons v l ih =>
    intro s
    show s :: sumsL (s.go v) (l ++ [w]) = s :: (sumsL (s.go v) l ++ _)
    rw [ih]; rfl
theorem sm3_snoc (l : List Fr) (w : Fr) : sm3 (l ++ [w]) = (sm3 l).go w := by
  unfold sm3
  rw [List.foldl_append]; rfl
theorem sumsL_len (l : List Fr) : ∀ s, (sumsL s l).length = l.length + 1 := by
  induction l with
  | nil => intro s; rfl
  | cons v l ih => intro s; show (sumsL (s.go v) l).length + 1 = _; rw [ih]; rfl
theorem snoc_ind {α : Type} {P : List α → Prop} (h0 : P []) (h1 : ∀ l x, P l → P (l ++ [x])) (l : List α) : P l := by
  have : ∀ l : List α, P l.reverse := fun l => by
    induction l with
    | nil => exact h0
    | cons x l ih => rw [List.reverse_cons]; exact h1 _ _ ih
  have q := this l.reverse
  rwa [List.reverse_reverse] at q
theorem sm3_ok : ∀ (l : List Fr), (∀ w ∈ l, Qt w) → SmOk l.length (sm3 l) := by
  intro l
  refine snoc_ind (P := fun l => (∀ w ∈ l, Qt w) → SmOk l.length (sm3 l)) (fun _ => .zero) (fun l w ih h => ?_) l
  rw [sm3_snoc, List.length_append]
  exact (ih fun v hv => h v (by simp [hv])).go (h w (by simp))
theorem p__law_sums {K : PySem.W.Frag} : ∀ ds Qf, F__law_sums ds Qf → ds.length = 1 ∧ W__law_sums K { nx := fun _ => Qf (.sh .non), rt := Qf } (begin 8 ds) := by
  intro ds Qf h
  obtain ⟨l, rfl, ⟨hl, hw⟩, hq⟩ := h
  refine ⟨rfl, ?_⟩
  simp only [W__law_sums, LV.begin, at_0, at_1, at_2, at_3, at_m1a, at_m1b, at_m1c, at_m1d, at_m2b, at_m2c, decide_true, eq_self, Int.reduceEq, true_and, and_true, false_and, and_false, or_false, false_or, Int.reduceNeg, gIx, decide_false, Bool.and_true, Bool.true_and, Bool.or_true, wSeq, wSet, wAsg, wPar, wIf, wIfS, wTst, LV.wTru, LV.wNot, wAnd, wOr, wAndV, wOrV, wNotV, wOp, wUn, wV, wC, fCI, fAdd, fSub, fMul, fDiv, fMod, fPow, fNeg, fIx, fIs, fIsNot, fEq, fNe, fLt, fLe, fGt, fGe, wCB, wCons, wNil, w1, wApp, wIsi, isiB, bagD, isNonD, fLen, fAbs, fInt, fGcd, fList, fTuple, fRepr, fLz, fLen0, fLrv, fSum, fMax, fMin, fAll, fAny, seqD, rdL, rdW, fzL, fzW, unL, putS, RV.sl, wRet, wRetN, wNever, wNext, wDrop, wTup, wLst, outW, placeW, gN, gTu, gCo, gNi, wFor, zSeq, zr_0, zr_1, zr_2, zr_3, zr_4, nc_0, nc_1, nc_2, nc_3, nc_4, zEnum, zZip, ixD, tru, wCall, wCallK, wAppend, owW, wSl, fSl, wONone, wOSome, wLc, wYes, List.map, List.replicate, List.length, List.append, List.set, List.take, List.drop, List.getLast?, List.dropLast, List.filterMap, List.getElem?_cons_zero, List.getElem?_cons_succ, List.getElem?_nil, Nat.reduceAdd, Nat.reduceSub, Nat.reduceLT, List.cons_append, List.nil_append, Option.some.injEq, reduceCtorEq, reduceIte, Bool.not_true, Bool.not_false, Bool.false_eq_true, List.isEmpty]
  refine ⟨by decide, by decide, _, rfl, ?_⟩
  refine forL fD (fun done rest s => done ++ rest = l ∧ ∃ x y z, s = [.sh (.tup (l.map fD)), .ow ((sumsL ⟨0, 1, 1⟩ done).map fun s => fD (ab s)), .sh (.int (sm3 done).a), .sh (.int (sm3 done).b), .sh (.int (sm3 done).p), x, y, z]) ?_ ?_ l [] _ ⟨rfl, _, _, _, rfl⟩
  · rintro done v rest s nx ⟨hx, x, y, z, rfl⟩ hnx
    have hv : Qt v := hw v (by rw [← hx]; simp)
    have hd : done.length + 1 ≤ 40 := by rw [← hx, List.length_append, List.length_cons] at hl; omega
    have ok := sm3_ok done fun w h => hw w (by rw [← hx]; simp [h])
    have ok2 := ok.go hv
    simp only [F__law_share, LV.begin, at_0, at_1, at_2, at_3, at_m1a, at_m1b, at_m1c, at_m1d, at_m2b, at_m2c, decide_true, eq_self, Int.reduceEq, true_and, and_true, false_and, and_false, or_false, false_or, Int.reduceNeg, gIx, decide_false, Bool.and_true, Bool.true_and, Bool.or_true, wSeq, wSet, wAsg, wPar, wIf, wIfS, wTst, LV.wTru, LV.wNot, wAnd, wOr, wAndV, wOrV, wNotV, wOp, wUn, wV, wC, fCI, fAdd, fSub, fMul, fDiv, fMod, fPow, fNeg, fIx, fIs, fIsNot, fEq, fNe, fLt, fLe, fGt, fGe, wCB, wCons, wNil, w1, wApp, wIsi, isiB, bagD, isNonD, fLen, fAbs, fInt, fGcd, fList, fTuple, fRepr, fLz, fLen0, fLrv, fSum, fMax, fMin, fAll, fAny, seqD, rdL, rdW, fzL, fzW, unL, putS, RV.sl, wRet, wRetN, wNever, wNext, wDrop, wTup, wLst, outW, placeW, gN, gTu, gCo, gNi, wFor, zSeq, zr_0, zr_1, zr_2, zr_3, zr_4, nc_0, nc_1, nc_2, nc_3, nc_4, zEnum, zZip, ixD, tru, wCall, wCallK, wAppend, owW, wSl, fSl, wONone, wOSome, wLc, wYes, List.map, List.replicate, List.length, List.append, List.set, List.take, List.drop, List.getLast?, List.dropLast, List.filterMap, List.getElem?_cons_zero, List.getElem?_cons_succ, List.getElem?_nil, Nat.reduceAdd, Nat.reduceSub, Nat.reduceLT, List.cons_append, List.nil_append, Option.some.injEq, reduceCtorEq, reduceIte, Bool.not_true, Bool.not_false, Bool.false_eq_true, List.isEmpty]
    refine ⟨hv, (ok.sp.mono (by omega : _ ≤ 1000)).mulW hv.sA (by omega), (ok.sb.mono (by omega : _ ≤ 1000)).mulW hv.sB (by omega), (ok.sa.mono (by omega : _ ≤ 1000)).mulW hv.sB (by omega), by decide, ?_, ?_⟩
    · rw [List.length_map, sumsL_len]; omega
    · refine hnx _ ⟨by simpa using hx, .sh (fD v), .sh (.int (shA v)), .sh (.int (shB v)), ?_⟩
      rw [sumsL_snoc, sm3_snoc, List.map_append]
      have e : (done ++ [v]).foldl Sm3.go ⟨0, 1, 1⟩ = (sm3 done).go v := sm3_snoc done v
      rw [e]; rfl
  · rintro done s ⟨hx, x, y, z, rfl⟩
    rw [List.append_nil] at hx
    subst hx
    simp only [LV.begin, at_0, at_1, at_2, at_3, at_m1a, at_m1b, at_m1c, at_m1d, at_m2b, at_m2c, decide_true, eq_self, Int.reduceEq, true_and, and_true, false_and, and_false, or_false, false_or, Int.reduceNeg, gIx, decide_false, Bool.and_true, Bool.true_and, Bool.or_true, wSeq, wSet, wAsg, wPar, wIf, wIfS, wTst, LV.wTru, LV.wNot, wAnd, wOr, wAndV, wOrV, wNotV, wOp, wUn, wV, wC, fCI, fAdd, fSub, fMul, fDiv, fMod, fPow, fNeg, fIx, fIs, fIsNot, fEq, fNe, fLt, fLe, fGt, fGe, wCB, wCons, wNil, w1, wApp, wIsi, isiB, bagD, isNonD, fLen, fAbs, fInt, fGcd, fList, fTuple, fRepr, fLz, fLen0, fLrv, fSum, fMax, fMin, fAll, fAny, seqD, rdL, rdW, fzL, fzW, unL, putS, RV.sl, wRet, wRetN, wNever, wNext, wDrop, wTup, wLst, outW, placeW, gN, gTu, gCo, gNi, wFor, zSeq, zr_0, zr_1, zr_2, zr_3, zr_4, nc_0, nc_1, nc_2, nc_3, nc_4, zEnum, zZip, ixD, tru, wCall, wCallK, wAppend, owW, wSl, fSl, wONone, wOSome, wLc, wYes, List.map, List.replicate, List.length, List.append, List.set, List.take, List.drop, List.getLast?, List.dropLast, List.filterMap, List.getElem?_cons_zero, List.getElem?_cons_succ, List.getElem?_nil, Nat.reduceAdd, Nat.reduceSub, Nat.reduceLT, List.cons_append, List.nil_append, Option.some.injEq, reduceCtorEq, reduceIte, Bool.not_true, Bool.not_false, Bool.false_eq_true, List.isEmpty]
    exact hq
theorem Vl.s1 {x : Fr} (h : Vl x) : sm 10 x.1 := sm10 h.2.2.1 h.2.2.2.1
theorem Vl.s2 {x : Fr} (h : Vl x) : sm 10 x.2 := sm10 (by have := h.1; omega) h.2.1
theorem dueA_sm {f s : Fr} {t : Sm3} {n : Nat} (hf : Vl f) (hs : Vl s) (h : SmOk n t) (hn : n ≤ 40) : sm 1100 (dueA f s t) := by
  have h1 := hs.s1.mul hf.s2
  have h2 := hf.s1.mul hs.s2
  have a1 : sm 1080 (s.1 * f.2 * t.b) := (h1.mul h.sb).mono (by omega)
  have a2 : sm 1080 ((s.1 * f.2 - f.1 * s.2) * t.a) := ((h1.sub h2).mul h.sa).mono (by omega)
  exact (a1.add a2).mono (by omega)
theorem dueB_sm {f s : Fr} {t : Sm3} {n : Nat} (hf : Vl f) (hs : Vl s) (h : SmOk n t) (hn : n ≤ 40) : sm 1100 (dueB f s t) := ((hf.s2.mul hs.s2).mul h.sb).mono (by omega)
theorem dueB_pos {f s : Fr} {t : Sm3} {n : Nat} (hf : Vl f) (hs : Vl s) (h : SmOk n t) : 0 < dueB f s t := Int.mul_pos (Int.mul_pos hf.1 hs.1) h.b
/-- all sums along a row -/
theorem sumsL_mem (l : List Fr) (hw : ∀ w ∈ l, Qt w) : ∀ (s : Sm3) (n : Nat), SmOk n s → ∀ t ∈ sumsL s l, ∃ m, m ≤ n + l.length ∧ SmOk m t := by
  induction l with
  | nil => intro s n h t ht; rw [List.mem_singleton.mp ht]; exact ⟨n, by simp, h⟩
  | cons v l ih =>
    intro s n h t ht
    rcases List.mem_cons.mp ht with e | ht
    · subst e; exact ⟨n, by omega, h⟩
    · obtain ⟨m, h1, h2⟩ := ih (fun w h => hw w (List.mem_cons_of_mem _ h)) _ _ (h.go (hw v (List.mem_cons_self ..))) t ht
      exact ⟨m, by rw [List.length_cons]; omega, h2⟩
theorem p__law_values {K : PySem.W.Frag} : ∀ ds Qf, F__law_values ds Qf → ds.length = 3 ∧ W__law_values K { nx := fun _ => Qf (.sh .non), rt := Qf } (begin 9 ds) := by
  intro ds Qf h
  obtain ⟨l, f, s, rfl, ⟨hl, hw⟩, hf, hs, hq⟩ := h
  refine ⟨rfl, ?_⟩
  simp only [W__law_values, LV.begin, at_0, at_1, at_2, at_3, at_m1a, at_m1b, at_m1c, at_m1d, at_m2b, at_m2c, decide_true, eq_self, Int.reduceEq, true_and, and_true, false_and, and_false, or_false, false_or, Int.reduceNeg, gIx, decide_false, Bool.and_true, Bool.true_and, Bool.or_true, wSeq, wSet, wAsg, wPar, wIf, wIfS, wTst, LV.wTru, LV.wNot, wAnd, wOr, wAndV, wOrV, wNotV, wOp, wUn, wV, wC, fCI, fAdd, fSub, fMul, fDiv, fMod, fPow, fNeg, fIx, fIs, fIsNot, fEq, fNe, fLt, fLe, fGt, fGe, wCB, wCons, wNil, w1, wApp, wIsi, isiB, bagD, isNonD, fLen, fAbs, fInt, fGcd, fList, fTuple, fRepr, fLz, fLen0, fLrv, fSum, fMax, fMin, fAll, fAny, seqD, rdL, rdW, fzL, fzW, unL, putS, RV.sl, wRet, wRetN, wNever, wNext, wDrop, wTup, wLst, outW, placeW, gN, gTu, gCo, gNi, wFor, zSeq, zr_0, zr_1, zr_2, zr_3, zr_4, nc_0, nc_1, nc_2, nc_3, nc_4, zEnum, zZip, ixD, tru, wCall, wCallK, wAppend, owW, wSl, fSl, wONone, wOSome, wLc, wYes, List.map, List.replicate, List.length, List.append, List.set, List.take, List.drop, List.getLast?, List.dropLast, List.filterMap, List.getElem?_cons_zero, List.getElem?_cons_succ, List.getElem?_nil, Nat.reduceAdd, Nat.reduceSub, Nat.reduceLT, List.cons_append, List.nil_append, Option.some.injEq, reduceCtorEq, reduceIte, Bool.not_true, Bool.not_false, Bool.false_eq_true, List.isEmpty]
  refine ⟨hf.s2.mulW hs.s2 (by omega), hs.s1.mulW hf.s2 (by omega), hs.s1.mulW hf.s2 (by omega), hf.s1.mulW hs.s2 (by omega), by decide, _, rfl, ?_⟩
  refine forL (fun s => fD (ab s)) (fun done rest σ => done ++ rest = sumsL ⟨0, 1, 1⟩ l ∧ ∃ x y, σ = [.sh (.lst ((sumsL ⟨0, 1, 1⟩ l).map fun s => fD (ab s))), .sh (fD f), .sh (fD s), .sh (.int (f.2 * s.2)), .sh (.int (s.1 * f.2)), .sh (.int (s.1 * f.2 - f.1 * s.2)), .ow (fD f :: done.map fun t => fD (dueA f s t, dueB f s t)), x, y]) ?_ ?_ _ [] _ ⟨rfl, _, _, rfl⟩
  · rintro done t rest σ nx ⟨hx, x, y, rfl⟩ hnx
    obtain ⟨m, hm, ok⟩ := sumsL_mem l hw _ 0 .zero t (by rw [← hx]; simp)
    have hlen : done.length + 1 ≤ 41 := by
      have := congrArg List.length hx
      rw [sumsL_len, List.length_append, List.length_cons] at this
      omega
    simp only [ab, LV.begin, at_0, at_1, at_2, at_3, at_m1a, at_m1b, at_m1c, at_m1d, at_m2b, at_m2c, decide_true, eq_self, Int.reduceEq, true_and, and_true, false_and, and_false, or_false, false_or, Int.reduceNeg, gIx, decide_false, Bool.and_true, Bool.true_and, Bool.or_true, wSeq, wSet, wAsg, wPar, wIf, wIfS, wTst, LV.wTru, LV.wNot, wAnd, wOr, wAndV, wOrV, wNotV, wOp, wUn, wV, wC, fCI, fAdd, fSub, fMul, fDiv, fMod, fPow, fNeg, fIx, fIs, fIsNot, fEq, fNe, fLt, fLe, fGt, fGe, wCB, wCons, wNil, w1, wApp, wIsi, isiB, bagD, isNonD, fLen, fAbs, fInt, fGcd, fList, fTuple, fRepr, fLz, fLen0, fLrv, fSum, fMax, fMin, fAll, fAny, seqD, rdL, rdW, fzL, fzW, unL, putS, RV.sl, wRet, wRetN, wNever, wNext, wDrop, wTup, wLst, outW, placeW, gN, gTu, gCo, gNi, wFor, zSeq, zr_0, zr_1, zr_2, zr_3, zr_4, nc_0, nc_1, nc_2, nc_3, nc_4, zEnum, zZip, ixD, tru, wCall, wCallK, wAppend, owW, wSl, fSl, wONone, wOSome, wLc, wYes, List.map, List.replicate, List.length, List.append, List.set, List.take, List.drop, List.getLast?, List.dropLast, List.filterMap, List.getElem?_cons_zero, List.getElem?_cons_succ, List.getElem?_nil, Nat.reduceAdd, Nat.reduceSub, Nat.reduceLT, List.cons_append, List.nil_append, Option.some.injEq, reduceCtorEq, reduceIte, Bool.not_true, Bool.not_false, Bool.false_eq_true, List.isEmpty]
    refine ⟨(hs.s1.mul hf.s2).mulW (ok.sb.mono (by omega : _ ≤ 1000)) (by omega), ((hs.s1.mul hf.s2).sub (hf.s1.mul hs.s2)).mulW (ok.sa.mono (by omega : _ ≤ 1000)) (by omega), (hf.s2.mul hs.s2).mulW (ok.sb.mono (by omega : _ ≤ 1000)) (by omega), by decide, ?_, ?_⟩
    · rw [List.length_map]; omega
    · refine hnx _ ⟨by simpa using hx, .sh (.int t.a), .sh (.int t.b), ?_⟩
      rw [List.map_append]; rfl
  · rintro done σ ⟨hx, x, y, rfl⟩
    rw [List.append_nil] at hx
    subst hx
    simp only [LV.begin, at_0, at_1, at_2, at_3, at_m1a, at_m1b, at_m1c, at_m1d, at_m2b, at_m2c, decide_true, eq_self, Int.reduceEq, true_and, and_true, false_and, and_false, or_false, false_or, Int.reduceNeg, gIx, decide_false, Bool.and_true, Bool.true_and, Bool.or_true, wSeq, wSet, wAsg, wPar, wIf, wIfS, wTst, LV.wTru, LV.wNot, wAnd, wOr, wAndV, wOrV, wNotV, wOp, wUn, wV, wC, fCI, fAdd, fSub, fMul, fDiv, fMod, fPow, fNeg, fIx, fIs, fIsNot, fEq, fNe, fLt, fLe, fGt, fGe, wCB, wCons, wNil, w1, wApp, wIsi, isiB, bagD, isNonD, fLen, fAbs, fInt, fGcd, fList, fTuple, fRepr, fLz, fLen0, fLrv, fSum, fMax, fMin, fAll, fAny, seqD, rdL, rdW, fzL, fzW, unL, putS, RV.sl, wRet, wRetN, wNever, wNext, wDrop, wTup, wLst, outW, placeW, gN, gTu, gCo, gNi, wFor, zSeq, zr_0, zr_1, zr_2, zr_3, zr_4, nc_0, nc_1, nc_2, nc_3, nc_4, zEnum, zZip, ixD, tru, wCall, wCallK, wAppend, owW, wSl, fSl, wONone, wOSome, wLc, wYes, List.map, List.replicate, List.length, List.append, List.set, List.take, List.drop, List.getLast?, List.dropLast, List.filterMap, List.getElem?_cons_zero, List.getElem?_cons_succ, List.getElem?_nil, Nat.reduceAdd, Nat.reduceSub, Nat.reduceLT, List.cons_append, List.nil_append, Option.some.injEq, reduceCtorEq, reduceIte, Bool.not_true, Bool.not_false, Bool.false_eq_true, List.isEmpty]
    exact hq
theorem p__law_greatest {K : PySem.W.Frag} : ∀ ds Qf, F__law_greatest ds Qf → ds.length = 1 ∧ W__law_greatest K { nx := fun _ => Qf (.sh .non), rt := Qf } (begin 3 ds) := by
  intro ds Qf h
  obtain ⟨l, rfl, ⟨hl, hw⟩, hne, hq⟩ := h
  refine ⟨rfl, ?_⟩
  obtain ⟨w0, l0, rfl⟩ := List.exists_cons_of_ne_nil hne
  simp only [W__law_greatest, LV.begin, at_0, at_1, at_2, at_3, at_m1a, at_m1b, at_m1c, at_m1d, at_m2b, at_m2c, decide_true, eq_self, Int.reduceEq, true_and, and_true, false_and, and_false, or_false, false_or, Int.reduceNeg, gIx, decide_false, Bool.and_true, Bool.true_and, Bool.or_true, wSeq, wSet, wAsg, wPar, wIf, wIfS, wTst, LV.wTru, LV.wNot, wAnd, wOr, wAndV, wOrV, wNotV, wOp, wUn, wV, wC, fCI, fAdd, fSub, fMul, fDiv, fMod, fPow, fNeg, fIx, fIs, fIsNot, fEq, fNe, fLt, fLe, fGt, fGe, wCB, wCons, wNil, w1, wApp, wIsi, isiB, bagD, isNonD, fLen, fAbs, fInt, fGcd, fList, fTuple, fRepr, fLz, fLen0, fLrv, fSum, fMax, fMin, fAll, fAny, seqD, rdL, rdW, fzL, fzW, unL, putS, RV.sl, wRet, wRetN, wNever, wNext, wDrop, wTup, wLst, outW, placeW, gN, gTu, gCo, gNi, wFor, zSeq, zr_0, zr_1, zr_2, zr_3, zr_4, nc_0, nc_1, nc_2, nc_3, nc_4, zEnum, zZip, ixD, tru, wCall, wCallK, wAppend, owW, wSl, fSl, wONone, wOSome, wLc, wYes, List.map, List.replicate, List.length, List.append, List.set, List.take, List.drop, List.getLast?, List.dropLast, List.filterMap, List.getElem?_cons_zero, List.getElem?_cons_succ, List.getElem?_nil, Nat.reduceAdd, Nat.reduceSub, Nat.reduceLT, List.cons_append, List.nil_append, Option.some.injEq, reduceCtorEq, reduceIte, Bool.not_true, Bool.not_false, Bool.false_eq_true, List.isEmpty]
  refine ⟨_, rfl, ?_⟩
  refine forL fD (fun done rest s => done ++ rest = w0 :: l0 ∧ ∃ g x, g ∈ w0 :: l0 ∧ (∀ v ∈ done, v.1 * g.2 ≤ g.1 * v.2) ∧ s = [.sh (.tup ((w0 :: l0).map fD)), .sh (fD g), x]) ?_ ?_ (w0 :: l0) [] [.sh (.tup ((w0 :: l0).map fD)), .sh (fD w0), .un] ⟨rfl, w0, .un, List.mem_cons_self .., (fun _ h => nomatch h), rfl⟩
  · rintro done v rest s nx ⟨hx, g, x, hg, hle, rfl⟩ hnx
    have hv : v ∈ w0 :: l0 := by rw [← hx]; simp
    have qv := hw v hv
    have qg := hw g hg
    simp only [LV.begin, at_0, at_1, at_2, at_3, at_m1a, at_m1b, at_m1c, at_m1d, at_m2b, at_m2c, decide_true, eq_self, Int.reduceEq, true_and, and_true, false_and, and_false, or_false, false_or, Int.reduceNeg, gIx, decide_false, Bool.and_true, Bool.true_and, Bool.or_true, wSeq, wSet, wAsg, wPar, wIf, wIfS, wTst, LV.wTru, LV.wNot, wAnd, wOr, wAndV, wOrV, wNotV, wOp, wUn, wV, wC, fCI, fAdd, fSub, fMul, fDiv, fMod, fPow, fNeg, fIx, fIs, fIsNot, fEq, fNe, fLt, fLe, fGt, fGe, wCB, wCons, wNil, w1, wApp, wIsi, isiB, bagD, isNonD, fLen, fAbs, fInt, fGcd, fList, fTuple, fRepr, fLz, fLen0, fLrv, fSum, fMax, fMin, fAll, fAny, seqD, rdL, rdW, fzL, fzW, unL, putS, RV.sl, wRet, wRetN, wNever, wNext, wDrop, wTup, wLst, outW, placeW, gN, gTu, gCo, gNi, wFor, zSeq, zr_0, zr_1, zr_2, zr_3, zr_4, nc_0, nc_1, nc_2, nc_3, nc_4, zEnum, zZip, ixD, tru, wCall, wCallK, wAppend, owW, wSl, fSl, wONone, wOSome, wLc, wYes, List.map, List.replicate, List.length, List.append, List.set, List.take, List.drop, List.getLast?, List.dropLast, List.filterMap, List.getElem?_cons_zero, List.getElem?_cons_succ, List.getElem?_nil, Nat.reduceAdd, Nat.reduceSub, Nat.reduceLT, List.cons_append, List.nil_append, Option.some.injEq, reduceCtorEq, reduceIte, Bool.not_true, Bool.not_false, Bool.false_eq_true, List.isEmpty]
    refine ⟨qv.s1.mulW qg.s2 (by omega), qg.s1.mulW qv.s2 (by omega), ?_⟩
    have hx' : (done ++ [v]) ++ rest = w0 :: l0 := by simpa using hx
    split
    · rename_i hgt
      have hgt := of_decide_eq_true hgt
      refine hnx _ ⟨hx', v, _, hv, fun u hu => ?_, rfl⟩
      rcases List.mem_append.mp hu with hu | hu
      · have h1 := hle u hu
        have qu := hw u (by rw [← hx]; simp [hu])
        have p1 := qu.2.2.1
        have p2 := qg.2.2.1
        have p3 := qv.2.2.1
        have a1 : u.1 * g.2 * v.2 ≤ g.1 * u.2 * v.2 := Int.mul_le_mul_of_nonneg_right h1 (by omega)
        have a2 : g.1 * v.2 * u.2 ≤ v.1 * g.2 * u.2 := Int.mul_le_mul_of_nonneg_right (by omega) (by omega)
        have a3 : (u.1 * v.2) * g.2 ≤ (v.1 * u.2) * g.2 := by
          have e1 : (u.1 * v.2) * g.2 = u.1 * g.2 * v.2 := by grind
          have e2 : (v.1 * u.2) * g.2 = v.1 * g.2 * u.2 := by grind
          have e3 : g.1 * u.2 * v.2 = g.1 * v.2 * u.2 := by grind
          omega
        exact Int.le_of_mul_le_mul_right a3 (by omega)
      · rw [List.mem_singleton.mp hu]; exact Int.le_refl _
    · rename_i hgt
      have hgt : ¬ (g.1 * v.2 < v.1 * g.2) := fun h => hgt (decide_eq_true h)
      refine hnx _ ⟨hx', g, _, hg, fun u hu => ?_, rfl⟩
      rcases List.mem_append.mp hu with hu | hu
      · exact hle u hu
      · rw [List.mem_singleton.mp hu]; omega
  · rintro done s ⟨hx, g, x, hg, hle, rfl⟩
    rw [List.append_nil] at hx
    subst hx
    simp only [LV.begin, at_0, at_1, at_2, at_3, at_m1a, at_m1b, at_m1c, at_m1d, at_m2b, at_m2c, decide_true, eq_self, Int.reduceEq, true_and, and_true, false_and, and_false, or_false, false_or, Int.reduceNeg, gIx, decide_false, Bool.and_true, Bool.true_and, Bool.or_true, wSeq, wSet, wAsg, wPar, wIf, wIfS, wTst, LV.wTru, LV.wNot, wAnd, wOr, wAndV, wOrV, wNotV, wOp, wUn, wV, wC, fCI, fAdd, fSub, fMul, fDiv, fMod, fPow, fNeg, fIx, fIs, fIsNot, fEq, fNe, fLt, fLe, fGt, fGe, wCB, wCons, wNil, w1, wApp, wIsi, isiB, bagD, isNonD, fLen, fAbs, fInt, fGcd, fList, fTuple, fRepr, fLz, fLen0, fLrv, fSum, fMax, fMin, fAll, fAny, seqD, rdL, rdW, fzL, fzW, unL, putS, RV.sl, wRet, wRetN, wNever, wNext, wDrop, wTup, wLst, outW, placeW, gN, gTu, gCo, gNi, wFor, zSeq, zr_0, zr_1, zr_2, zr_3, zr_4, nc_0, nc_1, nc_2, nc_3, nc_4, zEnum, zZip, ixD, tru, wCall, wCallK, wAppend, owW, wSl, fSl, wONone, wOSome, wLc, wYes, List.map, List.replicate, List.length, List.append, List.set, List.take, List.drop, List.getLast?, List.dropLast, List.filterMap, List.getElem?_cons_zero, List.getElem?_cons_succ, List.getElem?_nil, Nat.reduceAdd, Nat.reduceSub, Nat.reduceLT, List.cons_append, List.nil_append, Option.some.injEq, reduceCtorEq, reduceIte, Bool.not_true, Bool.not_false, Bool.false_eq_true, List.isEmpty]
    exact hq g hg hle
theorem p_power {K : PySem.W.Frag} : ∀ ds Qf, F_power ds Qf → ds.length = 2 ∧ W_power K { nx := fun _ => Qf (.sh .non), rt := Qf } (begin 4 ds) := by
  intro ds Qf h
  unfold F_power at h; split at h
  · rename_i a n
    obtain ⟨hs, rfl | rfl, hq⟩ := h
    · refine ⟨rfl, ?_⟩
      simp only [W_power, LV.begin, at_0, at_1, at_2, at_3, at_m1a, at_m1b, at_m1c, at_m1d, at_m2b, at_m2c, decide_true, eq_self, Int.reduceEq, true_and, and_true, false_and, and_false, or_false, false_or, Int.reduceNeg, gIx, decide_false, Bool.and_true, Bool.true_and, Bool.or_true, wSeq, wSet, wAsg, wPar, wIf, wIfS, wTst, LV.wTru, LV.wNot, wAnd, wOr, wAndV, wOrV, wNotV, wOp, wUn, wV, wC, fCI, fAdd, fSub, fMul, fDiv, fMod, fPow, fNeg, fIx, fIs, fIsNot, fEq, fNe, fLt, fLe, fGt, fGe, wCB, wCons, wNil, w1, wApp, wIsi, isiB, bagD, isNonD, fLen, fAbs, fInt, fGcd, fList, fTuple, fRepr, fLz, fLen0, fLrv, fSum, fMax, fMin, fAll, fAny, seqD, rdL, rdW, fzL, fzW, unL, putS, RV.sl, wRet, wRetN, wNever, wNext, wDrop, wTup, wLst, outW, placeW, gN, gTu, gCo, gNi, wFor, zSeq, zr_0, zr_1, zr_2, zr_3, zr_4, nc_0, nc_1, nc_2, nc_3, nc_4, zEnum, zZip, ixD, tru, wCall, wCallK, wAppend, owW, wSl, fSl, wONone, wOSome, wLc, wYes, List.map, List.replicate, List.length, List.append, List.set, List.take, List.drop, List.getLast?, List.dropLast, List.filterMap, List.getElem?_cons_zero, List.getElem?_cons_succ, List.getElem?_nil, Nat.reduceAdd, Nat.reduceSub, Nat.reduceLT, List.cons_append, List.nil_append, Option.some.injEq, reduceCtorEq, reduceIte, Bool.not_true, Bool.not_false, Bool.false_eq_true, List.isEmpty, wForL, wLcL, enumD, zipD, wipeS, backS, List.all_cons, List.all_nil, List.getD_cons_zero, List.getD_cons_succ, notOw, intsOf, Option.map_some, exists_eq_left', Nat.zero_add, List.reverse_cons]
      exact (by simpa using hq)
    · refine ⟨rfl, ?_⟩
      simp only [W_power, LV.begin, at_0, at_1, at_2, at_3, at_m1a, at_m1b, at_m1c, at_m1d, at_m2b, at_m2c, decide_true, eq_self, Int.reduceEq, true_and, and_true, false_and, and_false, or_false, false_or, Int.reduceNeg, gIx, decide_false, Bool.and_true, Bool.true_and, Bool.or_true, wSeq, wSet, wAsg, wPar, wIf, wIfS, wTst, LV.wTru, LV.wNot, wAnd, wOr, wAndV, wOrV, wNotV, wOp, wUn, wV, wC, fCI, fAdd, fSub, fMul, fDiv, fMod, fPow, fNeg, fIx, fIs, fIsNot, fEq, fNe, fLt, fLe, fGt, fGe, wCB, wCons, wNil, w1, wApp, wIsi, isiB, bagD, isNonD, fLen, fAbs, fInt, fGcd, fList, fTuple, fRepr, fLz, fLen0, fLrv, fSum, fMax, fMin, fAll, fAny, seqD, rdL, rdW, fzL, fzW, unL, putS, RV.sl, wRet, wRetN, wNever, wNext, wDrop, wTup, wLst, outW, placeW, gN, gTu, gCo, gNi, wFor, zSeq, zr_0, zr_1, zr_2, zr_3, zr_4, nc_0, nc_1, nc_2, nc_3, nc_4, zEnum, zZip, ixD, tru, wCall, wCallK, wAppend, owW, wSl, fSl, wONone, wOSome, wLc, wYes, List.map, List.replicate, List.length, List.append, List.set, List.take, List.drop, List.getLast?, List.dropLast, List.filterMap, List.getElem?_cons_zero, List.getElem?_cons_succ, List.getElem?_nil, Nat.reduceAdd, Nat.reduceSub, Nat.reduceLT, List.cons_append, List.nil_append, Option.some.injEq, reduceCtorEq, reduceIte, Bool.not_true, Bool.not_false, Bool.false_eq_true, List.isEmpty, wForL, wLcL, enumD, zipD, wipeS, backS, List.all_cons, List.all_nil, List.getD_cons_zero, List.getD_cons_succ, notOw, intsOf, Option.map_some, exists_eq_left', Nat.zero_add, List.reverse_cons]
      exact ⟨(sm10 (i := 1) (by decide) (by decide)).mulW hs (by omega), by
        have e : a ^ Int.toNat 1 = a := by show a ^ 1 = a; grind
        rw [Int.one_mul, ← e]; exact hq⟩
  · exact h.elim
theorem p_whole_row {K : PySem.W.Frag} : ∀ ds Qf, F_whole_row ds Qf → ds.length = 1 ∧ W_whole_row K { nx := fun _ => Qf (.sh .non), rt := Qf } (begin 3 ds) := by
  intro ds Qf h
  obtain ⟨p, q, rfl, ⟨h1, h2, h3⟩, hq⟩ := h
  refine ⟨rfl, ?_⟩
  simp only [W_whole_row, F_common_divisor, LV.begin, at_0, at_1, at_2, at_3, at_m1a, at_m1b, at_m1c, at_m1d, at_m2b, at_m2c, decide_true, eq_self, Int.reduceEq, true_and, and_true, false_and, and_false, or_false, false_or, Int.reduceNeg, gIx, decide_false, Bool.and_true, Bool.true_and, Bool.or_true, wSeq, wSet, wAsg, wPar, wIf, wIfS, wTst, LV.wTru, LV.wNot, wAnd, wOr, wAndV, wOrV, wNotV, wOp, wUn, wV, wC, fCI, fAdd, fSub, fMul, fDiv, fMod, fPow, fNeg, fIx, fIs, fIsNot, fEq, fNe, fLt, fLe, fGt, fGe, wCB, wCons, wNil, w1, wApp, wIsi, isiB, bagD, isNonD, fLen, fAbs, fInt, fGcd, fList, fTuple, fRepr, fLz, fLen0, fLrv, fSum, fMax, fMin, fAll, fAny, seqD, rdL, rdW, fzL, fzW, unL, putS, RV.sl, wRet, wRetN, wNever, wNext, wDrop, wTup, wLst, outW, placeW, gN, gTu, gCo, gNi, wFor, zSeq, zr_0, zr_1, zr_2, zr_3, zr_4, nc_0, nc_1, nc_2, nc_3, nc_4, zEnum, zZip, ixD, tru, wCall, wCallK, wAppend, owW, wSl, fSl, wONone, wOSome, wLc, wYes, List.map, List.replicate, List.length, List.append, List.set, List.take, List.drop, List.getLast?, List.dropLast, List.filterMap, List.getElem?_cons_zero, List.getElem?_cons_succ, List.getElem?_nil, Nat.reduceAdd, Nat.reduceSub, Nat.reduceLT, List.cons_append, List.nil_append, Option.some.injEq, reduceCtorEq, reduceIte, Bool.not_true, Bool.not_false, Bool.false_eq_true, List.isEmpty, wForL, wLcL, enumD, zipD, wipeS, backS, List.all_cons, List.all_nil, List.getD_cons_zero, List.getD_cons_succ, notOw, intsOf, Option.map_some, exists_eq_left', Nat.zero_add, List.reverse_cons]
  have e1 : Int.gcd 1 1 = 1 := by decide
  have e2 : Int.fdiv 1 1 = 1 := by decide
  have e3 : Int.gcd 1 q = 1 := Int.one_gcd
  have e4 : q.fdiv 1 = q := Int.fdiv_one q
  have e5 : q.fdiv q = 1 := Int.fdiv_self (by omega)
  have sq : sm 10 q := sm10 (by omega) (by omega)
  have sp : sm 10 (p + q) := sm10 (by omega) (by omega)
  have s1 : sm 10 1 := sm10 (by decide) (by decide)
  have s0 : sm 10 0 := sm10 (by decide) (by decide)
  simp only [e1, e2, e3, e4, e5, nc_1, Int.mul_one, Int.one_mul, Int.zero_mul]
  exact ⟨s1.divA (by decide) (by omega), s1.mulW s1 (by omega), s1.divA (by decide) (by omega), s1.mulW s1 (by omega), s1.divA (by decide) (by omega), s1.mulW sq (by omega), s1.divA (by decide) (by omega), s0.mulW sq (by omega), s1.divA (by decide) (by omega), s1.mulW sq (by omega), sq.divA (by omega) (by omega), sp.mulW s1 (by omega), by decide, hq⟩
theorem p_product_poly {K : PySem.W.Frag} : ∀ ds Qf, F_product_poly ds Qf → ds.length = 1 ∧ W_product_poly K { nx := fun _ => Qf (.sh .non), rt := Qf } (begin 5 ds) := by
  intro ds Qf h
  unfold F_product_poly at h; split at h
  · rename_i a b
    obtain ⟨ha, hb, hq⟩ := h
    refine ⟨rfl, ?_⟩
    simp only [W_product_poly, zZip, LV.begin, at_0, at_1, at_2, at_3, at_m1a, at_m1b, at_m1c, at_m1d, at_m2b, at_m2c, decide_true, eq_self, Int.reduceEq, true_and, and_true, false_and, and_false, or_false, false_or, Int.reduceNeg, gIx, decide_false, Bool.and_true, Bool.true_and, Bool.or_true, wSeq, wSet, wAsg, wPar, wIf, wIfS, wTst, LV.wTru, LV.wNot, wAnd, wOr, wAndV, wOrV, wNotV, wOp, wUn, wV, wC, fCI, fAdd, fSub, fMul, fDiv, fMod, fPow, fNeg, fIx, fIs, fIsNot, fEq, fNe, fLt, fLe, fGt, fGe, wCB, wCons, wNil, w1, wApp, wIsi, isiB, bagD, isNonD, fLen, fAbs, fInt, fGcd, fList, fTuple, fRepr, fLz, fLen0, fLrv, fSum, fMax, fMin, fAll, fAny, seqD, rdL, rdW, fzL, fzW, unL, putS, RV.sl, wRet, wRetN, wNever, wNext, wDrop, wTup, wLst, outW, placeW, gN, gTu, gCo, gNi, wFor, zSeq, zr_0, zr_1, zr_2, zr_3, zr_4, nc_0, nc_1, nc_2, nc_3, nc_4, zEnum, zZip, ixD, tru, wCall, wCallK, wAppend, owW, wSl, fSl, wONone, wOSome, wLc, wYes, List.map, List.replicate, List.length, List.append, List.set, List.take, List.drop, List.getLast?, List.dropLast, List.filterMap, List.getElem?_cons_zero, List.getElem?_cons_succ, List.getElem?_nil, Nat.reduceAdd, Nat.reduceSub, Nat.reduceLT, List.cons_append, List.nil_append, Option.some.injEq, reduceCtorEq, reduceIte, Bool.not_true, Bool.not_false, Bool.false_eq_true, List.isEmpty, wForL, wLcL, enumD, zipD, wipeS, backS, List.all_cons, List.all_nil, List.getD_cons_zero, List.getD_cons_succ, notOw, intsOf, Option.map_some, exists_eq_left', Nat.zero_add, List.reverse_cons]
    have s1 : sm 20 1 := (sm10 (by decide) (by decide)).mono (by omega)
    have s0 : sm 20 0 := (sm10 (by decide) (by decide)).mono (by omega)
    refine ⟨by decide, by decide, by rw [sizeLine_eq]; decide, by decide, by rw [sizeLine_eq]; decide, ha.mulW s1 (by omega), ha.mulW s0 (by omega), by decide, by rw [sizeLine_eq]; decide, by decide, by rw [sizeLine_eq]; decide, hb.mulW (s0.sub (by simpa using ha : sm 20 (a * 1))) (by omega), hb.mulW (s1.sub (by simpa using s0 : sm 20 (a * 0))) (by omega), hb.mulW s0 (by omega), ?_⟩
    have e1 : 0 - b * (0 - a * 1) = a * b := by grind
    have e2 : 0 - a * 1 - b * (1 - a * 0) = -a - b := by grind
    have e3 : 1 - a * 0 - b * 0 = 1 := by grind
    rw [e1, e2, e3]; exact hq
  · exact h.elim
theorem p_place_poly {K : PySem.W.Frag} : ∀ ds Qf, F_place_poly ds Qf → ds.length = 2 ∧ W_place_poly K { nx := fun _ => Qf (.sh .non), rt := Qf } (begin 7 ds) := by
  intro ds Qf h
  unfold F_place_poly at h; split at h
  · rename_i a b c i
    obtain ⟨ha, hb, hc, hi, c0, c1, c2, wo, e, hq⟩ := h
    refine ⟨rfl, ?_⟩
    have s1 : sm 20 1 := (sm10 (by decide) (by decide)).mono (by omega)
    rcases hi with rfl | rfl | rfl
    · cases e
      simp only [W_place_poly, F_product_poly, zEnum, LV.begin, at_0, at_1, at_2, at_3, at_m1a, at_m1b, at_m1c, at_m1d, at_m2b, at_m2c, decide_true, eq_self, Int.reduceEq, true_and, and_true, false_and, and_false, or_false, false_or, Int.reduceNeg, gIx, decide_false, Bool.and_true, Bool.true_and, Bool.or_true, wSeq, wSet, wAsg, wPar, wIf, wIfS, wTst, LV.wTru, LV.wNot, wAnd, wOr, wAndV, wOrV, wNotV, wOp, wUn, wV, wC, fCI, fAdd, fSub, fMul, fDiv, fMod, fPow, fNeg, fIx, fIs, fIsNot, fEq, fNe, fLt, fLe, fGt, fGe, wCB, wCons, wNil, w1, wApp, wIsi, isiB, bagD, isNonD, fLen, fAbs, fInt, fGcd, fList, fTuple, fRepr, fLz, fLen0, fLrv, fSum, fMax, fMin, fAll, fAny, seqD, rdL, rdW, fzL, fzW, unL, putS, RV.sl, wRet, wRetN, wNever, wNext, wDrop, wTup, wLst, outW, placeW, gN, gTu, gCo, gNi, wFor, zSeq, zr_0, zr_1, zr_2, zr_3, zr_4, nc_0, nc_1, nc_2, nc_3, nc_4, zEnum, zZip, ixD, tru, wCall, wCallK, wAppend, owW, wSl, fSl, wONone, wOSome, wLc, wYes, List.map, List.replicate, List.length, List.append, List.set, List.take, List.drop, List.getLast?, List.dropLast, List.filterMap, List.getElem?_cons_zero, List.getElem?_cons_succ, List.getElem?_nil, Nat.reduceAdd, Nat.reduceSub, Nat.reduceLT, List.cons_append, List.nil_append, Option.some.injEq, reduceCtorEq, reduceIte, Bool.not_true, Bool.not_false, Bool.false_eq_true, List.isEmpty, wForL, wLcL, enumD, zipD, wipeS, backS, List.all_cons, List.all_nil, List.getD_cons_zero, List.getD_cons_succ, notOw, intsOf, Option.map_some, exists_eq_left', Nat.zero_add, List.reverse_cons]
      exact ⟨s1.mulW (ha.sub hb) (by omega), (s1.mul (ha.sub hb)).mulW (ha.sub hc) (by omega), hb, hc, by decide, by rw [Int.one_mul]; exact hq⟩
    · cases e
      simp only [W_place_poly, F_product_poly, zEnum, LV.begin, at_0, at_1, at_2, at_3, at_m1a, at_m1b, at_m1c, at_m1d, at_m2b, at_m2c, decide_true, eq_self, Int.reduceEq, true_and, and_true, false_and, and_false, or_false, false_or, Int.reduceNeg, gIx, decide_false, Bool.and_true, Bool.true_and, Bool.or_true, wSeq, wSet, wAsg, wPar, wIf, wIfS, wTst, LV.wTru, LV.wNot, wAnd, wOr, wAndV, wOrV, wNotV, wOp, wUn, wV, wC, fCI, fAdd, fSub, fMul, fDiv, fMod, fPow, fNeg, fIx, fIs, fIsNot, fEq, fNe, fLt, fLe, fGt, fGe, wCB, wCons, wNil, w1, wApp, wIsi, isiB, bagD, isNonD, fLen, fAbs, fInt, fGcd, fList, fTuple, fRepr, fLz, fLen0, fLrv, fSum, fMax, fMin, fAll, fAny, seqD, rdL, rdW, fzL, fzW, unL, putS, RV.sl, wRet, wRetN, wNever, wNext, wDrop, wTup, wLst, outW, placeW, gN, gTu, gCo, gNi, wFor, zSeq, zr_0, zr_1, zr_2, zr_3, zr_4, nc_0, nc_1, nc_2, nc_3, nc_4, zEnum, zZip, ixD, tru, wCall, wCallK, wAppend, owW, wSl, fSl, wONone, wOSome, wLc, wYes, List.map, List.replicate, List.length, List.append, List.set, List.take, List.drop, List.getLast?, List.dropLast, List.filterMap, List.getElem?_cons_zero, List.getElem?_cons_succ, List.getElem?_nil, Nat.reduceAdd, Nat.reduceSub, Nat.reduceLT, List.cons_append, List.nil_append, Option.some.injEq, reduceCtorEq, reduceIte, Bool.not_true, Bool.not_false, Bool.false_eq_true, List.isEmpty, wForL, wLcL, enumD, zipD, wipeS, backS, List.all_cons, List.all_nil, List.getD_cons_zero, List.getD_cons_succ, notOw, intsOf, Option.map_some, exists_eq_left', Nat.zero_add, List.reverse_cons]
      exact ⟨s1.mulW (hb.sub ha) (by omega), (s1.mul (hb.sub ha)).mulW (hb.sub hc) (by omega), ha, hc, by decide, by rw [Int.one_mul]; exact hq⟩
    · cases e
      simp only [W_place_poly, F_product_poly, zEnum, LV.begin, at_0, at_1, at_2, at_3, at_m1a, at_m1b, at_m1c, at_m1d, at_m2b, at_m2c, decide_true, eq_self, Int.reduceEq, true_and, and_true, false_and, and_false, or_false, false_or, Int.reduceNeg, gIx, decide_false, Bool.and_true, Bool.true_and, Bool.or_true, wSeq, wSet, wAsg, wPar, wIf, wIfS, wTst, LV.wTru, LV.wNot, wAnd, wOr, wAndV, wOrV, wNotV, wOp, wUn, wV, wC, fCI, fAdd, fSub, fMul, fDiv, fMod, fPow, fNeg, fIx, fIs, fIsNot, fEq, fNe, fLt, fLe, fGt, fGe, wCB, wCons, wNil, w1, wApp, wIsi, isiB, bagD, isNonD, fLen, fAbs, fInt, fGcd, fList, fTuple, fRepr, fLz, fLen0, fLrv, fSum, fMax, fMin, fAll, fAny, seqD, rdL, rdW, fzL, fzW, unL, putS, RV.sl, wRet, wRetN, wNever, wNext, wDrop, wTup, wLst, outW, placeW, gN, gTu, gCo, gNi, wFor, zSeq, zr_0, zr_1, zr_2, zr_3, zr_4, nc_0, nc_1, nc_2, nc_3, nc_4, zEnum, zZip, ixD, tru, wCall, wCallK, wAppend, owW, wSl, fSl, wONone, wOSome, wLc, wYes, List.map, List.replicate, List.length, List.append, List.set, List.take, List.drop, List.getLast?, List.dropLast, List.filterMap, List.getElem?_cons_zero, List.getElem?_cons_succ, List.getElem?_nil, Nat.reduceAdd, Nat.reduceSub, Nat.reduceLT, List.cons_append, List.nil_append, Option.some.injEq, reduceCtorEq, reduceIte, Bool.not_true, Bool.not_false, Bool.false_eq_true, List.isEmpty, wForL, wLcL, enumD, zipD, wipeS, backS, List.all_cons, List.all_nil, List.getD_cons_zero, List.getD_cons_succ, notOw, intsOf, Option.map_some, exists_eq_left', Nat.zero_add, List.reverse_cons]
      exact ⟨s1.mulW (hc.sub ha) (by omega), (s1.mul (hc.sub ha)).mulW (hc.sub hb) (by omega), ha, hb, by decide, by rw [Int.one_mul]; exact hq⟩
  · exact h.elim
theorem p_slope_weights {K : PySem.W.Frag} : ∀ ds Qf, F_slope_weights ds Qf → ds.length = 3 ∧ W_slope_weights K { nx := fun _ => Qf (.sh .non), rt := Qf } (begin 10 ds) := by
  intro ds Qf h
  obtain ⟨p, q, rfl, ⟨h1, h2, h3⟩, hq⟩ := h
  refine ⟨rfl, ?_⟩
  have hp10 : sm 10 p := sm10 (by omega) (by omega)
  have s0 : sm 10 0 := sm10 (by decide) (by decide)
  have s1 : sm 10 1 := sm10 (by decide) (by decide)
  have pw0 : (p + q) ^ (1 - 1 : Int).toNat = 1 := by show (p + q) ^ 0 = 1; grind
  have pw1 : (p + q) ^ (2 - 1 : Int).toNat = p + q := by show (p + q) ^ 1 = p + q; grind
  have hq10 : sm 10 q := sm10 (by omega) (by omega)
  have hs10 : sm 10 (p + q) := sm10 (by omega) (by omega)
  simp only [W_slope_weights, LV.begin, at_0, at_1, at_2, at_3, at_m1a, at_m1b, at_m1c, at_m1d, at_m2b, at_m2c, decide_true, eq_self, Int.reduceEq, true_and, and_true, false_and, and_false, or_false, false_or, Int.reduceNeg, gIx, decide_false, Bool.and_true, Bool.true_and, Bool.or_true, wSeq, wSet, wAsg, wPar, wIf, wIfS, wTst, LV.wTru, LV.wNot, wAnd, wOr, wAndV, wOrV, wNotV, wOp, wUn, wV, wC, fCI, fAdd, fSub, fMul, fDiv, fMod, fPow, fNeg, fIx, fIs, fIsNot, fEq, fNe, fLt, fLe, fGt, fGe, wCB, wCons, wNil, w1, wApp, wIsi, isiB, bagD, isNonD, fLen, fAbs, fInt, fGcd, fList, fTuple, fRepr, fLz, fLen0, fLrv, fSum, fMax, fMin, fAll, fAny, seqD, rdL, rdW, fzL, fzW, unL, putS, RV.sl, wRet, wRetN, wNever, wNext, wDrop, wTup, wLst, outW, placeW, gN, gTu, gCo, gNi, wFor, zSeq, zr_0, zr_1, zr_2, zr_3, zr_4, nc_0, nc_1, nc_2, nc_3, nc_4, zEnum, zZip, ixD, tru, wCall, wCallK, wAppend, owW, wSl, fSl, wONone, wOSome, wLc, wYes, List.map, List.replicate, List.length, List.append, List.set, List.take, List.drop, List.getLast?, List.dropLast, List.filterMap, List.getElem?_cons_zero, List.getElem?_cons_succ, List.getElem?_nil, Nat.reduceAdd, Nat.reduceSub, Nat.reduceLT, List.cons_append, List.nil_append, Option.some.injEq, reduceCtorEq, reduceIte, Bool.not_true, Bool.not_false, Bool.false_eq_true, List.isEmpty]
  refine ⟨by decide, _, rfl, ?_⟩
  refine forL (fun x : Int × Fr => D.int x.1) (fun done rest s => done ++ rest = [(0, low p (p + q)), (1, low (-p - q) p), (2, low (q * (2 * p + q)) ((p + q) * p))] ∧ ∃ x4 x5 x6 x7, s = [.sh (.lst [.int 0, .int q, .int (p + q)]), .sh (.int (p + q)), .sh (.int q), .ow (done.map fun x => fD x.2), x4, x5, x6, x7, .un, .un]) ?_ ?_
    [(0, low p (p + q)), (1, low (-p - q) p), (2, low (q * (2 * p + q)) ((p + q) * p))] [] _ ⟨rfl, _, _, _, _, rfl⟩
  · rintro done ⟨i, v⟩ rest s nx ⟨hx, x4, x5, x6, x7, rfl⟩ hnx
    have hi : (i = 0 ∧ v = low p (p + q)) ∨ (i = 1 ∧ v = low (-p - q) p) ∨ (i = 2 ∧ v = low (q * (2 * p + q)) ((p + q) * p)) := by
      have : (i, v) ∈ [(0, low p (p + q)), (1, low (-p - q) p), (2, low (q * (2 * p + q)) ((p + q) * p))] := by rw [← hx]; simp
      simpa using this
    have hdl : done.length ≤ 3 := by
      have := congrArg List.length hx
      simp at this; omega
    have hnx' : ∀ (w : Fr) (y4 y5 y6 y7 : Sl), w = v → nx [.sh (.lst [.int 0, .int q, .int (p + q)]), .sh (.int (p + q)), .sh (.int q), .ow (done.map (fun x : Int × Fr => fD x.2) ++ [fD w]), y4, y5, y6, y7, .un, .un] := by
      rintro w y4 y5 y6 y7 rfl
      refine hnx _ ⟨by simpa using hx, y4, y5, y6, y7, ?_⟩
      rw [List.map_append]; rfl
    rcases hi with ⟨rfl, hv⟩ | ⟨rfl, hv⟩ | ⟨rfl, hv⟩
    · simp only [F_place_poly, F_power, F_fraction_of, zEnum, LV.begin, at_0, at_1, at_2, at_3, at_m1a, at_m1b, at_m1c, at_m1d, at_m2b, at_m2c, decide_true, eq_self, Int.reduceEq, true_and, and_true, false_and, and_false, or_false, false_or, Int.reduceNeg, gIx, decide_false, Bool.and_true, Bool.true_and, Bool.or_true, wSeq, wSet, wAsg, wPar, wIf, wIfS, wTst, LV.wTru, LV.wNot, wAnd, wOr, wAndV, wOrV, wNotV, wOp, wUn, wV, wC, fCI, fAdd, fSub, fMul, fDiv, fMod, fPow, fNeg, fIx, fIs, fIsNot, fEq, fNe, fLt, fLe, fGt, fGe, wCB, wCons, wNil, w1, wApp, wIsi, isiB, bagD, isNonD, fLen, fAbs, fInt, fGcd, fList, fTuple, fRepr, fLz, fLen0, fLrv, fSum, fMax, fMin, fAll, fAny, seqD, rdL, rdW, fzL, fzW, unL, putS, RV.sl, wRet, wRetN, wNever, wNext, wDrop, wTup, wLst, outW, placeW, gN, gTu, gCo, gNi, wFor, zSeq, zr_0, zr_1, zr_2, zr_3, zr_4, nc_0, nc_1, nc_2, nc_3, nc_4, zEnum, zZip, ixD, tru, wCall, wCallK, wAppend, owW, wSl, fSl, wONone, wOSome, wLc, wYes, List.map, List.replicate, List.length, List.append, List.set, List.take, List.drop, List.getLast?, List.dropLast, List.filterMap, List.getElem?_cons_zero, List.getElem?_cons_succ, List.getElem?_nil, Nat.reduceAdd, Nat.reduceSub, Nat.reduceLT, List.cons_append, List.nil_append, Option.some.injEq, reduceCtorEq, reduceIte, Bool.not_true, Bool.not_false, Bool.false_eq_true, List.isEmpty, wForL, wLcL, enumD, zipD, wipeS, backS, List.all_cons, List.all_nil, List.getD_cons_zero, List.getD_cons_succ, notOw, intsOf, Option.map_some, exists_eq_left', Nat.zero_add, List.reverse_cons]
      refine ⟨s0.mono (by omega), hq10.mono (by omega), hs10.mono (by omega), q * (p + q), -q - (p + q), 1, (0 - q) * (0 - (p + q)), rfl, ?_⟩
      simp only [Int.reduceLT, decide_false, decide_true, Bool.false_eq_true, ↓reduceIte, pw0, pw1, List.sum_cons, List.sum_nil]
      rw [show 1 * (-q - (p + q)) * 1 + (2 * 1 * (p + q) + 0) = p by omega]
      have c1s : sm 11 (-q - (p + q)) := hq10.neg.sub hs10
      have wn : (0 - q) * (0 - (p + q)) ≠ 0 := Int.mul_ne_zero (by omega) (by omega)
      refine ⟨s1.mulW c1s (by omega), hs10.mono (by omega), by decide, (s1.mul c1s).mulW s1 (by omega), two2.mulW s1 (by omega), hs10.mono (by omega), by decide, (two2.mul s1).mulW hs10 (by omega), hp10.mulW hq10 (by omega), wn, (hp10.mul hq10).mono (by omega), ((s0.sub hq10).mul (s0.sub hs10)).mono (by omega), by rw [List.length_map]; omega, hnx' _ _ _ _ _ ?_⟩
      rw [hv]
      exact Low.uniq (low_ok _ _ wn) (low_ok _ _ (by omega)) wn (by omega) (by grind)
    · simp only [F_place_poly, F_power, F_fraction_of, zEnum, LV.begin, at_0, at_1, at_2, at_3, at_m1a, at_m1b, at_m1c, at_m1d, at_m2b, at_m2c, decide_true, eq_self, Int.reduceEq, true_and, and_true, false_and, and_false, or_false, false_or, Int.reduceNeg, gIx, decide_false, Bool.and_true, Bool.true_and, Bool.or_true, wSeq, wSet, wAsg, wPar, wIf, wIfS, wTst, LV.wTru, LV.wNot, wAnd, wOr, wAndV, wOrV, wNotV, wOp, wUn, wV, wC, fCI, fAdd, fSub, fMul, fDiv, fMod, fPow, fNeg, fIx, fIs, fIsNot, fEq, fNe, fLt, fLe, fGt, fGe, wCB, wCons, wNil, w1, wApp, wIsi, isiB, bagD, isNonD, fLen, fAbs, fInt, fGcd, fList, fTuple, fRepr, fLz, fLen0, fLrv, fSum, fMax, fMin, fAll, fAny, seqD, rdL, rdW, fzL, fzW, unL, putS, RV.sl, wRet, wRetN, wNever, wNext, wDrop, wTup, wLst, outW, placeW, gN, gTu, gCo, gNi, wFor, zSeq, zr_0, zr_1, zr_2, zr_3, zr_4, nc_0, nc_1, nc_2, nc_3, nc_4, zEnum, zZip, ixD, tru, wCall, wCallK, wAppend, owW, wSl, fSl, wONone, wOSome, wLc, wYes, List.map, List.replicate, List.length, List.append, List.set, List.take, List.drop, List.getLast?, List.dropLast, List.filterMap, List.getElem?_cons_zero, List.getElem?_cons_succ, List.getElem?_nil, Nat.reduceAdd, Nat.reduceSub, Nat.reduceLT, List.cons_append, List.nil_append, Option.some.injEq, reduceCtorEq, reduceIte, Bool.not_true, Bool.not_false, Bool.false_eq_true, List.isEmpty, wForL, wLcL, enumD, zipD, wipeS, backS, List.all_cons, List.all_nil, List.getD_cons_zero, List.getD_cons_succ, notOw, intsOf, Option.map_some, exists_eq_left', Nat.zero_add, List.reverse_cons]
      refine ⟨s0.mono (by omega), hq10.mono (by omega), hs10.mono (by omega), 0 * (p + q), -0 - (p + q), 1, (q - 0) * (q - (p + q)), rfl, ?_⟩
      simp only [Int.reduceLT, decide_false, decide_true, Bool.false_eq_true, ↓reduceIte, pw0, pw1, List.sum_cons, List.sum_nil]
      rw [show 1 * (-0 - (p + q)) * 1 + (2 * 1 * (p + q) + 0) = p + q by omega]
      have c1s : sm 11 (-0 - (p + q)) := s0.neg.sub hs10
      have wn : (q - 0) * (q - (p + q)) ≠ 0 := Int.mul_ne_zero (by omega) (by omega)
      refine ⟨s1.mulW c1s (by omega), hs10.mono (by omega), by decide, (s1.mul c1s).mulW s1 (by omega), two2.mulW s1 (by omega), hs10.mono (by omega), by decide, (two2.mul s1).mulW hs10 (by omega), hs10.mulW hq10 (by omega), wn, (hs10.mul hq10).mono (by omega), ((hq10.sub s0).mul (hq10.sub hs10)).mono (by omega), by rw [List.length_map]; omega, hnx' _ _ _ _ _ ?_⟩
      rw [hv]
      exact Low.uniq (low_ok _ _ wn) (low_ok _ _ (by omega)) wn (by omega) (by grind)
    · simp only [F_place_poly, F_power, F_fraction_of, zEnum, LV.begin, at_0, at_1, at_2, at_3, at_m1a, at_m1b, at_m1c, at_m1d, at_m2b, at_m2c, decide_true, eq_self, Int.reduceEq, true_and, and_true, false_and, and_false, or_false, false_or, Int.reduceNeg, gIx, decide_false, Bool.and_true, Bool.true_and, Bool.or_true, wSeq, wSet, wAsg, wPar, wIf, wIfS, wTst, LV.wTru, LV.wNot, wAnd, wOr, wAndV, wOrV, wNotV, wOp, wUn, wV, wC, fCI, fAdd, fSub, fMul, fDiv, fMod, fPow, fNeg, fIx, fIs, fIsNot, fEq, fNe, fLt, fLe, fGt, fGe, wCB, wCons, wNil, w1, wApp, wIsi, isiB, bagD, isNonD, fLen, fAbs, fInt, fGcd, fList, fTuple, fRepr, fLz, fLen0, fLrv, fSum, fMax, fMin, fAll, fAny, seqD, rdL, rdW, fzL, fzW, unL, putS, RV.sl, wRet, wRetN, wNever, wNext, wDrop, wTup, wLst, outW, placeW, gN, gTu, gCo, gNi, wFor, zSeq, zr_0, zr_1, zr_2, zr_3, zr_4, nc_0, nc_1, nc_2, nc_3, nc_4, zEnum, zZip, ixD, tru, wCall, wCallK, wAppend, owW, wSl, fSl, wONone, wOSome, wLc, wYes, List.map, List.replicate, List.length, List.append, List.set, List.take, List.drop, List.getLast?, List.dropLast, List.filterMap, List.getElem?_cons_zero, List.getElem?_cons_succ, List.getElem?_nil, Nat.reduceAdd, Nat.reduceSub, Nat.reduceLT, List.cons_append, List.nil_append, Option.some.injEq, reduceCtorEq, reduceIte, Bool.not_true, Bool.not_false, Bool.false_eq_true, List.isEmpty, wForL, wLcL, enumD, zipD, wipeS, backS, List.all_cons, List.all_nil, List.getD_cons_zero, List.getD_cons_succ, notOw, intsOf, Option.map_some, exists_eq_left', Nat.zero_add, List.reverse_cons]
      refine ⟨s0.mono (by omega), hq10.mono (by omega), hs10.mono (by omega), 0 * q, -0 - q, 1, (p + q - 0) * (p + q - q), rfl, ?_⟩
      simp only [Int.reduceLT, decide_false, decide_true, Bool.false_eq_true, ↓reduceIte, pw0, pw1, List.sum_cons, List.sum_nil]
      rw [show 1 * (-0 - q) * 1 + (2 * 1 * (p + q) + 0) = 2 * p + q by omega]
      have c1s : sm 11 (-0 - q) := s0.neg.sub hq10
      have tw : sm 13 (2 * p + q) := ((two2.mul hp10).add (hq10.mono (by omega)))
      have wn : (p + q - 0) * (p + q - q) ≠ 0 := Int.mul_ne_zero (by omega) (by omega)
      refine ⟨s1.mulW c1s (by omega), hs10.mono (by omega), by decide, (s1.mul c1s).mulW s1 (by omega), two2.mulW s1 (by omega), hs10.mono (by omega), by decide, (two2.mul s1).mulW hs10 (by omega), tw.mulW hq10 (by omega), wn, (tw.mul hq10).mono (by omega), ((hs10.sub s0).mul (hs10.sub hq10)).mono (by omega), by rw [List.length_map]; omega, hnx' _ _ _ _ _ ?_⟩
      rw [hv]
      have wm : (p + q) * p ≠ 0 := Int.mul_ne_zero (by omega) (by omega)
      exact Low.uniq (low_ok _ _ wn) (low_ok _ _ wm) wn wm (by grind)
  · rintro done s ⟨hx, x4, x5, x6, x7, rfl⟩
    rw [List.append_nil] at hx
    subst hx
    simp only [LV.begin, at_0, at_1, at_2, at_3, at_m1a, at_m1b, at_m1c, at_m1d, at_m2b, at_m2c, decide_true, eq_self, Int.reduceEq, true_and, and_true, false_and, and_false, or_false, false_or, Int.reduceNeg, gIx, decide_false, Bool.and_true, Bool.true_and, Bool.or_true, wSeq, wSet, wAsg, wPar, wIf, wIfS, wTst, LV.wTru, LV.wNot, wAnd, wOr, wAndV, wOrV, wNotV, wOp, wUn, wV, wC, fCI, fAdd, fSub, fMul, fDiv, fMod, fPow, fNeg, fIx, fIs, fIsNot, fEq, fNe, fLt, fLe, fGt, fGe, wCB, wCons, wNil, w1, wApp, wIsi, isiB, bagD, isNonD, fLen, fAbs, fInt, fGcd, fList, fTuple, fRepr, fLz, fLen0, fLrv, fSum, fMax, fMin, fAll, fAny, seqD, rdL, rdW, fzL, fzW, unL, putS, RV.sl, wRet, wRetN, wNever, wNext, wDrop, wTup, wLst, outW, placeW, gN, gTu, gCo, gNi, wFor, zSeq, zr_0, zr_1, zr_2, zr_3, zr_4, nc_0, nc_1, nc_2, nc_3, nc_4, zEnum, zZip, ixD, tru, wCall, wCallK, wAppend, owW, wSl, fSl, wONone, wOSome, wLc, wYes, List.map, List.replicate, List.length, List.append, List.set, List.take, List.drop, List.getLast?, List.dropLast, List.filterMap, List.getElem?_cons_zero, List.getElem?_cons_succ, List.getElem?_nil, Nat.reduceAdd, Nat.reduceSub, Nat.reduceLT, List.cons_append, List.nil_append, Option.some.injEq, reduceCtorEq, reduceIte, Bool.not_true, Bool.not_false, Bool.false_eq_true, List.isEmpty]
    exact hq
theorem p_uneven_backward {K : PySem.W.Frag} : ∀ ds Qf, F_uneven_backward ds Qf → ds.length = 1 ∧ W_uneven_backward K { nx := fun _ => Qf (.sh .non), rt := Qf } (begin 3 ds) := by
  intro ds Qf h
  obtain ⟨p, q, rfl, hpq, hq⟩ := h
  refine ⟨rfl, ?_⟩
  simp only [W_uneven_backward, F_whole_row, F_slope_weights, LV.begin, at_0, at_1, at_2, at_3, at_m1a, at_m1b, at_m1c, at_m1d, at_m2b, at_m2c, decide_true, eq_self, Int.reduceEq, true_and, and_true, false_and, and_false, or_false, false_or, Int.reduceNeg, gIx, decide_false, Bool.and_true, Bool.true_and, Bool.or_true, wSeq, wSet, wAsg, wPar, wIf, wIfS, wTst, LV.wTru, LV.wNot, wAnd, wOr, wAndV, wOrV, wNotV, wOp, wUn, wV, wC, fCI, fAdd, fSub, fMul, fDiv, fMod, fPow, fNeg, fIx, fIs, fIsNot, fEq, fNe, fLt, fLe, fGt, fGe, wCB, wCons, wNil, w1, wApp, wIsi, isiB, bagD, isNonD, fLen, fAbs, fInt, fGcd, fList, fTuple, fRepr, fLz, fLen0, fLrv, fSum, fMax, fMin, fAll, fAny, seqD, rdL, rdW, fzL, fzW, unL, putS, RV.sl, wRet, wRetN, wNever, wNext, wDrop, wTup, wLst, outW, placeW, gN, gTu, gCo, gNi, wFor, zSeq, zr_0, zr_1, zr_2, zr_3, zr_4, nc_0, nc_1, nc_2, nc_3, nc_4, zEnum, zZip, ixD, tru, wCall, wCallK, wAppend, owW, wSl, fSl, wONone, wOSome, wLc, wYes, List.map, List.replicate, List.length, List.append, List.set, List.take, List.drop, List.getLast?, List.dropLast, List.filterMap, List.getElem?_cons_zero, List.getElem?_cons_succ, List.getElem?_nil, Nat.reduceAdd, Nat.reduceSub, Nat.reduceLT, List.cons_append, List.nil_append, Option.some.injEq, reduceCtorEq, reduceIte, Bool.not_true, Bool.not_false, Bool.false_eq_true, List.isEmpty, wForL, wLcL, enumD, zipD, wipeS, backS, List.all_cons, List.all_nil, List.getD_cons_zero, List.getD_cons_succ, notOw, intsOf, Option.map_some, exists_eq_left', Nat.zero_add, List.reverse_cons]
  exact ⟨p, q, rfl, hpq, p, q, rfl, hpq, hq⟩
theorem _root_.LV.Low.sm1 {x : Fr} {A B : Int} {n : Nat} (h : Low x A B) (hB : B ≠ 0) (s : sm n A) : sm n x.1 := s.le (h.le1 hB)
theorem _root_.LV.Low.sm2 {x : Fr} {A B : Int} {n : Nat} (h : Low x A B) (hB : B ≠ 0) (s : sm n B) : sm n x.2 := s.le (h.le2 hB)
theorem share_low {w : Fr} (h : Qt w) : Low (low (shA w) (shB w)) (shA w) (shB w) := low_ok _ _ (by have := h.pB; omega)
theorem p_quotient_sum {K : PySem.W.Frag} : ∀ ds Qf, F_quotient_sum ds Qf → ds.length = 1 ∧ W_quotient_sum K { nx := fun _ => Qf (.sh .non), rt := Qf } (begin 4 ds) := by
  intro ds Qf h
  obtain ⟨l, rfl, ⟨hl, hw⟩, hq⟩ := h
  refine ⟨rfl, ?_⟩
  simp only [W_quotient_sum, LV.begin, at_0, at_1, at_2, at_3, at_m1a, at_m1b, at_m1c, at_m1d, at_m2b, at_m2c, decide_true, eq_self, Int.reduceEq, true_and, and_true, false_and, and_false, or_false, false_or, Int.reduceNeg, gIx, decide_false, Bool.and_true, Bool.true_and, Bool.or_true, wSeq, wSet, wAsg, wPar, wIf, wIfS, wTst, LV.wTru, LV.wNot, wAnd, wOr, wAndV, wOrV, wNotV, wOp, wUn, wV, wC, fCI, fAdd, fSub, fMul, fDiv, fMod, fPow, fNeg, fIx, fIs, fIsNot, fEq, fNe, fLt, fLe, fGt, fGe, wCB, wCons, wNil, w1, wApp, wIsi, isiB, bagD, isNonD, fLen, fAbs, fInt, fGcd, fList, fTuple, fRepr, fLz, fLen0, fLrv, fSum, fMax, fMin, fAll, fAny, seqD, rdL, rdW, fzL, fzW, unL, putS, RV.sl, wRet, wRetN, wNever, wNext, wDrop, wTup, wLst, outW, placeW, gN, gTu, gCo, gNi, wFor, zSeq, zr_0, zr_1, zr_2, zr_3, zr_4, nc_0, nc_1, nc_2, nc_3, nc_4, zEnum, zZip, ixD, tru, wCall, wCallK, wAppend, owW, wSl, fSl, wONone, wOSome, wLc, wYes, List.map, List.replicate, List.length, List.append, List.set, List.take, List.drop, List.getLast?, List.dropLast, List.filterMap, List.getElem?_cons_zero, List.getElem?_cons_succ, List.getElem?_nil, Nat.reduceAdd, Nat.reduceSub, Nat.reduceLT, List.cons_append, List.nil_append, Option.some.injEq, reduceCtorEq, reduceIte, Bool.not_true, Bool.not_false, Bool.false_eq_true, List.isEmpty]
  refine ⟨by decide, by decide, _, rfl, ?_⟩
  refine forL fD (fun done rest s => done ++ rest = l ∧ ∃ x, s = [.sh (.tup (l.map fD)), .sh (fD (low (sm3 done).a (sm3 done).b)), .sh (fD (low (sm3 done).p (sm3 done).b)), x]) ?_ ?_ l [] _ ⟨rfl, .un, rfl⟩
  · rintro done v rest s nx ⟨hx, x, rfl⟩ hnx
    have hv : Qt v := hw v (by rw [← hx]; simp)
    have hd : done.length + 1 ≤ 40 := by rw [← hx, List.length_append, List.length_cons] at hl; omega
    have ok := sm3_ok done fun w h => hw w (by rw [← hx]; simp [h])
    have ok2 := ok.go hv
    have hb : (sm3 done).b ≠ 0 := by have := ok.b; omega
    have hb2 : ((sm3 done).go v).b ≠ 0 := by have := ok2.b; omega
    have la := low_ok (sm3 done).a (sm3 done).b hb
    have lp := low_ok (sm3 done).p (sm3 done).b hb
    have ls := share_low hv
    have hB : shB v ≠ 0 := by have := hv.pB; omega
    simp only [F_quotient_share, F_fraction_times, F_fraction_sum, LV.begin, at_0, at_1, at_2, at_3, at_m1a, at_m1b, at_m1c, at_m1d, at_m2b, at_m2c, decide_true, eq_self, Int.reduceEq, true_and, and_true, false_and, and_false, or_false, false_or, Int.reduceNeg, gIx, decide_false, Bool.and_true, Bool.true_and, Bool.or_true, wSeq, wSet, wAsg, wPar, wIf, wIfS, wTst, LV.wTru, LV.wNot, wAnd, wOr, wAndV, wOrV, wNotV, wOp, wUn, wV, wC, fCI, fAdd, fSub, fMul, fDiv, fMod, fPow, fNeg, fIx, fIs, fIsNot, fEq, fNe, fLt, fLe, fGt, fGe, wCB, wCons, wNil, w1, wApp, wIsi, isiB, bagD, isNonD, fLen, fAbs, fInt, fGcd, fList, fTuple, fRepr, fLz, fLen0, fLrv, fSum, fMax, fMin, fAll, fAny, seqD, rdL, rdW, fzL, fzW, unL, putS, RV.sl, wRet, wRetN, wNever, wNext, wDrop, wTup, wLst, outW, placeW, gN, gTu, gCo, gNi, wFor, zSeq, zr_0, zr_1, zr_2, zr_3, zr_4, nc_0, nc_1, nc_2, nc_3, nc_4, zEnum, zZip, ixD, tru, wCall, wCallK, wAppend, owW, wSl, fSl, wONone, wOSome, wLc, wYes, List.map, List.replicate, List.length, List.append, List.set, List.take, List.drop, List.getLast?, List.dropLast, List.filterMap, List.getElem?_cons_zero, List.getElem?_cons_succ, List.getElem?_nil, Nat.reduceAdd, Nat.reduceSub, Nat.reduceLT, List.cons_append, List.nil_append, Option.some.injEq, reduceCtorEq, reduceIte, Bool.not_true, Bool.not_false, Bool.false_eq_true, List.isEmpty]
    generalize e1 : low (shA v) (shB v) = sv at *
    generalize e2 : low (sm3 done).p (sm3 done).b = pv at *
    generalize e3 : low (sm3 done).a (sm3 done).b = av at *
    have n1 : pv.2 * sv.2 ≠ 0 := Int.mul_ne_zero (by have := lp.pos; omega) (by have := ls.pos; omega)
    have lpp := low_ok (pv.1 * sv.1) (pv.2 * sv.2) n1
    have e4 : low (pv.1 * sv.1) (pv.2 * sv.2) = low ((sm3 done).go v).p ((sm3 done).go v).b := by
      refine Low.uniq lpp (low_ok _ _ hb2) n1 hb2 ?_
      have h1 := lp.eq
      have h2 := ls.eq
      show pv.1 * sv.1 * ((sm3 done).b * shB v) = (sm3 done).p * shA v * (pv.2 * sv.2)
      have : pv.1 * sv.1 * ((sm3 done).b * shB v) = (pv.1 * (sm3 done).b) * (sv.1 * shB v) := by grind
      rw [this, h1, h2]; grind
    rw [e4] at lpp ⊢
    have lp2 := low_ok ((sm3 done).go v).p ((sm3 done).go v).b hb2
    generalize e5 : low ((sm3 done).go v).p ((sm3 done).go v).b = pv2 at *
    have n2 : av.2 * pv2.2 ≠ 0 := Int.mul_ne_zero (by have := la.pos; omega) (by have := lp2.pos; omega)
    have e6 : low (av.1 * pv2.2 + pv2.1 * av.2) (av.2 * pv2.2) = low ((sm3 done).go v).a ((sm3 done).go v).b := by
      refine Low.uniq (low_ok _ _ n2) (low_ok _ _ hb2) n2 hb2 ?_
      have h1 := la.eq
      have h2 := lp2.eq
      have a1 : av.1 * ((sm3 done).go v).b = (sm3 done).a * shB v * av.2 := by
        show av.1 * ((sm3 done).b * shB v) = _
        rw [← Int.mul_assoc, h1]; grind
      have a2 : ((sm3 done).go v).a = (sm3 done).a * shB v + ((sm3 done).go v).p := rfl
      rw [a2]
      have : (av.1 * pv2.2 + pv2.1 * av.2) * ((sm3 done).go v).b = (av.1 * ((sm3 done).go v).b) * pv2.2 + (pv2.1 * ((sm3 done).go v).b) * av.2 := by grind
      rw [this, a1, h2]; grind
    refine ⟨hv, by have := lp.pos; omega, by have := ls.pos; omega, (lp.sm1 hb ok.sp).mono (by omega), (lp.sm2 hb ok.sb).mono (by omega), (ls.sm1 hB hv.sA).mono (by omega), (ls.sm2 hB hv.sB).mono (by omega), by have := la.pos; omega, by have := lp2.pos; omega, (la.sm1 hb ok.sa).mono (by omega), (la.sm2 hb ok.sb).mono (by omega), (lp2.sm1 hb2 ok2.sp).mono (by omega), (lp2.sm2 hb2 ok2.sb).mono (by omega), ?_⟩
    rw [e6]
    refine hnx _ ⟨by simpa using hx, .sh (fD v), ?_⟩
    rw [sm3_snoc, e5]
  · rintro done s ⟨hx, x, rfl⟩
    rw [List.append_nil] at hx
    subst hx
    simp only [LV.begin, at_0, at_1, at_2, at_3, at_m1a, at_m1b, at_m1c, at_m1d, at_m2b, at_m2c, decide_true, eq_self, Int.reduceEq, true_and, and_true, false_and, and_false, or_false, false_or, Int.reduceNeg, gIx, decide_false, Bool.and_true, Bool.true_and, Bool.or_true, wSeq, wSet, wAsg, wPar, wIf, wIfS, wTst, LV.wTru, LV.wNot, wAnd, wOr, wAndV, wOrV, wNotV, wOp, wUn, wV, wC, fCI, fAdd, fSub, fMul, fDiv, fMod, fPow, fNeg, fIx, fIs, fIsNot, fEq, fNe, fLt, fLe, fGt, fGe, wCB, wCons, wNil, w1, wApp, wIsi, isiB, bagD, isNonD, fLen, fAbs, fInt, fGcd, fList, fTuple, fRepr, fLz, fLen0, fLrv, fSum, fMax, fMin, fAll, fAny, seqD, rdL, rdW, fzL, fzW, unL, putS, RV.sl, wRet, wRetN, wNever, wNext, wDrop, wTup, wLst, outW, placeW, gN, gTu, gCo, gNi, wFor, zSeq, zr_0, zr_1, zr_2, zr_3, zr_4, nc_0, nc_1, nc_2, nc_3, nc_4, zEnum, zZip, ixD, tru, wCall, wCallK, wAppend, owW, wSl, fSl, wONone, wOSome, wLc, wYes, List.map, List.replicate, List.length, List.append, List.set, List.take, List.drop, List.getLast?, List.dropLast, List.filterMap, List.getElem?_cons_zero, List.getElem?_cons_succ, List.getElem?_nil, Nat.reduceAdd, Nat.reduceSub, Nat.reduceLT, List.cons_append, List.nil_append, Option.some.injEq, reduceCtorEq, reduceIte, Bool.not_true, Bool.not_false, Bool.false_eq_true, List.isEmpty]
    exact hq
/-- along the run: the last value, and the last gap -/
theorem run_step {f s l1 l0 : Fr} {t : Sm3} {w : Fr} {n : Nat} (hf : Vl f) (hs : Vl s) (ok : SmOk n t) (hn : n + 1 ≤ 40) (hw : Qt w) (h1 : Low l1 (dueA f s t) (dueB f s t)) (p0 : 0 < l0.2) (b0 : sm 1100 l0.1 ∧ sm 1100 l0.2)
    (gap : (l1.1 * l0.2 - l0.1 * l1.2) * dueB f s t = (s.1 * f.2 - f.1 * s.2) * t.p * (l1.2 * l0.2)) :
    ∃ gp mo : Fr, gp = low (l1.1 * l0.2 - l0.1 * l1.2) (l1.2 * l0.2) ∧ mo = low ((low (shA w) (shB w)).1 * gp.1) ((low (shA w) (shB w)).2 * gp.2) ∧ low (l1.1 * mo.2 + mo.1 * l1.2) (l1.2 * mo.2) = low (dueA f s (t.go w)) (dueB f s (t.go w)) ∧
      0 < gp.2 ∧ sm 1900 gp.1 ∧ sm 1900 gp.2 ∧ 0 < mo.2 ∧ sm 1900 mo.1 ∧ sm 1900 mo.2 ∧
      ∀ x : Fr, Low x (dueA f s (t.go w)) (dueB f s (t.go w)) → (x.1 * l1.2 - l1.1 * x.2) * dueB f s (t.go w) = (s.1 * f.2 - f.1 * s.2) * (t.go w).p * (x.2 * l1.2) := by
  have ok2 := ok.go hw
  have B1 := dueB_pos hf hs ok
  have B2 := dueB_pos hf hs ok2
  have ls := share_low hw
  have hB := hw.pB
  have q1 := h1.pos
  have n1 : l1.2 * l0.2 ≠ 0 := Int.mul_ne_zero (by omega) (by omega)
  have lg := low_ok (l1.1 * l0.2 - l0.1 * l1.2) (l1.2 * l0.2) n1
  generalize eg : low (l1.1 * l0.2 - l0.1 * l1.2) (l1.2 * l0.2) = gp at *
  generalize es : low (shA w) (shB w) = sv at *
  have ps := ls.pos
  have pg := lg.pos
  have n2 : sv.2 * gp.2 ≠ 0 := Int.mul_ne_zero (by omega) (by omega)
  have lm := low_ok (sv.1 * gp.1) (sv.2 * gp.2) n2
  generalize em : low (sv.1 * gp.1) (sv.2 * gp.2) = mo at *
  have pm := lm.pos
  have n3 : l1.2 * mo.2 ≠ 0 := Int.mul_ne_zero (by omega) (by omega)
  -- the gap by itself
  have gB : gp.1 * dueB f s t = (s.1 * f.2 - f.1 * s.2) * t.p * gp.2 := by
    refine Int.eq_of_mul_eq_mul_right n1 ?_
    have e := lg.eq
    have : gp.1 * dueB f s t * (l1.2 * l0.2) = (gp.1 * (l1.2 * l0.2)) * dueB f s t := by grind
    rw [this, e]
    have : (l1.1 * l0.2 - l0.1 * l1.2) * gp.2 * dueB f s t = ((l1.1 * l0.2 - l0.1 * l1.2) * dueB f s t) * gp.2 := by grind
    rw [this, gap]; grind
  have eB : dueB f s (t.go w) = dueB f s t * shB w := by
    show f.2 * s.2 * (t.b * shB w) = f.2 * s.2 * t.b * shB w
    grind
  have mB : mo.1 * dueB f s (t.go w) = (s.1 * f.2 - f.1 * s.2) * (t.go w).p * mo.2 := by
    refine Int.eq_of_mul_eq_mul_right n2 ?_
    have e := lm.eq
    have e2 := ls.eq
    have a1 : mo.1 * dueB f s (t.go w) * (sv.2 * gp.2) = (mo.1 * (sv.2 * gp.2)) * dueB f s (t.go w) := by grind
    rw [a1, e, eB]
    have a2 : sv.1 * gp.1 * mo.2 * (dueB f s t * shB w) = (sv.1 * shB w) * (gp.1 * dueB f s t) * mo.2 := by grind
    rw [a2, e2, gB]
    show _ = (s.1 * f.2 - f.1 * s.2) * (t.p * shA w) * mo.2 * (sv.2 * gp.2)
    grind
  have eA : dueA f s (t.go w) = dueA f s t * shB w + (s.1 * f.2 - f.1 * s.2) * (t.go w).p := by
    show s.1 * f.2 * (t.b * shB w) + (s.1 * f.2 - f.1 * s.2) * (t.a * shB w + t.p * shA w) = (s.1 * f.2 * t.b + (s.1 * f.2 - f.1 * s.2) * t.a) * shB w + (s.1 * f.2 - f.1 * s.2) * (t.p * shA w)
    grind
  have bB : dueB f s (t.go w) ≠ 0 := by omega
  have bG : sm 1100 (dueB f s (t.go w)) := dueB_sm hf hs ok2 hn
  have Gs : sm 21 (s.1 * f.2 - f.1 * s.2) := (hs.s1.mul hf.s2).sub (hf.s1.mul hs.s2)
  have lgB : Low gp ((s.1 * f.2 - f.1 * s.2) * t.p) (dueB f s t) := ⟨lg.pos, lg.cop, gB⟩
  have lmB : Low mo ((s.1 * f.2 - f.1 * s.2) * (t.go w).p) (dueB f s (t.go w)) := ⟨lm.pos, lm.cop, mB⟩
  refine ⟨gp, mo, rfl, em.symm, ?_, pg, ?_, ?_, pm, ?_, ?_, fun x hx => ?_⟩
  · refine Low.uniq (low_ok _ _ n3) (low_ok _ _ bB) n3 bB ?_
    have e1 := h1.eq
    have a1 : (l1.1 * mo.2 + mo.1 * l1.2) * dueB f s (t.go w) = l1.1 * dueB f s (t.go w) * mo.2 + (mo.1 * dueB f s (t.go w)) * l1.2 := by grind
    rw [a1, mB, eB, eA]
    have a2 : l1.1 * (dueB f s t * shB w) = (l1.1 * dueB f s t) * shB w := by grind
    rw [a2, e1]; grind
  · exact (lgB.sm1 (by omega) (Gs.mul ok.sp)).mono (by omega)
  · exact (lgB.sm2 (by omega) (dueB_sm hf hs ok (by omega))).mono (by omega)
  · exact (lmB.sm1 bB (Gs.mul ok2.sp)).mono (by omega)
  · exact (lmB.sm2 bB bG).mono (by omega)
  · have e1 := h1.eq
    have e2 := hx.eq
    have a1 : (x.1 * l1.2 - l1.1 * x.2) * dueB f s (t.go w) = (x.1 * dueB f s (t.go w)) * l1.2 - (l1.1 * dueB f s (t.go w)) * x.2 := by grind
    rw [a1, e2, eA, eB]
    have a2 : l1.1 * (dueB f s t * shB w) = (l1.1 * dueB f s t) * shB w := by grind
    rw [a2, e1]; grind
theorem vl_low {x : Fr} (h : Vl x) : x = low x.1 x.2 := Low.uniq ⟨h.1, h.2.2.2.2, rfl⟩ (low_ok _ _ (by have := h.1; omega)) (by have := h.1; omega) (by have := h.1; omega) rfl
theorem due0 {f s : Fr} (hf : Vl f) (hs : Vl s) : s = low (dueA f s ⟨0, 1, 1⟩) (dueB f s ⟨0, 1, 1⟩) := by
  have a := hf.1
  have b := hs.1
  have n : dueB f s ⟨0, 1, 1⟩ ≠ 0 := by
    have : dueB f s ⟨0, 1, 1⟩ = f.2 * s.2 := by show f.2 * s.2 * 1 = _; omega
    rw [this]; exact Int.mul_ne_zero (by omega) (by omega)
  refine Low.uniq ⟨b, hs.2.2.2.2, rfl⟩ (low_ok _ _ n) (by omega) n ?_
  show s.1 * (f.2 * s.2 * 1) = (s.1 * f.2 * 1 + (s.1 * f.2 - f.1 * s.2) * 0) * s.2
  grind
theorem p_quotient_run {K : PySem.W.Frag} : ∀ ds Qf, F_quotient_run ds Qf → ds.length = 3 ∧ W_quotient_run K { nx := fun _ => Qf (.sh .non), rt := Qf } (begin 6 ds) := by
  intro ds Qf h
  obtain ⟨l, f, s, rfl, ⟨hl, hw⟩, hf, hs, hq⟩ := h
  refine ⟨rfl, ?_⟩
  simp only [W_quotient_run, LV.begin, at_0, at_1, at_2, at_3, at_m1a, at_m1b, at_m1c, at_m1d, at_m2b, at_m2c, decide_true, eq_self, Int.reduceEq, true_and, and_true, false_and, and_false, or_false, false_or, Int.reduceNeg, gIx, decide_false, Bool.and_true, Bool.true_and, Bool.or_true, wSeq, wSet, wAsg, wPar, wIf, wIfS, wTst, LV.wTru, LV.wNot, wAnd, wOr, wAndV, wOrV, wNotV, wOp, wUn, wV, wC, fCI, fAdd, fSub, fMul, fDiv, fMod, fPow, fNeg, fIx, fIs, fIsNot, fEq, fNe, fLt, fLe, fGt, fGe, wCB, wCons, wNil, w1, wApp, wIsi, isiB, bagD, isNonD, fLen, fAbs, fInt, fGcd, fList, fTuple, fRepr, fLz, fLen0, fLrv, fSum, fMax, fMin, fAll, fAny, seqD, rdL, rdW, fzL, fzW, unL, putS, RV.sl, wRet, wRetN, wNever, wNext, wDrop, wTup, wLst, outW, placeW, gN, gTu, gCo, gNi, wFor, zSeq, zr_0, zr_1, zr_2, zr_3, zr_4, nc_0, nc_1, nc_2, nc_3, nc_4, zEnum, zZip, ixD, tru, wCall, wCallK, wAppend, owW, wSl, fSl, wONone, wOSome, wLc, wYes, List.map, List.replicate, List.length, List.append, List.set, List.take, List.drop, List.getLast?, List.dropLast, List.filterMap, List.getElem?_cons_zero, List.getElem?_cons_succ, List.getElem?_nil, Nat.reduceAdd, Nat.reduceSub, Nat.reduceLT, List.cons_append, List.nil_append, Option.some.injEq, reduceCtorEq, reduceIte, Bool.not_true, Bool.not_false, Bool.false_eq_true, List.isEmpty]
  refine ⟨by decide, _, rfl, ?_⟩
  refine forL fD (fun done rest σ => done ++ rest = l ∧ ∃ (fs : List D) (l0 l1 : Fr) (x y : Sl), (runL done f s).map fD = fs ++ [fD l0, fD l1] ∧ fs.length = done.length ∧ l1 = low (dueA f s (sm3 done)) (dueB f s (sm3 done)) ∧ 0 < l0.2 ∧ sm 1100 l0.1 ∧ sm 1100 l0.2 ∧
    (l1.1 * l0.2 - l0.1 * l1.2) * dueB f s (sm3 done) = (s.1 * f.2 - f.1 * s.2) * (sm3 done).p * (l1.2 * l0.2) ∧ σ = [.sh (.tup (l.map fD)), .sh (fD f), .sh (fD s), .ow (fs ++ [fD l0, fD l1]), x, y]) ?_ ?_ l [] _ ⟨rfl, [], f, s, .un, .un, ?_, rfl, due0 hf hs, hf.1, hf.s1.mono (by omega), hf.s2.mono (by omega), ?_, rfl⟩
  · rintro done v rest σ nx ⟨hx, fs, l0, l1, x, y, hrun, hfs, e1, p0, b1, b2, gap, rfl⟩ hnx
    have hv : Qt v := hw v (by rw [← hx]; simp)
    have hd : done.length + 1 ≤ 40 := by rw [← hx, List.length_append, List.length_cons] at hl; omega
    have ok := sm3_ok done fun w h => hw w (by rw [← hx]; simp [h])
    have hb := dueB_pos hf hs ok
    have h1 : Low l1 (dueA f s (sm3 done)) (dueB f s (sm3 done)) := by rw [e1]; exact low_ok _ _ (by omega)
    obtain ⟨gp, mo, eg, em, en, pg, g1, g2, pm, m1, m2, hgap⟩ := run_step hf hs ok hd hv h1 p0 ⟨b1, b2⟩ gap
    have ls := share_low hv
    have hB : shB v ≠ 0 := by have := hv.pB; omega
    have i1 : atI (fs ++ [fD l0, fD l1]) (-1) = some (fD l1) := by
      have : fs ++ [fD l0, fD l1] = (fs ++ [fD l0]) ++ [fD l1] := by simp
      rw [this]; exact at_m1
    have i2 : atI (fs ++ [fD l0, fD l1]) (-2) = some (fD l0) := at_m2
    simp only [i1, i2, F_quotient_share, F_fraction_times, F_fraction_less, F_fraction_sum, LV.begin, at_0, at_1, at_2, at_3, at_m1a, at_m1b, at_m1c, at_m1d, at_m2b, at_m2c, decide_true, eq_self, Int.reduceEq, true_and, and_true, false_and, and_false, or_false, false_or, Int.reduceNeg, gIx, decide_false, Bool.and_true, Bool.true_and, Bool.or_true, wSeq, wSet, wAsg, wPar, wIf, wIfS, wTst, LV.wTru, LV.wNot, wAnd, wOr, wAndV, wOrV, wNotV, wOp, wUn, wV, wC, fCI, fAdd, fSub, fMul, fDiv, fMod, fPow, fNeg, fIx, fIs, fIsNot, fEq, fNe, fLt, fLe, fGt, fGe, wCB, wCons, wNil, w1, wApp, wIsi, isiB, bagD, isNonD, fLen, fAbs, fInt, fGcd, fList, fTuple, fRepr, fLz, fLen0, fLrv, fSum, fMax, fMin, fAll, fAny, seqD, rdL, rdW, fzL, fzW, unL, putS, RV.sl, wRet, wRetN, wNever, wNext, wDrop, wTup, wLst, outW, placeW, gN, gTu, gCo, gNi, wFor, zSeq, zr_0, zr_1, zr_2, zr_3, zr_4, nc_0, nc_1, nc_2, nc_3, nc_4, zEnum, zZip, ixD, tru, wCall, wCallK, wAppend, owW, wSl, fSl, wONone, wOSome, wLc, wYes, List.map, List.replicate, List.length, List.append, List.set, List.take, List.drop, List.getLast?, List.dropLast, List.filterMap, List.getElem?_cons_zero, List.getElem?_cons_succ, List.getElem?_nil, Nat.reduceAdd, Nat.reduceSub, Nat.reduceLT, List.cons_append, List.nil_append, Option.some.injEq, reduceCtorEq, reduceIte, Bool.not_true, Bool.not_false, Bool.false_eq_true, List.isEmpty]
    have q1 := h1.pos
    have q3 : sm 1100 l1.1 := h1.sm1 (by omega) (dueA_sm hf hs ok (by omega))
    have q4 : sm 1100 l1.2 := h1.sm2 (by omega) (dueB_sm hf hs ok (by omega))
    refine ⟨hv, by omega, by omega, q3.mono (by omega), q4.mono (by omega), b1.mono (by omega), b2.mono (by omega), ?_⟩
    rw [← eg]
    have ev : (v.fst, v.snd) = v := rfl
    rw [ev, ← em, en]
    refine ⟨by have := ls.pos; omega, by omega, (ls.sm1 hB hv.sA).mono (by omega), (ls.sm2 hB hv.sB).mono (by omega), g1.mono (by omega), g2.mono (by omega), by omega, by omega, q3.mono (by omega), q4.mono (by omega), m1.mono (by omega), m2.mono (by omega), ?_, ?_⟩
    · rw [List.length_append, hfs]; simp; omega
    · have ok2 := ok.go hv
      have b2 := dueB_pos hf hs ok2
      refine hnx _ ⟨by simpa using hx, fs ++ [fD l0], l1, low (dueA f s ((sm3 done).go v)) (dueB f s ((sm3 done).go v)), .sh (fD v), .sh (fD mo), ?_, by simp [hfs], ?_, q1, q3, q4, ?_, ?_⟩
      · have e : (done ++ [v]).foldl Sm3.go ⟨0, 1, 1⟩ = (sm3 done).go v := sm3_snoc done v
        unfold runL at hrun ⊢
        rw [sumsL_snoc, e, List.map_append, ← List.cons_append, List.map_append, hrun]
        simp
      · rw [sm3_snoc]
      · rw [sm3_snoc]
        exact hgap _ (low_ok _ _ (by omega))
      · simp
  · rintro done σ ⟨hx, fs, l0, l1, x, y, hrun, _, _, _, _, _, _, rfl⟩
    rw [List.append_nil] at hx
    subst hx
    simp only [LV.begin, at_0, at_1, at_2, at_3, at_m1a, at_m1b, at_m1c, at_m1d, at_m2b, at_m2c, decide_true, eq_self, Int.reduceEq, true_and, and_true, false_and, and_false, or_false, false_or, Int.reduceNeg, gIx, decide_false, Bool.and_true, Bool.true_and, Bool.or_true, wSeq, wSet, wAsg, wPar, wIf, wIfS, wTst, LV.wTru, LV.wNot, wAnd, wOr, wAndV, wOrV, wNotV, wOp, wUn, wV, wC, fCI, fAdd, fSub, fMul, fDiv, fMod, fPow, fNeg, fIx, fIs, fIsNot, fEq, fNe, fLt, fLe, fGt, fGe, wCB, wCons, wNil, w1, wApp, wIsi, isiB, bagD, isNonD, fLen, fAbs, fInt, fGcd, fList, fTuple, fRepr, fLz, fLen0, fLrv, fSum, fMax, fMin, fAll, fAny, seqD, rdL, rdW, fzL, fzW, unL, putS, RV.sl, wRet, wRetN, wNever, wNext, wDrop, wTup, wLst, outW, placeW, gN, gTu, gCo, gNi, wFor, zSeq, zr_0, zr_1, zr_2, zr_3, zr_4, nc_0, nc_1, nc_2, nc_3, nc_4, zEnum, zZip, ixD, tru, wCall, wCallK, wAppend, owW, wSl, fSl, wONone, wOSome, wLc, wYes, List.map, List.replicate, List.length, List.append, List.set, List.take, List.drop, List.getLast?, List.dropLast, List.filterMap, List.getElem?_cons_zero, List.getElem?_cons_succ, List.getElem?_nil, Nat.reduceAdd, Nat.reduceSub, Nat.reduceLT, List.cons_append, List.nil_append, Option.some.injEq, reduceCtorEq, reduceIte, Bool.not_true, Bool.not_false, Bool.false_eq_true, List.isEmpty]
    rw [← hrun]; exact hq
  · show [fD f, fD (low (dueA f s ⟨0, 1, 1⟩) (dueB f s ⟨0, 1, 1⟩))] = _
    rw [← due0 hf hs]; rfl
  · show (s.1 * f.2 - f.1 * s.2) * (f.2 * s.2 * 1) = (s.1 * f.2 - f.1 * s.2) * 1 * (s.2 * f.2)
    grind
theorem share_mono {w g : Fr} (qw : Qt w) (hg : Qt g) (hle : w.1 * g.2 ≤ g.1 * w.2) : shA w * shB g ≤ shA g * shB w := by
  have h1 : 0 ≤ w.1 * g.2 := Int.mul_nonneg (by have := qw.1; omega) (by have := hg.2.2.1; omega)
  have h2 : (w.1 * g.2) * (w.1 * g.2) ≤ (g.1 * w.2) * (g.1 * w.2) := Int.mul_le_mul hle hle h1 (Int.le_trans h1 hle)
  have h3 : (2 * w.1 * g.1) * (w.1 * g.2) ≤ (2 * w.1 * g.1) * (g.1 * w.2) := Int.mul_le_mul_of_nonneg_left hle (Int.mul_nonneg (by have := qw.1; omega) (by have := hg.1; omega))
  have e1 : shA w * shB g = (w.1 * g.2) * (w.1 * g.2) + (2 * w.1 * g.1) * (w.1 * g.2) := by
    show w.1 * w.1 * (g.2 * g.2 + 2 * g.1 * g.2) = _
    grind
  have e2 : shA g * shB w = (g.1 * w.2) * (g.1 * w.2) + (2 * w.1 * g.1) * (g.1 * w.2) := by
    show g.1 * g.1 * (w.2 * w.2 + 2 * w.1 * w.2) = _
    grind
  omega
theorem calm_mono {w g : Fr} (qw : Qt w) (hg : Qt g) (hle : w.1 * g.2 ≤ g.1 * w.2) (h : shA g < shB g) : shA w < shB w := by
  have a := share_mono qw hg hle
  have b : shA g * shB w < shB g * shB w := Int.mul_lt_mul_of_pos_right h qw.pB
  have c : shA w * shB g < shB w * shB g := by rw [Int.mul_comm (shB w)]; omega
  exact Int.lt_of_mul_lt_mul_right c (Int.le_of_lt hg.pB)
/-- the sums stay below the geometric one -/
theorem sm3_bound (g : Fr) (hg : Qt g) (hc : shA g < shB g) (l : List Fr) : (∀ w ∈ l, Qt w ∧ w.1 * g.2 ≤ g.1 * w.2) → (sm3 l).a * (shB g - shA g) + shA g * (sm3 l).p ≤ shA g * (sm3 l).b := by
  refine snoc_ind (P := fun l => (∀ w ∈ l, Qt w ∧ w.1 * g.2 ≤ g.1 * w.2) → (sm3 l).a * (shB g - shA g) + shA g * (sm3 l).p ≤ shA g * (sm3 l).b) (fun _ => ?_) (fun l w ih h => ?_) l
  · show 0 * (shB g - shA g) + shA g * 1 ≤ shA g * 1
    omega
  · have ih := ih fun v hv => h v (by simp [hv])
    obtain ⟨qw, hle⟩ := h w (by simp)
    have ok := sm3_ok l fun v hv => (h v (by simp [hv])).1
    rw [sm3_snoc]
    have share := share_mono qw hg hle
    have a1 : shB w * ((sm3 l).a * (shB g - shA g) + shA g * (sm3 l).p) ≤ shB w * (shA g * (sm3 l).b) := Int.mul_le_mul_of_nonneg_left ih (by have := qw.pB; omega)
    have a2 : (sm3 l).p * (shA w * shB g) ≤ (sm3 l).p * (shA g * shB w) := Int.mul_le_mul_of_nonneg_left share (by have := ok.p; omega)
    show ((sm3 l).a * shB w + (sm3 l).p * shA w) * (shB g - shA g) + shA g * ((sm3 l).p * shA w) ≤ shA g * ((sm3 l).b * shB w)
    have e3 : ((sm3 l).a * shB w + (sm3 l).p * shA w) * (shB g - shA g) + shA g * ((sm3 l).p * shA w) = shB w * ((sm3 l).a * (shB g - shA g) + shA g * (sm3 l).p) - (sm3 l).p * (shA g * shB w) + (sm3 l).p * (shA w * shB g) := by grind
    have e4 : shA g * ((sm3 l).b * shB w) = shB w * (shA g * (sm3 l).b) := by grind
    omega
theorem p__law_is_bound_right {K : PySem.W.Frag} : ∀ ds Qf, F__law_is_bound_right ds Qf → ds.length = 2 ∧ W__law_is_bound_right K { nx := fun _ => Qf (.sh .non), rt := Qf } (begin 4 ds) := by
  intro ds Qf h
  obtain ⟨l, rfl, ⟨hl, hw⟩, hq⟩ := h
  refine ⟨rfl, ?_⟩
  have ok := sm3_ok l hw
  have hb : (sm3 l).b ≠ 0 := by have := ok.b; omega
  have lo := low_ok (sm3 l).a (sm3 l).b hb
  generalize ex : low (sm3 l).a (sm3 l).b = x at *
  unfold W__law_is_bound_right
  refine seq_cut (fun s => s = [.sh (.tup (l.map fD)), .sh (fD x), .un, .un] ∧ l ≠ [] ∧ ∀ g ∈ l, shA g < shB g) (fun nx hn => ?_) ?_
  · simp only [F__law_greatest, F__law_is_due_calm, LV.begin, at_0, at_1, at_2, at_3, at_m1a, at_m1b, at_m1c, at_m1d, at_m2b, at_m2c, decide_true, eq_self, Int.reduceEq, true_and, and_true, false_and, and_false, or_false, false_or, Int.reduceNeg, gIx, decide_false, Bool.and_true, Bool.true_and, Bool.or_true, wSeq, wSet, wAsg, wPar, wIf, wIfS, wTst, LV.wTru, LV.wNot, wAnd, wOr, wAndV, wOrV, wNotV, wOp, wUn, wV, wC, fCI, fAdd, fSub, fMul, fDiv, fMod, fPow, fNeg, fIx, fIs, fIsNot, fEq, fNe, fLt, fLe, fGt, fGe, wCB, wCons, wNil, w1, wApp, wIsi, isiB, bagD, isNonD, fLen, fAbs, fInt, fGcd, fList, fTuple, fRepr, fLz, fLen0, fLrv, fSum, fMax, fMin, fAll, fAny, seqD, rdL, rdW, fzL, fzW, unL, putS, RV.sl, wRet, wRetN, wNever, wNext, wDrop, wTup, wLst, outW, placeW, gN, gTu, gCo, gNi, wFor, zSeq, zr_0, zr_1, zr_2, zr_3, zr_4, nc_0, nc_1, nc_2, nc_3, nc_4, zEnum, zZip, ixD, tru, wCall, wCallK, wAppend, owW, wSl, fSl, wONone, wOSome, wLc, wYes, List.map, List.replicate, List.length, List.append, List.set, List.take, List.drop, List.getLast?, List.dropLast, List.filterMap, List.getElem?_cons_zero, List.getElem?_cons_succ, List.getElem?_nil, Nat.reduceAdd, Nat.reduceSub, Nat.reduceLT, List.cons_append, List.nil_append, Option.some.injEq, reduceCtorEq, reduceIte, Bool.not_true, Bool.not_false, Bool.false_eq_true, List.isEmpty]
    refine ⟨by decide, sha_pairs l, rfl, ?_⟩
    by_cases hl0 : l = []
    · subst hl0; exact hq
    · have e : eqD (.tup (l.map fD)) (.tup []) = false := by
        cases l with
        | nil => exact absurd rfl hl0
        | cons a b => rfl
      simp only [e, LV.begin, at_0, at_1, at_2, at_3, at_m1a, at_m1b, at_m1c, at_m1d, at_m2b, at_m2c, decide_true, eq_self, Int.reduceEq, true_and, and_true, false_and, and_false, or_false, false_or, Int.reduceNeg, gIx, decide_false, Bool.and_true, Bool.true_and, Bool.or_true, wSeq, wSet, wAsg, wPar, wIf, wIfS, wTst, LV.wTru, LV.wNot, wAnd, wOr, wAndV, wOrV, wNotV, wOp, wUn, wV, wC, fCI, fAdd, fSub, fMul, fDiv, fMod, fPow, fNeg, fIx, fIs, fIsNot, fEq, fNe, fLt, fLe, fGt, fGe, wCB, wCons, wNil, w1, wApp, wIsi, isiB, bagD, isNonD, fLen, fAbs, fInt, fGcd, fList, fTuple, fRepr, fLz, fLen0, fLrv, fSum, fMax, fMin, fAll, fAny, seqD, rdL, rdW, fzL, fzW, unL, putS, RV.sl, wRet, wRetN, wNever, wNext, wDrop, wTup, wLst, outW, placeW, gN, gTu, gCo, gNi, wFor, zSeq, zr_0, zr_1, zr_2, zr_3, zr_4, nc_0, nc_1, nc_2, nc_3, nc_4, zEnum, zZip, ixD, tru, wCall, wCallK, wAppend, owW, wSl, fSl, wONone, wOSome, wLc, wYes, List.map, List.replicate, List.length, List.append, List.set, List.take, List.drop, List.getLast?, List.dropLast, List.filterMap, List.getElem?_cons_zero, List.getElem?_cons_succ, List.getElem?_nil, Nat.reduceAdd, Nat.reduceSub, Nat.reduceLT, List.cons_append, List.nil_append, Option.some.injEq, reduceCtorEq, reduceIte, Bool.not_true, Bool.not_false, Bool.false_eq_true, List.isEmpty]
      refine ⟨l, rfl, ⟨hl, hw⟩, hl0, fun g hg hmax => ⟨hw g hg, ?_⟩⟩
      by_cases hc : shA g < shB g
      · have e1 : decide (shA (g.1, g.2) < shB (g.1, g.2)) = true := decide_eq_true hc
        rw [e1]
        exact hn _ ⟨rfl, hl0, fun v hv => calm_mono (hw v hv) (hw g hg) (hmax v hv) hc⟩
      · have e1 : decide (shA (g.1, g.2) < shB (g.1, g.2)) = false := decide_eq_false hc
        rw [e1]
        exact hq
  · rintro s ⟨rfl, hl0, hcalm⟩
    simp only [F__law_greatest, F__law_share, LV.begin, at_0, at_1, at_2, at_3, at_m1a, at_m1b, at_m1c, at_m1d, at_m2b, at_m2c, decide_true, eq_self, Int.reduceEq, true_and, and_true, false_and, and_false, or_false, false_or, Int.reduceNeg, gIx, decide_false, Bool.and_true, Bool.true_and, Bool.or_true, wSeq, wSet, wAsg, wPar, wIf, wIfS, wTst, LV.wTru, LV.wNot, wAnd, wOr, wAndV, wOrV, wNotV, wOp, wUn, wV, wC, fCI, fAdd, fSub, fMul, fDiv, fMod, fPow, fNeg, fIx, fIs, fIsNot, fEq, fNe, fLt, fLe, fGt, fGe, wCB, wCons, wNil, w1, wApp, wIsi, isiB, bagD, isNonD, fLen, fAbs, fInt, fGcd, fList, fTuple, fRepr, fLz, fLen0, fLrv, fSum, fMax, fMin, fAll, fAny, seqD, rdL, rdW, fzL, fzW, unL, putS, RV.sl, wRet, wRetN, wNever, wNext, wDrop, wTup, wLst, outW, placeW, gN, gTu, gCo, gNi, wFor, zSeq, zr_0, zr_1, zr_2, zr_3, zr_4, nc_0, nc_1, nc_2, nc_3, nc_4, zEnum, zZip, ixD, tru, wCall, wCallK, wAppend, owW, wSl, fSl, wONone, wOSome, wLc, wYes, List.map, List.replicate, List.length, List.append, List.set, List.take, List.drop, List.getLast?, List.dropLast, List.filterMap, List.getElem?_cons_zero, List.getElem?_cons_succ, List.getElem?_nil, Nat.reduceAdd, Nat.reduceSub, Nat.reduceLT, List.cons_append, List.nil_append, Option.some.injEq, reduceCtorEq, reduceIte, Bool.not_true, Bool.not_false, Bool.false_eq_true, List.isEmpty]
    refine ⟨l, rfl, ⟨hl, hw⟩, hl0, fun g hg hmax => ⟨hw g hg, ?_⟩⟩
    have qg := hw g hg
    have bound := sm3_bound g qg (hcalm g hg) l fun w h => ⟨hw w h, hmax w h⟩
    have x1 : sm 1000 x.1 := (lo.sm1 hb ok.sa).mono (by omega)
    have x2 : sm 1000 x.2 := (lo.sm2 hb ok.sb).mono (by omega)
    refine ⟨x1.mulW (((qg.sB.mono (by omega) : sm 30 _).sub (qg.sA.mono (by omega)))) (by omega), qg.sA.mulW x2 (by omega), ?_⟩
    have fin : x.1 * (shB g - shA g) < shA g * x.2 := by
      have e1 := lo.eq
      have p1 := lo.pos
      have p2 := ok.b
      have p3 : 0 < shA g * (sm3 l).p := Int.mul_pos qg.pA ok.p
      have h1 : (sm3 l).a * (shB g - shA g) < shA g * (sm3 l).b := by omega
      have h2 : (sm3 l).a * (shB g - shA g) * x.2 < shA g * (sm3 l).b * x.2 := Int.mul_lt_mul_of_pos_right h1 p1
      have h3 : x.1 * (shB g - shA g) * (sm3 l).b < shA g * x.2 * (sm3 l).b := by
        have a1 : x.1 * (shB g - shA g) * (sm3 l).b = (sm3 l).a * (shB g - shA g) * x.2 := by
          have : x.1 * (shB g - shA g) * (sm3 l).b = (x.1 * (sm3 l).b) * (shB g - shA g) := by grind
          rw [this, e1]; grind
        have a2 : shA g * x.2 * (sm3 l).b = shA g * (sm3 l).b * x.2 := by grind
        omega
      exact Int.lt_of_mul_lt_mul_right h3 (Int.le_of_lt p2)
    have e2 : decide (x.1 * (shB (g.1, g.2) - shA (g.1, g.2)) < shA (g.1, g.2) * x.2) = true := decide_eq_true fin
    rw [e2]; exact hq
theorem sumsL_last (l : List Fr) : ∃ init, sumsL ⟨0, 1, 1⟩ l = init ++ [sm3 l] := by
  refine snoc_ind (P := fun l => ∃ init, sumsL ⟨0, 1, 1⟩ l = init ++ [sm3 l]) ⟨[], rfl⟩ (fun l w _ => ⟨_, sumsL_snoc l w _⟩) l
/-- the dues of a run -/
def duesL (l : List Fr) (f s : Fr) : List Fr := f :: (sumsL ⟨0, 1, 1⟩ l).map fun t => (dueA f s t, dueB f s t)
theorem dues_map {α : Type} (a b : α → Fr) : ∀ l : List α, (∀ x ∈ l, Due (a x) (b x)) → Dues (l.map a) (l.map b)
  | [], _ => .nil
  | x :: l, h => .cons (h x (List.mem_cons_self ..)) (dues_map a b l fun y hy => h y (List.mem_cons_of_mem _ hy))
theorem due_self {f : Fr} (hf : Vl f) : Due f f := ⟨⟨hf.1, hf.2.2.2.2, rfl⟩, hf.s1.mono (by omega), hf.s2.mono (by omega), hf.s1.mono (by omega), hf.s2.mono (by omega)⟩
theorem run_due {l : List Fr} {f s : Fr} (g : GoodL l) (hf : Vl f) (hs : Vl s) : Dues (runL l f s) (duesL l f s) := by
  refine .cons (due_self hf) (dues_map _ _ _ fun t ht => ?_)
  obtain ⟨m, hm, ok⟩ := sumsL_mem l g.2 _ 0 .zero t ht
  have h40 : m ≤ 40 := by have := g.1; omega
  have hb : dueB f s t ≠ 0 := by have := dueB_pos hf hs ok; omega
  have lo := low_ok (dueA f s t) (dueB f s t) hb
  have a := dueA_sm hf hs ok h40
  have b := dueB_sm hf hs ok h40
  exact ⟨lo, (lo.sm1 hb a).mono (by omega), (lo.sm2 hb b).mono (by omega), a.mono (by omega), b.mono (by omega)⟩
theorem runL_len (l : List Fr) (f s : Fr) : (runL l f s).length = l.length + 2 := by
  unfold runL
  rw [List.length_cons, List.length_map, sumsL_len]
theorem sum_due {l : List Fr} (g : GoodL l) : Dues [low (sm3 l).a (sm3 l).b] [ab (sm3 l)] := by
  have ok := sm3_ok l g.2
  have h40 := g.1
  have hb : (sm3 l).b ≠ 0 := by have := ok.b; omega
  have lo := low_ok (sm3 l).a (sm3 l).b hb
  exact .cons ⟨lo, (lo.sm1 hb ok.sa).mono (by omega), (lo.sm2 hb ok.sb).mono (by omega), ok.sa.mono (by omega), ok.sb.mono (by omega)⟩ .nil
theorem p__law_is_run_right {K : PySem.W.Frag} : ∀ ds Qf, F__law_is_run_right ds Qf → ds.length = 4 ∧ W__law_is_run_right K { nx := fun _ => Qf (.sh .non), rt := Qf } (begin 14 ds) := by
  intro ds Qf h
  obtain ⟨l, f, s, t, rfl, g, hf, hs, hq⟩ := h
  refine ⟨rfl, ?_⟩
  have hdues := run_due g hf hs
  have hsum := sum_due g
  have hl := g.1
  have rs := hdues.small
  obtain ⟨init, hinit⟩ := sumsL_last l
  have i1 : atI ((sumsL ⟨0, 1, 1⟩ l).map fun s => fD (ab s)) (-1) = some (fD (ab (sm3 l))) := by
    rw [hinit, List.map_append]; exact at_m1
  let y := low (dueA f s (sm3 l)) (dueB f s (sm3 l))
  have i2 : atI ((runL l f s).map fD) (-1) = some (fD y) := by
    unfold runL
    rw [hinit, List.map_append, List.map_cons, List.map_append, ← List.cons_append]
    exact at_m1
  have ok := sm3_ok l g.2
  have hb : (sm3 l).b ≠ 0 := by have := ok.b; omega
  have hB := dueB_pos hf hs ok
  have lx := low_ok (sm3 l).a (sm3 l).b hb
  have ly : Low y (dueA f s (sm3 l)) (dueB f s (sm3 l)) := low_ok _ _ (by omega)
  have y1 : sm 1100 y.1 := ly.sm1 (by omega) (dueA_sm hf hs ok hl)
  have y2 : sm 1100 y.2 := ly.sm2 (by omega) (dueB_sm hf hs ok hl)
  have x1 : sm 1000 (low (sm3 l).a (sm3 l).b).1 := (lx.sm1 hb ok.sa).mono (by omega)
  have x2 : sm 1000 (low (sm3 l).a (sm3 l).b).2 := (lx.sm2 hb ok.sb).mono (by omega)
  have key : y.1 * (low (sm3 l).a (sm3 l).b).2 * f.2 * s.2 = y.2 * (s.1 * f.2 * (low (sm3 l).a (sm3 l).b).2 + (low (sm3 l).a (sm3 l).b).1 * (s.1 * f.2 - f.1 * s.2)) := by
    generalize low (sm3 l).a (sm3 l).b = x at *
    refine Int.eq_of_mul_eq_mul_right hb ?_
    have e1 : y.1 * (f.2 * s.2 * (sm3 l).b) = (s.1 * f.2 * (sm3 l).b + (s.1 * f.2 - f.1 * s.2) * (sm3 l).a) * y.2 := ly.eq
    have e2 := lx.eq
    have a1 : y.1 * x.2 * f.2 * s.2 * (sm3 l).b = y.1 * (f.2 * s.2 * (sm3 l).b) * x.2 := by grind
    rw [a1, e1]
    have a2 : y.2 * (s.1 * f.2 * x.2 + x.1 * (s.1 * f.2 - f.1 * s.2)) * (sm3 l).b = y.2 * (s.1 * f.2 * x.2 * (sm3 l).b + (x.1 * (sm3 l).b) * (s.1 * f.2 - f.1 * s.2)) := by grind
    rw [a2, e2]; grind
  have hlen := runL_len l f s
  generalize ex : low (sm3 l).a (sm3 l).b = x at *
  have hx := hsum.small
  have hxx := hx x (List.mem_cons_self ..)
  have eD : (fD f :: (sumsL ⟨0, 1, 1⟩ l).map fun t => fD (dueA f s t, dueB f s t)) = (duesL l f s).map fD := by simp [duesL]
  have hrl : (runL l f s).length ≤ 100 := by omega
  unfold W__law_is_run_right
  refine seq_cut (fun σ => σ = [.sh (.tup (l.map fD)), .sh (fD f), .sh (fD s), .sh (.bl t), .ow ((sumsL ⟨0, 1, 1⟩ l).map fun s => fD (ab s)), .un, .un, .un, .un, .un, .un, .un, .un, .un]) (fun nx hn => ?_) ?_
  · simp only [LV.begin, at_0, at_1, at_2, at_3, at_m1a, at_m1b, at_m1c, at_m1d, at_m2b, at_m2c, decide_true, eq_self, Int.reduceEq, true_and, and_true, false_and, and_false, or_false, false_or, Int.reduceNeg, gIx, decide_false, Bool.and_true, Bool.true_and, Bool.or_true, wSeq, wSet, wAsg, wPar, wIf, wIfS, wTst, LV.wTru, LV.wNot, wAnd, wOr, wAndV, wOrV, wNotV, wOp, wUn, wV, wC, fCI, fAdd, fSub, fMul, fDiv, fMod, fPow, fNeg, fIx, fIs, fIsNot, fEq, fNe, fLt, fLe, fGt, fGe, wCB, wCons, wNil, w1, wApp, wIsi, isiB, bagD, isNonD, fLen, fAbs, fInt, fGcd, fList, fTuple, fRepr, fLz, fLen0, fLrv, fSum, fMax, fMin, fAll, fAny, seqD, rdL, rdW, fzL, fzW, unL, putS, RV.sl, wRet, wRetN, wNever, wNext, wDrop, wTup, wLst, outW, placeW, gN, gTu, gCo, gNi, wFor, zSeq, zr_0, zr_1, zr_2, zr_3, zr_4, nc_0, nc_1, nc_2, nc_3, nc_4, zEnum, zZip, ixD, tru, wCall, wCallK, wAppend, owW, wSl, fSl, wONone, wOSome, wLc, wYes, List.map, List.replicate, List.length, List.append, List.set, List.take, List.drop, List.getLast?, List.dropLast, List.filterMap, List.getElem?_cons_zero, List.getElem?_cons_succ, List.getElem?_nil, Nat.reduceAdd, Nat.reduceSub, Nat.reduceLT, List.cons_append, List.nil_append, Option.some.injEq, reduceCtorEq, reduceIte, Bool.not_true, Bool.not_false, Bool.false_eq_true, List.isEmpty]
    exact ⟨l, rfl, g, hn _ rfl⟩
  rintro σ rfl
  refine seq_cut (fun σ => σ = [.sh (.tup (l.map fD)), .sh (fD f), .sh (fD s), .sh (.bl t), .sh (.lst ((sumsL ⟨0, 1, 1⟩ l).map fun s => fD (ab s))), .ow ((duesL l f s).map fD), .un, .un, .un, .un, .un, .un, .un, .un]) (fun nx hn => ?_) ?_
  · simp only [LV.begin, at_0, at_1, at_2, at_3, at_m1a, at_m1b, at_m1c, at_m1d, at_m2b, at_m2c, decide_true, eq_self, Int.reduceEq, true_and, and_true, false_and, and_false, or_false, false_or, Int.reduceNeg, gIx, decide_false, Bool.and_true, Bool.true_and, Bool.or_true, wSeq, wSet, wAsg, wPar, wIf, wIfS, wTst, LV.wTru, LV.wNot, wAnd, wOr, wAndV, wOrV, wNotV, wOp, wUn, wV, wC, fCI, fAdd, fSub, fMul, fDiv, fMod, fPow, fNeg, fIx, fIs, fIsNot, fEq, fNe, fLt, fLe, fGt, fGe, wCB, wCons, wNil, w1, wApp, wIsi, isiB, bagD, isNonD, fLen, fAbs, fInt, fGcd, fList, fTuple, fRepr, fLz, fLen0, fLrv, fSum, fMax, fMin, fAll, fAny, seqD, rdL, rdW, fzL, fzW, unL, putS, RV.sl, wRet, wRetN, wNever, wNext, wDrop, wTup, wLst, outW, placeW, gN, gTu, gCo, gNi, wFor, zSeq, zr_0, zr_1, zr_2, zr_3, zr_4, nc_0, nc_1, nc_2, nc_3, nc_4, zEnum, zZip, ixD, tru, wCall, wCallK, wAppend, owW, wSl, fSl, wONone, wOSome, wLc, wYes, List.map, List.replicate, List.length, List.append, List.set, List.take, List.drop, List.getLast?, List.dropLast, List.filterMap, List.getElem?_cons_zero, List.getElem?_cons_succ, List.getElem?_nil, Nat.reduceAdd, Nat.reduceSub, Nat.reduceLT, List.cons_append, List.nil_append, Option.some.injEq, reduceCtorEq, reduceIte, Bool.not_true, Bool.not_false, Bool.false_eq_true, List.isEmpty]
    refine ⟨l, f, s, rfl, g, hf, hs, ?_⟩
    rw [eD]
    exact hn _ rfl
  rintro σ rfl
  refine seq_cut (fun σ => σ = [.sh (.tup (l.map fD)), .sh (fD f), .sh (fD s), .sh (.bl t), .sh (.lst ((sumsL ⟨0, 1, 1⟩ l).map fun s => fD (ab s))), .ow ((duesL l f s).map fD), .sh (.tup ((runL l f s).map fD)), .un, .un, .un, .un, .un, .un, .un]) (fun nx hn => ?_) ?_
  · simp only [LV.begin, at_0, at_1, at_2, at_3, at_m1a, at_m1b, at_m1c, at_m1d, at_m2b, at_m2c, decide_true, eq_self, Int.reduceEq, true_and, and_true, false_and, and_false, or_false, false_or, Int.reduceNeg, gIx, decide_false, Bool.and_true, Bool.true_and, Bool.or_true, wSeq, wSet, wAsg, wPar, wIf, wIfS, wTst, LV.wTru, LV.wNot, wAnd, wOr, wAndV, wOrV, wNotV, wOp, wUn, wV, wC, fCI, fAdd, fSub, fMul, fDiv, fMod, fPow, fNeg, fIx, fIs, fIsNot, fEq, fNe, fLt, fLe, fGt, fGe, wCB, wCons, wNil, w1, wApp, wIsi, isiB, bagD, isNonD, fLen, fAbs, fInt, fGcd, fList, fTuple, fRepr, fLz, fLen0, fLrv, fSum, fMax, fMin, fAll, fAny, seqD, rdL, rdW, fzL, fzW, unL, putS, RV.sl, wRet, wRetN, wNever, wNext, wDrop, wTup, wLst, outW, placeW, gN, gTu, gCo, gNi, wFor, zSeq, zr_0, zr_1, zr_2, zr_3, zr_4, nc_0, nc_1, nc_2, nc_3, nc_4, zEnum, zZip, ixD, tru, wCall, wCallK, wAppend, owW, wSl, fSl, wONone, wOSome, wLc, wYes, List.map, List.replicate, List.length, List.append, List.set, List.take, List.drop, List.getLast?, List.dropLast, List.filterMap, List.getElem?_cons_zero, List.getElem?_cons_succ, List.getElem?_nil, Nat.reduceAdd, Nat.reduceSub, Nat.reduceLT, List.cons_append, List.nil_append, Option.some.injEq, reduceCtorEq, reduceIte, Bool.not_true, Bool.not_false, Bool.false_eq_true, List.isEmpty]
    exact ⟨l, f, s, rfl, g, hf, hs, hn _ rfl⟩
  rintro σ rfl
  refine seq_cut (fun σ => σ = [.sh (.tup (l.map fD)), .sh (fD f), .sh (fD s), .sh (.bl t), .sh (.lst ((sumsL ⟨0, 1, 1⟩ l).map fun s => fD (ab s))), .sh (.lst ((duesL l f s).map fD)), .sh (.tup ((runL l f s).map fD)), .un, .un, .un, .un, .un, .un, .un]) (fun nx hn => ?_) ?_
  · simp only [LV.begin, at_0, at_1, at_2, at_3, at_m1a, at_m1b, at_m1c, at_m1d, at_m2b, at_m2c, decide_true, eq_self, Int.reduceEq, true_and, and_true, false_and, and_false, or_false, false_or, Int.reduceNeg, gIx, decide_false, Bool.and_true, Bool.true_and, Bool.or_true, wSeq, wSet, wAsg, wPar, wIf, wIfS, wTst, LV.wTru, LV.wNot, wAnd, wOr, wAndV, wOrV, wNotV, wOp, wUn, wV, wC, fCI, fAdd, fSub, fMul, fDiv, fMod, fPow, fNeg, fIx, fIs, fIsNot, fEq, fNe, fLt, fLe, fGt, fGe, wCB, wCons, wNil, w1, wApp, wIsi, isiB, bagD, isNonD, fLen, fAbs, fInt, fGcd, fList, fTuple, fRepr, fLz, fLen0, fLrv, fSum, fMax, fMin, fAll, fAny, seqD, rdL, rdW, fzL, fzW, unL, putS, RV.sl, wRet, wRetN, wNever, wNext, wDrop, wTup, wLst, outW, placeW, gN, gTu, gCo, gNi, wFor, zSeq, zr_0, zr_1, zr_2, zr_3, zr_4, nc_0, nc_1, nc_2, nc_3, nc_4, zEnum, zZip, ixD, tru, wCall, wCallK, wAppend, owW, wSl, fSl, wONone, wOSome, wLc, wYes, List.map, List.replicate, List.length, List.append, List.set, List.take, List.drop, List.getLast?, List.dropLast, List.filterMap, List.getElem?_cons_zero, List.getElem?_cons_succ, List.getElem?_nil, Nat.reduceAdd, Nat.reduceSub, Nat.reduceLT, List.cons_append, List.nil_append, Option.some.injEq, reduceCtorEq, reduceIte, Bool.not_true, Bool.not_false, Bool.false_eq_true, List.isEmpty]
    exact ⟨runL l f s, duesL l f s, rfl, hrl, hdues, hn _ rfl⟩
  rintro σ rfl
  refine seq_cut (fun σ => σ = [.sh (.tup (l.map fD)), .sh (fD f), .sh (fD s), .sh (.bl t), .sh (.lst ((sumsL ⟨0, 1, 1⟩ l).map fun s => fD (ab s))), .sh (.lst ((duesL l f s).map fD)), .sh (.tup ((runL l f s).map fD)), .un, .un, .un, .un, .un, .un, .un]) (fun nx hn => ?_) ?_
  · cases t with
    | false =>
      simp only [LV.begin, at_0, at_1, at_2, at_3, at_m1a, at_m1b, at_m1c, at_m1d, at_m2b, at_m2c, decide_true, eq_self, Int.reduceEq, true_and, and_true, false_and, and_false, or_false, false_or, Int.reduceNeg, gIx, decide_false, Bool.and_true, Bool.true_and, Bool.or_true, wSeq, wSet, wAsg, wPar, wIf, wIfS, wTst, LV.wTru, LV.wNot, wAnd, wOr, wAndV, wOrV, wNotV, wOp, wUn, wV, wC, fCI, fAdd, fSub, fMul, fDiv, fMod, fPow, fNeg, fIx, fIs, fIsNot, fEq, fNe, fLt, fLe, fGt, fGe, wCB, wCons, wNil, w1, wApp, wIsi, isiB, bagD, isNonD, fLen, fAbs, fInt, fGcd, fList, fTuple, fRepr, fLz, fLen0, fLrv, fSum, fMax, fMin, fAll, fAny, seqD, rdL, rdW, fzL, fzW, unL, putS, RV.sl, wRet, wRetN, wNever, wNext, wDrop, wTup, wLst, outW, placeW, gN, gTu, gCo, gNi, wFor, zSeq, zr_0, zr_1, zr_2, zr_3, zr_4, nc_0, nc_1, nc_2, nc_3, nc_4, zEnum, zZip, ixD, tru, wCall, wCallK, wAppend, owW, wSl, fSl, wONone, wOSome, wLc, wYes, List.map, List.replicate, List.length, List.append, List.set, List.take, List.drop, List.getLast?, List.dropLast, List.filterMap, List.getElem?_cons_zero, List.getElem?_cons_succ, List.getElem?_nil, Nat.reduceAdd, Nat.reduceSub, Nat.reduceLT, List.cons_append, List.nil_append, Option.some.injEq, reduceCtorEq, reduceIte, Bool.not_true, Bool.not_false, Bool.false_eq_true, List.isEmpty]
      exact hn _ rfl
    | true =>
      simp only [kIx, LV.begin, at_0, at_1, at_2, at_3, at_m1a, at_m1b, at_m1c, at_m1d, at_m2b, at_m2c, decide_true, eq_self, Int.reduceEq, true_and, and_true, false_and, and_false, or_false, false_or, Int.reduceNeg, gIx, decide_false, Bool.and_true, Bool.true_and, Bool.or_true, wSeq, wSet, wAsg, wPar, wIf, wIfS, wTst, LV.wTru, LV.wNot, wAnd, wOr, wAndV, wOrV, wNotV, wOp, wUn, wV, wC, fCI, fAdd, fSub, fMul, fDiv, fMod, fPow, fNeg, fIx, fIs, fIsNot, fEq, fNe, fLt, fLe, fGt, fGe, wCB, wCons, wNil, w1, wApp, wIsi, isiB, bagD, isNonD, fLen, fAbs, fInt, fGcd, fList, fTuple, fRepr, fLz, fLen0, fLrv, fSum, fMax, fMin, fAll, fAny, seqD, rdL, rdW, fzL, fzW, unL, putS, RV.sl, wRet, wRetN, wNever, wNext, wDrop, wTup, wLst, outW, placeW, gN, gTu, gCo, gNi, wFor, zSeq, zr_0, zr_1, zr_2, zr_3, zr_4, nc_0, nc_1, nc_2, nc_3, nc_4, zEnum, zZip, ixD, tru, wCall, wCallK, wAppend, owW, wSl, fSl, wONone, wOSome, wLc, wYes, List.map, List.replicate, List.length, List.append, List.set, List.take, List.drop, List.getLast?, List.dropLast, List.filterMap, List.getElem?_cons_zero, List.getElem?_cons_succ, List.getElem?_nil, Nat.reduceAdd, Nat.reduceSub, Nat.reduceLT, List.cons_append, List.nil_append, Option.some.injEq, reduceCtorEq, reduceIte, Bool.not_true, Bool.not_false, Bool.false_eq_true, List.isEmpty]
      refine ⟨l, f, s, rfl, g, hf, hs, sha_pairs _, show_pairs _ rs, len_pairs _ (by omega) rs, sha_pairs _, show_pairs _ rs, len_pairs _ (by omega) rs, ?_⟩
      rw [decide_eq_true (Eq.refl _)]
      exact hn _ rfl
  rintro σ rfl
  refine seq_cut (fun σ => σ = [.sh (.tup (l.map fD)), .sh (fD f), .sh (fD s), .sh (.bl t), .sh (.lst ((sumsL ⟨0, 1, 1⟩ l).map fun s => fD (ab s))), .sh (.lst ((duesL l f s).map fD)), .sh (.tup ((runL l f s).map fD)), .sh (fD x), .un, .un, .un, .un, .un, .un]) (fun nx hn => ?_) ?_
  · simp only [LV.begin, at_0, at_1, at_2, at_3, at_m1a, at_m1b, at_m1c, at_m1d, at_m2b, at_m2c, decide_true, eq_self, Int.reduceEq, true_and, and_true, false_and, and_false, or_false, false_or, Int.reduceNeg, gIx, decide_false, Bool.and_true, Bool.true_and, Bool.or_true, wSeq, wSet, wAsg, wPar, wIf, wIfS, wTst, LV.wTru, LV.wNot, wAnd, wOr, wAndV, wOrV, wNotV, wOp, wUn, wV, wC, fCI, fAdd, fSub, fMul, fDiv, fMod, fPow, fNeg, fIx, fIs, fIsNot, fEq, fNe, fLt, fLe, fGt, fGe, wCB, wCons, wNil, w1, wApp, wIsi, isiB, bagD, isNonD, fLen, fAbs, fInt, fGcd, fList, fTuple, fRepr, fLz, fLen0, fLrv, fSum, fMax, fMin, fAll, fAny, seqD, rdL, rdW, fzL, fzW, unL, putS, RV.sl, wRet, wRetN, wNever, wNext, wDrop, wTup, wLst, outW, placeW, gN, gTu, gCo, gNi, wFor, zSeq, zr_0, zr_1, zr_2, zr_3, zr_4, nc_0, nc_1, nc_2, nc_3, nc_4, zEnum, zZip, ixD, tru, wCall, wCallK, wAppend, owW, wSl, fSl, wONone, wOSome, wLc, wYes, List.map, List.replicate, List.length, List.append, List.set, List.take, List.drop, List.getLast?, List.dropLast, List.filterMap, List.getElem?_cons_zero, List.getElem?_cons_succ, List.getElem?_nil, Nat.reduceAdd, Nat.reduceSub, Nat.reduceLT, List.cons_append, List.nil_append, Option.some.injEq, reduceCtorEq, reduceIte, Bool.not_true, Bool.not_false, Bool.false_eq_true, List.isEmpty]
    refine ⟨l, rfl, g, ?_⟩
    rw [ex]
    exact hn _ rfl
  rintro σ rfl
  refine seq_cut (fun σ => σ = [.sh (.tup (l.map fD)), .sh (fD f), .sh (fD s), .sh (.bl t), .sh (.lst ((sumsL ⟨0, 1, 1⟩ l).map fun s => fD (ab s))), .sh (.lst ((duesL l f s).map fD)), .sh (.tup ((runL l f s).map fD)), .sh (fD x), .un, .un, .un, .un, .un, .un]) (fun nx hn => ?_) ?_
  · simp only [i1, LV.begin, at_0, at_1, at_2, at_3, at_m1a, at_m1b, at_m1c, at_m1d, at_m2b, at_m2c, decide_true, eq_self, Int.reduceEq, true_and, and_true, false_and, and_false, or_false, false_or, Int.reduceNeg, gIx, decide_false, Bool.and_true, Bool.true_and, Bool.or_true, wSeq, wSet, wAsg, wPar, wIf, wIfS, wTst, LV.wTru, LV.wNot, wAnd, wOr, wAndV, wOrV, wNotV, wOp, wUn, wV, wC, fCI, fAdd, fSub, fMul, fDiv, fMod, fPow, fNeg, fIx, fIs, fIsNot, fEq, fNe, fLt, fLe, fGt, fGe, wCB, wCons, wNil, w1, wApp, wIsi, isiB, bagD, isNonD, fLen, fAbs, fInt, fGcd, fList, fTuple, fRepr, fLz, fLen0, fLrv, fSum, fMax, fMin, fAll, fAny, seqD, rdL, rdW, fzL, fzW, unL, putS, RV.sl, wRet, wRetN, wNever, wNext, wDrop, wTup, wLst, outW, placeW, gN, gTu, gCo, gNi, wFor, zSeq, zr_0, zr_1, zr_2, zr_3, zr_4, nc_0, nc_1, nc_2, nc_3, nc_4, zEnum, zZip, ixD, tru, wCall, wCallK, wAppend, owW, wSl, fSl, wONone, wOSome, wLc, wYes, List.map, List.replicate, List.length, List.append, List.set, List.take, List.drop, List.getLast?, List.dropLast, List.filterMap, List.getElem?_cons_zero, List.getElem?_cons_succ, List.getElem?_nil, Nat.reduceAdd, Nat.reduceSub, Nat.reduceLT, List.cons_append, List.nil_append, Option.some.injEq, reduceCtorEq, reduceIte, Bool.not_true, Bool.not_false, Bool.false_eq_true, List.isEmpty]
    refine ⟨by decide, by decide, [x], [ab (sm3 l)], rfl, by simp, hsum, ?_⟩
    simp only [LV.begin, at_0, at_1, at_2, at_3, at_m1a, at_m1b, at_m1c, at_m1d, at_m2b, at_m2c, decide_true, eq_self, Int.reduceEq, true_and, and_true, false_and, and_false, or_false, false_or, Int.reduceNeg, gIx, decide_false, Bool.and_true, Bool.true_and, Bool.or_true, wSeq, wSet, wAsg, wPar, wIf, wIfS, wTst, LV.wTru, LV.wNot, wAnd, wOr, wAndV, wOrV, wNotV, wOp, wUn, wV, wC, fCI, fAdd, fSub, fMul, fDiv, fMod, fPow, fNeg, fIx, fIs, fIsNot, fEq, fNe, fLt, fLe, fGt, fGe, wCB, wCons, wNil, w1, wApp, wIsi, isiB, bagD, isNonD, fLen, fAbs, fInt, fGcd, fList, fTuple, fRepr, fLz, fLen0, fLrv, fSum, fMax, fMin, fAll, fAny, seqD, rdL, rdW, fzL, fzW, unL, putS, RV.sl, wRet, wRetN, wNever, wNext, wDrop, wTup, wLst, outW, placeW, gN, gTu, gCo, gNi, wFor, zSeq, zr_0, zr_1, zr_2, zr_3, zr_4, nc_0, nc_1, nc_2, nc_3, nc_4, zEnum, zZip, ixD, tru, wCall, wCallK, wAppend, owW, wSl, fSl, wONone, wOSome, wLc, wYes, List.map, List.replicate, List.length, List.append, List.set, List.take, List.drop, List.getLast?, List.dropLast, List.filterMap, List.getElem?_cons_zero, List.getElem?_cons_succ, List.getElem?_nil, Nat.reduceAdd, Nat.reduceSub, Nat.reduceLT, List.cons_append, List.nil_append, Option.some.injEq, reduceCtorEq, reduceIte, Bool.not_true, Bool.not_false, Bool.false_eq_true, List.isEmpty]
    exact ⟨l, by rw [ex], g, hn _ rfl⟩
  rintro σ rfl
  refine seq_cut (fun σ => σ = [.sh (.tup (l.map fD)), .sh (fD f), .sh (fD s), .sh (.bl t), .sh (.lst ((sumsL ⟨0, 1, 1⟩ l).map fun s => fD (ab s))), .sh (.lst ((duesL l f s).map fD)), .sh (.tup ((runL l f s).map fD)), .sh (fD x), .sh (.int f.1), .sh (.int f.2), .sh (.int s.1), .sh (.int s.2), .sh (.int y.1), .sh (.int y.2)]) (fun nx hn => ?_) ?_
  · simp only [i2, LV.begin, at_0, at_1, at_2, at_3, at_m1a, at_m1b, at_m1c, at_m1d, at_m2b, at_m2c, decide_true, eq_self, Int.reduceEq, true_and, and_true, false_and, and_false, or_false, false_or, Int.reduceNeg, gIx, decide_false, Bool.and_true, Bool.true_and, Bool.or_true, wSeq, wSet, wAsg, wPar, wIf, wIfS, wTst, LV.wTru, LV.wNot, wAnd, wOr, wAndV, wOrV, wNotV, wOp, wUn, wV, wC, fCI, fAdd, fSub, fMul, fDiv, fMod, fPow, fNeg, fIx, fIs, fIsNot, fEq, fNe, fLt, fLe, fGt, fGe, wCB, wCons, wNil, w1, wApp, wIsi, isiB, bagD, isNonD, fLen, fAbs, fInt, fGcd, fList, fTuple, fRepr, fLz, fLen0, fLrv, fSum, fMax, fMin, fAll, fAny, seqD, rdL, rdW, fzL, fzW, unL, putS, RV.sl, wRet, wRetN, wNever, wNext, wDrop, wTup, wLst, outW, placeW, gN, gTu, gCo, gNi, wFor, zSeq, zr_0, zr_1, zr_2, zr_3, zr_4, nc_0, nc_1, nc_2, nc_3, nc_4, zEnum, zZip, ixD, tru, wCall, wCallK, wAppend, owW, wSl, fSl, wONone, wOSome, wLc, wYes, List.map, List.replicate, List.length, List.append, List.set, List.take, List.drop, List.getLast?, List.dropLast, List.filterMap, List.getElem?_cons_zero, List.getElem?_cons_succ, List.getElem?_nil, Nat.reduceAdd, Nat.reduceSub, Nat.reduceLT, List.cons_append, List.nil_append, Option.some.injEq, reduceCtorEq, reduceIte, Bool.not_true, Bool.not_false, Bool.false_eq_true, List.isEmpty]
    exact ⟨by decide, hn _ rfl⟩
  rintro σ rfl
  refine seq_cut (fun σ => σ = [.sh (.tup (l.map fD)), .sh (fD f), .sh (fD s), .sh (.bl t), .sh (.lst ((sumsL ⟨0, 1, 1⟩ l).map fun s => fD (ab s))), .sh (.lst ((duesL l f s).map fD)), .sh (.tup ((runL l f s).map fD)), .sh (fD x), .sh (.int f.1), .sh (.int f.2), .sh (.int s.1), .sh (.int s.2), .sh (.int y.1), .sh (.int y.2)]) (fun nx hn => ?_) ?_
  · have c1 := hf.s1
    have c2 := hf.s2
    have c3 := hs.s1
    have c4 := hs.s2
    simp only [decide_eq_true key, LV.begin, at_0, at_1, at_2, at_3, at_m1a, at_m1b, at_m1c, at_m1d, at_m2b, at_m2c, decide_true, eq_self, Int.reduceEq, true_and, and_true, false_and, and_false, or_false, false_or, Int.reduceNeg, gIx, decide_false, Bool.and_true, Bool.true_and, Bool.or_true, wSeq, wSet, wAsg, wPar, wIf, wIfS, wTst, LV.wTru, LV.wNot, wAnd, wOr, wAndV, wOrV, wNotV, wOp, wUn, wV, wC, fCI, fAdd, fSub, fMul, fDiv, fMod, fPow, fNeg, fIx, fIs, fIsNot, fEq, fNe, fLt, fLe, fGt, fGe, wCB, wCons, wNil, w1, wApp, wIsi, isiB, bagD, isNonD, fLen, fAbs, fInt, fGcd, fList, fTuple, fRepr, fLz, fLen0, fLrv, fSum, fMax, fMin, fAll, fAny, seqD, rdL, rdW, fzL, fzW, unL, putS, RV.sl, wRet, wRetN, wNever, wNext, wDrop, wTup, wLst, outW, placeW, gN, gTu, gCo, gNi, wFor, zSeq, zr_0, zr_1, zr_2, zr_3, zr_4, nc_0, nc_1, nc_2, nc_3, nc_4, zEnum, zZip, ixD, tru, wCall, wCallK, wAppend, owW, wSl, fSl, wONone, wOSome, wLc, wYes, List.map, List.replicate, List.length, List.append, List.set, List.take, List.drop, List.getLast?, List.dropLast, List.filterMap, List.getElem?_cons_zero, List.getElem?_cons_succ, List.getElem?_nil, Nat.reduceAdd, Nat.reduceSub, Nat.reduceLT, List.cons_append, List.nil_append, Option.some.injEq, reduceCtorEq, reduceIte, Bool.not_true, Bool.not_false, Bool.false_eq_true, List.isEmpty]
    have G : sm 21 (s.1 * f.2 - f.1 * s.2) := (c3.mul c2).sub (c1.mul c4)
    refine ⟨y1.mulW x2 (by omega), (y1.mul x2).mulW c2 (by omega), ((y1.mul x2).mul c2).mulW c4 (by omega), c3.mulW c2 (by omega), (c3.mul c2).mulW x2 (by omega), c3.mulW c2 (by omega), c1.mulW c4 (by omega), x1.mulW G (by omega), y2.mulW (((c3.mul c2).mul x2 |>.mono (by omega : _ ≤ 1100)).add ((x1.mul G).mono (by omega))) (by omega), ?_⟩
    exact hn _ rfl
  rintro σ rfl
  cases t with
  | false =>
    simp only [LV.begin, at_0, at_1, at_2, at_3, at_m1a, at_m1b, at_m1c, at_m1d, at_m2b, at_m2c, decide_true, eq_self, Int.reduceEq, true_and, and_true, false_and, and_false, or_false, false_or, Int.reduceNeg, gIx, decide_false, Bool.and_true, Bool.true_and, Bool.or_true, wSeq, wSet, wAsg, wPar, wIf, wIfS, wTst, LV.wTru, LV.wNot, wAnd, wOr, wAndV, wOrV, wNotV, wOp, wUn, wV, wC, fCI, fAdd, fSub, fMul, fDiv, fMod, fPow, fNeg, fIx, fIs, fIsNot, fEq, fNe, fLt, fLe, fGt, fGe, wCB, wCons, wNil, w1, wApp, wIsi, isiB, bagD, isNonD, fLen, fAbs, fInt, fGcd, fList, fTuple, fRepr, fLz, fLen0, fLrv, fSum, fMax, fMin, fAll, fAny, seqD, rdL, rdW, fzL, fzW, unL, putS, RV.sl, wRet, wRetN, wNever, wNext, wDrop, wTup, wLst, outW, placeW, gN, gTu, gCo, gNi, wFor, zSeq, zr_0, zr_1, zr_2, zr_3, zr_4, nc_0, nc_1, nc_2, nc_3, nc_4, zEnum, zZip, ixD, tru, wCall, wCallK, wAppend, owW, wSl, fSl, wONone, wOSome, wLc, wYes, List.map, List.replicate, List.length, List.append, List.set, List.take, List.drop, List.getLast?, List.dropLast, List.filterMap, List.getElem?_cons_zero, List.getElem?_cons_succ, List.getElem?_nil, Nat.reduceAdd, Nat.reduceSub, Nat.reduceLT, List.cons_append, List.nil_append, Option.some.injEq, reduceCtorEq, reduceIte, Bool.not_true, Bool.not_false, Bool.false_eq_true, List.isEmpty]
    exact hq
  | true =>
    simp only [kIx, LV.begin, at_0, at_1, at_2, at_3, at_m1a, at_m1b, at_m1c, at_m1d, at_m2b, at_m2c, decide_true, eq_self, Int.reduceEq, true_and, and_true, false_and, and_false, or_false, false_or, Int.reduceNeg, gIx, decide_false, Bool.and_true, Bool.true_and, Bool.or_true, wSeq, wSet, wAsg, wPar, wIf, wIfS, wTst, LV.wTru, LV.wNot, wAnd, wOr, wAndV, wOrV, wNotV, wOp, wUn, wV, wC, fCI, fAdd, fSub, fMul, fDiv, fMod, fPow, fNeg, fIx, fIs, fIsNot, fEq, fNe, fLt, fLe, fGt, fGe, wCB, wCons, wNil, w1, wApp, wIsi, isiB, bagD, isNonD, fLen, fAbs, fInt, fGcd, fList, fTuple, fRepr, fLz, fLen0, fLrv, fSum, fMax, fMin, fAll, fAny, seqD, rdL, rdW, fzL, fzW, unL, putS, RV.sl, wRet, wRetN, wNever, wNext, wDrop, wTup, wLst, outW, placeW, gN, gTu, gCo, gNi, wFor, zSeq, zr_0, zr_1, zr_2, zr_3, zr_4, nc_0, nc_1, nc_2, nc_3, nc_4, zEnum, zZip, ixD, tru, wCall, wCallK, wAppend, owW, wSl, fSl, wONone, wOSome, wLc, wYes, List.map, List.replicate, List.length, List.append, List.set, List.take, List.drop, List.getLast?, List.dropLast, List.filterMap, List.getElem?_cons_zero, List.getElem?_cons_succ, List.getElem?_nil, Nat.reduceAdd, Nat.reduceSub, Nat.reduceLT, List.cons_append, List.nil_append, Option.some.injEq, reduceCtorEq, reduceIte, Bool.not_true, Bool.not_false, Bool.false_eq_true, List.isEmpty]
    refine ⟨l, rfl, g, ?_⟩
    rw [ex]
    obtain ⟨r1, r2, r3, _⟩ : fRepr [fD x] fun _ => True := repr_pair hxx trivial
    refine ⟨r1, r2, r3, r1, r2, r3, ?_⟩
    rw [decide_eq_true (Eq.refl _)]
    exact hq
theorem share_due {w : Fr} (h : Qt w) : Dues [low (shA w) (shB w)] [(shA w, shB w)] := by
  have hB : shB w ≠ 0 := by have := h.pB; omega
  have lo := share_low h
  exact .cons ⟨lo, (lo.sm1 hB h.sA).mono (by omega), (lo.sm2 hB h.sB).mono (by omega), h.sA.mono (by omega), h.sB.mono (by omega)⟩ .nil
theorem p__law_is_one_right {K : PySem.W.Frag} : ∀ ds Qf, F__law_is_one_right ds Qf → ds.length = 2 ∧ W__law_is_one_right K { nx := fun _ => Qf (.sh .non), rt := Qf } (begin 4 ds) := by
  intro ds Qf h
  obtain ⟨w, t, rfl, hw, hq⟩ := h
  refine ⟨rfl, ?_⟩
  have hd := share_due hw
  obtain ⟨r1, r2, r3, _⟩ : fRepr [.bl (decide (shA w < shB w))] fun _ => True := repr_bl trivial
  cases t with
  | false =>
    simp only [W__law_is_one_right, kIx, F_quotient_share, F_is_quotient_calm, F__law_share, F__law_is_due_calm, LV.begin, at_0, at_1, at_2, at_3, at_m1a, at_m1b, at_m1c, at_m1d, at_m2b, at_m2c, decide_true, eq_self, Int.reduceEq, true_and, and_true, false_and, and_false, or_false, false_or, Int.reduceNeg, gIx, decide_false, Bool.and_true, Bool.true_and, Bool.or_true, wSeq, wSet, wAsg, wPar, wIf, wIfS, wTst, LV.wTru, LV.wNot, wAnd, wOr, wAndV, wOrV, wNotV, wOp, wUn, wV, wC, fCI, fAdd, fSub, fMul, fDiv, fMod, fPow, fNeg, fIx, fIs, fIsNot, fEq, fNe, fLt, fLe, fGt, fGe, wCB, wCons, wNil, w1, wApp, wIsi, isiB, bagD, isNonD, fLen, fAbs, fInt, fGcd, fList, fTuple, fRepr, fLz, fLen0, fLrv, fSum, fMax, fMin, fAll, fAny, seqD, rdL, rdW, fzL, fzW, unL, putS, RV.sl, wRet, wRetN, wNever, wNext, wDrop, wTup, wLst, outW, placeW, gN, gTu, gCo, gNi, wFor, zSeq, zr_0, zr_1, zr_2, zr_3, zr_4, nc_0, nc_1, nc_2, nc_3, nc_4, zEnum, zZip, ixD, tru, wCall, wCallK, wAppend, owW, wSl, fSl, wONone, wOSome, wLc, wYes, List.map, List.replicate, List.length, List.append, List.set, List.take, List.drop, List.getLast?, List.dropLast, List.filterMap, List.getElem?_cons_zero, List.getElem?_cons_succ, List.getElem?_nil, Nat.reduceAdd, Nat.reduceSub, Nat.reduceLT, List.cons_append, List.nil_append, Option.some.injEq, reduceCtorEq, reduceIte, Bool.not_true, Bool.not_false, Bool.false_eq_true, List.isEmpty]
    exact ⟨hw, by decide, hw, by decide, [low (shA w) (shB w)], [(shA w, shB w)], rfl, by simp, hd, hw, r1, r2, r3, hw, r1, r2, r3, hq⟩
  | true =>
    simp only [W__law_is_one_right, kIx, F_quotient_share, F_is_quotient_calm, F__law_share, F__law_is_due_calm, LV.begin, at_0, at_1, at_2, at_3, at_m1a, at_m1b, at_m1c, at_m1d, at_m2b, at_m2c, decide_true, eq_self, Int.reduceEq, true_and, and_true, false_and, and_false, or_false, false_or, Int.reduceNeg, gIx, decide_false, Bool.and_true, Bool.true_and, Bool.or_true, wSeq, wSet, wAsg, wPar, wIf, wIfS, wTst, LV.wTru, LV.wNot, wAnd, wOr, wAndV, wOrV, wNotV, wOp, wUn, wV, wC, fCI, fAdd, fSub, fMul, fDiv, fMod, fPow, fNeg, fIx, fIs, fIsNot, fEq, fNe, fLt, fLe, fGt, fGe, wCB, wCons, wNil, w1, wApp, wIsi, isiB, bagD, isNonD, fLen, fAbs, fInt, fGcd, fList, fTuple, fRepr, fLz, fLen0, fLrv, fSum, fMax, fMin, fAll, fAny, seqD, rdL, rdW, fzL, fzW, unL, putS, RV.sl, wRet, wRetN, wNever, wNext, wDrop, wTup, wLst, outW, placeW, gN, gTu, gCo, gNi, wFor, zSeq, zr_0, zr_1, zr_2, zr_3, zr_4, nc_0, nc_1, nc_2, nc_3, nc_4, zEnum, zZip, ixD, tru, wCall, wCallK, wAppend, owW, wSl, fSl, wONone, wOSome, wLc, wYes, List.map, List.replicate, List.length, List.append, List.set, List.take, List.drop, List.getLast?, List.dropLast, List.filterMap, List.getElem?_cons_zero, List.getElem?_cons_succ, List.getElem?_nil, Nat.reduceAdd, Nat.reduceSub, Nat.reduceLT, List.cons_append, List.nil_append, Option.some.injEq, reduceCtorEq, reduceIte, Bool.not_true, Bool.not_false, Bool.false_eq_true, List.isEmpty]
    exact ⟨hw, by decide, hw, by decide, [low (shA w) (shB w)], [(shA w, shB w)], rfl, by simp, hd, hw, r1, r2, r3, hw, r1, r2, r3, hq⟩
theorem low_due {a b : Int} {n : Nat} (hb : b ≠ 0) (ha : sm 1900 a) (hb' : sm 1900 b) : Due (low a b) (a, b) := by
  have lo := low_ok a b hb
  exact ⟨lo, lo.sm1 hb ha, lo.sm2 hb hb', ha, hb'⟩
theorem p__law_is_beside_right {K : PySem.W.Frag} : ∀ ds Qf, F__law_is_beside_right ds Qf → ds.length = 3 ∧ W__law_is_beside_right K { nx := fun _ => Qf (.sh .non), rt := Qf } (begin 11 ds) := by
  intro ds Qf h
  obtain ⟨⟨p, q⟩, f, s, rfl, hw, hpq, hf, hs, hq⟩ := h
  refine ⟨rfl, ?_⟩
  simp only at hpq
  have hp1 : 1 ≤ p := hw.1
  have hq1 : 1 ≤ q := hw.2.2.1
  have g : GoodL [(p, q)] := ⟨by simp, fun w h => by rw [List.mem_singleton.mp h]; exact hw⟩
  have sp : sm 10 p := sm10 (by omega) (by omega)
  have sq : sm 10 q := sm10 (by omega) (by omega)
  have ss : sm 10 (p + q) := sm10 (by omega) (by omega)
  have tw : sm 13 (2 * p + q) := (two2.mul sp).add (sq.mono (by omega))
  let r0 := low p (p + q)
  let r1 := low (-p - q) p
  let r2 := low (q * (2 * p + q)) ((p + q) * p)
  have n2 : (p + q) * p ≠ 0 := Int.mul_ne_zero (by omega) (by omega)
  have d0 : Dues [r0, r1, r2] [(p, p + q), (-p - q, p), (q * (2 * p + q), (p + q) * p)] :=
    .cons (low_due (n := 0) (by omega) (sp.mono (by omega)) (ss.mono (by omega))) (.cons (low_due (n := 0) (by omega) ((sp.neg.sub sq).mono (by omega)) (sp.mono (by omega))) (.cons (low_due (n := 0) n2 ((sq.mul tw).mono (by omega)) ((ss.mul sp).mono (by omega))) .nil))
  have d1 := run_due g hf hs
  have eD : (fD f :: (sumsL ⟨0, 1, 1⟩ [(p, q)]).map fun t => fD (dueA f s t, dueB f s t)) = (duesL [(p, q)] f s).map fD := by simp [duesL]
  unfold W__law_is_beside_right
  refine seq_cut (fun σ => σ = [.sh (fD (p, q)), .sh (fD f), .sh (fD s), .sh (.int p), .sh (.int q), .un, .un, .un, .un, .un, .un]) (fun nx hn => ?_) ?_
  · simp only [LV.begin, at_0, at_1, at_2, at_3, at_m1a, at_m1b, at_m1c, at_m1d, at_m2b, at_m2c, decide_true, eq_self, Int.reduceEq, true_and, and_true, false_and, and_false, or_false, false_or, Int.reduceNeg, gIx, decide_false, Bool.and_true, Bool.true_and, Bool.or_true, wSeq, wSet, wAsg, wPar, wIf, wIfS, wTst, LV.wTru, LV.wNot, wAnd, wOr, wAndV, wOrV, wNotV, wOp, wUn, wV, wC, fCI, fAdd, fSub, fMul, fDiv, fMod, fPow, fNeg, fIx, fIs, fIsNot, fEq, fNe, fLt, fLe, fGt, fGe, wCB, wCons, wNil, w1, wApp, wIsi, isiB, bagD, isNonD, fLen, fAbs, fInt, fGcd, fList, fTuple, fRepr, fLz, fLen0, fLrv, fSum, fMax, fMin, fAll, fAny, seqD, rdL, rdW, fzL, fzW, unL, putS, RV.sl, wRet, wRetN, wNever, wNext, wDrop, wTup, wLst, outW, placeW, gN, gTu, gCo, gNi, wFor, zSeq, zr_0, zr_1, zr_2, zr_3, zr_4, nc_0, nc_1, nc_2, nc_3, nc_4, zEnum, zZip, ixD, tru, wCall, wCallK, wAppend, owW, wSl, fSl, wONone, wOSome, wLc, wYes, List.map, List.replicate, List.length, List.append, List.set, List.take, List.drop, List.getLast?, List.dropLast, List.filterMap, List.getElem?_cons_zero, List.getElem?_cons_succ, List.getElem?_nil, Nat.reduceAdd, Nat.reduceSub, Nat.reduceLT, List.cons_append, List.nil_append, Option.some.injEq, reduceCtorEq, reduceIte, Bool.not_true, Bool.not_false, Bool.false_eq_true, List.isEmpty]
    exact hn _ rfl
  rintro σ rfl
  refine seq_cut (fun σ => σ = [.sh (fD (p, q)), .sh (fD f), .sh (fD s), .sh (.int p), .sh (.int q), .sh (.tup [fD r0, fD r1, fD r2]), .un, .un, .un, .un, .un]) (fun nx hn => ?_) ?_
  · simp only [LV.begin, at_0, at_1, at_2, at_3, at_m1a, at_m1b, at_m1c, at_m1d, at_m2b, at_m2c, decide_true, eq_self, Int.reduceEq, true_and, and_true, false_and, and_false, or_false, false_or, Int.reduceNeg, gIx, decide_false, Bool.and_true, Bool.true_and, Bool.or_true, wSeq, wSet, wAsg, wPar, wIf, wIfS, wTst, LV.wTru, LV.wNot, wAnd, wOr, wAndV, wOrV, wNotV, wOp, wUn, wV, wC, fCI, fAdd, fSub, fMul, fDiv, fMod, fPow, fNeg, fIx, fIs, fIsNot, fEq, fNe, fLt, fLe, fGt, fGe, wCB, wCons, wNil, w1, wApp, wIsi, isiB, bagD, isNonD, fLen, fAbs, fInt, fGcd, fList, fTuple, fRepr, fLz, fLen0, fLrv, fSum, fMax, fMin, fAll, fAny, seqD, rdL, rdW, fzL, fzW, unL, putS, RV.sl, wRet, wRetN, wNever, wNext, wDrop, wTup, wLst, outW, placeW, gN, gTu, gCo, gNi, wFor, zSeq, zr_0, zr_1, zr_2, zr_3, zr_4, nc_0, nc_1, nc_2, nc_3, nc_4, zEnum, zZip, ixD, tru, wCall, wCallK, wAppend, owW, wSl, fSl, wONone, wOSome, wLc, wYes, List.map, List.replicate, List.length, List.append, List.set, List.take, List.drop, List.getLast?, List.dropLast, List.filterMap, List.getElem?_cons_zero, List.getElem?_cons_succ, List.getElem?_nil, Nat.reduceAdd, Nat.reduceSub, Nat.reduceLT, List.cons_append, List.nil_append, Option.some.injEq, reduceCtorEq, reduceIte, Bool.not_true, Bool.not_false, Bool.false_eq_true, List.isEmpty]
    exact ⟨by decide, by decide, by decide, by decide, p, q, rfl, ⟨hp1, hq1, hpq⟩, hn _ rfl⟩
  rintro σ rfl
  refine seq_cut (fun σ => σ = [.sh (fD (p, q)), .sh (fD f), .sh (fD s), .sh (.int p), .sh (.int q), .sh (.tup [fD r0, fD r1, fD r2]), .un, .un, .un, .un, .un]) (fun nx hn => ?_) ?_
  · simp only [LV.begin, at_0, at_1, at_2, at_3, at_m1a, at_m1b, at_m1c, at_m1d, at_m2b, at_m2c, decide_true, eq_self, Int.reduceEq, true_and, and_true, false_and, and_false, or_false, false_or, Int.reduceNeg, gIx, decide_false, Bool.and_true, Bool.true_and, Bool.or_true, wSeq, wSet, wAsg, wPar, wIf, wIfS, wTst, LV.wTru, LV.wNot, wAnd, wOr, wAndV, wOrV, wNotV, wOp, wUn, wV, wC, fCI, fAdd, fSub, fMul, fDiv, fMod, fPow, fNeg, fIx, fIs, fIsNot, fEq, fNe, fLt, fLe, fGt, fGe, wCB, wCons, wNil, w1, wApp, wIsi, isiB, bagD, isNonD, fLen, fAbs, fInt, fGcd, fList, fTuple, fRepr, fLz, fLen0, fLrv, fSum, fMax, fMin, fAll, fAny, seqD, rdL, rdW, fzL, fzW, unL, putS, RV.sl, wRet, wRetN, wNever, wNext, wDrop, wTup, wLst, outW, placeW, gN, gTu, gCo, gNi, wFor, zSeq, zr_0, zr_1, zr_2, zr_3, zr_4, nc_0, nc_1, nc_2, nc_3, nc_4, zEnum, zZip, ixD, tru, wCall, wCallK, wAppend, owW, wSl, fSl, wONone, wOSome, wLc, wYes, List.map, List.replicate, List.length, List.append, List.set, List.take, List.drop, List.getLast?, List.dropLast, List.filterMap, List.getElem?_cons_zero, List.getElem?_cons_succ, List.getElem?_nil, Nat.reduceAdd, Nat.reduceSub, Nat.reduceLT, List.cons_append, List.nil_append, Option.some.injEq, reduceCtorEq, reduceIte, Bool.not_true, Bool.not_false, Bool.false_eq_true, List.isEmpty]
    exact ⟨by decide, by decide, two2.mulW sp (by omega), sq.mulW tw (by omega), ss.mulW sp (by omega), by decide, by decide, [r0, r1, r2], [(p, p + q), (-p - q, p), (q * (2 * p + q), (p + q) * p)], rfl, by simp, d0, hn _ rfl⟩
  rintro σ rfl
  refine seq_cut (fun σ => σ = [.sh (fD (p, q)), .sh (fD f), .sh (fD s), .sh (.int p), .sh (.int q), .sh (.tup [fD r0, fD r1, fD r2]), .sh (.tup ((runL [(p, q)] f s).map fD)), .un, .un, .un, .un]) (fun nx hn => ?_) ?_
  · simp only [LV.begin, at_0, at_1, at_2, at_3, at_m1a, at_m1b, at_m1c, at_m1d, at_m2b, at_m2c, decide_true, eq_self, Int.reduceEq, true_and, and_true, false_and, and_false, or_false, false_or, Int.reduceNeg, gIx, decide_false, Bool.and_true, Bool.true_and, Bool.or_true, wSeq, wSet, wAsg, wPar, wIf, wIfS, wTst, LV.wTru, LV.wNot, wAnd, wOr, wAndV, wOrV, wNotV, wOp, wUn, wV, wC, fCI, fAdd, fSub, fMul, fDiv, fMod, fPow, fNeg, fIx, fIs, fIsNot, fEq, fNe, fLt, fLe, fGt, fGe, wCB, wCons, wNil, w1, wApp, wIsi, isiB, bagD, isNonD, fLen, fAbs, fInt, fGcd, fList, fTuple, fRepr, fLz, fLen0, fLrv, fSum, fMax, fMin, fAll, fAny, seqD, rdL, rdW, fzL, fzW, unL, putS, RV.sl, wRet, wRetN, wNever, wNext, wDrop, wTup, wLst, outW, placeW, gN, gTu, gCo, gNi, wFor, zSeq, zr_0, zr_1, zr_2, zr_3, zr_4, nc_0, nc_1, nc_2, nc_3, nc_4, zEnum, zZip, ixD, tru, wCall, wCallK, wAppend, owW, wSl, fSl, wONone, wOSome, wLc, wYes, List.map, List.replicate, List.length, List.append, List.set, List.take, List.drop, List.getLast?, List.dropLast, List.filterMap, List.getElem?_cons_zero, List.getElem?_cons_succ, List.getElem?_nil, Nat.reduceAdd, Nat.reduceSub, Nat.reduceLT, List.cons_append, List.nil_append, Option.some.injEq, reduceCtorEq, reduceIte, Bool.not_true, Bool.not_false, Bool.false_eq_true, List.isEmpty]
    exact ⟨by decide, [(p, q)], f, s, rfl, g, hf, hs, hn _ rfl⟩
  rintro σ rfl
  refine seq_cut (fun σ => σ = [.sh (fD (p, q)), .sh (fD f), .sh (fD s), .sh (.int p), .sh (.int q), .sh (.tup [fD r0, fD r1, fD r2]), .sh (.tup ((runL [(p, q)] f s).map fD)), .un, .un, .un, .un]) (fun nx hn => ?_) ?_
  · simp only [LV.begin, at_0, at_1, at_2, at_3, at_m1a, at_m1b, at_m1c, at_m1d, at_m2b, at_m2c, decide_true, eq_self, Int.reduceEq, true_and, and_true, false_and, and_false, or_false, false_or, Int.reduceNeg, gIx, decide_false, Bool.and_true, Bool.true_and, Bool.or_true, wSeq, wSet, wAsg, wPar, wIf, wIfS, wTst, LV.wTru, LV.wNot, wAnd, wOr, wAndV, wOrV, wNotV, wOp, wUn, wV, wC, fCI, fAdd, fSub, fMul, fDiv, fMod, fPow, fNeg, fIx, fIs, fIsNot, fEq, fNe, fLt, fLe, fGt, fGe, wCB, wCons, wNil, w1, wApp, wIsi, isiB, bagD, isNonD, fLen, fAbs, fInt, fGcd, fList, fTuple, fRepr, fLz, fLen0, fLrv, fSum, fMax, fMin, fAll, fAny, seqD, rdL, rdW, fzL, fzW, unL, putS, RV.sl, wRet, wRetN, wNever, wNext, wDrop, wTup, wLst, outW, placeW, gN, gTu, gCo, gNi, wFor, zSeq, zr_0, zr_1, zr_2, zr_3, zr_4, nc_0, nc_1, nc_2, nc_3, nc_4, zEnum, zZip, ixD, tru, wCall, wCallK, wAppend, owW, wSl, fSl, wONone, wOSome, wLc, wYes, List.map, List.replicate, List.length, List.append, List.set, List.take, List.drop, List.getLast?, List.dropLast, List.filterMap, List.getElem?_cons_zero, List.getElem?_cons_succ, List.getElem?_nil, Nat.reduceAdd, Nat.reduceSub, Nat.reduceLT, List.cons_append, List.nil_append, Option.some.injEq, reduceCtorEq, reduceIte, Bool.not_true, Bool.not_false, Bool.false_eq_true, List.isEmpty]
    refine ⟨by decide, [(p, q)], rfl, g, [(p, q)], f, s, rfl, g, hf, hs, ?_⟩
    rw [eD]
    exact ⟨runL [(p, q)] f s, duesL [(p, q)] f s, rfl, by simp [runL, sumsL], d1, hn _ rfl⟩
  rintro σ rfl
  let v := low (dueA f s ((⟨0, 1, 1⟩ : Sm3).go (p, q))) (dueB f s ((⟨0, 1, 1⟩ : Sm3).go (p, q)))
  have erun : (runL [(p, q)] f s).map fD = [fD f, fD s, fD v] := by
    show [fD f, fD (low (dueA f s ⟨0, 1, 1⟩) (dueB f s ⟨0, 1, 1⟩)), fD v] = _
    rw [← due0 hf hs]
  rw [erun]
  have l0 : Low r0 p (p + q) := low_ok _ _ (by omega)
  have l1 : Low r1 (-p - q) p := low_ok _ _ (by omega)
  have l2 : Low r2 (q * (2 * p + q)) ((p + q) * p) := low_ok _ _ n2
  have ok1 : SmOk 1 ((⟨0, 1, 1⟩ : Sm3).go (p, q)) := SmOk.zero.go hw
  have vB := dueB_pos hf hs ok1
  have lv : Low v (dueA f s ((⟨0, 1, 1⟩ : Sm3).go (p, q))) (dueB f s ((⟨0, 1, 1⟩ : Sm3).go (p, q))) := low_ok _ _ (by omega)
  have sv1 : sm 1100 v.1 := lv.sm1 (by omega) (dueA_sm hf hs ok1 (by omega))
  have sv2 : sm 1100 v.2 := lv.sm2 (by omega) (dueB_sm hf hs ok1 (by omega))
  have a1 : sm 10 r0.1 := l0.sm1 (by omega) sp
  have a2 : sm 10 r0.2 := l0.sm2 (by omega) ss
  have b1 : sm 11 r1.1 := l1.sm1 (by omega) (sp.neg.sub sq)
  have b2 : sm 10 r1.2 := l1.sm2 (by omega) sp
  have c1 : sm 23 r2.1 := l2.sm1 n2 (sq.mul tw)
  have c2 : sm 20 r2.2 := l2.sm2 n2 (ss.mul sp)
  have eqn := lv.eq
  have e0 := l0.eq
  have e1 := l1.eq
  have e2 := l2.eq
  clear_value r0 r1 r2 v
  have zero : ((0 * r0.2 * f.2 + 1 * r0.1 * f.1) * r1.2 * s.2 + 1 * r0.2 * f.2 * r1.1 * s.1) * r2.2 * v.2 + 1 * r0.2 * f.2 * r1.2 * s.2 * r2.1 * v.1 = 0 := by
    have eA : dueA f s ((⟨0, 1, 1⟩ : Sm3).go (p, q)) = s.1 * f.2 * (q * q + 2 * p * q) + (s.1 * f.2 - f.1 * s.2) * (p * p) := by
      show s.1 * f.2 * (1 * (q * q + 2 * p * q)) + (s.1 * f.2 - f.1 * s.2) * (0 * (q * q + 2 * p * q) + 1 * (p * p)) = _
      grind
    have eB : dueB f s ((⟨0, 1, 1⟩ : Sm3).go (p, q)) = f.2 * s.2 * (q * q + 2 * p * q) := by
      show f.2 * s.2 * (1 * (q * q + 2 * p * q)) = _
      grind
    rw [eA, eB] at eqn
    have nN : (p + q) * p * (q * q + 2 * p * q) ≠ 0 := Int.mul_ne_zero n2 (by have : shB (p, q) = q * q + 2 * p * q := rfl; have := hw.pB; omega)
    refine Int.eq_of_mul_eq_mul_right nN ?_
    refine Eq.trans ?_ (Int.zero_mul _).symm
    generalize hN : q * q + 2 * p * q = S at *
    have split : (((0 * r0.2 * f.2 + 1 * r0.1 * f.1) * r1.2 * s.2 + 1 * r0.2 * f.2 * r1.1 * s.1) * r2.2 * v.2 + 1 * r0.2 * f.2 * r1.2 * s.2 * r2.1 * v.1) * ((p + q) * p * S) =
      (r0.1 * (p + q)) * (f.1 * r1.2 * s.2 * r2.2 * v.2 * p * S) + (r1.1 * p) * (r0.2 * f.2 * s.1 * r2.2 * v.2 * (p + q) * S) + (r2.1 * ((p + q) * p)) * (v.1 * (f.2 * s.2 * S)) * (r0.2 * r1.2) := by grind
    rw [split, e0, e1, e2, eqn]
    have eS : q * (2 * p + q) = S := by rw [← hN]; grind
    rw [eS]
    have fin : p * r0.2 * (f.1 * r1.2 * s.2 * r2.2 * v.2 * p * S) + (-p - q) * r1.2 * (r0.2 * f.2 * s.1 * r2.2 * v.2 * (p + q) * S) + S * r2.2 * ((s.1 * f.2 * S + (s.1 * f.2 - f.1 * s.2) * (p * p)) * v.2) * (r0.2 * r1.2) = (r0.2 * r1.2 * r2.2 * v.2 * S) * (s.1 * f.2 * (S + p * p - (p + q) * (p + q))) := by grind
    rw [fin]
    have z : S + p * p - (p + q) * (p + q) = 0 := by rw [← hN]; grind
    rw [z]; simp
  have s0 : sm 1 0 := by unfold sm; decide
  have s1 : sm 1 1 := by unfold sm; decide
  have f1 := hf.s1
  have f2 := hf.s2
  have g1 := hs.s1
  have g2 := hs.s2
  have X : sm 30 (0 * r0.2 * f.2 + 1 * r0.1 * f.1) := ((((s0.mul a2).mul f2).mono (by omega) : sm 29 _).add (((s1.mul a1).mul f1).mono (by omega)))
  have Y := ((s1.mul a2).mul f2)
  have Z : sm 60 ((0 * r0.2 * f.2 + 1 * r0.1 * f.1) * r1.2 * s.2 + 1 * r0.2 * f.2 * r1.1 * s.1) := ((((X.mul b2).mul g2).mono (by omega) : sm 59 _).add (((Y.mul b1).mul g1).mono (by omega)))
  have T := (Y.mul b2).mul g2
  simp only [LV.begin, at_0, at_1, at_2, at_3, at_m1a, at_m1b, at_m1c, at_m1d, at_m2b, at_m2c, decide_true, eq_self, Int.reduceEq, true_and, and_true, false_and, and_false, or_false, false_or, Int.reduceNeg, gIx, decide_false, Bool.and_true, Bool.true_and, Bool.or_true, wSeq, wSet, wAsg, wPar, wIf, wIfS, wTst, LV.wTru, LV.wNot, wAnd, wOr, wAndV, wOrV, wNotV, wOp, wUn, wV, wC, fCI, fAdd, fSub, fMul, fDiv, fMod, fPow, fNeg, fIx, fIs, fIsNot, fEq, fNe, fLt, fLe, fGt, fGe, wCB, wCons, wNil, w1, wApp, wIsi, isiB, bagD, isNonD, fLen, fAbs, fInt, fGcd, fList, fTuple, fRepr, fLz, fLen0, fLrv, fSum, fMax, fMin, fAll, fAny, seqD, rdL, rdW, fzL, fzW, unL, putS, RV.sl, wRet, wRetN, wNever, wNext, wDrop, wTup, wLst, outW, placeW, gN, gTu, gCo, gNi, wFor, zSeq, zr_0, zr_1, zr_2, zr_3, zr_4, nc_0, nc_1, nc_2, nc_3, nc_4, zEnum, zZip, ixD, tru, wCall, wCallK, wAppend, owW, wSl, fSl, wONone, wOSome, wLc, wYes, List.map, List.replicate, List.length, List.append, List.set, List.take, List.drop, List.getLast?, List.dropLast, List.filterMap, List.getElem?_cons_zero, List.getElem?_cons_succ, List.getElem?_nil, Nat.reduceAdd, Nat.reduceSub, Nat.reduceLT, List.cons_append, List.nil_append, Option.some.injEq, reduceCtorEq, reduceIte, Bool.not_true, Bool.not_false, Bool.false_eq_true, List.isEmpty, wForL, wLcL, enumD, zipD, wipeS, backS, List.all_cons, List.all_nil, List.getD_cons_zero, List.getD_cons_succ, notOw, intsOf, Option.map_some, exists_eq_left', Nat.zero_add, List.reverse_cons]
  refine ⟨s0.mulW a2 (by omega), (s0.mul a2).mulW f2 (by omega), s1.mulW a1 (by omega), (s1.mul a1).mulW f1 (by omega), s1.mulW a2 (by omega), (s1.mul a2).mulW f2 (by omega), X.mulW b2 (by omega), (X.mul b2).mulW g2 (by omega), Y.mulW b1 (by omega), (Y.mul b1).mulW g1 (by omega), Y.mulW b2 (by omega), (Y.mul b2).mulW g2 (by omega),
    Z.mulW c2 (by omega), (Z.mul c2).mulW sv2 (by omega), T.mulW c1 (by omega), (T.mul c1).mulW sv1 (by omega), T.mulW c2 (by omega), (T.mul c2).mulW sv2 (by omega), ?_⟩
  rw [decide_eq_true zero]
  exact hq
theorem p_law1 {K : PySem.W.Frag} : W_law1 K { nx := fun s => ∃ (cells : List Int) (mixed : Int), (∀ c ∈ cells, 0 ≤ c) ∧ 0 ≤ mixed ∧ mixed < 2147483647 ∧ s[1]? = some (.ow [.lst (cells.map D.int), .int 0, .int mixed]), rt := fun _ => False } (begin 14 [.scr K]) := by
  simp only [W_law1, FOwn, LV.begin, at_0, at_1, at_2, at_3, at_m1a, at_m1b, at_m1c, at_m1d, at_m2b, at_m2c, decide_true, eq_self, Int.reduceEq, true_and, and_true, false_and, and_false, or_false, false_or, Int.reduceNeg, gIx, decide_false, Bool.and_true, Bool.true_and, Bool.or_true, wSeq, wSet, wAsg, wPar, wIf, wIfS, wTst, LV.wTru, LV.wNot, wAnd, wOr, wAndV, wOrV, wNotV, wOp, wUn, wV, wC, fCI, fAdd, fSub, fMul, fDiv, fMod, fPow, fNeg, fIx, fIs, fIsNot, fEq, fNe, fLt, fLe, fGt, fGe, wCB, wCons, wNil, w1, wApp, wIsi, isiB, bagD, isNonD, fLen, fAbs, fInt, fGcd, fList, fTuple, fRepr, fLz, fLen0, fLrv, fSum, fMax, fMin, fAll, fAny, seqD, rdL, rdW, fzL, fzW, unL, putS, RV.sl, wRet, wRetN, wNever, wNext, wDrop, wTup, wLst, outW, placeW, gN, gTu, gCo, gNi, wFor, zSeq, zr_0, zr_1, zr_2, zr_3, zr_4, nc_0, nc_1, nc_2, nc_3, nc_4, zEnum, zZip, ixD, tru, wCall, wCallK, wAppend, owW, wSl, fSl, wONone, wOSome, wLc, wYes, List.map, List.replicate, List.length, List.append, List.set, List.take, List.drop, List.getLast?, List.dropLast, List.filterMap, List.getElem?_cons_zero, List.getElem?_cons_succ, List.getElem?_nil, Nat.reduceAdd, Nat.reduceSub, Nat.reduceLT, List.cons_append, List.nil_append, Option.some.injEq, reduceCtorEq, reduceIte, Bool.not_true, Bool.not_false, Bool.false_eq_true, List.isEmpty]
  exact fun cells mixed h1 h2 h3 => ⟨cells, mixed, h1, h2, h3, rfl⟩
theorem draw_lg (n : Int) (h1 : 1 ≤ n) (h2 : n ≤ 1000) : 0 < n ∧ n.natAbs.log2 < 9000 := ⟨by omega, log_small (by omega) (by omega)⟩
theorem p_law2 {K : PySem.W.Frag} : W_law2 K { nx := fun _ => False, rt := fun r => r = .sh (.bl true) } ((List.replicate 14 .un).set 1 (.sh (.bag 1))) := by
  unfold W_law2
  refine seq_cut (fun σ => ∃ m, 1 ≤ m ∧ m ≤ 1000 ∧ σ = [.un, .sh (.bag 1), .sh (.int m), .un, .un, .un, .un, .un, .un, .un, .un, .un, .un, .un]) (fun nx hn => ?_) ?_
  · simp only [FDraw, LV.begin, at_0, at_1, at_2, at_3, at_m1a, at_m1b, at_m1c, at_m1d, at_m2b, at_m2c, decide_true, eq_self, Int.reduceEq, true_and, and_true, false_and, and_false, or_false, false_or, Int.reduceNeg, gIx, decide_false, Bool.and_true, Bool.true_and, Bool.or_true, wSeq, wSet, wAsg, wPar, wIf, wIfS, wTst, LV.wTru, LV.wNot, wAnd, wOr, wAndV, wOrV, wNotV, wOp, wUn, wV, wC, fCI, fAdd, fSub, fMul, fDiv, fMod, fPow, fNeg, fIx, fIs, fIsNot, fEq, fNe, fLt, fLe, fGt, fGe, wCB, wCons, wNil, w1, wApp, wIsi, isiB, bagD, isNonD, fLen, fAbs, fInt, fGcd, fList, fTuple, fRepr, fLz, fLen0, fLrv, fSum, fMax, fMin, fAll, fAny, seqD, rdL, rdW, fzL, fzW, unL, putS, RV.sl, wRet, wRetN, wNever, wNext, wDrop, wTup, wLst, outW, placeW, gN, gTu, gCo, gNi, wFor, zSeq, zr_0, zr_1, zr_2, zr_3, zr_4, nc_0, nc_1, nc_2, nc_3, nc_4, zEnum, zZip, ixD, tru, wCall, wCallK, wAppend, owW, wSl, fSl, wONone, wOSome, wLc, wYes, List.map, List.replicate, List.length, List.append, List.set, List.take, List.drop, List.getLast?, List.dropLast, List.filterMap, List.getElem?_cons_zero, List.getElem?_cons_succ, List.getElem?_nil, Nat.reduceAdd, Nat.reduceSub, Nat.reduceLT, List.cons_append, List.nil_append, Option.some.injEq, reduceCtorEq, reduceIte, Bool.not_true, Bool.not_false, Bool.false_eq_true, List.isEmpty]
    refine ⟨8, rfl, by decide, log_small (by decide) (by decide), fun r h0 h1 => ?_⟩
    split
    · exact hn _ ⟨1000, by decide, by decide, rfl⟩
    · exact hn _ ⟨12, by decide, by decide, rfl⟩
  rintro σ ⟨m, m1, m2, rfl⟩
  refine seq_cut (fun σ => ∃ f, Vl f ∧ σ = [.un, .sh (.bag 1), .sh (.int m), .sh (fD f), .un, .un, .un, .un, .un, .un, .un, .un, .un, .un]) (fun nx hn => ?_) ?_
  · simp only [F__law_value, LV.begin, at_0, at_1, at_2, at_3, at_m1a, at_m1b, at_m1c, at_m1d, at_m2b, at_m2c, decide_true, eq_self, Int.reduceEq, true_and, and_true, false_and, and_false, or_false, false_or, Int.reduceNeg, gIx, decide_false, Bool.and_true, Bool.true_and, Bool.or_true, wSeq, wSet, wAsg, wPar, wIf, wIfS, wTst, LV.wTru, LV.wNot, wAnd, wOr, wAndV, wOrV, wNotV, wOp, wUn, wV, wC, fCI, fAdd, fSub, fMul, fDiv, fMod, fPow, fNeg, fIx, fIs, fIsNot, fEq, fNe, fLt, fLe, fGt, fGe, wCB, wCons, wNil, w1, wApp, wIsi, isiB, bagD, isNonD, fLen, fAbs, fInt, fGcd, fList, fTuple, fRepr, fLz, fLen0, fLrv, fSum, fMax, fMin, fAll, fAny, seqD, rdL, rdW, fzL, fzW, unL, putS, RV.sl, wRet, wRetN, wNever, wNext, wDrop, wTup, wLst, outW, placeW, gN, gTu, gCo, gNi, wFor, zSeq, zr_0, zr_1, zr_2, zr_3, zr_4, nc_0, nc_1, nc_2, nc_3, nc_4, zEnum, zZip, ixD, tru, wCall, wCallK, wAppend, owW, wSl, fSl, wONone, wOSome, wLc, wYes, List.map, List.replicate, List.length, List.append, List.set, List.take, List.drop, List.getLast?, List.dropLast, List.filterMap, List.getElem?_cons_zero, List.getElem?_cons_succ, List.getElem?_nil, Nat.reduceAdd, Nat.reduceSub, Nat.reduceLT, List.cons_append, List.nil_append, Option.some.injEq, reduceCtorEq, reduceIte, Bool.not_true, Bool.not_false, Bool.false_eq_true, List.isEmpty]
    exact ⟨m1, m2, fun x hx => hn _ ⟨x, hx, rfl⟩⟩
  rintro σ ⟨f, hf, rfl⟩
  refine seq_cut (fun σ => ∃ s, Vl s ∧ σ = [.un, .sh (.bag 1), .sh (.int m), .sh (fD f), .sh (fD s), .un, .un, .un, .un, .un, .un, .un, .un, .un]) (fun nx hn => ?_) ?_
  · simp only [FDraw, F__law_value, LV.begin, at_0, at_1, at_2, at_3, at_m1a, at_m1b, at_m1c, at_m1d, at_m2b, at_m2c, decide_true, eq_self, Int.reduceEq, true_and, and_true, false_and, and_false, or_false, false_or, Int.reduceNeg, gIx, decide_false, Bool.and_true, Bool.true_and, Bool.or_true, wSeq, wSet, wAsg, wPar, wIf, wIfS, wTst, LV.wTru, LV.wNot, wAnd, wOr, wAndV, wOrV, wNotV, wOp, wUn, wV, wC, fCI, fAdd, fSub, fMul, fDiv, fMod, fPow, fNeg, fIx, fIs, fIsNot, fEq, fNe, fLt, fLe, fGt, fGe, wCB, wCons, wNil, w1, wApp, wIsi, isiB, bagD, isNonD, fLen, fAbs, fInt, fGcd, fList, fTuple, fRepr, fLz, fLen0, fLrv, fSum, fMax, fMin, fAll, fAny, seqD, rdL, rdW, fzL, fzW, unL, putS, RV.sl, wRet, wRetN, wNever, wNext, wDrop, wTup, wLst, outW, placeW, gN, gTu, gCo, gNi, wFor, zSeq, zr_0, zr_1, zr_2, zr_3, zr_4, nc_0, nc_1, nc_2, nc_3, nc_4, zEnum, zZip, ixD, tru, wCall, wCallK, wAppend, owW, wSl, fSl, wONone, wOSome, wLc, wYes, List.map, List.replicate, List.length, List.append, List.set, List.take, List.drop, List.getLast?, List.dropLast, List.filterMap, List.getElem?_cons_zero, List.getElem?_cons_succ, List.getElem?_nil, Nat.reduceAdd, Nat.reduceSub, Nat.reduceLT, List.cons_append, List.nil_append, Option.some.injEq, reduceCtorEq, reduceIte, Bool.not_true, Bool.not_false, Bool.false_eq_true, List.isEmpty]
    refine ⟨6, rfl, by decide, log_small (by decide) (by decide), fun r h0 h1 => ?_⟩
    split
    · exact hn _ ⟨f, hf, rfl⟩
    · exact ⟨m1, m2, fun x hx => hn _ ⟨x, hx, rfl⟩⟩
  rintro σ ⟨s, hs, rfl⟩
  refine seq_cut (fun σ => ∃ u0 u1 u2, Qt u0 ∧ Qt u1 ∧ Qt u2 ∧ σ = [.un, .sh (.bag 1), .sh (.int m), .sh (fD f), .sh (fD s), .ow [fD u0, fD u1, fD u2], .un, .un, .un, .un, .un, .un, .un, .un]) (fun nx hn => ?_) ?_
  · simp only [F__law_quotient, LV.begin, at_0, at_1, at_2, at_3, at_m1a, at_m1b, at_m1c, at_m1d, at_m2b, at_m2c, decide_true, eq_self, Int.reduceEq, true_and, and_true, false_and, and_false, or_false, false_or, Int.reduceNeg, gIx, decide_false, Bool.and_true, Bool.true_and, Bool.or_true, wSeq, wSet, wAsg, wPar, wIf, wIfS, wTst, LV.wTru, LV.wNot, wAnd, wOr, wAndV, wOrV, wNotV, wOp, wUn, wV, wC, fCI, fAdd, fSub, fMul, fDiv, fMod, fPow, fNeg, fIx, fIs, fIsNot, fEq, fNe, fLt, fLe, fGt, fGe, wCB, wCons, wNil, w1, wApp, wIsi, isiB, bagD, isNonD, fLen, fAbs, fInt, fGcd, fList, fTuple, fRepr, fLz, fLen0, fLrv, fSum, fMax, fMin, fAll, fAny, seqD, rdL, rdW, fzL, fzW, unL, putS, RV.sl, wRet, wRetN, wNever, wNext, wDrop, wTup, wLst, outW, placeW, gN, gTu, gCo, gNi, wFor, zSeq, zr_0, zr_1, zr_2, zr_3, zr_4, nc_0, nc_1, nc_2, nc_3, nc_4, zEnum, zZip, ixD, tru, wCall, wCallK, wAppend, owW, wSl, fSl, wONone, wOSome, wLc, wYes, List.map, List.replicate, List.length, List.append, List.set, List.take, List.drop, List.getLast?, List.dropLast, List.filterMap, List.getElem?_cons_zero, List.getElem?_cons_succ, List.getElem?_nil, Nat.reduceAdd, Nat.reduceSub, Nat.reduceLT, List.cons_append, List.nil_append, Option.some.injEq, reduceCtorEq, reduceIte, Bool.not_true, Bool.not_false, Bool.false_eq_true, List.isEmpty, wForL, wLcL, enumD, zipD, wipeS, backS, List.all_cons, List.all_nil, List.getD_cons_zero, List.getD_cons_succ, notOw, intsOf, Option.map_some, exists_eq_left', Nat.zero_add, List.reverse_cons]
    exact ⟨by decide, by decide, fun u0 q0 => ⟨by decide, by decide, fun u1 q1 => ⟨by decide, by decide, fun u2 q2 => hn _ ⟨u0, u1, u2, q0, q1, q2, rfl⟩⟩⟩⟩
  rintro σ ⟨u0, u1, u2, q0, q1, q2, rfl⟩
  refine seq_cut (fun σ => ∃ u3 u4 u5, Qt u3 ∧ Qt u4 ∧ Qt u5 ∧ σ = [.un, .sh (.bag 1), .sh (.int m), .sh (fD f), .sh (fD s), .ow [fD u0, fD u1, fD u2, fD u3, fD u4, fD u5], .un, .un, .un, .un, .un, .un, .un, .un]) (fun nx hn => ?_) ?_
  · simp only [F__law_pick, F__law_near, LV.begin, at_0, at_1, at_2, at_3, at_m1a, at_m1b, at_m1c, at_m1d, at_m2b, at_m2c, decide_true, eq_self, Int.reduceEq, true_and, and_true, false_and, and_false, or_false, false_or, Int.reduceNeg, gIx, decide_false, Bool.and_true, Bool.true_and, Bool.or_true, wSeq, wSet, wAsg, wPar, wIf, wIfS, wTst, LV.wTru, LV.wNot, wAnd, wOr, wAndV, wOrV, wNotV, wOp, wUn, wV, wC, fCI, fAdd, fSub, fMul, fDiv, fMod, fPow, fNeg, fIx, fIs, fIsNot, fEq, fNe, fLt, fLe, fGt, fGe, wCB, wCons, wNil, w1, wApp, wIsi, isiB, bagD, isNonD, fLen, fAbs, fInt, fGcd, fList, fTuple, fRepr, fLz, fLen0, fLrv, fSum, fMax, fMin, fAll, fAny, seqD, rdL, rdW, fzL, fzW, unL, putS, RV.sl, wRet, wRetN, wNever, wNext, wDrop, wTup, wLst, outW, placeW, gN, gTu, gCo, gNi, wFor, zSeq, zr_0, zr_1, zr_2, zr_3, zr_4, nc_0, nc_1, nc_2, nc_3, nc_4, zEnum, zZip, ixD, tru, wCall, wCallK, wAppend, owW, wSl, fSl, wONone, wOSome, wLc, wYes, List.map, List.replicate, List.length, List.append, List.set, List.take, List.drop, List.getLast?, List.dropLast, List.filterMap, List.getElem?_cons_zero, List.getElem?_cons_succ, List.getElem?_nil, Nat.reduceAdd, Nat.reduceSub, Nat.reduceLT, List.cons_append, List.nil_append, Option.some.injEq, reduceCtorEq, reduceIte, Bool.not_true, Bool.not_false, Bool.false_eq_true, List.isEmpty, wForL, wLcL, enumD, zipD, wipeS, backS, List.all_cons, List.all_nil, List.getD_cons_zero, List.getD_cons_succ, notOw, intsOf, Option.map_some, exists_eq_left', Nat.zero_add, List.reverse_cons]
    refine ⟨_, rfl, by decide, by decide, fun d hd => ⟨_, rfl, by decide, by decide, fun d2 hd2 => ⟨_, rfl, by decide, by decide, fun d3 hd3 => ?_⟩⟩⟩
    obtain ⟨u3, h3, rfl⟩ := List.mem_map.mp hd
    obtain ⟨u4, h4, rfl⟩ := List.mem_map.mp hd2
    obtain ⟨u5, h5, rfl⟩ := List.mem_map.mp hd3
    exact ⟨by rw [sizeLine_eq]; decide, hn _ ⟨u3, u4, u5, near_ok _ h3, near_ok _ h4, near_ok _ h5, rfl⟩⟩
  rintro σ ⟨u3, u4, u5, q3, q4, q5, rfl⟩
  refine seq_cut (fun σ => ∃ y : Int, 0 ≤ y ∧ y < 24 ∧ σ = [.un, .sh (.bag 1), .sh (.int m), .sh (fD f), .sh (fD s), .ow [fD u0, fD u1, fD u2, fD u3, fD u4, fD u5], .un, .sh (.int y), .sh (.bl true), .un, .un, .un, .un, .un]) (fun nx hn => ?_) ?_
  · simp only [FDraw, LV.begin, at_0, at_1, at_2, at_3, at_m1a, at_m1b, at_m1c, at_m1d, at_m2b, at_m2c, decide_true, eq_self, Int.reduceEq, true_and, and_true, false_and, and_false, or_false, false_or, Int.reduceNeg, gIx, decide_false, Bool.and_true, Bool.true_and, Bool.or_true, wSeq, wSet, wAsg, wPar, wIf, wIfS, wTst, LV.wTru, LV.wNot, wAnd, wOr, wAndV, wOrV, wNotV, wOp, wUn, wV, wC, fCI, fAdd, fSub, fMul, fDiv, fMod, fPow, fNeg, fIx, fIs, fIsNot, fEq, fNe, fLt, fLe, fGt, fGe, wCB, wCons, wNil, w1, wApp, wIsi, isiB, bagD, isNonD, fLen, fAbs, fInt, fGcd, fList, fTuple, fRepr, fLz, fLen0, fLrv, fSum, fMax, fMin, fAll, fAny, seqD, rdL, rdW, fzL, fzW, unL, putS, RV.sl, wRet, wRetN, wNever, wNext, wDrop, wTup, wLst, outW, placeW, gN, gTu, gCo, gNi, wFor, zSeq, zr_0, zr_1, zr_2, zr_3, zr_4, nc_0, nc_1, nc_2, nc_3, nc_4, zEnum, zZip, ixD, tru, wCall, wCallK, wAppend, owW, wSl, fSl, wONone, wOSome, wLc, wYes, List.map, List.replicate, List.length, List.append, List.set, List.take, List.drop, List.getLast?, List.dropLast, List.filterMap, List.getElem?_cons_zero, List.getElem?_cons_succ, List.getElem?_nil, Nat.reduceAdd, Nat.reduceSub, Nat.reduceLT, List.cons_append, List.nil_append, Option.some.injEq, reduceCtorEq, reduceIte, Bool.not_true, Bool.not_false, Bool.false_eq_true, List.isEmpty]
    exact ⟨24, rfl, by decide, log_small (by decide) (by decide), fun r h0 h1 => hn _ ⟨r, h0, h1, rfl⟩⟩
  rintro σ ⟨y, y0, y1, rfl⟩
  refine seq_cut (fun σ => ∃ few, GoodL few ∧ σ = [.un, .sh (.bag 1), .sh (.int m), .sh (fD f), .sh (fD s), .ow [fD u0, fD u1, fD u2, fD u3, fD u4, fD u5], .un, .sh (.int y), .sh (.bl true), .sh (.tup (few.map fD)), .un, .un, .un, .un]) (fun nx hn => ?_) ?_
  · simp only [FDraw, F__law_own_quotients, LV.begin, at_0, at_1, at_2, at_3, at_m1a, at_m1b, at_m1c, at_m1d, at_m2b, at_m2c, decide_true, eq_self, Int.reduceEq, true_and, and_true, false_and, and_false, or_false, false_or, Int.reduceNeg, gIx, decide_false, Bool.and_true, Bool.true_and, Bool.or_true, wSeq, wSet, wAsg, wPar, wIf, wIfS, wTst, LV.wTru, LV.wNot, wAnd, wOr, wAndV, wOrV, wNotV, wOp, wUn, wV, wC, fCI, fAdd, fSub, fMul, fDiv, fMod, fPow, fNeg, fIx, fIs, fIsNot, fEq, fNe, fLt, fLe, fGt, fGe, wCB, wCons, wNil, w1, wApp, wIsi, isiB, bagD, isNonD, fLen, fAbs, fInt, fGcd, fList, fTuple, fRepr, fLz, fLen0, fLrv, fSum, fMax, fMin, fAll, fAny, seqD, rdL, rdW, fzL, fzW, unL, putS, RV.sl, wRet, wRetN, wNever, wNext, wDrop, wTup, wLst, outW, placeW, gN, gTu, gCo, gNi, wFor, zSeq, zr_0, zr_1, zr_2, zr_3, zr_4, nc_0, nc_1, nc_2, nc_3, nc_4, zEnum, zZip, ixD, tru, wCall, wCallK, wAppend, owW, wSl, fSl, wONone, wOSome, wLc, wYes, List.map, List.replicate, List.length, List.append, List.set, List.take, List.drop, List.getLast?, List.dropLast, List.filterMap, List.getElem?_cons_zero, List.getElem?_cons_succ, List.getElem?_nil, Nat.reduceAdd, Nat.reduceSub, Nat.reduceLT, List.cons_append, List.nil_append, Option.some.injEq, reduceCtorEq, reduceIte, Bool.not_true, Bool.not_false, Bool.false_eq_true, List.isEmpty]
    exact ⟨7, rfl, by decide, log_small (by decide) (by decide), fun r h0 h1 => ⟨by decide, by decide, h0, by omega, fun l hl => hn _ ⟨l, hl, rfl⟩⟩⟩
  rintro σ ⟨few, hfew, rfl⟩
  refine seq_cut (fun σ => ∃ (l : List Fr) (t : Bool) (z : Sl), GoodL l ∧ σ = [.un, .sh (.bag 1), .sh (.int m), .sh (fD f), .sh (fD s), .ow [fD u0, fD u1, fD u2, fD u3, fD u4, fD u5], .un, .sh (.int y), .sh (.bl t), .sh (.tup (few.map fD)), .sh (.tup (l.map fD)), z, .un, .un]) (fun nx hn => ?_) ?_
  · simp only [FDraw, F__law_own_quotients, LV.begin, at_0, at_1, at_2, at_3, at_m1a, at_m1b, at_m1c, at_m1d, at_m2b, at_m2c, decide_true, eq_self, Int.reduceEq, true_and, and_true, false_and, and_false, or_false, false_or, Int.reduceNeg, gIx, decide_false, Bool.and_true, Bool.true_and, Bool.or_true, wSeq, wSet, wAsg, wPar, wIf, wIfS, wTst, LV.wTru, LV.wNot, wAnd, wOr, wAndV, wOrV, wNotV, wOp, wUn, wV, wC, fCI, fAdd, fSub, fMul, fDiv, fMod, fPow, fNeg, fIx, fIs, fIsNot, fEq, fNe, fLt, fLe, fGt, fGe, wCB, wCons, wNil, w1, wApp, wIsi, isiB, bagD, isNonD, fLen, fAbs, fInt, fGcd, fList, fTuple, fRepr, fLz, fLen0, fLrv, fSum, fMax, fMin, fAll, fAny, seqD, rdL, rdW, fzL, fzW, unL, putS, RV.sl, wRet, wRetN, wNever, wNext, wDrop, wTup, wLst, outW, placeW, gN, gTu, gCo, gNi, wFor, zSeq, zr_0, zr_1, zr_2, zr_3, zr_4, nc_0, nc_1, nc_2, nc_3, nc_4, zEnum, zZip, ixD, tru, wCall, wCallK, wAppend, owW, wSl, fSl, wONone, wOSome, wLc, wYes, List.map, List.replicate, List.length, List.append, List.set, List.take, List.drop, List.getLast?, List.dropLast, List.filterMap, List.getElem?_cons_zero, List.getElem?_cons_succ, List.getElem?_nil, Nat.reduceAdd, Nat.reduceSub, Nat.reduceLT, List.cons_append, List.nil_append, Option.some.injEq, reduceCtorEq, reduceIte, Bool.not_true, Bool.not_false, Bool.false_eq_true, List.isEmpty]
    split
    · exact ⟨by decide, by decide, by decide, by decide, fun l hl => hn _ ⟨l, false, .un, hl, rfl⟩⟩
    split
    · exact ⟨12, rfl, by decide, log_small (by decide) (by decide), fun r h0 h1 => ⟨by decide, by decide, by omega, by omega, fun l hl => hn _ ⟨l, true, .un, hl, rfl⟩⟩⟩
    split
    · split
      · exact ⟨by decide, by decide, by decide, by decide, fun l hl => hn _ ⟨l, _, _, hl, rfl⟩⟩
      · exact ⟨28, rfl, by decide, log_small (by decide) (by decide), fun r h0 h1 => ⟨by decide, by decide, by omega, by omega, fun l hl => hn _ ⟨l, _, _, hl, rfl⟩⟩⟩
    · exact ⟨13, rfl, by decide, log_small (by decide) (by decide), fun r h0 h1 => ⟨by decide, by decide, by omega, by omega, fun l hl => hn _ ⟨l, true, .un, hl, rfl⟩⟩⟩
  rintro σ ⟨l, t, z, hl, rfl⟩
  refine seq_cut (fun σ => ∃ (a b : Sl), σ = [.un, .sh (.bag 1), .sh (.int m), .sh (fD f), .sh (fD s), .ow [fD u0, fD u1, fD u2, fD u3, fD u4, fD u5], a, .sh (.int y), .sh (.bl t), .sh (.tup (few.map fD)), .sh (.tup (l.map fD)), z, b, .un]) (fun nx hn => ?_) ?_
  · simp only [enumD, LV.begin, at_0, at_1, at_2, at_3, at_m1a, at_m1b, at_m1c, at_m1d, at_m2b, at_m2c, decide_true, eq_self, Int.reduceEq, true_and, and_true, false_and, and_false, or_false, false_or, Int.reduceNeg, gIx, decide_false, Bool.and_true, Bool.true_and, Bool.or_true, wSeq, wSet, wAsg, wPar, wIf, wIfS, wTst, LV.wTru, LV.wNot, wAnd, wOr, wAndV, wOrV, wNotV, wOp, wUn, wV, wC, fCI, fAdd, fSub, fMul, fDiv, fMod, fPow, fNeg, fIx, fIs, fIsNot, fEq, fNe, fLt, fLe, fGt, fGe, wCB, wCons, wNil, w1, wApp, wIsi, isiB, bagD, isNonD, fLen, fAbs, fInt, fGcd, fList, fTuple, fRepr, fLz, fLen0, fLrv, fSum, fMax, fMin, fAll, fAny, seqD, rdL, rdW, fzL, fzW, unL, putS, RV.sl, wRet, wRetN, wNever, wNext, wDrop, wTup, wLst, outW, placeW, gN, gTu, gCo, gNi, wFor, zSeq, zr_0, zr_1, zr_2, zr_3, zr_4, nc_0, nc_1, nc_2, nc_3, nc_4, zEnum, zZip, ixD, tru, wCall, wCallK, wAppend, owW, wSl, fSl, wONone, wOSome, wLc, wYes, List.map, List.replicate, List.length, List.append, List.set, List.take, List.drop, List.getLast?, List.dropLast, List.filterMap, List.getElem?_cons_zero, List.getElem?_cons_succ, List.getElem?_nil, Nat.reduceAdd, Nat.reduceSub, Nat.reduceLT, List.cons_append, List.nil_append, Option.some.injEq, reduceCtorEq, reduceIte, Bool.not_true, Bool.not_false, Bool.false_eq_true, List.isEmpty]
    refine ⟨_, rfl, ?_⟩
    refine forL (fun p : Nat × Fr => D.tup [.int (p.1 : Nat), fD p.2]) (fun done rest σ => (∀ p ∈ rest, Qt p.2) ∧ ∃ (a b : Sl), σ = [.un, .sh (.bag 1), .sh (.int m), .sh (fD f), .sh (fD s), .ow [fD u0, fD u1, fD u2, fD u3, fD u4, fD u5], a, .sh (.int y), .sh (.bl t), .sh (.tup (few.map fD)), .sh (.tup (l.map fD)), z, b, .un]) ?_ ?_
      [(0, u0), (1, u1), (2, u2), (3, u3), (4, u4), (5, u5)] [] _ ⟨?_, _, _, rfl⟩
    · rintro done ⟨i, w⟩ rest σ nx2 ⟨hp, a, b, rfl⟩ hnx
      have qw : Qt w := hp (i, w) (List.mem_cons_self ..)
      have next : nx2 [.un, .sh (.bag 1), .sh (.int m), .sh (fD f), .sh (fD s), .ow [fD u0, fD u1, fD u2, fD u3, fD u4, fD u5], .sh (.int (i : Nat)), .sh (.int y), .sh (.bl t), .sh (.tup (few.map fD)), .sh (.tup (l.map fD)), z, .sh (fD w), .un] :=
        hnx _ ⟨fun p hp' => hp p (List.mem_cons_of_mem _ hp'), _, _, rfl⟩
      simp only [LV.begin, at_0, at_1, at_2, at_3, at_m1a, at_m1b, at_m1c, at_m1d, at_m2b, at_m2c, decide_true, eq_self, Int.reduceEq, true_and, and_true, false_and, and_false, or_false, false_or, Int.reduceNeg, gIx, decide_false, Bool.and_true, Bool.true_and, Bool.or_true, wSeq, wSet, wAsg, wPar, wIf, wIfS, wTst, LV.wTru, LV.wNot, wAnd, wOr, wAndV, wOrV, wNotV, wOp, wUn, wV, wC, fCI, fAdd, fSub, fMul, fDiv, fMod, fPow, fNeg, fIx, fIs, fIsNot, fEq, fNe, fLt, fLe, fGt, fGe, wCB, wCons, wNil, w1, wApp, wIsi, isiB, bagD, isNonD, fLen, fAbs, fInt, fGcd, fList, fTuple, fRepr, fLz, fLen0, fLrv, fSum, fMax, fMin, fAll, fAny, seqD, rdL, rdW, fzL, fzW, unL, putS, RV.sl, wRet, wRetN, wNever, wNext, wDrop, wTup, wLst, outW, placeW, gN, gTu, gCo, gNi, wFor, zSeq, zr_0, zr_1, zr_2, zr_3, zr_4, nc_0, nc_1, nc_2, nc_3, nc_4, zEnum, zZip, ixD, tru, wCall, wCallK, wAppend, owW, wSl, fSl, wONone, wOSome, wLc, wYes, List.map, List.replicate, List.length, List.append, List.set, List.take, List.drop, List.getLast?, List.dropLast, List.filterMap, List.getElem?_cons_zero, List.getElem?_cons_succ, List.getElem?_nil, Nat.reduceAdd, Nat.reduceSub, Nat.reduceLT, List.cons_append, List.nil_append, Option.some.injEq, reduceCtorEq, reduceIte, Bool.not_true, Bool.not_false, Bool.false_eq_true, List.isEmpty]
      refine ⟨by decide, w, _, rfl, qw, ?_⟩
      simp only [LV.begin, at_0, at_1, at_2, at_3, at_m1a, at_m1b, at_m1c, at_m1d, at_m2b, at_m2c, decide_true, eq_self, Int.reduceEq, true_and, and_true, false_and, and_false, or_false, false_or, Int.reduceNeg, gIx, decide_false, Bool.and_true, Bool.true_and, Bool.or_true, wSeq, wSet, wAsg, wPar, wIf, wIfS, wTst, LV.wTru, LV.wNot, wAnd, wOr, wAndV, wOrV, wNotV, wOp, wUn, wV, wC, fCI, fAdd, fSub, fMul, fDiv, fMod, fPow, fNeg, fIx, fIs, fIsNot, fEq, fNe, fLt, fLe, fGt, fGe, wCB, wCons, wNil, w1, wApp, wIsi, isiB, bagD, isNonD, fLen, fAbs, fInt, fGcd, fList, fTuple, fRepr, fLz, fLen0, fLrv, fSum, fMax, fMin, fAll, fAny, seqD, rdL, rdW, fzL, fzW, unL, putS, RV.sl, wRet, wRetN, wNever, wNext, wDrop, wTup, wLst, outW, placeW, gN, gTu, gCo, gNi, wFor, zSeq, zr_0, zr_1, zr_2, zr_3, zr_4, nc_0, nc_1, nc_2, nc_3, nc_4, zEnum, zZip, ixD, tru, wCall, wCallK, wAppend, owW, wSl, fSl, wONone, wOSome, wLc, wYes, List.map, List.replicate, List.length, List.append, List.set, List.take, List.drop, List.getLast?, List.dropLast, List.filterMap, List.getElem?_cons_zero, List.getElem?_cons_succ, List.getElem?_nil, Nat.reduceAdd, Nat.reduceSub, Nat.reduceLT, List.cons_append, List.nil_append, Option.some.injEq, reduceCtorEq, reduceIte, Bool.not_true, Bool.not_false, Bool.false_eq_true, List.isEmpty]
      split
      · split
        · rename_i h1 h2
          refine ⟨w, f, s, rfl, qw, of_decide_eq_true h2, hf, hs, ?_⟩
          exact next
        · exact next
      · exact next
    · rintro done σ ⟨_, a, b, rfl⟩
      exact hn _ ⟨a, b, rfl⟩
    · intro p hp
      simp only [List.mem_cons, List.not_mem_nil, or_false] at hp
      rcases hp with rfl | rfl | rfl | rfl | rfl | rfl <;> assumption
  rintro σ ⟨a, b, rfl⟩
  have rs := (run_due hfew hf hs).small
  have hlen := runL_len few f s
  have hfl := hfew.1
  refine seq_cut (fun σ => σ = [.un, .sh (.bag 1), .sh (.int m), .sh (fD f), .sh (fD s), .ow [fD u0, fD u1, fD u2, fD u3, fD u4, fD u5], a, .sh (.int y), .sh (.bl t), .sh (.tup (few.map fD)), .sh (.tup (l.map fD)), z, b, .sh (.str (toPy (.tup ((runL few f s).map fD))).shown)]) (fun nx hn => ?_) ?_
  · simp only [LV.begin, at_0, at_1, at_2, at_3, at_m1a, at_m1b, at_m1c, at_m1d, at_m2b, at_m2c, decide_true, eq_self, Int.reduceEq, true_and, and_true, false_and, and_false, or_false, false_or, Int.reduceNeg, gIx, decide_false, Bool.and_true, Bool.true_and, Bool.or_true, wSeq, wSet, wAsg, wPar, wIf, wIfS, wTst, LV.wTru, LV.wNot, wAnd, wOr, wAndV, wOrV, wNotV, wOp, wUn, wV, wC, fCI, fAdd, fSub, fMul, fDiv, fMod, fPow, fNeg, fIx, fIs, fIsNot, fEq, fNe, fLt, fLe, fGt, fGe, wCB, wCons, wNil, w1, wApp, wIsi, isiB, bagD, isNonD, fLen, fAbs, fInt, fGcd, fList, fTuple, fRepr, fLz, fLen0, fLrv, fSum, fMax, fMin, fAll, fAny, seqD, rdL, rdW, fzL, fzW, unL, putS, RV.sl, wRet, wRetN, wNever, wNext, wDrop, wTup, wLst, outW, placeW, gN, gTu, gCo, gNi, wFor, zSeq, zr_0, zr_1, zr_2, zr_3, zr_4, nc_0, nc_1, nc_2, nc_3, nc_4, zEnum, zZip, ixD, tru, wCall, wCallK, wAppend, owW, wSl, fSl, wONone, wOSome, wLc, wYes, List.map, List.replicate, List.length, List.append, List.set, List.take, List.drop, List.getLast?, List.dropLast, List.filterMap, List.getElem?_cons_zero, List.getElem?_cons_succ, List.getElem?_nil, Nat.reduceAdd, Nat.reduceSub, Nat.reduceLT, List.cons_append, List.nil_append, Option.some.injEq, reduceCtorEq, reduceIte, Bool.not_true, Bool.not_false, Bool.false_eq_true, List.isEmpty]
    exact ⟨few, f, s, rfl, hfew, hf, hs, sha_pairs _, show_pairs _ rs, len_pairs _ (by omega) rs, hn _ rfl⟩
  rintro σ rfl
  refine seq_cut (fun σ => σ = [.un, .sh (.bag 1), .sh (.int m), .sh (fD f), .sh (fD s), .ow [fD u0, fD u1, fD u2, fD u3, fD u4, fD u5], a, .sh (.int y), .sh (.bl t), .sh (.tup (few.map fD)), .sh (.tup (l.map fD)), z, b, .sh (.str (toPy (.tup ((runL few f s).map fD))).shown)]) (fun nx hn => ?_) ?_
  · simp only [LV.begin, at_0, at_1, at_2, at_3, at_m1a, at_m1b, at_m1c, at_m1d, at_m2b, at_m2c, decide_true, eq_self, Int.reduceEq, true_and, and_true, false_and, and_false, or_false, false_or, Int.reduceNeg, gIx, decide_false, Bool.and_true, Bool.true_and, Bool.or_true, wSeq, wSet, wAsg, wPar, wIf, wIfS, wTst, LV.wTru, LV.wNot, wAnd, wOr, wAndV, wOrV, wNotV, wOp, wUn, wV, wC, fCI, fAdd, fSub, fMul, fDiv, fMod, fPow, fNeg, fIx, fIs, fIsNot, fEq, fNe, fLt, fLe, fGt, fGe, wCB, wCons, wNil, w1, wApp, wIsi, isiB, bagD, isNonD, fLen, fAbs, fInt, fGcd, fList, fTuple, fRepr, fLz, fLen0, fLrv, fSum, fMax, fMin, fAll, fAny, seqD, rdL, rdW, fzL, fzW, unL, putS, RV.sl, wRet, wRetN, wNever, wNext, wDrop, wTup, wLst, outW, placeW, gN, gTu, gCo, gNi, wFor, zSeq, zr_0, zr_1, zr_2, zr_3, zr_4, nc_0, nc_1, nc_2, nc_3, nc_4, zEnum, zZip, ixD, tru, wCall, wCallK, wAppend, owW, wSl, fSl, wONone, wOSome, wLc, wYes, List.map, List.replicate, List.length, List.append, List.set, List.take, List.drop, List.getLast?, List.dropLast, List.filterMap, List.getElem?_cons_zero, List.getElem?_cons_succ, List.getElem?_nil, Nat.reduceAdd, Nat.reduceSub, Nat.reduceLT, List.cons_append, List.nil_append, Option.some.injEq, reduceCtorEq, reduceIte, Bool.not_true, Bool.not_false, Bool.false_eq_true, List.isEmpty]
    exact ⟨l, f, s, t, rfl, hl, hf, hs, few, f, s, true, rfl, hfew, hf, hs, hn _ rfl⟩
  rintro σ rfl
  simp only [LV.begin, at_0, at_1, at_2, at_3, at_m1a, at_m1b, at_m1c, at_m1d, at_m2b, at_m2c, decide_true, eq_self, Int.reduceEq, true_and, and_true, false_and, and_false, or_false, false_or, Int.reduceNeg, gIx, decide_false, Bool.and_true, Bool.true_and, Bool.or_true, wSeq, wSet, wAsg, wPar, wIf, wIfS, wTst, LV.wTru, LV.wNot, wAnd, wOr, wAndV, wOrV, wNotV, wOp, wUn, wV, wC, fCI, fAdd, fSub, fMul, fDiv, fMod, fPow, fNeg, fIx, fIs, fIsNot, fEq, fNe, fLt, fLe, fGt, fGe, wCB, wCons, wNil, w1, wApp, wIsi, isiB, bagD, isNonD, fLen, fAbs, fInt, fGcd, fList, fTuple, fRepr, fLz, fLen0, fLrv, fSum, fMax, fMin, fAll, fAny, seqD, rdL, rdW, fzL, fzW, unL, putS, RV.sl, wRet, wRetN, wNever, wNext, wDrop, wTup, wLst, outW, placeW, gN, gTu, gCo, gNi, wFor, zSeq, zr_0, zr_1, zr_2, zr_3, zr_4, nc_0, nc_1, nc_2, nc_3, nc_4, zEnum, zZip, ixD, tru, wCall, wCallK, wAppend, owW, wSl, fSl, wONone, wOSome, wLc, wYes, List.map, List.replicate, List.length, List.append, List.set, List.take, List.drop, List.getLast?, List.dropLast, List.filterMap, List.getElem?_cons_zero, List.getElem?_cons_succ, List.getElem?_nil, Nat.reduceAdd, Nat.reduceSub, Nat.reduceLT, List.cons_append, List.nil_append, Option.some.injEq, reduceCtorEq, reduceIte, Bool.not_true, Bool.not_false, Bool.false_eq_true, List.isEmpty]
  refine ⟨few, f, s, rfl, hfew, hf, hs, sha_pairs _, show_pairs _ rs, len_pairs _ (by omega) rs, ?_⟩
  rw [decide_eq_true (Eq.refl _)]
  exact ⟨u0, _, rfl, q0, rfl⟩
section
variable {P : Program} {w : World} {K : PySem.W.Frag} {mg : Str → Option Value} {base : Heap}
def C_fraction_of (K : PySem.W.Frag) : Cxt := { N := ["a", "b", "divisor"], sc := defScope s_fraction_of, fnb := fun _ => true, fns := [], kws := [], bl := [], md := [("gcd", "math.gcd")], K := K }
theorem sc_fraction_of : FnScope ["a", "b", "divisor"] ["a", "b"] (defScope s_fraction_of) := ⟨rfl, rfl, rfl, by decide +kernel, rfl, by decide +kernel, by decide +kernel⟩
theorem c_fraction_of (K : PySem.W.Frag) : cSs (C_fraction_of K) 60 (defBody s_fraction_of) = some (W_fraction_of K) := by kernel_rfl
theorem b_fraction_of : BindOk "fraction_of" s_fraction_of ["a", "b"] := fun _ _ _ _ _ _ us hl => match us, hl with | [_, _], _ => rfl
theorem q_fraction_of : KwsOk "fraction_of" s_fraction_of ["a", "b"] [] := fun _ _ _ _ _ _ => fun _ h => nomatch h
theorem ok_fraction_of (T : Tp K DS ZS MS) (XK : K.In base) (G : base.Ns mainGlobals mg) : Kn P w K mg base 1 "fraction_of" ["a", "b"] (F_fraction_of) [] :=
  kn_of T (List.mem_iff_getElem?.mpr ⟨0, rfl⟩) XK G sc_fraction_of (c_fraction_of K) rfl rfl rfl (gf_of T XK G (by kernel_rfl) (by kernel_rfl) fns_nil) b_fraction_of q_fraction_of p_fraction_of
def C_fraction_sum (K : PySem.W.Frag) : Cxt := { N := ["x", "y"], sc := defScope s_fraction_sum, fnb := fun _ => true, fns := [("fraction_of", ["a", "b"], F_fraction_of)], kws := [], bl := [], md := [], K := K }
theorem sc_fraction_sum : FnScope ["x", "y"] ["x", "y"] (defScope s_fraction_sum) := ⟨rfl, rfl, rfl, by decide +kernel, rfl, by decide +kernel, by decide +kernel⟩
theorem c_fraction_sum (K : PySem.W.Frag) : cSs (C_fraction_sum K) 60 (defBody s_fraction_sum) = some (W_fraction_sum K) := by kernel_rfl
theorem b_fraction_sum : BindOk "fraction_sum" s_fraction_sum ["x", "y"] := fun _ _ _ _ _ _ us hl => match us, hl with | [_, _], _ => rfl
theorem q_fraction_sum : KwsOk "fraction_sum" s_fraction_sum ["x", "y"] [] := fun _ _ _ _ _ _ => fun _ h => nomatch h
theorem ok_fraction_sum (T : Tp K DS ZS MS) (XK : K.In base) (G : base.Ns mainGlobals mg) : Kn P w K mg base 2 "fraction_sum" ["x", "y"] (F_fraction_sum) [] :=
  kn_of T (List.mem_iff_getElem?.mpr ⟨1, rfl⟩) XK G sc_fraction_sum (c_fraction_sum K) rfl rfl rfl (gf_of T XK G (by kernel_rfl) (by kernel_rfl) (fns_cons (ok_fraction_of T XK G) (by decide) (by kernel_rfl) fns_nil)) b_fraction_sum q_fraction_sum p_fraction_sum
def C_fraction_less (K : PySem.W.Frag) : Cxt := { N := ["x", "y"], sc := defScope s_fraction_less, fnb := fun _ => true, fns := [("fraction_of", ["a", "b"], F_fraction_of)], kws := [], bl := [], md := [], K := K }
theorem sc_fraction_less : FnScope ["x", "y"] ["x", "y"] (defScope s_fraction_less) := ⟨rfl, rfl, rfl, by decide +kernel, rfl, by decide +kernel, by decide +kernel⟩
theorem c_fraction_less (K : PySem.W.Frag) : cSs (C_fraction_less K) 60 (defBody s_fraction_less) = some (W_fraction_less K) := by kernel_rfl
theorem b_fraction_less : BindOk "fraction_less" s_fraction_less ["x", "y"] := fun _ _ _ _ _ _ us hl => match us, hl with | [_, _], _ => rfl
theorem q_fraction_less : KwsOk "fraction_less" s_fraction_less ["x", "y"] [] := fun _ _ _ _ _ _ => fun _ h => nomatch h
theorem ok_fraction_less (T : Tp K DS ZS MS) (XK : K.In base) (G : base.Ns mainGlobals mg) : Kn P w K mg base 2 "fraction_less" ["x", "y"] (F_fraction_less) [] :=
  kn_of T (List.mem_iff_getElem?.mpr ⟨2, rfl⟩) XK G sc_fraction_less (c_fraction_less K) rfl rfl rfl (gf_of T XK G (by kernel_rfl) (by kernel_rfl) (fns_cons (ok_fraction_of T XK G) (by decide) (by kernel_rfl) fns_nil)) b_fraction_less q_fraction_less p_fraction_less
def C_fraction_times (K : PySem.W.Frag) : Cxt := { N := ["x", "y"], sc := defScope s_fraction_times, fnb := fun _ => true, fns := [("fraction_of", ["a", "b"], F_fraction_of)], kws := [], bl := [], md := [], K := K }
theorem sc_fraction_times : FnScope ["x", "y"] ["x", "y"] (defScope s_fraction_times) := ⟨rfl, rfl, rfl, by decide +kernel, rfl, by decide +kernel, by decide +kernel⟩
theorem c_fraction_times (K : PySem.W.Frag) : cSs (C_fraction_times K) 60 (defBody s_fraction_times) = some (W_fraction_times K) := by kernel_rfl
theorem b_fraction_times : BindOk "fraction_times" s_fraction_times ["x", "y"] := fun _ _ _ _ _ _ us hl => match us, hl with | [_, _], _ => rfl
theorem q_fraction_times : KwsOk "fraction_times" s_fraction_times ["x", "y"] [] := fun _ _ _ _ _ _ => fun _ h => nomatch h
theorem ok_fraction_times (T : Tp K DS ZS MS) (XK : K.In base) (G : base.Ns mainGlobals mg) : Kn P w K mg base 2 "fraction_times" ["x", "y"] (F_fraction_times) [] :=
  kn_of T (List.mem_iff_getElem?.mpr ⟨3, rfl⟩) XK G sc_fraction_times (c_fraction_times K) rfl rfl rfl (gf_of T XK G (by kernel_rfl) (by kernel_rfl) (fns_cons (ok_fraction_of T XK G) (by decide) (by kernel_rfl) fns_nil)) b_fraction_times q_fraction_times p_fraction_times
def C_quotient_share (K : PySem.W.Frag) : Cxt := { N := ["quotient", "a", "b"], sc := defScope s_quotient_share, fnb := fun _ => true, fns := [("fraction_of", ["a", "b"], F_fraction_of)], kws := [], bl := [], md := [], K := K }
theorem sc_quotient_share : FnScope ["quotient", "a", "b"] ["quotient"] (defScope s_quotient_share) := ⟨rfl, rfl, rfl, by decide +kernel, rfl, by decide +kernel, by decide +kernel⟩
theorem c_quotient_share (K : PySem.W.Frag) : cSs (C_quotient_share K) 60 (defBody s_quotient_share) = some (W_quotient_share K) := by kernel_rfl
theorem b_quotient_share : BindOk "quotient_share" s_quotient_share ["quotient"] := fun _ _ _ _ _ _ us hl => match us, hl with | [_], _ => rfl
theorem q_quotient_share : KwsOk "quotient_share" s_quotient_share ["quotient"] [(0, ["quotient"])] := fun _ _ _ _ _ _ => List.forall_mem_cons.mpr ⟨fun us ws h1 h2 => match us, ws, h1, h2 with | [], [_], _, _ => rfl, fun _ h => nomatch h⟩
theorem ok_quotient_share (T : Tp K DS ZS MS) (XK : K.In base) (G : base.Ns mainGlobals mg) : Kn P w K mg base 2 "quotient_share" ["quotient"] (F_quotient_share) [(0, ["quotient"])] :=
  kn_of T (List.mem_iff_getElem?.mpr ⟨4, rfl⟩) XK G sc_quotient_share (c_quotient_share K) rfl rfl rfl (gf_of T XK G (by kernel_rfl) (by kernel_rfl) (fns_cons (ok_fraction_of T XK G) (by decide) (by kernel_rfl) fns_nil)) b_quotient_share q_quotient_share p_quotient_share
def C_is_quotient_calm (K : PySem.W.Frag) : Cxt := { N := ["quotient", "share"], sc := defScope s_is_quotient_calm, fnb := fun _ => true, fns := [("quotient_share", ["quotient"], F_quotient_share)], kws := [], bl := [], md := [], K := K }
theorem sc_is_quotient_calm : FnScope ["quotient", "share"] ["quotient"] (defScope s_is_quotient_calm) := ⟨rfl, rfl, rfl, by decide +kernel, rfl, by decide +kernel, by decide +kernel⟩
theorem c_is_quotient_calm (K : PySem.W.Frag) : cSs (C_is_quotient_calm K) 60 (defBody s_is_quotient_calm) = some (W_is_quotient_calm K) := by kernel_rfl
theorem b_is_quotient_calm : BindOk "is_quotient_calm" s_is_quotient_calm ["quotient"] := fun _ _ _ _ _ _ us hl => match us, hl with | [_], _ => rfl
theorem q_is_quotient_calm : KwsOk "is_quotient_calm" s_is_quotient_calm ["quotient"] [(0, ["quotient"])] := fun _ _ _ _ _ _ => List.forall_mem_cons.mpr ⟨fun us ws h1 h2 => match us, ws, h1, h2 with | [], [_], _, _ => rfl, fun _ h => nomatch h⟩
theorem ok_is_quotient_calm (T : Tp K DS ZS MS) (XK : K.In base) (G : base.Ns mainGlobals mg) : Kn P w K mg base 3 "is_quotient_calm" ["quotient"] (F_is_quotient_calm) [(0, ["quotient"])] :=
  kn_of T (List.mem_iff_getElem?.mpr ⟨5, rfl⟩) XK G sc_is_quotient_calm (c_is_quotient_calm K) rfl rfl rfl (gf_of T XK G (by kernel_rfl) (by kernel_rfl) (fns_cons (ok_quotient_share T XK G) (by decide) (by kernel_rfl) fns_nil)) b_is_quotient_calm q_is_quotient_calm p_is_quotient_calm
def C_quotient_run (K : PySem.W.Frag) : Cxt := { N := ["quotients", "first", "second", "found", "quotient", "more"], sc := defScope s_quotient_run, fnb := fun _ => true, fns := [("fraction_sum", ["x", "y"], F_fraction_sum), ("fraction_times", ["x", "y"], F_fraction_times), ("fraction_less", ["x", "y"], F_fraction_less), ("quotient_share", ["quotient"], F_quotient_share)], kws := [], bl := ["tuple"], md := [], K := K }
theorem sc_quotient_run : FnScope ["quotients", "first", "second", "found", "quotient", "more"] ["quotients", "first", "second"] (defScope s_quotient_run) := ⟨rfl, rfl, rfl, by decide +kernel, rfl, by decide +kernel, by decide +kernel⟩
theorem c_quotient_run (K : PySem.W.Frag) : cSs (C_quotient_run K) 60 (defBody s_quotient_run) = some (W_quotient_run K) := by kernel_rfl
theorem b_quotient_run : BindOk "quotient_run" s_quotient_run ["quotients", "first", "second"] := fun _ _ _ _ _ _ us hl => match us, hl with | [_, _, _], _ => rfl
theorem q_quotient_run : KwsOk "quotient_run" s_quotient_run ["quotients", "first", "second"] [(0, ["quotients", "first", "second"])] := fun _ _ _ _ _ _ => List.forall_mem_cons.mpr ⟨fun us ws h1 h2 => match us, ws, h1, h2 with | [], [_, _, _], _, _ => rfl, fun _ h => nomatch h⟩
theorem ok_quotient_run (T : Tp K DS ZS MS) (XK : K.In base) (G : base.Ns mainGlobals mg) : Kn P w K mg base 3 "quotient_run" ["quotients", "first", "second"] (F_quotient_run) [(0, ["quotients", "first", "second"])] :=
  kn_of T (List.mem_iff_getElem?.mpr ⟨6, rfl⟩) XK G sc_quotient_run (c_quotient_run K) rfl rfl rfl (gf_of T XK G (by kernel_rfl) (by kernel_rfl) (fns_cons (ok_fraction_sum T XK G) (by decide) (by kernel_rfl) (fns_cons (ok_fraction_times T XK G) (by decide) (by kernel_rfl) (fns_cons (ok_fraction_less T XK G) (by decide) (by kernel_rfl) (fns_cons (ok_quotient_share T XK G) (by decide) (by kernel_rfl) fns_nil))))) b_quotient_run q_quotient_run p_quotient_run
def C_quotient_sum (K : PySem.W.Frag) : Cxt := { N := ["quotients", "found", "product", "quotient"], sc := defScope s_quotient_sum, fnb := fun _ => true, fns := [("fraction_sum", ["x", "y"], F_fraction_sum), ("fraction_times", ["x", "y"], F_fraction_times), ("quotient_share", ["quotient"], F_quotient_share)], kws := [], bl := [], md := [], K := K }
theorem sc_quotient_sum : FnScope ["quotients", "found", "product", "quotient"] ["quotients"] (defScope s_quotient_sum) := ⟨rfl, rfl, rfl, by decide +kernel, rfl, by decide +kernel, by decide +kernel⟩
theorem c_quotient_sum (K : PySem.W.Frag) : cSs (C_quotient_sum K) 60 (defBody s_quotient_sum) = some (W_quotient_sum K) := by kernel_rfl
theorem b_quotient_sum : BindOk "quotient_sum" s_quotient_sum ["quotients"] := fun _ _ _ _ _ _ us hl => match us, hl with | [_], _ => rfl
theorem q_quotient_sum : KwsOk "quotient_sum" s_quotient_sum ["quotients"] [(0, ["quotients"])] := fun _ _ _ _ _ _ => List.forall_mem_cons.mpr ⟨fun us ws h1 h2 => match us, ws, h1, h2 with | [], [_], _, _ => rfl, fun _ h => nomatch h⟩
theorem ok_quotient_sum (T : Tp K DS ZS MS) (XK : K.In base) (G : base.Ns mainGlobals mg) : Kn P w K mg base 3 "quotient_sum" ["quotients"] (F_quotient_sum) [(0, ["quotients"])] :=
  kn_of T (List.mem_iff_getElem?.mpr ⟨7, rfl⟩) XK G sc_quotient_sum (c_quotient_sum K) rfl rfl rfl (gf_of T XK G (by kernel_rfl) (by kernel_rfl) (fns_cons (ok_fraction_sum T XK G) (by decide) (by kernel_rfl) (fns_cons (ok_fraction_times T XK G) (by decide) (by kernel_rfl) (fns_cons (ok_quotient_share T XK G) (by decide) (by kernel_rfl) fns_nil)))) b_quotient_sum q_quotient_sum p_quotient_sum
def C_common_divisor (K : PySem.W.Frag) : Cxt := { N := ["one", "other"], sc := defScope s_common_divisor, fnb := fun _ => true, fns := [], kws := [], bl := ["abs"], md := [], K := K }
theorem sc_common_divisor : FnScope ["one", "other"] ["one", "other"] (defScope s_common_divisor) := ⟨rfl, rfl, rfl, by decide +kernel, rfl, by decide +kernel, by decide +kernel⟩
theorem c_common_divisor (K : PySem.W.Frag) : cSs (C_common_divisor K) 60 (defBody s_common_divisor) = some (W_common_divisor K) := by kernel_rfl
theorem b_common_divisor : BindOk "common_divisor" s_common_divisor ["one", "other"] := fun _ _ _ _ _ _ us hl => match us, hl with | [_, _], _ => rfl
theorem q_common_divisor : KwsOk "common_divisor" s_common_divisor ["one", "other"] [] := fun _ _ _ _ _ _ => fun _ h => nomatch h
theorem ok_common_divisor (T : Tp K DS ZS MS) (XK : K.In base) (G : base.Ns mainGlobals mg) : Kn P w K mg base 1 "common_divisor" ["one", "other"] (F_common_divisor) [] :=
  kn_of T (List.mem_iff_getElem?.mpr ⟨8, rfl⟩) XK G sc_common_divisor (c_common_divisor K) rfl rfl rfl (gf_of T XK G (by kernel_rfl) (by kernel_rfl) fns_nil) b_common_divisor q_common_divisor p_common_divisor
def C_power (K : PySem.W.Frag) : Cxt := { N := ["base", "times", "found", "turn"], sc := defScope s_power, fnb := fun _ => true, fns := [], kws := [], bl := ["range"], md := [], K := K }
theorem sc_power : FnScope ["base", "times", "found", "turn"] ["base", "times"] (defScope s_power) := ⟨rfl, rfl, rfl, by decide +kernel, rfl, by decide +kernel, by decide +kernel⟩
theorem c_power (K : PySem.W.Frag) : cSs (C_power K) 60 (defBody s_power) = some (W_power K) := by kernel_rfl
theorem b_power : BindOk "power" s_power ["base", "times"] := fun _ _ _ _ _ _ us hl => match us, hl with | [_, _], _ => rfl
theorem q_power : KwsOk "power" s_power ["base", "times"] [] := fun _ _ _ _ _ _ => fun _ h => nomatch h
theorem ok_power (T : Tp K DS ZS MS) (XK : K.In base) (G : base.Ns mainGlobals mg) : Kn P w K mg base 1 "power" ["base", "times"] (F_power) [] :=
  kn_of T (List.mem_iff_getElem?.mpr ⟨9, rfl⟩) XK G sc_power (c_power K) rfl rfl rfl (gf_of T XK G (by kernel_rfl) (by kernel_rfl) fns_nil) b_power q_power p_power
def C_whole_row (K : PySem.W.Frag) : Cxt := { N := ["row", "below", "item"], sc := defScope s_whole_row, fnb := fun _ => true, fns := [("common_divisor", ["one", "other"], F_common_divisor)], kws := [], bl := [], md := [], K := K }
theorem sc_whole_row : FnScope ["row", "below", "item"] ["row"] (defScope s_whole_row) := ⟨rfl, rfl, rfl, by decide +kernel, rfl, by decide +kernel, by decide +kernel⟩
theorem c_whole_row (K : PySem.W.Frag) : cSs (C_whole_row K) 60 (defBody s_whole_row) = some (W_whole_row K) := by kernel_rfl
theorem b_whole_row : BindOk "whole_row" s_whole_row ["row"] := fun _ _ _ _ _ _ us hl => match us, hl with | [_], _ => rfl
theorem q_whole_row : KwsOk "whole_row" s_whole_row ["row"] [] := fun _ _ _ _ _ _ => fun _ h => nomatch h
theorem ok_whole_row (T : Tp K DS ZS MS) (XK : K.In base) (G : base.Ns mainGlobals mg) : Kn P w K mg base 2 "whole_row" ["row"] (F_whole_row) [] :=
  kn_of T (List.mem_iff_getElem?.mpr ⟨10, rfl⟩) XK G sc_whole_row (c_whole_row K) rfl rfl rfl (gf_of T XK G (by kernel_rfl) (by kernel_rfl) (fns_cons (ok_common_divisor T XK G) (by decide) (by kernel_rfl) fns_nil)) b_whole_row q_whole_row p_whole_row
def C_product_poly (K : PySem.W.Frag) : Cxt := { N := ["roots", "found", "root", "one", "other"], sc := defScope s_product_poly, fnb := fun _ => true, fns := [], kws := [], bl := ["zip"], md := [], K := K }
theorem sc_product_poly : FnScope ["roots", "found", "root", "one", "other"] ["roots"] (defScope s_product_poly) := ⟨rfl, rfl, rfl, by decide +kernel, rfl, by decide +kernel, by decide +kernel⟩
theorem c_product_poly (K : PySem.W.Frag) : cSs (C_product_poly K) 60 (defBody s_product_poly) = some (W_product_poly K) := by kernel_rfl
theorem b_product_poly : BindOk "product_poly" s_product_poly ["roots"] := fun _ _ _ _ _ _ us hl => match us, hl with | [_], _ => rfl
theorem q_product_poly : KwsOk "product_poly" s_product_poly ["roots"] [] := fun _ _ _ _ _ _ => fun _ h => nomatch h
theorem ok_product_poly (T : Tp K DS ZS MS) (XK : K.In base) (G : base.Ns mainGlobals mg) : Kn P w K mg base 1 "product_poly" ["roots"] (F_product_poly) [] :=
  kn_of T (List.mem_iff_getElem?.mpr ⟨11, rfl⟩) XK G sc_product_poly (c_product_poly K) rfl rfl rfl (gf_of T XK G (by kernel_rfl) (by kernel_rfl) fns_nil) b_product_poly q_product_poly p_product_poly
def C_place_poly (K : PySem.W.Frag) : Cxt := { N := ["numbers", "i", "others", "j", "number", "worth", "other"], sc := defScope s_place_poly, fnb := fun _ => true, fns := [("product_poly", ["roots"], F_product_poly)], kws := [], bl := ["enumerate"], md := [], K := K }
theorem sc_place_poly : FnScope ["numbers", "i", "others", "j", "number", "worth", "other"] ["numbers", "i"] (defScope s_place_poly) := ⟨rfl, rfl, rfl, by decide +kernel, rfl, by decide +kernel, by decide +kernel⟩
theorem c_place_poly (K : PySem.W.Frag) : cSs (C_place_poly K) 60 (defBody s_place_poly) = some (W_place_poly K) := by kernel_rfl
theorem b_place_poly : BindOk "place_poly" s_place_poly ["numbers", "i"] := fun _ _ _ _ _ _ us hl => match us, hl with | [_, _], _ => rfl
theorem q_place_poly : KwsOk "place_poly" s_place_poly ["numbers", "i"] [] := fun _ _ _ _ _ _ => fun _ h => nomatch h
theorem ok_place_poly (T : Tp K DS ZS MS) (XK : K.In base) (G : base.Ns mainGlobals mg) : Kn P w K mg base 2 "place_poly" ["numbers", "i"] (F_place_poly) [] :=
  kn_of T (List.mem_iff_getElem?.mpr ⟨12, rfl⟩) XK G sc_place_poly (c_place_poly K) rfl rfl rfl (gf_of T XK G (by kernel_rfl) (by kernel_rfl) (fns_cons (ok_product_poly T XK G) (by decide) (by kernel_rfl) fns_nil)) b_place_poly q_place_poly p_place_poly
def C_slope_weights (K : PySem.W.Frag) : Cxt := { N := ["numbers", "at", "below", "found", "i", "poly", "worth", "slope", "k", "item"], sc := defScope s_slope_weights, fnb := fun _ => true, fns := [("fraction_of", ["a", "b"], F_fraction_of), ("power", ["base", "times"], F_power), ("place_poly", ["numbers", "i"], F_place_poly)], kws := [], bl := ["tuple", "range", "len", "sum", "enumerate"], md := [], K := K }
theorem sc_slope_weights : FnScope ["numbers", "at", "below", "found", "i", "poly", "worth", "slope", "k", "item"] ["numbers", "at", "below"] (defScope s_slope_weights) := ⟨rfl, rfl, rfl, by decide +kernel, rfl, by decide +kernel, by decide +kernel⟩
theorem c_slope_weights (K : PySem.W.Frag) : cSs (C_slope_weights K) 60 (defBody s_slope_weights) = some (W_slope_weights K) := by kernel_rfl
theorem b_slope_weights : BindOk "slope_weights" s_slope_weights ["numbers", "at", "below"] := fun _ _ _ _ _ _ us hl => match us, hl with | [_, _, _], _ => rfl
theorem q_slope_weights : KwsOk "slope_weights" s_slope_weights ["numbers", "at", "below"] [] := fun _ _ _ _ _ _ => fun _ h => nomatch h
theorem ok_slope_weights (T : Tp K DS ZS MS) (XK : K.In base) (G : base.Ns mainGlobals mg) : Kn P w K mg base 3 "slope_weights" ["numbers", "at", "below"] (F_slope_weights) [] :=
  kn_of T (List.mem_iff_getElem?.mpr ⟨13, rfl⟩) XK G sc_slope_weights (c_slope_weights K) rfl rfl rfl (gf_of T XK G (by kernel_rfl) (by kernel_rfl) (fns_cons (ok_fraction_of T XK G) (by decide) (by kernel_rfl) (fns_cons (ok_power T XK G) (by decide) (by kernel_rfl) (fns_cons (ok_place_poly T XK G) (by decide) (by kernel_rfl) fns_nil)))) b_slope_weights q_slope_weights p_slope_weights
def C_uneven_backward (K : PySem.W.Frag) : Cxt := { N := ["places", "below", "numbers"], sc := defScope s_uneven_backward, fnb := fun _ => true, fns := [("slope_weights", ["numbers", "at", "below"], F_slope_weights), ("whole_row", ["row"], F_whole_row)], kws := [], bl := [], md := [], K := K }
theorem sc_uneven_backward : FnScope ["places", "below", "numbers"] ["places"] (defScope s_uneven_backward) := ⟨rfl, rfl, rfl, by decide +kernel, rfl, by decide +kernel, by decide +kernel⟩
theorem c_uneven_backward (K : PySem.W.Frag) : cSs (C_uneven_backward K) 60 (defBody s_uneven_backward) = some (W_uneven_backward K) := by kernel_rfl
theorem b_uneven_backward : BindOk "uneven_backward" s_uneven_backward ["places"] := fun _ _ _ _ _ _ us hl => match us, hl with | [_], _ => rfl
theorem q_uneven_backward : KwsOk "uneven_backward" s_uneven_backward ["places"] [] := fun _ _ _ _ _ _ => fun _ h => nomatch h
theorem ok_uneven_backward (T : Tp K DS ZS MS) (XK : K.In base) (G : base.Ns mainGlobals mg) : Kn P w K mg base 4 "uneven_backward" ["places"] (F_uneven_backward) [] :=
  kn_of T (List.mem_iff_getElem?.mpr ⟨14, rfl⟩) XK G sc_uneven_backward (c_uneven_backward K) rfl rfl rfl (gf_of T XK G (by kernel_rfl) (by kernel_rfl) (fns_cons (ok_slope_weights T XK G) (by decide) (by kernel_rfl) (fns_cons (ok_whole_row T XK G) (by decide) (by kernel_rfl) fns_nil))) b_uneven_backward q_uneven_backward p_uneven_backward
def C__law_own_bag (K : PySem.W.Frag) : Cxt := { N := ["script", "cells", "cell", "mixed"], sc := defScope s__law_own_bag, fnb := fun _ => true, fns := [], kws := [], bl := ["list", "reversed", "int", "len", "abs"], md := [], K := K }
theorem sc__law_own_bag : FnScope ["script", "cells", "cell", "mixed"] ["script"] (defScope s__law_own_bag) := ⟨rfl, rfl, rfl, by decide +kernel, rfl, by decide +kernel, by decide +kernel⟩
theorem c__law_own_bag (K : PySem.W.Frag) : cSs (C__law_own_bag K) 60 (defBody s__law_own_bag) = some (W__law_own_bag K) := by kernel_rfl
theorem b__law_own_bag : BindOk "_law_own_bag" s__law_own_bag ["script"] := fun _ _ _ _ _ _ us hl => match us, hl with | [_], _ => rfl
theorem q__law_own_bag : KwsOk "_law_own_bag" s__law_own_bag ["script"] [] := fun _ _ _ _ _ _ => fun _ h => nomatch h
theorem ok__law_own_bag (T : Tp K DS ZS MS) (XK : K.In base) (G : base.Ns mainGlobals mg) : Kn P w K mg base 1 "_law_own_bag" ["script"] (F__law_own_bag K) [] :=
  kn_of T (List.mem_iff_getElem?.mpr ⟨15, rfl⟩) XK G sc__law_own_bag (c__law_own_bag K) rfl rfl rfl (gf_of T XK G (by kernel_rfl) (by kernel_rfl) fns_nil) b__law_own_bag q__law_own_bag p__law_own_bag
def C__law_draw (K : PySem.W.Frag) : Cxt := { N := ["bag", "below", "cell", "found", "mixed"], sc := defScope s__law_draw, fnb := fun _ => true, fns := [], kws := [], bl := ["int"], md := [], K := K }
theorem sc__law_draw : FnScope ["bag", "below", "cell", "found", "mixed"] ["bag", "below"] (defScope s__law_draw) := ⟨rfl, rfl, rfl, by decide +kernel, rfl, by decide +kernel, by decide +kernel⟩
theorem c__law_draw (K : PySem.W.Frag) : cSs (C__law_draw K) 60 (defBody s__law_draw) = some (W__law_draw K) := by kernel_rfl
theorem b__law_draw : BindOk "_law_draw" s__law_draw ["bag", "below"] := fun _ _ _ _ _ _ us hl => match us, hl with | [_, _], _ => rfl
theorem q__law_draw : KwsOk "_law_draw" s__law_draw ["bag", "below"] [] := fun _ _ _ _ _ _ => fun _ h => nomatch h
theorem ok__law_draw (T : Tp K DS ZS MS) (XK : K.In base) (G : base.Ns mainGlobals mg) : Kn P w K mg base 1 "_law_draw" ["bag", "below"] (F__law_draw) [] :=
  kn_of T (List.mem_iff_getElem?.mpr ⟨16, rfl⟩) XK G sc__law_draw (c__law_draw K) rfl rfl rfl (gf_of T XK G (by kernel_rfl) (by kernel_rfl) fns_nil) b__law_draw q__law_draw p__law_draw
def C__law_pick (K : PySem.W.Frag) : Cxt := { N := ["bag", "some"], sc := defScope s__law_pick, fnb := fun _ => true, fns := [("_law_draw", ["bag", "below"], F__law_draw)], kws := [], bl := ["len"], md := [], K := K }
theorem sc__law_pick : FnScope ["bag", "some"] ["bag", "some"] (defScope s__law_pick) := ⟨rfl, rfl, rfl, by decide +kernel, rfl, by decide +kernel, by decide +kernel⟩
theorem c__law_pick (K : PySem.W.Frag) : cSs (C__law_pick K) 60 (defBody s__law_pick) = some (W__law_pick K) := by kernel_rfl
theorem b__law_pick : BindOk "_law_pick" s__law_pick ["bag", "some"] := fun _ _ _ _ _ _ us hl => match us, hl with | [_, _], _ => rfl
theorem q__law_pick : KwsOk "_law_pick" s__law_pick ["bag", "some"] [] := fun _ _ _ _ _ _ => fun _ h => nomatch h
theorem ok__law_pick (T : Tp K DS ZS MS) (XK : K.In base) (G : base.Ns mainGlobals mg) : Kn P w K mg base 2 "_law_pick" ["bag", "some"] (F__law_pick) [] :=
  kn_of T (List.mem_iff_getElem?.mpr ⟨17, rfl⟩) XK G sc__law_pick (c__law_pick K) rfl rfl rfl (gf_of T XK G (by kernel_rfl) (by kernel_rfl) (fns_cons (ok__law_draw T XK G) (by decide) (by kernel_rfl) fns_nil)) b__law_pick q__law_pick p__law_pick
def C__law_common (K : PySem.W.Frag) : Cxt := { N := ["a", "b"], sc := defScope s__law_common, fnb := fun _ => true, fns := [], kws := [], bl := ["int", "abs"], md := [], K := K }
theorem sc__law_common : FnScope ["a", "b"] ["a", "b"] (defScope s__law_common) := ⟨rfl, rfl, rfl, by decide +kernel, rfl, by decide +kernel, by decide +kernel⟩
theorem c__law_common (K : PySem.W.Frag) : cSs (C__law_common K) 60 (defBody s__law_common) = some (W__law_common K) := by kernel_rfl
theorem b__law_common : BindOk "_law_common" s__law_common ["a", "b"] := fun _ _ _ _ _ _ us hl => match us, hl with | [_, _], _ => rfl
theorem q__law_common : KwsOk "_law_common" s__law_common ["a", "b"] [] := fun _ _ _ _ _ _ => fun _ h => nomatch h
theorem ok__law_common (T : Tp K DS ZS MS) (XK : K.In base) (G : base.Ns mainGlobals mg) : Kn P w K mg base 1 "_law_common" ["a", "b"] (F__law_common) [] :=
  kn_of T (List.mem_iff_getElem?.mpr ⟨18, rfl⟩) XK G sc__law_common (c__law_common K) rfl rfl rfl (gf_of T XK G (by kernel_rfl) (by kernel_rfl) fns_nil) b__law_common q__law_common p__law_common
def C__law_is (K : PySem.W.Frag) : Cxt := { N := ["told", "above", "below", "a", "b"], sc := defScope s__law_is, fnb := fun _ => true, fns := [("_law_common", ["a", "b"], F__law_common)], kws := [], bl := ["isinstance", "bool", "int", "len", "tuple"], md := [], K := K }
theorem sc__law_is : FnScope ["told", "above", "below", "a", "b"] ["told", "above", "below"] (defScope s__law_is) := ⟨rfl, rfl, rfl, by decide +kernel, rfl, by decide +kernel, by decide +kernel⟩
theorem c__law_is (K : PySem.W.Frag) : cSs (C__law_is K) 60 (defBody s__law_is) = some (W__law_is K) := by kernel_rfl
theorem b__law_is : BindOk "_law_is" s__law_is ["told", "above", "below"] := fun _ _ _ _ _ _ us hl => match us, hl with | [_, _, _], _ => rfl
theorem q__law_is : KwsOk "_law_is" s__law_is ["told", "above", "below"] [] := fun _ _ _ _ _ _ => fun _ h => nomatch h
theorem ok__law_is (T : Tp K DS ZS MS) (XK : K.In base) (G : base.Ns mainGlobals mg) : Kn P w K mg base 2 "_law_is" ["told", "above", "below"] (F__law_is) [] :=
  kn_of T (List.mem_iff_getElem?.mpr ⟨19, rfl⟩) XK G sc__law_is (c__law_is K) rfl rfl rfl (gf_of T XK G (by kernel_rfl) (by kernel_rfl) (fns_cons (ok__law_common T XK G) (by decide) (by kernel_rfl) fns_nil)) b__law_is q__law_is p__law_is
def C__law_are (K : PySem.W.Frag) : Cxt := { N := ["told", "dues", "x", "due"], sc := defScope s__law_are, fnb := fun _ => true, fns := [("_law_is", ["told", "above", "below"], F__law_is)], kws := [], bl := ["repr", "tuple", "int", "list", "zip", "len", "isinstance"], md := [], K := K }
theorem sc__law_are : FnScope ["told", "dues", "x", "due"] ["told", "dues"] (defScope s__law_are) := ⟨rfl, rfl, rfl, by decide +kernel, rfl, by decide +kernel, by decide +kernel⟩
theorem c__law_are (K : PySem.W.Frag) : cSs (C__law_are K) 60 (defBody s__law_are) = some (W__law_are K) := by kernel_rfl
theorem b__law_are : BindOk "_law_are" s__law_are ["told", "dues"] := fun _ _ _ _ _ _ us hl => match us, hl with | [_, _], _ => rfl
theorem q__law_are : KwsOk "_law_are" s__law_are ["told", "dues"] [] := fun _ _ _ _ _ _ => fun _ h => nomatch h
theorem ok__law_are (T : Tp K DS ZS MS) (XK : K.In base) (G : base.Ns mainGlobals mg) : Kn P w K mg base 3 "_law_are" ["told", "dues"] (F__law_are) [] :=
  kn_of T (List.mem_iff_getElem?.mpr ⟨20, rfl⟩) XK G sc__law_are (c__law_are K) rfl rfl rfl (gf_of T XK G (by kernel_rfl) (by kernel_rfl) (fns_cons (ok__law_is T XK G) (by decide) (by kernel_rfl) fns_nil)) b__law_are q__law_are p__law_are
def C__law_lowest (K : PySem.W.Frag) : Cxt := { N := ["a", "b", "part"], sc := defScope s__law_lowest, fnb := fun _ => true, fns := [("_law_common", ["a", "b"], F__law_common)], kws := [], bl := [], md := [], K := K }
theorem sc__law_lowest : FnScope ["a", "b", "part"] ["a", "b"] (defScope s__law_lowest) := ⟨rfl, rfl, rfl, by decide +kernel, rfl, by decide +kernel, by decide +kernel⟩
theorem c__law_lowest (K : PySem.W.Frag) : cSs (C__law_lowest K) 60 (defBody s__law_lowest) = some (W__law_lowest K) := by kernel_rfl
theorem b__law_lowest : BindOk "_law_lowest" s__law_lowest ["a", "b"] := fun _ _ _ _ _ _ us hl => match us, hl with | [_, _], _ => rfl
theorem q__law_lowest : KwsOk "_law_lowest" s__law_lowest ["a", "b"] [] := fun _ _ _ _ _ _ => fun _ h => nomatch h
theorem ok__law_lowest (T : Tp K DS ZS MS) (XK : K.In base) (G : base.Ns mainGlobals mg) : Kn P w K mg base 2 "_law_lowest" ["a", "b"] (F__law_lowest) [] :=
  kn_of T (List.mem_iff_getElem?.mpr ⟨21, rfl⟩) XK G sc__law_lowest (c__law_lowest K) rfl rfl rfl (gf_of T XK G (by kernel_rfl) (by kernel_rfl) (fns_cons (ok__law_common T XK G) (by decide) (by kernel_rfl) fns_nil)) b__law_lowest q__law_lowest p__law_lowest
def C__law_near (K : PySem.W.Frag) : Cxt := { N := [], sc := defScope s__law_near, fnb := fun _ => true, fns := [], kws := [], bl := [], md := [], K := K }
theorem sc__law_near : FnScope [] [] (defScope s__law_near) := ⟨rfl, rfl, rfl, by decide +kernel, rfl, by decide +kernel, by decide +kernel⟩
theorem c__law_near (K : PySem.W.Frag) : cSs (C__law_near K) 60 (defBody s__law_near) = some (W__law_near K) := by kernel_rfl
theorem b__law_near : BindOk "_law_near" s__law_near [] := fun _ _ _ _ _ _ us hl => match us, hl with | [], _ => rfl
theorem q__law_near : KwsOk "_law_near" s__law_near [] [] := fun _ _ _ _ _ _ => fun _ h => nomatch h
theorem ok__law_near (T : Tp K DS ZS MS) (XK : K.In base) (G : base.Ns mainGlobals mg) : Kn P w K mg base 1 "_law_near" [] (F__law_near) [] :=
  kn_of T (List.mem_iff_getElem?.mpr ⟨22, rfl⟩) XK G sc__law_near (c__law_near K) rfl rfl rfl (gf_of T XK G (by kernel_rfl) (by kernel_rfl) fns_nil) b__law_near q__law_near p__law_near
def C__law_quotient (K : PySem.W.Frag) : Cxt := { N := ["bag", "most"], sc := defScope s__law_quotient, fnb := fun _ => true, fns := [("_law_lowest", ["a", "b"], F__law_lowest), ("_law_draw", ["bag", "below"], F__law_draw), ("_law_pick", ["bag", "some"], F__law_pick), ("_law_near", [], F__law_near)], kws := [], bl := [], md := [], K := K }
theorem sc__law_quotient : FnScope ["bag", "most"] ["bag", "most"] (defScope s__law_quotient) := ⟨rfl, rfl, rfl, by decide +kernel, rfl, by decide +kernel, by decide +kernel⟩
theorem c__law_quotient (K : PySem.W.Frag) : cSs (C__law_quotient K) 60 (defBody s__law_quotient) = some (W__law_quotient K) := by kernel_rfl
theorem b__law_quotient : BindOk "_law_quotient" s__law_quotient ["bag", "most"] := fun _ _ _ _ _ _ us hl => match us, hl with | [_, _], _ => rfl
theorem q__law_quotient : KwsOk "_law_quotient" s__law_quotient ["bag", "most"] [] := fun _ _ _ _ _ _ => fun _ h => nomatch h
theorem ok__law_quotient (T : Tp K DS ZS MS) (XK : K.In base) (G : base.Ns mainGlobals mg) : Kn P w K mg base 3 "_law_quotient" ["bag", "most"] (F__law_quotient) [] :=
  kn_of T (List.mem_iff_getElem?.mpr ⟨23, rfl⟩) XK G sc__law_quotient (c__law_quotient K) rfl rfl rfl (gf_of T XK G (by kernel_rfl) (by kernel_rfl) (fns_cons (ok__law_lowest T XK G) (by decide) (by kernel_rfl) (fns_cons (ok__law_draw T XK G) (by decide) (by kernel_rfl) (fns_cons (ok__law_pick T XK G) (by decide) (by kernel_rfl) (fns_cons (ok__law_near T XK G) (by decide) (by kernel_rfl) fns_nil))))) b__law_quotient q__law_quotient p__law_quotient
def C__law_own_quotients (K : PySem.W.Frag) : Cxt := { N := ["bag", "many", "most", "place"], sc := defScope s__law_own_quotients, fnb := fun _ => true, fns := [("_law_quotient", ["bag", "most"], F__law_quotient), ("_law_draw", ["bag", "below"], F__law_draw)], kws := [], bl := ["tuple", "range"], md := [], K := K }
theorem sc__law_own_quotients : FnScope ["bag", "many", "most", "place"] ["bag", "many", "most"] (defScope s__law_own_quotients) := ⟨rfl, rfl, rfl, by decide +kernel, rfl, by decide +kernel, by decide +kernel⟩
theorem c__law_own_quotients (K : PySem.W.Frag) : cSs (C__law_own_quotients K) 60 (defBody s__law_own_quotients) = some (W__law_own_quotients K) := by kernel_rfl
theorem b__law_own_quotients : BindOk "_law_own_quotients" s__law_own_quotients ["bag", "many", "most"] := fun _ _ _ _ _ _ us hl => match us, hl with | [_, _, _], _ => rfl
theorem q__law_own_quotients : KwsOk "_law_own_quotients" s__law_own_quotients ["bag", "many", "most"] [] := fun _ _ _ _ _ _ => fun _ h => nomatch h
theorem ok__law_own_quotients (T : Tp K DS ZS MS) (XK : K.In base) (G : base.Ns mainGlobals mg) : Kn P w K mg base 4 "_law_own_quotients" ["bag", "many", "most"] (F__law_own_quotients) [] :=
  kn_of T (List.mem_iff_getElem?.mpr ⟨24, rfl⟩) XK G sc__law_own_quotients (c__law_own_quotients K) rfl rfl rfl (gf_of T XK G (by kernel_rfl) (by kernel_rfl) (fns_cons (ok__law_quotient T XK G) (by decide) (by kernel_rfl) (fns_cons (ok__law_draw T XK G) (by decide) (by kernel_rfl) fns_nil))) b__law_own_quotients q__law_own_quotients p__law_own_quotients
def C__law_value (K : PySem.W.Frag) : Cxt := { N := ["bag", "most"], sc := defScope s__law_value, fnb := fun _ => true, fns := [("_law_lowest", ["a", "b"], F__law_lowest), ("_law_draw", ["bag", "below"], F__law_draw)], kws := [], bl := [], md := [], K := K }
theorem sc__law_value : FnScope ["bag", "most"] ["bag", "most"] (defScope s__law_value) := ⟨rfl, rfl, rfl, by decide +kernel, rfl, by decide +kernel, by decide +kernel⟩
theorem c__law_value (K : PySem.W.Frag) : cSs (C__law_value K) 60 (defBody s__law_value) = some (W__law_value K) := by kernel_rfl
theorem b__law_value : BindOk "_law_value" s__law_value ["bag", "most"] := fun _ _ _ _ _ _ us hl => match us, hl with | [_, _], _ => rfl
theorem q__law_value : KwsOk "_law_value" s__law_value ["bag", "most"] [] := fun _ _ _ _ _ _ => fun _ h => nomatch h
theorem ok__law_value (T : Tp K DS ZS MS) (XK : K.In base) (G : base.Ns mainGlobals mg) : Kn P w K mg base 3 "_law_value" ["bag", "most"] (F__law_value) [] :=
  kn_of T (List.mem_iff_getElem?.mpr ⟨25, rfl⟩) XK G sc__law_value (c__law_value K) rfl rfl rfl (gf_of T XK G (by kernel_rfl) (by kernel_rfl) (fns_cons (ok__law_lowest T XK G) (by decide) (by kernel_rfl) (fns_cons (ok__law_draw T XK G) (by decide) (by kernel_rfl) fns_nil))) b__law_value q__law_value p__law_value
def C__law_share (K : PySem.W.Frag) : Cxt := { N := ["w"], sc := defScope s__law_share, fnb := fun _ => true, fns := [], kws := [], bl := [], md := [], K := K }
theorem sc__law_share : FnScope ["w"] ["w"] (defScope s__law_share) := ⟨rfl, rfl, rfl, by decide +kernel, rfl, by decide +kernel, by decide +kernel⟩
theorem c__law_share (K : PySem.W.Frag) : cSs (C__law_share K) 60 (defBody s__law_share) = some (W__law_share K) := by kernel_rfl
theorem b__law_share : BindOk "_law_share" s__law_share ["w"] := fun _ _ _ _ _ _ us hl => match us, hl with | [_], _ => rfl
theorem q__law_share : KwsOk "_law_share" s__law_share ["w"] [] := fun _ _ _ _ _ _ => fun _ h => nomatch h
theorem ok__law_share (T : Tp K DS ZS MS) (XK : K.In base) (G : base.Ns mainGlobals mg) : Kn P w K mg base 1 "_law_share" ["w"] (F__law_share) [] :=
  kn_of T (List.mem_iff_getElem?.mpr ⟨26, rfl⟩) XK G sc__law_share (c__law_share K) rfl rfl rfl (gf_of T XK G (by kernel_rfl) (by kernel_rfl) fns_nil) b__law_share q__law_share p__law_share
def C__law_is_due_calm (K : PySem.W.Frag) : Cxt := { N := ["w"], sc := defScope s__law_is_due_calm, fnb := fun _ => true, fns := [], kws := [], bl := [], md := [], K := K }
theorem sc__law_is_due_calm : FnScope ["w"] ["w"] (defScope s__law_is_due_calm) := ⟨rfl, rfl, rfl, by decide +kernel, rfl, by decide +kernel, by decide +kernel⟩
theorem c__law_is_due_calm (K : PySem.W.Frag) : cSs (C__law_is_due_calm K) 60 (defBody s__law_is_due_calm) = some (W__law_is_due_calm K) := by kernel_rfl
theorem b__law_is_due_calm : BindOk "_law_is_due_calm" s__law_is_due_calm ["w"] := fun _ _ _ _ _ _ us hl => match us, hl with | [_], _ => rfl
theorem q__law_is_due_calm : KwsOk "_law_is_due_calm" s__law_is_due_calm ["w"] [] := fun _ _ _ _ _ _ => fun _ h => nomatch h
theorem ok__law_is_due_calm (T : Tp K DS ZS MS) (XK : K.In base) (G : base.Ns mainGlobals mg) : Kn P w K mg base 1 "_law_is_due_calm" ["w"] (F__law_is_due_calm) [] :=
  kn_of T (List.mem_iff_getElem?.mpr ⟨27, rfl⟩) XK G sc__law_is_due_calm (c__law_is_due_calm K) rfl rfl rfl (gf_of T XK G (by kernel_rfl) (by kernel_rfl) fns_nil) b__law_is_due_calm q__law_is_due_calm p__law_is_due_calm
def C__law_sums (K : PySem.W.Frag) : Cxt := { N := ["quotients", "found", "above", "below", "product", "w", "part", "under"], sc := defScope s__law_sums, fnb := fun _ => true, fns := [("_law_share", ["w"], F__law_share)], kws := [], bl := [], md := [], K := K }
theorem sc__law_sums : FnScope ["quotients", "found", "above", "below", "product", "w", "part", "under"] ["quotients"] (defScope s__law_sums) := ⟨rfl, rfl, rfl, by decide +kernel, rfl, by decide +kernel, by decide +kernel⟩
theorem c__law_sums (K : PySem.W.Frag) : cSs (C__law_sums K) 60 (defBody s__law_sums) = some (W__law_sums K) := by kernel_rfl
theorem b__law_sums : BindOk "_law_sums" s__law_sums ["quotients"] := fun _ _ _ _ _ _ us hl => match us, hl with | [_], _ => rfl
theorem q__law_sums : KwsOk "_law_sums" s__law_sums ["quotients"] [] := fun _ _ _ _ _ _ => fun _ h => nomatch h
theorem ok__law_sums (T : Tp K DS ZS MS) (XK : K.In base) (G : base.Ns mainGlobals mg) : Kn P w K mg base 2 "_law_sums" ["quotients"] (F__law_sums) [] :=
  kn_of T (List.mem_iff_getElem?.mpr ⟨28, rfl⟩) XK G sc__law_sums (c__law_sums K) rfl rfl rfl (gf_of T XK G (by kernel_rfl) (by kernel_rfl) (fns_cons (ok__law_share T XK G) (by decide) (by kernel_rfl) fns_nil)) b__law_sums q__law_sums p__law_sums
def C__law_values (K : PySem.W.Frag) : Cxt := { N := ["sums", "first", "second", "below", "start", "gap", "found", "above", "under"], sc := defScope s__law_values, fnb := fun _ => true, fns := [], kws := [], bl := [], md := [], K := K }
theorem sc__law_values : FnScope ["sums", "first", "second", "below", "start", "gap", "found", "above", "under"] ["sums", "first", "second"] (defScope s__law_values) := ⟨rfl, rfl, rfl, by decide +kernel, rfl, by decide +kernel, by decide +kernel⟩
theorem c__law_values (K : PySem.W.Frag) : cSs (C__law_values K) 60 (defBody s__law_values) = some (W__law_values K) := by kernel_rfl
theorem b__law_values : BindOk "_law_values" s__law_values ["sums", "first", "second"] := fun _ _ _ _ _ _ us hl => match us, hl with | [_, _, _], _ => rfl
theorem q__law_values : KwsOk "_law_values" s__law_values ["sums", "first", "second"] [] := fun _ _ _ _ _ _ => fun _ h => nomatch h
theorem ok__law_values (T : Tp K DS ZS MS) (XK : K.In base) (G : base.Ns mainGlobals mg) : Kn P w K mg base 1 "_law_values" ["sums", "first", "second"] (F__law_values) [] :=
  kn_of T (List.mem_iff_getElem?.mpr ⟨29, rfl⟩) XK G sc__law_values (c__law_values K) rfl rfl rfl (gf_of T XK G (by kernel_rfl) (by kernel_rfl) fns_nil) b__law_values q__law_values p__law_values
def C__law_greatest (K : PySem.W.Frag) : Cxt := { N := ["quotients", "found", "w"], sc := defScope s__law_greatest, fnb := fun _ => true, fns := [], kws := [], bl := [], md := [], K := K }
theorem sc__law_greatest : FnScope ["quotients", "found", "w"] ["quotients"] (defScope s__law_greatest) := ⟨rfl, rfl, rfl, by decide +kernel, rfl, by decide +kernel, by decide +kernel⟩
theorem c__law_greatest (K : PySem.W.Frag) : cSs (C__law_greatest K) 60 (defBody s__law_greatest) = some (W__law_greatest K) := by kernel_rfl
theorem b__law_greatest : BindOk "_law_greatest" s__law_greatest ["quotients"] := fun _ _ _ _ _ _ us hl => match us, hl with | [_], _ => rfl
theorem q__law_greatest : KwsOk "_law_greatest" s__law_greatest ["quotients"] [] := fun _ _ _ _ _ _ => fun _ h => nomatch h
theorem ok__law_greatest (T : Tp K DS ZS MS) (XK : K.In base) (G : base.Ns mainGlobals mg) : Kn P w K mg base 1 "_law_greatest" ["quotients"] (F__law_greatest) [] :=
  kn_of T (List.mem_iff_getElem?.mpr ⟨30, rfl⟩) XK G sc__law_greatest (c__law_greatest K) rfl rfl rfl (gf_of T XK G (by kernel_rfl) (by kernel_rfl) fns_nil) b__law_greatest q__law_greatest p__law_greatest
def C__law_is_bound_right (K : PySem.W.Frag) : Cxt := { N := ["quotients", "told", "part", "under"], sc := defScope s__law_is_bound_right, fnb := fun _ => true, fns := [("_law_share", ["w"], F__law_share), ("_law_greatest", ["quotients"], F__law_greatest), ("_law_is_due_calm", ["w"], F__law_is_due_calm)], kws := [], bl := [], md := [], K := K }
theorem sc__law_is_bound_right : FnScope ["quotients", "told", "part", "under"] ["quotients", "told"] (defScope s__law_is_bound_right) := ⟨rfl, rfl, rfl, by decide +kernel, rfl, by decide +kernel, by decide +kernel⟩
theorem c__law_is_bound_right (K : PySem.W.Frag) : cSs (C__law_is_bound_right K) 60 (defBody s__law_is_bound_right) = some (W__law_is_bound_right K) := by kernel_rfl
theorem b__law_is_bound_right : BindOk "_law_is_bound_right" s__law_is_bound_right ["quotients", "told"] := fun _ _ _ _ _ _ us hl => match us, hl with | [_, _], _ => rfl
theorem q__law_is_bound_right : KwsOk "_law_is_bound_right" s__law_is_bound_right ["quotients", "told"] [] := fun _ _ _ _ _ _ => fun _ h => nomatch h
theorem ok__law_is_bound_right (T : Tp K DS ZS MS) (XK : K.In base) (G : base.Ns mainGlobals mg) : Kn P w K mg base 2 "_law_is_bound_right" ["quotients", "told"] (F__law_is_bound_right) [] :=
  kn_of T (List.mem_iff_getElem?.mpr ⟨31, rfl⟩) XK G sc__law_is_bound_right (c__law_is_bound_right K) rfl rfl rfl (gf_of T XK G (by kernel_rfl) (by kernel_rfl) (fns_cons (ok__law_share T XK G) (by decide) (by kernel_rfl) (fns_cons (ok__law_greatest T XK G) (by decide) (by kernel_rfl) (fns_cons (ok__law_is_due_calm T XK G) (by decide) (by kernel_rfl) fns_nil)))) b__law_is_bound_right q__law_is_bound_right p__law_is_bound_right
def C__law_is_run_right (K : PySem.W.Frag) : Cxt := { N := ["quotients", "first", "second", "twice", "sums", "due", "told", "total", "a", "b", "c", "d", "e", "f"], sc := defScope s__law_is_run_right, fnb := fun _ => true, fns := [("quotient_sum", ["quotients"], F_quotient_sum), ("_law_is_bound_right", ["quotients", "told"], F__law_is_bound_right), ("_law_are", ["told", "dues"], F__law_are), ("quotient_run", ["quotients", "first", "second"], F_quotient_run), ("_law_values", ["sums", "first", "second"], F__law_values), ("_law_sums", ["quotients"], F__law_sums)], kws := [("quotient_sum", 0, ["quotients"]), ("quotient_run", 0, ["quotients", "first", "second"])], bl := ["repr"], md := [], K := K }
theorem sc__law_is_run_right : FnScope ["quotients", "first", "second", "twice", "sums", "due", "told", "total", "a", "b", "c", "d", "e", "f"] ["quotients", "first", "second", "twice"] (defScope s__law_is_run_right) := ⟨rfl, rfl, rfl, by decide +kernel, rfl, by decide +kernel, by decide +kernel⟩
theorem c__law_is_run_right (K : PySem.W.Frag) : cSs (C__law_is_run_right K) 60 (defBody s__law_is_run_right) = some (W__law_is_run_right K) := by kernel_rfl
theorem b__law_is_run_right : BindOk "_law_is_run_right" s__law_is_run_right ["quotients", "first", "second", "twice"] := fun _ _ _ _ _ _ us hl => match us, hl with | [_, _, _, _], _ => rfl
theorem q__law_is_run_right : KwsOk "_law_is_run_right" s__law_is_run_right ["quotients", "first", "second", "twice"] [] := fun _ _ _ _ _ _ => fun _ h => nomatch h
theorem ok__law_is_run_right (T : Tp K DS ZS MS) (XK : K.In base) (G : base.Ns mainGlobals mg) : Kn P w K mg base 4 "_law_is_run_right" ["quotients", "first", "second", "twice"] (F__law_is_run_right) [] :=
  kn_of T (List.mem_iff_getElem?.mpr ⟨32, rfl⟩) XK G sc__law_is_run_right (c__law_is_run_right K) rfl rfl rfl (gf_of T XK G (by kernel_rfl) (by kernel_rfl) (fns_cons (ok_quotient_sum T XK G) (by decide) (by kernel_rfl) (fns_cons (ok__law_is_bound_right T XK G) (by decide) (by kernel_rfl) (fns_cons (ok__law_are T XK G) (by decide) (by kernel_rfl) (fns_cons (ok_quotient_run T XK G) (by decide) (by kernel_rfl) (fns_cons (ok__law_values T XK G) (by decide) (by kernel_rfl) (fns_cons (ok__law_sums T XK G) (by decide) (by kernel_rfl) fns_nil))))))) b__law_is_run_right q__law_is_run_right p__law_is_run_right
def C__law_is_one_right (K : PySem.W.Frag) : Cxt := { N := ["w", "named", "share", "told"], sc := defScope s__law_is_one_right, fnb := fun _ => true, fns := [("_law_is_due_calm", ["w"], F__law_is_due_calm), ("is_quotient_calm", ["quotient"], F_is_quotient_calm), ("_law_are", ["told", "dues"], F__law_are), ("_law_share", ["w"], F__law_share), ("quotient_share", ["quotient"], F_quotient_share)], kws := [("is_quotient_calm", 0, ["quotient"]), ("quotient_share", 0, ["quotient"])], bl := ["repr"], md := [], K := K }
theorem sc__law_is_one_right : FnScope ["w", "named", "share", "told"] ["w", "named"] (defScope s__law_is_one_right) := ⟨rfl, rfl, rfl, by decide +kernel, rfl, by decide +kernel, by decide +kernel⟩
theorem c__law_is_one_right (K : PySem.W.Frag) : cSs (C__law_is_one_right K) 60 (defBody s__law_is_one_right) = some (W__law_is_one_right K) := by kernel_rfl
theorem b__law_is_one_right : BindOk "_law_is_one_right" s__law_is_one_right ["w", "named"] := fun _ _ _ _ _ _ us hl => match us, hl with | [_, _], _ => rfl
theorem q__law_is_one_right : KwsOk "_law_is_one_right" s__law_is_one_right ["w", "named"] [] := fun _ _ _ _ _ _ => fun _ h => nomatch h
theorem ok__law_is_one_right (T : Tp K DS ZS MS) (XK : K.In base) (G : base.Ns mainGlobals mg) : Kn P w K mg base 4 "_law_is_one_right" ["w", "named"] (F__law_is_one_right) [] :=
  kn_of T (List.mem_iff_getElem?.mpr ⟨33, rfl⟩) XK G sc__law_is_one_right (c__law_is_one_right K) rfl rfl rfl (gf_of T XK G (by kernel_rfl) (by kernel_rfl) (fns_cons (ok__law_is_due_calm T XK G) (by decide) (by kernel_rfl) (fns_cons (ok_is_quotient_calm T XK G) (by decide) (by kernel_rfl) (fns_cons (ok__law_are T XK G) (by decide) (by kernel_rfl) (fns_cons (ok__law_share T XK G) (by decide) (by kernel_rfl) (fns_cons (ok_quotient_share T XK G) (by decide) (by kernel_rfl) fns_nil)))))) b__law_is_one_right q__law_is_one_right p__law_is_one_right
def C__law_is_beside_right (K : PySem.W.Frag) : Cxt := { N := ["w", "first", "second", "p", "q", "row", "run", "above", "below", "x", "y"], sc := defScope s__law_is_beside_right, fnb := fun _ => true, fns := [("_law_are", ["told", "dues"], F__law_are), ("_law_values", ["sums", "first", "second"], F__law_values), ("_law_sums", ["quotients"], F__law_sums), ("quotient_run", ["quotients", "first", "second"], F_quotient_run), ("uneven_backward", ["places"], F_uneven_backward)], kws := [], bl := ["list", "zip"], md := [], K := K }
theorem sc__law_is_beside_right : FnScope ["w", "first", "second", "p", "q", "row", "run", "above", "below", "x", "y"] ["w", "first", "second"] (defScope s__law_is_beside_right) := ⟨rfl, rfl, rfl, by decide +kernel, rfl, by decide +kernel, by decide +kernel⟩
theorem c__law_is_beside_right (K : PySem.W.Frag) : cSs (C__law_is_beside_right K) 60 (defBody s__law_is_beside_right) = some (W__law_is_beside_right K) := by kernel_rfl
theorem b__law_is_beside_right : BindOk "_law_is_beside_right" s__law_is_beside_right ["w", "first", "second"] := fun _ _ _ _ _ _ us hl => match us, hl with | [_, _, _], _ => rfl
theorem q__law_is_beside_right : KwsOk "_law_is_beside_right" s__law_is_beside_right ["w", "first", "second"] [] := fun _ _ _ _ _ _ => fun _ h => nomatch h
theorem ok__law_is_beside_right (T : Tp K DS ZS MS) (XK : K.In base) (G : base.Ns mainGlobals mg) : Kn P w K mg base 5 "_law_is_beside_right" ["w", "first", "second"] (F__law_is_beside_right) [] :=
  kn_of T (List.mem_iff_getElem?.mpr ⟨34, rfl⟩) XK G sc__law_is_beside_right (c__law_is_beside_right K) rfl rfl rfl (gf_of T XK G (by kernel_rfl) (by kernel_rfl) (fns_cons (ok__law_are T XK G) (by decide) (by kernel_rfl) (fns_cons (ok__law_values T XK G) (by decide) (by kernel_rfl) (fns_cons (ok__law_sums T XK G) (by decide) (by kernel_rfl) (fns_cons (ok_quotient_run T XK G) (by decide) (by kernel_rfl) (fns_cons (ok_uneven_backward T XK G) (by decide) (by kernel_rfl) fns_nil)))))) b__law_is_beside_right q__law_is_beside_right p__law_is_beside_right
def C_law (K : PySem.W.Frag) : Cxt := { N := ["script", "bag", "most", "first", "second", "some", "turn", "way", "twice", "few", "quotients", "many", "w", "kept"], sc := defScope s_law, fnb := fun _ => true, fns := [("_law_own_bag", ["script"], F__law_own_bag K), ("_law_is_one_right", ["w", "named"], F__law_is_one_right), ("quotient_run", ["quotients", "first", "second"], F_quotient_run), ("_law_is_run_right", ["quotients", "first", "second", "twice"], F__law_is_run_right), ("_law_is_beside_right", ["w", "first", "second"], F__law_is_beside_right), ("_law_own_quotients", ["bag", "many", "most"], F__law_own_quotients), ("_law_draw", ["bag", "below"], F__law_draw), ("_law_pick", ["bag", "some"], F__law_pick), ("_law_near", [], F__law_near), ("_law_quotient", ["bag", "most"], F__law_quotient), ("_law_value", ["bag", "most"], F__law_value)], kws := [], bl := ["repr", "list", "enumerate", "int", "range"], md := [], K := K }
theorem sc_law : FnScope ["script", "bag", "most", "first", "second", "some", "turn", "way", "twice", "few", "quotients", "many", "w", "kept"] ["script"] (defScope s_law) := ⟨rfl, rfl, rfl, by decide +kernel, rfl, by decide +kernel, by decide +kernel⟩
theorem c_law1 (K : PySem.W.Frag) : cSs (C_law K) 60 ((defBody s_law).take 1) = some (W_law1 K) := by kernel_rfl
theorem c_law2 (K : PySem.W.Frag) : cSs (C_law K) 60 ((defBody s_law).drop 1) = some (W_law2 K) := by kernel_rfl
theorem gf_law (T : Tp K DS ZS MS) (XK : K.In base) (G : base.Ns mainGlobals mg) : GF P w K mg base (C_law K) 5 := (gf_of T XK G (by kernel_rfl) (by kernel_rfl) (fns_cons (ok__law_own_bag T XK G) (by decide) (by kernel_rfl) (fns_cons (ok__law_is_one_right T XK G) (by decide) (by kernel_rfl) (fns_cons (ok_quotient_run T XK G) (by decide) (by kernel_rfl) (fns_cons (ok__law_is_run_right T XK G) (by decide) (by kernel_rfl) (fns_cons (ok__law_is_beside_right T XK G) (by decide) (by kernel_rfl) (fns_cons (ok__law_own_quotients T XK G) (by decide) (by kernel_rfl) (fns_cons (ok__law_draw T XK G) (by decide) (by kernel_rfl) (fns_cons (ok__law_pick T XK G) (by decide) (by kernel_rfl) (fns_cons (ok__law_near T XK G) (by decide) (by kernel_rfl) (fns_cons (ok__law_quotient T XK G) (by decide) (by kernel_rfl) (fns_cons (ok__law_value T XK G) (by decide) (by kernel_rfl) fns_nil))))))))))))
end
theorem all_mk {P : Program} {w : World} {K : PySem.W.Frag} {h : Heap} {mg : Str → Option Value} {fa fL : Addr} (X : K.In h) (G : h.Ns mainGlobals mg) (hfa : mg "law" = some (.ref fa))
    {f0 : Addr} {od0 an0 : Option Addr} {sl0 : Array (Option Value)} {oc0 kV0 dc0 pm0 cd0 ct0 : Value} (a0 : PySem.W.nsIn K mainGlobals "fraction_of" = some (some (.ref f0))) (l0 : K.lookup f0 = some ⟨oc0, od0, .func (PySem.W.fnOf "fraction_of" "fraction_of" (defArgs s_fraction_of) (defBody s_fraction_of) (defScope s_fraction_of) .none kV0 dc0 pm0 an0 cd0 ct0), sl0⟩) (c0 : PySem.W.codeIn K cd0 "fraction_of" = true) (k0 : PySem.W.keepIn K (.ref f0) = true)
    {f1 : Addr} {od1 an1 : Option Addr} {sl1 : Array (Option Value)} {oc1 kV1 dc1 pm1 cd1 ct1 : Value} (a1 : PySem.W.nsIn K mainGlobals "fraction_sum" = some (some (.ref f1))) (l1 : K.lookup f1 = some ⟨oc1, od1, .func (PySem.W.fnOf "fraction_sum" "fraction_sum" (defArgs s_fraction_sum) (defBody s_fraction_sum) (defScope s_fraction_sum) .none kV1 dc1 pm1 an1 cd1 ct1), sl1⟩) (c1 : PySem.W.codeIn K cd1 "fraction_sum" = true) (k1 : PySem.W.keepIn K (.ref f1) = true)
    {f2 : Addr} {od2 an2 : Option Addr} {sl2 : Array (Option Value)} {oc2 kV2 dc2 pm2 cd2 ct2 : Value} (a2 : PySem.W.nsIn K mainGlobals "fraction_less" = some (some (.ref f2))) (l2 : K.lookup f2 = some ⟨oc2, od2, .func (PySem.W.fnOf "fraction_less" "fraction_less" (defArgs s_fraction_less) (defBody s_fraction_less) (defScope s_fraction_less) .none kV2 dc2 pm2 an2 cd2 ct2), sl2⟩) (c2 : PySem.W.codeIn K cd2 "fraction_less" = true) (k2 : PySem.W.keepIn K (.ref f2) = true)
    {f3 : Addr} {od3 an3 : Option Addr} {sl3 : Array (Option Value)} {oc3 kV3 dc3 pm3 cd3 ct3 : Value} (a3 : PySem.W.nsIn K mainGlobals "fraction_times" = some (some (.ref f3))) (l3 : K.lookup f3 = some ⟨oc3, od3, .func (PySem.W.fnOf "fraction_times" "fraction_times" (defArgs s_fraction_times) (defBody s_fraction_times) (defScope s_fraction_times) .none kV3 dc3 pm3 an3 cd3 ct3), sl3⟩) (c3 : PySem.W.codeIn K cd3 "fraction_times" = true) (k3 : PySem.W.keepIn K (.ref f3) = true)
    {f4 : Addr} {od4 an4 : Option Addr} {sl4 : Array (Option Value)} {oc4 kV4 dc4 pm4 cd4 ct4 : Value} (a4 : PySem.W.nsIn K mainGlobals "quotient_share" = some (some (.ref f4))) (l4 : K.lookup f4 = some ⟨oc4, od4, .func (PySem.W.fnOf "quotient_share" "quotient_share" (defArgs s_quotient_share) (defBody s_quotient_share) (defScope s_quotient_share) .none kV4 dc4 pm4 an4 cd4 ct4), sl4⟩) (c4 : PySem.W.codeIn K cd4 "quotient_share" = true) (k4 : PySem.W.keepIn K (.ref f4) = true)
    {f5 : Addr} {od5 an5 : Option Addr} {sl5 : Array (Option Value)} {oc5 kV5 dc5 pm5 cd5 ct5 : Value} (a5 : PySem.W.nsIn K mainGlobals "is_quotient_calm" = some (some (.ref f5))) (l5 : K.lookup f5 = some ⟨oc5, od5, .func (PySem.W.fnOf "is_quotient_calm" "is_quotient_calm" (defArgs s_is_quotient_calm) (defBody s_is_quotient_calm) (defScope s_is_quotient_calm) .none kV5 dc5 pm5 an5 cd5 ct5), sl5⟩) (c5 : PySem.W.codeIn K cd5 "is_quotient_calm" = true) (k5 : PySem.W.keepIn K (.ref f5) = true)
    {f6 : Addr} {od6 an6 : Option Addr} {sl6 : Array (Option Value)} {oc6 kV6 dc6 pm6 cd6 ct6 : Value} (a6 : PySem.W.nsIn K mainGlobals "quotient_run" = some (some (.ref f6))) (l6 : K.lookup f6 = some ⟨oc6, od6, .func (PySem.W.fnOf "quotient_run" "quotient_run" (defArgs s_quotient_run) (defBody s_quotient_run) (defScope s_quotient_run) .none kV6 dc6 pm6 an6 cd6 ct6), sl6⟩) (c6 : PySem.W.codeIn K cd6 "quotient_run" = true) (k6 : PySem.W.keepIn K (.ref f6) = true)
    {f7 : Addr} {od7 an7 : Option Addr} {sl7 : Array (Option Value)} {oc7 kV7 dc7 pm7 cd7 ct7 : Value} (a7 : PySem.W.nsIn K mainGlobals "quotient_sum" = some (some (.ref f7))) (l7 : K.lookup f7 = some ⟨oc7, od7, .func (PySem.W.fnOf "quotient_sum" "quotient_sum" (defArgs s_quotient_sum) (defBody s_quotient_sum) (defScope s_quotient_sum) .none kV7 dc7 pm7 an7 cd7 ct7), sl7⟩) (c7 : PySem.W.codeIn K cd7 "quotient_sum" = true) (k7 : PySem.W.keepIn K (.ref f7) = true)
    {f8 : Addr} {od8 an8 : Option Addr} {sl8 : Array (Option Value)} {oc8 kV8 dc8 pm8 cd8 ct8 : Value} (a8 : PySem.W.nsIn K mainGlobals "common_divisor" = some (some (.ref f8))) (l8 : K.lookup f8 = some ⟨oc8, od8, .func (PySem.W.fnOf "common_divisor" "common_divisor" (defArgs s_common_divisor) (defBody s_common_divisor) (defScope s_common_divisor) .none kV8 dc8 pm8 an8 cd8 ct8), sl8⟩) (c8 : PySem.W.codeIn K cd8 "common_divisor" = true) (k8 : PySem.W.keepIn K (.ref f8) = true)
    {f9 : Addr} {od9 an9 : Option Addr} {sl9 : Array (Option Value)} {oc9 kV9 dc9 pm9 cd9 ct9 : Value} (a9 : PySem.W.nsIn K mainGlobals "power" = some (some (.ref f9))) (l9 : K.lookup f9 = some ⟨oc9, od9, .func (PySem.W.fnOf "power" "power" (defArgs s_power) (defBody s_power) (defScope s_power) .none kV9 dc9 pm9 an9 cd9 ct9), sl9⟩) (c9 : PySem.W.codeIn K cd9 "power" = true) (k9 : PySem.W.keepIn K (.ref f9) = true)
    {f10 : Addr} {od10 an10 : Option Addr} {sl10 : Array (Option Value)} {oc10 kV10 dc10 pm10 cd10 ct10 : Value} (a10 : PySem.W.nsIn K mainGlobals "whole_row" = some (some (.ref f10))) (l10 : K.lookup f10 = some ⟨oc10, od10, .func (PySem.W.fnOf "whole_row" "whole_row" (defArgs s_whole_row) (defBody s_whole_row) (defScope s_whole_row) .none kV10 dc10 pm10 an10 cd10 ct10), sl10⟩) (c10 : PySem.W.codeIn K cd10 "whole_row" = true) (k10 : PySem.W.keepIn K (.ref f10) = true)
    {f11 : Addr} {od11 an11 : Option Addr} {sl11 : Array (Option Value)} {oc11 kV11 dc11 pm11 cd11 ct11 : Value} (a11 : PySem.W.nsIn K mainGlobals "product_poly" = some (some (.ref f11))) (l11 : K.lookup f11 = some ⟨oc11, od11, .func (PySem.W.fnOf "product_poly" "product_poly" (defArgs s_product_poly) (defBody s_product_poly) (defScope s_product_poly) .none kV11 dc11 pm11 an11 cd11 ct11), sl11⟩) (c11 : PySem.W.codeIn K cd11 "product_poly" = true) (k11 : PySem.W.keepIn K (.ref f11) = true)
    {f12 : Addr} {od12 an12 : Option Addr} {sl12 : Array (Option Value)} {oc12 kV12 dc12 pm12 cd12 ct12 : Value} (a12 : PySem.W.nsIn K mainGlobals "place_poly" = some (some (.ref f12))) (l12 : K.lookup f12 = some ⟨oc12, od12, .func (PySem.W.fnOf "place_poly" "place_poly" (defArgs s_place_poly) (defBody s_place_poly) (defScope s_place_poly) .none kV12 dc12 pm12 an12 cd12 ct12), sl12⟩) (c12 : PySem.W.codeIn K cd12 "place_poly" = true) (k12 : PySem.W.keepIn K (.ref f12) = true)
    {f13 : Addr} {od13 an13 : Option Addr} {sl13 : Array (Option Value)} {oc13 kV13 dc13 pm13 cd13 ct13 : Value} (a13 : PySem.W.nsIn K mainGlobals "slope_weights" = some (some (.ref f13))) (l13 : K.lookup f13 = some ⟨oc13, od13, .func (PySem.W.fnOf "slope_weights" "slope_weights" (defArgs s_slope_weights) (defBody s_slope_weights) (defScope s_slope_weights) .none kV13 dc13 pm13 an13 cd13 ct13), sl13⟩) (c13 : PySem.W.codeIn K cd13 "slope_weights" = true) (k13 : PySem.W.keepIn K (.ref f13) = true)
    {f14 : Addr} {od14 an14 : Option Addr} {sl14 : Array (Option Value)} {oc14 kV14 dc14 pm14 cd14 ct14 : Value} (a14 : PySem.W.nsIn K mainGlobals "uneven_backward" = some (some (.ref f14))) (l14 : K.lookup f14 = some ⟨oc14, od14, .func (PySem.W.fnOf "uneven_backward" "uneven_backward" (defArgs s_uneven_backward) (defBody s_uneven_backward) (defScope s_uneven_backward) .none kV14 dc14 pm14 an14 cd14 ct14), sl14⟩) (c14 : PySem.W.codeIn K cd14 "uneven_backward" = true) (k14 : PySem.W.keepIn K (.ref f14) = true)
    {f15 : Addr} {od15 an15 : Option Addr} {sl15 : Array (Option Value)} {oc15 kV15 dc15 pm15 cd15 ct15 : Value} (a15 : PySem.W.nsIn K mainGlobals "_law_own_bag" = some (some (.ref f15))) (l15 : K.lookup f15 = some ⟨oc15, od15, .func (PySem.W.fnOf "_law_own_bag" "_law_own_bag" (defArgs s__law_own_bag) (defBody s__law_own_bag) (defScope s__law_own_bag) .none kV15 dc15 pm15 an15 cd15 ct15), sl15⟩) (c15 : PySem.W.codeIn K cd15 "_law_own_bag" = true) (k15 : PySem.W.keepIn K (.ref f15) = true)
    {f16 : Addr} {od16 an16 : Option Addr} {sl16 : Array (Option Value)} {oc16 kV16 dc16 pm16 cd16 ct16 : Value} (a16 : PySem.W.nsIn K mainGlobals "_law_draw" = some (some (.ref f16))) (l16 : K.lookup f16 = some ⟨oc16, od16, .func (PySem.W.fnOf "_law_draw" "_law_draw" (defArgs s__law_draw) (defBody s__law_draw) (defScope s__law_draw) .none kV16 dc16 pm16 an16 cd16 ct16), sl16⟩) (c16 : PySem.W.codeIn K cd16 "_law_draw" = true) (k16 : PySem.W.keepIn K (.ref f16) = true)
    {f17 : Addr} {od17 an17 : Option Addr} {sl17 : Array (Option Value)} {oc17 kV17 dc17 pm17 cd17 ct17 : Value} (a17 : PySem.W.nsIn K mainGlobals "_law_pick" = some (some (.ref f17))) (l17 : K.lookup f17 = some ⟨oc17, od17, .func (PySem.W.fnOf "_law_pick" "_law_pick" (defArgs s__law_pick) (defBody s__law_pick) (defScope s__law_pick) .none kV17 dc17 pm17 an17 cd17 ct17), sl17⟩) (c17 : PySem.W.codeIn K cd17 "_law_pick" = true) (k17 : PySem.W.keepIn K (.ref f17) = true)
    {f18 : Addr} {od18 an18 : Option Addr} {sl18 : Array (Option Value)} {oc18 kV18 dc18 pm18 cd18 ct18 : Value} (a18 : PySem.W.nsIn K mainGlobals "_law_common" = some (some (.ref f18))) (l18 : K.lookup f18 = some ⟨oc18, od18, .func (PySem.W.fnOf "_law_common" "_law_common" (defArgs s__law_common) (defBody s__law_common) (defScope s__law_common) .none kV18 dc18 pm18 an18 cd18 ct18), sl18⟩) (c18 : PySem.W.codeIn K cd18 "_law_common" = true) (k18 : PySem.W.keepIn K (.ref f18) = true)
    {f19 : Addr} {od19 an19 : Option Addr} {sl19 : Array (Option Value)} {oc19 kV19 dc19 pm19 cd19 ct19 : Value} (a19 : PySem.W.nsIn K mainGlobals "_law_is" = some (some (.ref f19))) (l19 : K.lookup f19 = some ⟨oc19, od19, .func (PySem.W.fnOf "_law_is" "_law_is" (defArgs s__law_is) (defBody s__law_is) (defScope s__law_is) .none kV19 dc19 pm19 an19 cd19 ct19), sl19⟩) (c19 : PySem.W.codeIn K cd19 "_law_is" = true) (k19 : PySem.W.keepIn K (.ref f19) = true)
    {f20 : Addr} {od20 an20 : Option Addr} {sl20 : Array (Option Value)} {oc20 kV20 dc20 pm20 cd20 ct20 : Value} (a20 : PySem.W.nsIn K mainGlobals "_law_are" = some (some (.ref f20))) (l20 : K.lookup f20 = some ⟨oc20, od20, .func (PySem.W.fnOf "_law_are" "_law_are" (defArgs s__law_are) (defBody s__law_are) (defScope s__law_are) .none kV20 dc20 pm20 an20 cd20 ct20), sl20⟩) (c20 : PySem.W.codeIn K cd20 "_law_are" = true) (k20 : PySem.W.keepIn K (.ref f20) = true)
    {f21 : Addr} {od21 an21 : Option Addr} {sl21 : Array (Option Value)} {oc21 kV21 dc21 pm21 cd21 ct21 : Value} (a21 : PySem.W.nsIn K mainGlobals "_law_lowest" = some (some (.ref f21))) (l21 : K.lookup f21 = some ⟨oc21, od21, .func (PySem.W.fnOf "_law_lowest" "_law_lowest" (defArgs s__law_lowest) (defBody s__law_lowest) (defScope s__law_lowest) .none kV21 dc21 pm21 an21 cd21 ct21), sl21⟩) (c21 : PySem.W.codeIn K cd21 "_law_lowest" = true) (k21 : PySem.W.keepIn K (.ref f21) = true)
    {f22 : Addr} {od22 an22 : Option Addr} {sl22 : Array (Option Value)} {oc22 kV22 dc22 pm22 cd22 ct22 : Value} (a22 : PySem.W.nsIn K mainGlobals "_law_near" = some (some (.ref f22))) (l22 : K.lookup f22 = some ⟨oc22, od22, .func (PySem.W.fnOf "_law_near" "_law_near" (defArgs s__law_near) (defBody s__law_near) (defScope s__law_near) .none kV22 dc22 pm22 an22 cd22 ct22), sl22⟩) (c22 : PySem.W.codeIn K cd22 "_law_near" = true) (k22 : PySem.W.keepIn K (.ref f22) = true)
    {f23 : Addr} {od23 an23 : Option Addr} {sl23 : Array (Option Value)} {oc23 kV23 dc23 pm23 cd23 ct23 : Value} (a23 : PySem.W.nsIn K mainGlobals "_law_quotient" = some (some (.ref f23))) (l23 : K.lookup f23 = some ⟨oc23, od23, .func (PySem.W.fnOf "_law_quotient" "_law_quotient" (defArgs s__law_quotient) (defBody s__law_quotient) (defScope s__law_quotient) .none kV23 dc23 pm23 an23 cd23 ct23), sl23⟩) (c23 : PySem.W.codeIn K cd23 "_law_quotient" = true) (k23 : PySem.W.keepIn K (.ref f23) = true)
    {f24 : Addr} {od24 an24 : Option Addr} {sl24 : Array (Option Value)} {oc24 kV24 dc24 pm24 cd24 ct24 : Value} (a24 : PySem.W.nsIn K mainGlobals "_law_own_quotients" = some (some (.ref f24))) (l24 : K.lookup f24 = some ⟨oc24, od24, .func (PySem.W.fnOf "_law_own_quotients" "_law_own_quotients" (defArgs s__law_own_quotients) (defBody s__law_own_quotients) (defScope s__law_own_quotients) .none kV24 dc24 pm24 an24 cd24 ct24), sl24⟩) (c24 : PySem.W.codeIn K cd24 "_law_own_quotients" = true) (k24 : PySem.W.keepIn K (.ref f24) = true)
    {f25 : Addr} {od25 an25 : Option Addr} {sl25 : Array (Option Value)} {oc25 kV25 dc25 pm25 cd25 ct25 : Value} (a25 : PySem.W.nsIn K mainGlobals "_law_value" = some (some (.ref f25))) (l25 : K.lookup f25 = some ⟨oc25, od25, .func (PySem.W.fnOf "_law_value" "_law_value" (defArgs s__law_value) (defBody s__law_value) (defScope s__law_value) .none kV25 dc25 pm25 an25 cd25 ct25), sl25⟩) (c25 : PySem.W.codeIn K cd25 "_law_value" = true) (k25 : PySem.W.keepIn K (.ref f25) = true)
    {f26 : Addr} {od26 an26 : Option Addr} {sl26 : Array (Option Value)} {oc26 kV26 dc26 pm26 cd26 ct26 : Value} (a26 : PySem.W.nsIn K mainGlobals "_law_share" = some (some (.ref f26))) (l26 : K.lookup f26 = some ⟨oc26, od26, .func (PySem.W.fnOf "_law_share" "_law_share" (defArgs s__law_share) (defBody s__law_share) (defScope s__law_share) .none kV26 dc26 pm26 an26 cd26 ct26), sl26⟩) (c26 : PySem.W.codeIn K cd26 "_law_share" = true) (k26 : PySem.W.keepIn K (.ref f26) = true)
    {f27 : Addr} {od27 an27 : Option Addr} {sl27 : Array (Option Value)} {oc27 kV27 dc27 pm27 cd27 ct27 : Value} (a27 : PySem.W.nsIn K mainGlobals "_law_is_due_calm" = some (some (.ref f27))) (l27 : K.lookup f27 = some ⟨oc27, od27, .func (PySem.W.fnOf "_law_is_due_calm" "_law_is_due_calm" (defArgs s__law_is_due_calm) (defBody s__law_is_due_calm) (defScope s__law_is_due_calm) .none kV27 dc27 pm27 an27 cd27 ct27), sl27⟩) (c27 : PySem.W.codeIn K cd27 "_law_is_due_calm" = true) (k27 : PySem.W.keepIn K (.ref f27) = true)
    {f28 : Addr} {od28 an28 : Option Addr} {sl28 : Array (Option Value)} {oc28 kV28 dc28 pm28 cd28 ct28 : Value} (a28 : PySem.W.nsIn K mainGlobals "_law_sums" = some (some (.ref f28))) (l28 : K.lookup f28 = some ⟨oc28, od28, .func (PySem.W.fnOf "_law_sums" "_law_sums" (defArgs s__law_sums) (defBody s__law_sums) (defScope s__law_sums) .none kV28 dc28 pm28 an28 cd28 ct28), sl28⟩) (c28 : PySem.W.codeIn K cd28 "_law_sums" = true) (k28 : PySem.W.keepIn K (.ref f28) = true)
    {f29 : Addr} {od29 an29 : Option Addr} {sl29 : Array (Option Value)} {oc29 kV29 dc29 pm29 cd29 ct29 : Value} (a29 : PySem.W.nsIn K mainGlobals "_law_values" = some (some (.ref f29))) (l29 : K.lookup f29 = some ⟨oc29, od29, .func (PySem.W.fnOf "_law_values" "_law_values" (defArgs s__law_values) (defBody s__law_values) (defScope s__law_values) .none kV29 dc29 pm29 an29 cd29 ct29), sl29⟩) (c29 : PySem.W.codeIn K cd29 "_law_values" = true) (k29 : PySem.W.keepIn K (.ref f29) = true)
    {f30 : Addr} {od30 an30 : Option Addr} {sl30 : Array (Option Value)} {oc30 kV30 dc30 pm30 cd30 ct30 : Value} (a30 : PySem.W.nsIn K mainGlobals "_law_greatest" = some (some (.ref f30))) (l30 : K.lookup f30 = some ⟨oc30, od30, .func (PySem.W.fnOf "_law_greatest" "_law_greatest" (defArgs s__law_greatest) (defBody s__law_greatest) (defScope s__law_greatest) .none kV30 dc30 pm30 an30 cd30 ct30), sl30⟩) (c30 : PySem.W.codeIn K cd30 "_law_greatest" = true) (k30 : PySem.W.keepIn K (.ref f30) = true)
    {f31 : Addr} {od31 an31 : Option Addr} {sl31 : Array (Option Value)} {oc31 kV31 dc31 pm31 cd31 ct31 : Value} (a31 : PySem.W.nsIn K mainGlobals "_law_is_bound_right" = some (some (.ref f31))) (l31 : K.lookup f31 = some ⟨oc31, od31, .func (PySem.W.fnOf "_law_is_bound_right" "_law_is_bound_right" (defArgs s__law_is_bound_right) (defBody s__law_is_bound_right) (defScope s__law_is_bound_right) .none kV31 dc31 pm31 an31 cd31 ct31), sl31⟩) (c31 : PySem.W.codeIn K cd31 "_law_is_bound_right" = true) (k31 : PySem.W.keepIn K (.ref f31) = true)
    {f32 : Addr} {od32 an32 : Option Addr} {sl32 : Array (Option Value)} {oc32 kV32 dc32 pm32 cd32 ct32 : Value} (a32 : PySem.W.nsIn K mainGlobals "_law_is_run_right" = some (some (.ref f32))) (l32 : K.lookup f32 = some ⟨oc32, od32, .func (PySem.W.fnOf "_law_is_run_right" "_law_is_run_right" (defArgs s__law_is_run_right) (defBody s__law_is_run_right) (defScope s__law_is_run_right) .none kV32 dc32 pm32 an32 cd32 ct32), sl32⟩) (c32 : PySem.W.codeIn K cd32 "_law_is_run_right" = true) (k32 : PySem.W.keepIn K (.ref f32) = true)
    {f33 : Addr} {od33 an33 : Option Addr} {sl33 : Array (Option Value)} {oc33 kV33 dc33 pm33 cd33 ct33 : Value} (a33 : PySem.W.nsIn K mainGlobals "_law_is_one_right" = some (some (.ref f33))) (l33 : K.lookup f33 = some ⟨oc33, od33, .func (PySem.W.fnOf "_law_is_one_right" "_law_is_one_right" (defArgs s__law_is_one_right) (defBody s__law_is_one_right) (defScope s__law_is_one_right) .none kV33 dc33 pm33 an33 cd33 ct33), sl33⟩) (c33 : PySem.W.codeIn K cd33 "_law_is_one_right" = true) (k33 : PySem.W.keepIn K (.ref f33) = true)
    {f34 : Addr} {od34 an34 : Option Addr} {sl34 : Array (Option Value)} {oc34 kV34 dc34 pm34 cd34 ct34 : Value} (a34 : PySem.W.nsIn K mainGlobals "_law_is_beside_right" = some (some (.ref f34))) (l34 : K.lookup f34 = some ⟨oc34, od34, .func (PySem.W.fnOf "_law_is_beside_right" "_law_is_beside_right" (defArgs s__law_is_beside_right) (defBody s__law_is_beside_right) (defScope s__law_is_beside_right) .none kV34 dc34 pm34 an34 cd34 ct34), sl34⟩) (c34 : PySem.W.codeIn K cd34 "_law_is_beside_right" = true) (k34 : PySem.W.keepIn K (.ref f34) = true)
    {od35 an35 : Option Addr} {sl35 : Array (Option Value)} {oc35 kV35 dc35 pm35 cd35 ct35 : Value} (a35 : PySem.W.nsIn K mainGlobals "law" = some (some (.ref fL))) (l35 : K.lookup fL = some ⟨oc35, od35, .func (PySem.W.fnOf "law" "law" (defArgs s_law) (defBody s_law) (defScope s_law) .none kV35 dc35 pm35 an35 cd35 ct35), sl35⟩) (c35 : PySem.W.codeIn K cd35 "law" = true) (k35 : PySem.W.keepIn K (.ref fL) = true)
    (z0 : PySem.W.nsIn K mainGlobals "tuple" = some none)
    (z1 : PySem.W.nsIn K mainGlobals "abs" = some none)
    (z2 : PySem.W.nsIn K mainGlobals "range" = some none)
    (z3 : PySem.W.nsIn K mainGlobals "zip" = some none)
    (z4 : PySem.W.nsIn K mainGlobals "enumerate" = some none)
    (z5 : PySem.W.nsIn K mainGlobals "len" = some none)
    (z6 : PySem.W.nsIn K mainGlobals "sum" = some none)
    (z7 : PySem.W.nsIn K mainGlobals "list" = some none)
    (z8 : PySem.W.nsIn K mainGlobals "reversed" = some none)
    (z9 : PySem.W.nsIn K mainGlobals "int" = some none)
    (z10 : PySem.W.nsIn K mainGlobals "isinstance" = some none)
    (z11 : PySem.W.nsIn K mainGlobals "bool" = some none)
    (z12 : PySem.W.nsIn K mainGlobals "repr" = some none)
    (m0 : PySem.W.nsIn K mainGlobals "gcd" = some (some (.builtin "math.gcd")))
    : ∃ fd : FuncData, (∀ (s : Shared) (v : Value), BindsTo s fd ⟨[v], []⟩ [("script", v)]) ∧ ∀ base : Heap, K.In base → base.Ns mainGlobals mg → FnG P w K mg base CX0 6 fa fd ["script"] (lawSp K) := by
  have e := hfa.symm.trans (PySem.W.mg_of X G a35)
  cases e
  have T : Tp K DS ZS MS := ⟨List.forall_mem_cons.mpr ⟨⟨⟨f0, _, _, _, _, _, _, _, _, _, a0, l0, c0, k0⟩⟩, List.forall_mem_cons.mpr ⟨⟨⟨f1, _, _, _, _, _, _, _, _, _, a1, l1, c1, k1⟩⟩, List.forall_mem_cons.mpr ⟨⟨⟨f2, _, _, _, _, _, _, _, _, _, a2, l2, c2, k2⟩⟩, List.forall_mem_cons.mpr ⟨⟨⟨f3, _, _, _, _, _, _, _, _, _, a3, l3, c3, k3⟩⟩, List.forall_mem_cons.mpr ⟨⟨⟨f4, _, _, _, _, _, _, _, _, _, a4, l4, c4, k4⟩⟩, List.forall_mem_cons.mpr ⟨⟨⟨f5, _, _, _, _, _, _, _, _, _, a5, l5, c5, k5⟩⟩, List.forall_mem_cons.mpr ⟨⟨⟨f6, _, _, _, _, _, _, _, _, _, a6, l6, c6, k6⟩⟩, List.forall_mem_cons.mpr ⟨⟨⟨f7, _, _, _, _, _, _, _, _, _, a7, l7, c7, k7⟩⟩, List.forall_mem_cons.mpr ⟨⟨⟨f8, _, _, _, _, _, _, _, _, _, a8, l8, c8, k8⟩⟩, List.forall_mem_cons.mpr ⟨⟨⟨f9, _, _, _, _, _, _, _, _, _, a9, l9, c9, k9⟩⟩, List.forall_mem_cons.mpr ⟨⟨⟨f10, _, _, _, _, _, _, _, _, _, a10, l10, c10, k10⟩⟩, List.forall_mem_cons.mpr ⟨⟨⟨f11, _, _, _, _, _, _, _, _, _, a11, l11, c11, k11⟩⟩, List.forall_mem_cons.mpr ⟨⟨⟨f12, _, _, _, _, _, _, _, _, _, a12, l12, c12, k12⟩⟩, List.forall_mem_cons.mpr ⟨⟨⟨f13, _, _, _, _, _, _, _, _, _, a13, l13, c13, k13⟩⟩, List.forall_mem_cons.mpr ⟨⟨⟨f14, _, _, _, _, _, _, _, _, _, a14, l14, c14, k14⟩⟩, List.forall_mem_cons.mpr ⟨⟨⟨f15, _, _, _, _, _, _, _, _, _, a15, l15, c15, k15⟩⟩, List.forall_mem_cons.mpr ⟨⟨⟨f16, _, _, _, _, _, _, _, _, _, a16, l16, c16, k16⟩⟩, List.forall_mem_cons.mpr ⟨⟨⟨f17, _, _, _, _, _, _, _, _, _, a17, l17, c17, k17⟩⟩, List.forall_mem_cons.mpr ⟨⟨⟨f18, _, _, _, _, _, _, _, _, _, a18, l18, c18, k18⟩⟩, List.forall_mem_cons.mpr ⟨⟨⟨f19, _, _, _, _, _, _, _, _, _, a19, l19, c19, k19⟩⟩, List.forall_mem_cons.mpr ⟨⟨⟨f20, _, _, _, _, _, _, _, _, _, a20, l20, c20, k20⟩⟩, List.forall_mem_cons.mpr ⟨⟨⟨f21, _, _, _, _, _, _, _, _, _, a21, l21, c21, k21⟩⟩, List.forall_mem_cons.mpr ⟨⟨⟨f22, _, _, _, _, _, _, _, _, _, a22, l22, c22, k22⟩⟩, List.forall_mem_cons.mpr ⟨⟨⟨f23, _, _, _, _, _, _, _, _, _, a23, l23, c23, k23⟩⟩, List.forall_mem_cons.mpr ⟨⟨⟨f24, _, _, _, _, _, _, _, _, _, a24, l24, c24, k24⟩⟩, List.forall_mem_cons.mpr ⟨⟨⟨f25, _, _, _, _, _, _, _, _, _, a25, l25, c25, k25⟩⟩, List.forall_mem_cons.mpr ⟨⟨⟨f26, _, _, _, _, _, _, _, _, _, a26, l26, c26, k26⟩⟩, List.forall_mem_cons.mpr ⟨⟨⟨f27, _, _, _, _, _, _, _, _, _, a27, l27, c27, k27⟩⟩, List.forall_mem_cons.mpr ⟨⟨⟨f28, _, _, _, _, _, _, _, _, _, a28, l28, c28, k28⟩⟩, List.forall_mem_cons.mpr ⟨⟨⟨f29, _, _, _, _, _, _, _, _, _, a29, l29, c29, k29⟩⟩, List.forall_mem_cons.mpr ⟨⟨⟨f30, _, _, _, _, _, _, _, _, _, a30, l30, c30, k30⟩⟩, List.forall_mem_cons.mpr ⟨⟨⟨f31, _, _, _, _, _, _, _, _, _, a31, l31, c31, k31⟩⟩, List.forall_mem_cons.mpr ⟨⟨⟨f32, _, _, _, _, _, _, _, _, _, a32, l32, c32, k32⟩⟩, List.forall_mem_cons.mpr ⟨⟨⟨f33, _, _, _, _, _, _, _, _, _, a33, l33, c33, k33⟩⟩, List.forall_mem_cons.mpr ⟨⟨⟨f34, _, _, _, _, _, _, _, _, _, a34, l34, c34, k34⟩⟩, fun _ h => nomatch h⟩⟩⟩⟩⟩⟩⟩⟩⟩⟩⟩⟩⟩⟩⟩⟩⟩⟩⟩⟩⟩⟩⟩⟩⟩⟩⟩⟩⟩⟩⟩⟩⟩⟩⟩, List.forall_mem_cons.mpr ⟨z0, List.forall_mem_cons.mpr ⟨z1, List.forall_mem_cons.mpr ⟨z2, List.forall_mem_cons.mpr ⟨z3, List.forall_mem_cons.mpr ⟨z4, List.forall_mem_cons.mpr ⟨z5, List.forall_mem_cons.mpr ⟨z6, List.forall_mem_cons.mpr ⟨z7, List.forall_mem_cons.mpr ⟨z8, List.forall_mem_cons.mpr ⟨z9, List.forall_mem_cons.mpr ⟨z10, List.forall_mem_cons.mpr ⟨z11, List.forall_mem_cons.mpr ⟨z12, fun _ h => nomatch h⟩⟩⟩⟩⟩⟩⟩⟩⟩⟩⟩⟩⟩, List.forall_mem_cons.mpr ⟨m0, fun _ h => nomatch h⟩⟩
  have FL := fun_mk (st := s_law) l35 c35 k35
  exact ⟨PySem.W.fnOf "law" "law" (defArgs s_law) (defBody s_law) (defScope s_law) .none kV35 dc35 pm35 an35 cd35 ct35, fun s v => .of_eq rfl, fun base XB GB => law_ok FL sc_law (c_law1 K) (c_law2 K) rfl rfl rfl (gf_law T XB GB) p_law1 p_law2⟩
end Q
open PySem PySem.W PyProof.Rows
set_option maxHeartbeats 0 in
theorem PySem.Challenge.cw_stepsstaycalm_k35_whole_quotients_holds : PySem.Challenge.rw_stepsstaycalm_k35_whole_quotients.Holds := by
  w_on; o_law; k_head; (case hw => w_witness2)
  k_fill
  refine LV.walkG (l := PySem.Challenge.rw_stepsstaycalm_k35_whole_quotients) (n := 63) (k := 6) (x := "script") (CX := fun _ => L2.CX0) (sp := fun w => LV.lawSp _) rfl (by decide) rfl ⟨rfl, by decide, by decide⟩ (fun w h Y => PySem.W.kIn_of Y) ?F (fun _ _ a ns hl ho hS => ⟨a, ns, rfl, hl, ho, hS, fun _ => rfl⟩) (fun _ _ _ _ _ h => h)
  case F =>
    intro w mg fa h KX G hmg
    refine' Q.all_mk KX G hmg ?a0 ?l0 ?c0 ?k0 ?a1 ?l1 ?c1 ?k1 ?a2 ?l2 ?c2 ?k2 ?a3 ?l3 ?c3 ?k3 ?a4 ?l4 ?c4 ?k4 ?a5 ?l5 ?c5 ?k5 ?a6 ?l6 ?c6 ?k6 ?a7 ?l7 ?c7 ?k7 ?a8 ?l8 ?c8 ?k8 ?a9 ?l9 ?c9 ?k9 ?a10 ?l10 ?c10 ?k10 ?a11 ?l11 ?c11 ?k11 ?a12 ?l12 ?c12 ?k12 ?a13 ?l13 ?c13 ?k13 ?a14 ?l14 ?c14 ?k14 ?a15 ?l15 ?c15 ?k15 ?a16 ?l16 ?c16 ?k16 ?a17 ?l17 ?c17 ?k17 ?a18 ?l18 ?c18 ?k18 ?a19 ?l19 ?c19 ?k19 ?a20 ?l20 ?c20 ?k20 ?a21 ?l21 ?c21 ?k21 ?a22 ?l22 ?c22 ?k22 ?a23 ?l23 ?c23 ?k23 ?a24 ?l24 ?c24 ?k24 ?a25 ?l25 ?c25 ?k25 ?a26 ?l26 ?c26 ?k26 ?a27 ?l27 ?c27 ?k27 ?a28 ?l28 ?c28 ?k28 ?a29 ?l29 ?c29 ?k29 ?a30 ?l30 ?c30 ?k30 ?a31 ?l31 ?c31 ?k31 ?a32 ?l32 ?c32 ?k32 ?a33 ?l33 ?c33 ?k33 ?a34 ?l34 ?c34 ?k34 ?a35 ?l35 ?c35 ?k35 ?z0 ?z1 ?z2 ?z3 ?z4 ?z5 ?z6 ?z7 ?z8 ?z9 ?z10 ?z11 ?z12 ?m0
    (case a0 => k_is); (case l0 => k_is); (case c0 => k_is); (case k0 => k_is); (case a1 => k_is); (case l1 => k_is); (case c1 => k_is); (case k1 => k_is); (case a2 => k_is); (case l2 => k_is); (case c2 => k_is); (case k2 => k_is); (case a3 => k_is); (case l3 => k_is); (case c3 => k_is); (case k3 => k_is); (case a4 => k_is); (case l4 => k_is); (case c4 => k_is); (case k4 => k_is); (case a5 => k_is); (case l5 => k_is); (case c5 => k_is); (case k5 => k_is); (case a6 => k_is); (case l6 => k_is); (case c6 => k_is); (case k6 => k_is); (case a7 => k_is); (case l7 => k_is); (case c7 => k_is); (case k7 => k_is); (case a8 => k_is); (case l8 => k_is); (case c8 => k_is); (case k8 => k_is); (case a9 => k_is); (case l9 => k_is); (case c9 => k_is); (case k9 => k_is); (case a10 => k_is); (case l10 => k_is); (case c10 => k_is); (case k10 => k_is); (case a11 => k_is); (case l11 => k_is); (case c11 => k_is); (case k11 => k_is); (case a12 => k_is); (case l12 => k_is); (case c12 => k_is); (case k12 => k_is); (case a13 => k_is); (case l13 => k_is); (case c13 => k_is); (case k13 => k_is); (case a14 => k_is); (case l14 => k_is); (case c14 => k_is); (case k14 => k_is); (case a15 => k_is); (case l15 => k_is); (case c15 => k_is); (case k15 => k_is); (case a16 => k_is); (case l16 => k_is); (case c16 => k_is); (case k16 => k_is); (case a17 => k_is); (case l17 => k_is); (case c17 => k_is); (case k17 => k_is); (case a18 => k_is); (case l18 => k_is); (case c18 => k_is); (case k18 => k_is); (case a19 => k_is); (case l19 => k_is); (case c19 => k_is); (case k19 => k_is); (case a20 => k_is); (case l20 => k_is); (case c20 => k_is); (case k20 => k_is); (case a21 => k_is); (case l21 => k_is); (case c21 => k_is); (case k21 => k_is); (case a22 => k_is); (case l22 => k_is); (case c22 => k_is); (case k22 => k_is); (case a23 => k_is); (case l23 => k_is); (case c23 => k_is); (case k23 => k_is); (case a24 => k_is); (case l24 => k_is); (case c24 => k_is); (case k24 => k_is); (case a25 => k_is); (case l25 => k_is); (case c25 => k_is); (case k25 => k_is); (case a26 => k_is); (case l26 => k_is); (case c26 => k_is); (case k26 => k_is); (case a27 => k_is); (case l27 => k_is); (case c27 => k_is); (case k27 => k_is); (case a28 => k_is); (case l28 => k_is); (case c28 => k_is); (case k28 => k_is); (case a29 => k_is); (case l29 => k_is); (case c29 => k_is); (case k29 => k_is); (case a30 => k_is); (case l30 => k_is); (case c30 => k_is); (case k30 => k_is); (case a31 => k_is); (case l31 => k_is); (case c31 => k_is); (case k31 => k_is); (case a32 => k_is); (case l32 => k_is); (case c32 => k_is); (case k32 => k_is); (case a33 => k_is); (case l33 => k_is); (case c33 => k_is); (case k33 => k_is); (case a34 => k_is); (case l34 => k_is); (case c34 => k_is); (case k34 => k_is); (case a35 => k_is); (case l35 => k_is); (case c35 => k_is); (case k35 => k_is); (case z0 => k_is); (case z1 => k_is); (case z2 => k_is); (case z3 => k_is); (case z4 => k_is); (case z5 => k_is); (case z6 => k_is); (case z7 => k_is); (case z8 => k_is); (case z9 => k_is); (case z10 => k_is); (case z11 => k_is); (case z12 => k_is); (case m0 => k_is)
