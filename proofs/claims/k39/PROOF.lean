import PyProof.Rows.All
import Wide.All
import OpenK.AllK
import Wide.FinOn
import HandS.ForMost
import HandS.Wide
import HandS.Gcd
import HandS.TupAny
import HandS.TupMul
import HandS.Flow
import HandS.Style
import HandS.TryOnly
import HandS.Zip
import HandS.Rev
import KE.GoesEnum
import KE.GoesMore
import KE.GoesZip
import HandS.Defaults
import KE.KDictZip
import HandS.Conv
import HandS.IsInst
import HandS.Deep
import KE.KMathGC
import KE.KRevSl
import HandS.Ends
import PySem.Challenge.RW_stepsstaycalm_k39_whole_mended_runs
set_option Elab.async false
set_option linter.all false
set_option maxRecDepth 100000
set_option maxHeartbeats 4000000
namespace LV
open PySem PySem.Spec PyProof.Rows L2

/-- a value as data: tuples and lists by what they hold -/
inductive D where
  | non | bl (b : Bool) | int (i : Int) | str (x : Str) | tup (ds : List D) | lst (ds : List D) | bag (k : Nat) | scr (K : PySem.W.Frag)

mutual
inductive Rep (bv : Nat × V) (H : Hp) (N : Addr → Prop) : D → V → Prop
  | non : Rep bv H N .non .non
  | bl {b} : Rep bv H N (.bl b) (.bl b)
  | int {i} : Rep bv H N (.int i) (.int i)
  | str {x} : Rep bv H N (.str x) (.str x)
  | bag {k v} : bv = (k, v) → Rep bv H N (.bag k) v
  | scrF {K a ob} {ns : List Int} : H a = some (.frz ob (.lst (ns.map V.int))) → ¬ N a → ns.length ≤ 63 → Rep bv H N (.scr K) (.ref a)
  | scrK {K a} {ns : List Int} : (∃ (o : Obj) (its : Array Value) (n : Nat), K.lookup a = some o ∧ o.cls = .type "list" ∧ o.dict = none ∧ o.data = .seq its n ∧ its.size ≤ sizeLine ∧ Vals (ns.map V.int) its.toList) → ns.length ≤ 63 → Rep bv H N (.scr K) (.ref a)
  | tup {ds vs a} : H a = some (.tup vs) → ¬ N a → Reps bv H N ds vs → Rep bv H N (.tup ds) (.ref a)
  | lst {ds vs a} : H a = some (.lst vs) → ¬ N a → Reps bv H N ds vs → Rep bv H N (.lst ds) (.ref a)
inductive Reps (bv : Nat × V) (H : Hp) (N : Addr → Prop) : List D → List V → Prop
  | nil : Reps bv H N [] []
  | cons {d v ds vs} : Rep bv H N d v → Reps bv H N ds vs → Reps bv H N (d :: ds) (v :: vs)
end

section
variable {bv : Nat × V} {H H' : Hp} {N N' : Addr → Prop}
mutual
theorem Rep.mono (hk : ∀ a o, H a = some o → ¬ N a → H' a = some o) (hn : ∀ a o, H a = some o → N' a → N a) : ∀ {d v}, Rep bv H N d v → Rep bv H' N' d v
  | _, _, .non => .non
  | _, _, .bl => .bl
  | _, _, .int => .int
  | _, _, .str => .str
  | _, _, .bag e => .bag e
  | _, _, .scrF e n l => .scrF (hk _ _ e n) (fun z => n (hn _ _ e z)) l
  | _, _, .scrK e l => .scrK e l
  | _, _, .tup e n r => .tup (hk _ _ e n) (fun z => n (hn _ _ e z)) (Reps.mono hk hn r)
  | _, _, .lst e n r => .lst (hk _ _ e n) (fun z => n (hn _ _ e z)) (Reps.mono hk hn r)
theorem Reps.mono (hk : ∀ a o, H a = some o → ¬ N a → H' a = some o) (hn : ∀ a o, H a = some o → N' a → N a) : ∀ {ds vs}, Reps bv H N ds vs → Reps bv H' N' ds vs
  | _, _, .nil => .nil
  | _, _, .cons r rs => .cons (Rep.mono hk hn r) (Reps.mono hk hn rs)
end
theorem Reps.length : ∀ {ds vs}, Reps bv H N ds vs → ds.length = vs.length
  | _, _, .nil => rfl
  | _, _, .cons _ r => by simp [Reps.length r]
theorem Reps.append : ∀ {ds es vs ws}, Reps bv H N ds vs → Reps bv H N es ws → Reps bv H N (ds ++ es) (vs ++ ws)
  | _, _, _, _, .nil, s => s
  | _, _, _, _, .cons r rs, s => .cons r (Reps.append rs s)
theorem Reps.get : ∀ {ds vs} {i : Nat} {d}, Reps bv H N ds vs → ds[i]? = some d → ∃ v, vs[i]? = some v ∧ Rep bv H N d v
  | _, _, _, _, .nil, e => by simp at e
  | _, _, 0, _, .cons r _, e => by simp at e; subst e; exact ⟨_, rfl, r⟩
  | _, _, i + 1, d, .cons _ t, e => by
    obtain ⟨u, h1, h2⟩ := Reps.get (i := i) (d := d) t (by simpa using e)
    exact ⟨u, by simpa using h1, h2⟩
theorem Reps.getV : ∀ {ds vs} {i : Nat} {v}, Reps bv H N ds vs → vs[i]? = some v → ∃ d, ds[i]? = some d ∧ Rep bv H N d v
  | _, _, _, _, .nil, e => by simp at e
  | _, _, 0, _, .cons r _, e => by simp at e; subst e; exact ⟨_, rfl, r⟩
  | _, _, i + 1, d, .cons _ t, e => by
    obtain ⟨u, h1, h2⟩ := Reps.getV (i := i) t (by simpa using e)
    exact ⟨u, by simpa using h1, h2⟩
theorem Reps.set {d v} (r : Rep bv H N d v) : ∀ {ds vs} (i : Nat), Reps bv H N ds vs → Reps bv H N (ds.set i d) (vs.set i v)
  | _, _, _, .nil => .nil
  | _, _, 0, .cons _ t => .cons r t
  | _, _, i + 1, .cons q t => .cons q (Reps.set r i t)
theorem Reps.take : ∀ {ds vs} (n : Nat), Reps bv H N ds vs → Reps bv H N (ds.take n) (vs.take n)
  | _, _, 0, _ => .nil
  | _, _, _ + 1, .nil => .nil
  | _, _, n + 1, .cons r t => .cons r (Reps.take n t)
theorem Reps.drop : ∀ {ds vs} (n : Nat), Reps bv H N ds vs → Reps bv H N (ds.drop n) (vs.drop n)
  | _, _, 0, r => r
  | _, _, _ + 1, .nil => .nil
  | _, _, n + 1, .cons _ t => Reps.drop n t
theorem Reps.eraseIdx : ∀ {ds vs} (n : Nat), Reps bv H N ds vs → Reps bv H N (ds.eraseIdx n) (vs.eraseIdx n)
  | _, _, _, .nil => .nil
  | _, _, 0, .cons _ t => t
  | _, _, n + 1, .cons r t => .cons r (Reps.eraseIdx n t)
theorem Reps.dropLast {ds vs} (r : Reps bv H N ds vs) : Reps bv H N ds.dropLast vs.dropLast := by
  rw [List.dropLast_eq_take, List.dropLast_eq_take, r.length]; exact r.take _
theorem Reps.replicate {ds vs} (r : Reps bv H N ds vs) : ∀ k, Reps bv H N (List.replicate k ds).flatten (List.replicate k vs).flatten
  | 0 => .nil
  | k + 1 => by simp only [List.replicate_succ, List.flatten_cons]; exact r.append (Reps.replicate r k)
theorem Reps.reverse : ∀ {ds vs}, Reps bv H N ds vs → Reps bv H N ds.reverse vs.reverse
  | _, _, .nil => .nil
  | _, _, .cons r t => by simp only [List.reverse_cons]; exact (Reps.reverse t).append (.cons r .nil)
theorem Reps.ints : ∀ {ns : List Int} {vs}, Reps bv H N (ns.map D.int) vs → vs = ns.map V.int
  | [], _, .nil => rfl
  | n :: ns, _, .cons .int t => by simp [Reps.ints t]
theorem Reps.bls : ∀ {ns : List Bool} {vs}, Reps bv H N (ns.map D.bl) vs → vs = ns.map V.bl
  | [], _, .nil => rfl
  | n :: ns, _, .cons .bl t => by simp [Reps.bls t]
end

/-- a slot: nothing known, a shared value, a list that this slot alone holds -/
inductive Sl where
  | un | sh (d : D) | ow (ds : List D)
abbrev Sg := List Sl
abbrev En := Sl × Option V

def owns (a : Addr) (p : En) : Bool := match p.1 with
  | .ow _ => p.2 == some (.ref a)
  | _ => false
abbrev cnt (a : Addr) (L : List En) : Nat := L.countP (owns a)

/-- the law's bag of draws, by its kind: 1: a list of a list of cells, the present cell, a mixed number; 2: a dict of the great cells, a stirred number, the turn -/
def BagSp (bv : Nat × V) (B : Addr → Prop) (G : Hp → Prop) : Prop :=
  (bv.1 = 1 → ∃ (b l : Addr) (CS : List Int → Prop), bv.2 = .ref b ∧ b ≠ l ∧ (∀ a, B a ↔ a = b ∨ a = l) ∧ (∀ cs ds, CS cs → ds <+: cs → CS ds) ∧ (∀ cs, CS cs → ∀ c ∈ cs, 0 ≤ c) ∧
    ∀ H, G H ↔ ∃ (cells : List Int) (cur mixed : Int), CS cells ∧ H b = some (.lst [.ref l, .int cur, .int mixed]) ∧ H l = some (.lst (cells.map V.int)) ∧ 0 ≤ cur ∧ 0 ≤ mixed ∧ mixed < 2147483647) ∧
  (bv.1 = 2 → ∃ b l : Addr, bv.2 = .ref b ∧ b ≠ l ∧ (∀ a, B a ↔ a = b ∨ a = l) ∧ ∀ H, G H ↔ ∃ (cells : List Int) (stirred turn : Int), H b = some (.dK [(.inr "great", .ref l), (.inr "stirred", .int stirred), (.inr "turn", .int turn)]) ∧ H l = some (.lst (cells.map V.int)) ∧
    (∀ c ∈ cells, 0 ≤ c) ∧ cells.length ≤ 63 ∧ 0 ≤ stirred ∧ stirred < 4294967296 ∧ 0 ≤ turn ∧ turn < 1000000000)
structure Bag where
  bv : Nat × V
  B : Addr → Prop
  G : Hp → Prop
  dom : ∀ H a, G H → B a → (H a).isSome = true
  loc : ∀ H H', (∀ a, B a → H' a = H a) → G H → G H'
  sp : BagSp bv B G

/-- what may not be spoken of: the callers' own lists, and one's own -/
def Nn (N : Addr → Prop) (L : List En) (a : Addr) : Prop := N a ∨ 0 < cnt a L

def Ok (bv : Nat × V) (N : Addr → Prop) (H0 H : Hp) (p : En) : Prop := match p.1 with
  | .un => True
  | .sh d => ∃ v, p.2 = some v ∧ Rep bv H N d v
  | .ow ds => ∃ a vs, p.2 = some (.ref a) ∧ H0 a = none ∧ H a = some (.lst vs) ∧ Reps bv H N ds vs

/-- objects stay, but for the bag's -/
def Sm (B : Addr → Prop) (H H' : Hp) : Prop := ∀ a o, H a = some o → ¬ B a → H' a = some o
theorem Sm.refl {B} (H : Hp) : Sm B H H := fun _ _ e _ => e
theorem Sm.trans {B} {H H1 H2 : Hp} (x : Sm B H H1) (y : Sm B H1 H2) : Sm B H H2 := fun a o e n => y a o (x a o e n) n

structure SR (g : Bag) (N : Addr → Prop) (H0 : Hp) (L : List En) (H : Hp) : Prop where
  hg : g.G H
  sm : Sm g.B H0 H
  nd : ∀ a, N a → (H0 a).isSome = true
  bn : ∀ a, g.B a → N a
  each : ∀ p ∈ L, Ok g.bv (Nn N L) H0 H p
  dist : ∀ a, cnt a L ≤ 1

section
variable {g : Bag} {N : Addr → Prop} {H0 H H' : Hp} {L L' : List En}
theorem Ok.mono {bv} {N N' : Addr → Prop} {H0 H : Hp} (hn : ∀ a, N' a → N a) : ∀ {p : En}, Ok bv N H0 H p → Ok bv N' H0 H p
  | (.un, _), _ => trivial
  | (.sh d, _), ⟨v, e, r⟩ => ⟨v, e, r.mono (fun _ _ e _ => e) (fun a _ _ => hn a)⟩
  | (.ow ds, _), ⟨a, vs, e, h0, h, r⟩ => ⟨a, vs, e, h0, h, r.mono (fun _ _ e _ => e) (fun a _ _ => hn a)⟩
theorem Nn.le (h : ∀ a, cnt a L' ≤ cnt a L) : ∀ a, Nn N L' a → Nn N L a := fun a z => z.elim .inl fun z => .inr (Nat.lt_of_lt_of_le z (h a))
theorem SR.to (S : SR g N H0 L H) (hc : ∀ a, cnt a L' ≤ cnt a L) (he : ∀ p ∈ L', p ∈ L ∨ Ok g.bv (Nn N L') H0 H p) : SR g N H0 L' H :=
  ⟨S.hg, S.sm, S.nd, S.bn, fun p hp => (he p hp).elim (fun q => (S.each p q).mono (Nn.le hc)) id, fun a => Nat.le_trans (hc a) (S.dist a)⟩
theorem SR.sub (S : SR g N H0 L H) (h : L'.Sublist L) : SR g N H0 L' H := S.to (fun a => h.countP_le) fun p hp => .inl (h.subset hp)
theorem SR.tracked (S : SR g N H0 L H) {a : Addr} (h : Nn N L a) : (H a).isSome = true := by
  rcases h with h | h
  · by_cases hb : g.B a
    · exact g.dom H a S.hg hb
    · have := S.nd a h
      cases e : H0 a with
      | none => rw [e] at this; cases this
      | some o => rw [S.sm a o e hb]; rfl
  · obtain ⟨p, hp, ho⟩ := List.countP_pos_iff.mp h
    have := S.each p hp
    obtain ⟨s, v⟩ := p
    cases s with
    | ow ds =>
      obtain ⟨b, vs, e1, e2, e3, _⟩ := this
      simp only at e1
      have : v = some (.ref a) := by simpa [owns] using ho
      rw [this] at e1; cases e1
      rw [e3]; rfl
    | un => cases ho
    | sh d => cases ho
/-- what is owned is not the callers' -/
theorem SR.own_n (S : SR g N H0 L H) {ds : List D} {v : Option V} (h : (Sl.ow ds, v) ∈ L) : ∃ a vs, v = some (.ref a) ∧ ¬ N a ∧ H0 a = none ∧ H a = some (.lst vs) ∧ Reps g.bv H (Nn N L) ds vs ∧ 0 < cnt a L := by
  obtain ⟨a, vs, e, h0, hh, r⟩ := S.each _ h
  simp only at e
  refine ⟨a, vs, e, fun z => ?_, h0, hh, r, List.countP_pos_iff.mpr ⟨_, h, by simp [owns, e]⟩⟩
  have := S.nd a z
  rw [h0] at this; cases this
/-- the heap grows, the bag may turn -/
theorem SR.grow (S : SR g N H0 L H) (hg : g.G H') (hs : Sm g.B H H') : SR g N H0 L H' :=
  ⟨hg, S.sm.trans hs, S.nd, S.bn, fun p hp => by
    have hk : ∀ a o, H a = some o → ¬ Nn N L a → H' a = some o := fun a o e n => hs a o e fun b => n (.inl (S.bn a b))
    obtain ⟨s, v⟩ := p
    cases s with
    | un => trivial
    | sh d => obtain ⟨v, e, r⟩ := S.each _ hp; exact ⟨v, e, r.mono hk fun _ _ _ z => z⟩
    | ow ds =>
      obtain ⟨a, vs, e, n, h0, hh, r, _⟩ := S.own_n hp
      exact ⟨a, vs, e, h0, hs a _ hh fun b => n (S.bn a b), r.mono hk fun _ _ _ z => z⟩, S.dist⟩
/-- a new object -/
theorem SR.fresh (S : SR g N H0 L H) {p : Addr} (hp : H p = none) {o : HO} : SR g N H0 L (upd H p o) := by
  refine S.grow (g.loc _ _ (fun a b => upd_ne fun e => ?_) S.hg) fun a o' e _ => ?_
  · subst e; have := g.dom H a S.hg b; rw [hp] at this; cases this
  · exact (upd_ne (ne_of_none e hp)).trans e
theorem SR.h0 (S : SR g N H0 L H) {p : Addr} (hp : H p = none) : H0 p = none := by
  cases e : H0 p with
  | none => rfl
  | some o =>
    by_cases b : g.B p
    · have := g.dom H p S.hg b; rw [hp] at this; cases this
    · rw [S.sm p o e b] at hp; cases hp
theorem SR.nn_fresh (S : SR g N H0 L H) {p : Addr} (hp : H p = none) : ¬ Nn N L p := fun z => by
  have := S.tracked z; rw [hp] at this; cases this
/-- a shared value more -/
theorem SR.addSh (S : SR g N H0 L H) {d : D} {v : V} (r : Rep g.bv H (Nn N L) d v) : SR g N H0 ((.sh d, some v) :: L) H := by
  have hc : ∀ a, cnt a ((Sl.sh d, some v) :: L) = cnt a L := fun a => List.countP_cons_of_neg (by simp [owns])
  refine S.to (fun a => Nat.le_of_eq (hc a)) fun p hp => ?_
  rcases List.mem_cons.mp hp with e | h
  · subst e; exact .inr ⟨v, rfl, r.mono (fun _ _ e _ => e) fun a _ _ => Nn.le (fun a => Nat.le_of_eq (hc a)) a⟩
  · exact .inl h
theorem SR.addUn (S : SR g N H0 L H) {v : Option V} : SR g N H0 ((.un, v) :: L) H := by
  have hc : ∀ a, cnt a ((Sl.un, v) :: L) = cnt a L := fun a => List.countP_cons_of_neg (by simp [owns])
  refine S.to (fun a => Nat.le_of_eq (hc a)) fun p hp => ?_
  rcases List.mem_cons.mp hp with e | h
  · subst e; exact .inr trivial
  · exact .inl h
/-- a new list -/
theorem SR.newL (S : SR g N H0 L H) {p : Addr} (hp : H p = none) {ds vs} (r : Reps g.bv H (Nn N L) ds vs) : SR g N H0 ((.ow ds, some (.ref p)) :: L) (upd H p (.lst vs)) := by
  have S1 := S.fresh hp (o := .lst vs)
  have h0 := S.h0 hp
  have nf := S.nn_fresh hp
  have hc : ∀ a, cnt a ((Sl.ow ds, some (V.ref p)) :: L) = cnt a L + if a = p then 1 else 0 := fun a => by
    show List.countP _ _ = _
    rw [List.countP_cons]
    by_cases e : a = p
    · subst e; simp [owns]
    · have : owns a (Sl.ow ds, some (V.ref p)) = false := by
        simp only [owns, beq_eq_false_iff_ne, ne_eq, Option.some.injEq, V.ref.injEq]; exact fun z => e z.symm
      simp [this, e]
  have hn : ∀ a o, H a = some o → Nn N ((Sl.ow ds, some (V.ref p)) :: L) a → Nn N L a := fun a o e z => z.elim .inl fun z => by
    rw [hc a, if_neg (ne_of_none e hp)] at z; exact .inr z
  have hk : ∀ a o, H a = some o → ¬ Nn N L a → upd H p (.lst vs) a = some o := fun a o e _ => (upd_ne (ne_of_none e hp)).trans e
  refine ⟨S1.hg, S1.sm, S1.nd, S1.bn, fun q hq => ?_, fun a => ?_⟩
  · rcases List.mem_cons.mp hq with e | h
    · subst e; exact ⟨p, vs, rfl, h0, upd_same, r.mono hk hn⟩
    · obtain ⟨s, v⟩ := q
      cases s with
      | un => trivial
      | sh d => obtain ⟨v, e, r⟩ := S.each _ h; exact ⟨v, e, r.mono hk hn⟩
      | ow es =>
        obtain ⟨a, ws, e, n, h0, hh, r, _⟩ := S.own_n h
        exact ⟨a, ws, e, h0, (upd_ne (ne_of_none hh hp)).trans hh, r.mono hk hn⟩
  · rw [hc a]
    by_cases e : a = p
    · subst e
      have : ¬ 0 < cnt a L := fun z => nf (.inr z)
      have : cnt a L = 0 := by omega
      rw [this, if_pos rfl]
      exact Nat.le_refl _
    · rw [if_neg e]; exact S.dist a
/-- a new tuple -/
theorem SR.newT (S : SR g N H0 L H) {p : Addr} (hp : H p = none) {ds vs} (r : Reps g.bv H (Nn N L) ds vs) : SR g N H0 ((.sh (.tup ds), some (.ref p)) :: L) (upd H p (.tup vs)) :=
  (S.fresh hp).addSh (.tup upd_same (S.nn_fresh hp) (r.mono (fun a o e _ => (upd_ne (ne_of_none e hp)).trans e) fun _ _ _ z => z))
/-- an owned list at a place becomes a shared value -/
theorem cnt_mid (a : Addr) (A : List En) (p : En) (R : List En) : cnt a (A ++ p :: R) = cnt a A + (cnt a R + if owns a p = true then 1 else 0) := by
  show List.countP _ _ = _
  rw [List.countP_append, List.countP_cons]
theorem SR.freeze {A R : List En} {ds : List D} {v : Option V} (S : SR g N H0 (A ++ (.ow ds, v) :: R) H) : SR g N H0 (A ++ (.sh (.lst ds), v) :: R) H := by
  have hm : ((Sl.ow ds, v) : En) ∈ A ++ (.ow ds, v) :: R := by simp
  obtain ⟨a, vs, e, n, h0, hh, r, hpos⟩ := S.own_n hm
  subst e
  have hc : ∀ b, cnt b (A ++ (Sl.sh (.lst ds), some (V.ref a)) :: R) + (if b = a then 1 else 0) = cnt b (A ++ (.ow ds, some (.ref a)) :: R) := fun b => by
    rw [cnt_mid, cnt_mid]
    have e1 : owns b (Sl.sh (.lst ds), some (V.ref a)) = false := rfl
    rw [e1]
    by_cases e : b = a
    · subst e; simp [owns]; omega
    · have : owns b (Sl.ow ds, some (V.ref a)) = false := by
        simp only [owns, beq_eq_false_iff_ne, ne_eq, Option.some.injEq, V.ref.injEq]; exact fun z => e z.symm
      simp [this, e]
  have hle : ∀ b, cnt b (A ++ (Sl.sh (.lst ds), some (V.ref a)) :: R) ≤ cnt b (A ++ (.ow ds, some (.ref a)) :: R) := fun b => by have := hc b; omega
  refine S.to hle fun p hp => ?_
  by_cases hq : p = (Sl.sh (.lst ds), some (V.ref a))
  · subst hq
    refine .inr ⟨.ref a, rfl, .lst hh (fun z => ?_) (r.mono (fun _ _ e _ => e) fun a _ _ => Nn.le hle a)⟩
    rcases z with z | z
    · exact n z
    · have h1 := hc a
      have h2 := S.dist a
      rw [if_pos rfl] at h1
      omega
  · refine .inl ?_
    simp only [List.mem_append, List.mem_cons] at hp ⊢
    rcases hp with h | h | h
    · exact .inl h
    · exact absurd h hq
    · exact .inr (.inr h)
/-- an owned list is changed -/
theorem SR.mut {A R : List En} {ds ds' : List D} {a : Addr} {vs' : List V} (S : SR g N H0 (A ++ (.ow ds, some (.ref a)) :: R) H) (r' : Reps g.bv H (Nn N (A ++ (.ow ds, some (.ref a)) :: R)) ds' vs') :
    SR g N H0 (A ++ (.ow ds', some (.ref a)) :: R) (upd H a (.lst vs')) := by
  have hm : ((Sl.ow ds, some (V.ref a)) : En) ∈ A ++ (.ow ds, some (.ref a)) :: R := by simp
  obtain ⟨a', vs, e, n, h0, hh, r, hpos⟩ := S.own_n hm
  cases e
  have hc : ∀ b, cnt b (A ++ (Sl.ow ds', some (V.ref a)) :: R) = cnt b (A ++ (.ow ds, some (.ref a)) :: R) := fun b => by rw [cnt_mid, cnt_mid]; rfl
  have hN : ∀ b, Nn N (A ++ (Sl.ow ds', some (V.ref a)) :: R) b ↔ Nn N (A ++ (.ow ds, some (.ref a)) :: R) b := fun b => by unfold Nn; rw [hc]
  have nb : ¬ g.B a := fun b => n (S.bn a b)
  have hk : ∀ b o, H b = some o → ¬ Nn N (A ++ (Sl.ow ds, some (V.ref a)) :: R) b → upd H a (.lst vs') b = some o := fun b o e z => by
    rw [upd_ne]; exact e
    intro w; subst w; exact z (.inr hpos)
  refine ⟨g.loc _ _ (fun b hb => upd_ne fun w => ?_) S.hg, fun b o e z => ?_, S.nd, S.bn, fun p hp => ?_, fun b => ?_⟩
  · subst w; exact nb hb
  · rw [upd_ne]; exact S.sm b o e z
    intro w; subst w; rw [h0] at e; cases e
  · by_cases hq : p = (Sl.ow ds', some (V.ref a))
    · subst hq
      exact ⟨a, vs', rfl, h0, upd_same, r'.mono hk fun b _ _ z => (hN b).mp z⟩
    · have hp' : p ∈ A ++ (Sl.ow ds, some (V.ref a)) :: R := by
        simp only [List.mem_append, List.mem_cons] at hp ⊢
        rcases hp with h | h | h
        · exact .inl h
        · exact absurd h hq
        · exact .inr (.inr h)
      obtain ⟨s, v⟩ := p
      cases s with
      | un => trivial
      | sh d => obtain ⟨v, e, r⟩ := S.each _ hp'; exact ⟨v, e, r.mono hk fun b _ _ z => (hN b).mp z⟩
      | ow es =>
        obtain ⟨b, ws, e, n, h0', hh', r, _⟩ := S.own_n hp'
        subst e
        refine ⟨b, ws, rfl, h0', (upd_ne fun w => ?_).trans hh', r.mono hk fun b _ _ z => (hN b).mp z⟩
        subst w
        -- two owners of one list
        have h2 := S.dist b
        rw [cnt_mid] at h2
        have e1 : owns b (Sl.ow ds, some (V.ref b)) = true := by simp [owns]
        have e2 : owns b (Sl.ow es, some (V.ref b)) = true := by simp [owns]
        rw [e1, if_pos rfl] at h2
        simp only [List.mem_append, List.mem_cons] at hp
        rcases hp with h | h | h
        · have : 0 < cnt b A := List.countP_pos_iff.mpr ⟨_, h, e2⟩
          omega
        · exact hq h
        · have : 0 < cnt b R := List.countP_pos_iff.mpr ⟨_, h, e2⟩
          omega
  · rw [hc]; exact S.dist b
end
end LV
namespace LV
open PySem PySem.Spec PyProof.Rows L2

/-- what an expression gives: a shared value, a list that nobody else holds, the list that slot i holds -/
inductive RV where
  | sh (d : D) | fr (ds : List D) | al (i : Nat)
def RV.sl : RV → Sl
  | .sh d => .sh d
  | .fr ds => .ow ds
  | .al _ => .un
def RVal (σ : L2.St) (r : RV) (v : V) : Prop := match r with
  | .al i => σ[i]? = some (some v)
  | _ => True
abbrev WE := Sg → (RV → Sg → Prop) → Prop
abbrev WT := Sg → (Bool → Sg → Prop) → Prop
abbrev WA := Sg → (List RV → Sg → Prop) → Prop

/-- a value as it may be read -/
def View (bv : Nat × V) (N : Addr → Prop) (H : Hp) (d : D) (v : V) : Prop := match d with
  | .lst ds => ∃ a vs, v = .ref a ∧ H a = some (.lst vs) ∧ Reps bv H N ds vs
  | d => Rep bv H N d v
theorem View.of {bv N H d v} (r : Rep bv H N d v) : View bv N H d v := by
  cases d <;> first | exact r | (cases r; exact ⟨_, _, rfl, by assumption, by assumption⟩)
inductive Views (bv : Nat × V) (N : Addr → Prop) (H : Hp) : List D → List V → Prop
  | nil : Views bv N H [] []
  | cons {d v ds vs} : View bv N H d v → Views bv N H ds vs → Views bv N H (d :: ds) (v :: vs)

def rdW (s : Sg) (r : RV) (Q : D → Prop) : Prop := match r with
  | .sh d => Q d
  | .fr ds => Q (.lst ds)
  | .al i => match s[i]? with
    | some (.sh d) => Q d
    | some (.ow ds) => Q (.lst ds)
    | _ => False
def rdL (s : Sg) : List RV → (List D → Prop) → Prop
  | [], Q => Q []
  | r :: rs, Q => rdW s r fun d => rdL s rs fun ds => Q (d :: ds)
/-- give it out: it is shared from now on -/
def fzW (s : Sg) (r : RV) (Q : D → Sg → Prop) : Prop := match r with
  | .sh d => Q d s
  | .fr ds => Q (.lst ds) s
  | .al i => match s[i]? with
    | some (.sh d) => Q d s
    | some (.ow ds) => Q (.lst ds) (s.set i (.sh (.lst ds)))
    | _ => False
def fzL (s : Sg) : List RV → (List D → Sg → Prop) → Prop
  | [], Q => Q [] s
  | r :: rs, Q => fzW s r fun d s1 => fzL s1 rs fun ds s2 => Q (d :: ds) s2

section
variable {g : Bag} {N : Addr → Prop} {H0 H H' : Hp} {L L' P P' : List En} {s s' : Sg} {σ : L2.St} {r : RV} {v : V}

theorem SR.mid {e : En} {A B B' : List En} (S : SR g N H0 (e :: (A ++ B)) H) (h : B'.Sublist B) : SR g N H0 (A ++ e :: B') H := by
  refine S.to (fun a => ?_) fun p hp => .inl ?_
  · have := h.countP_le (p := owns a)
    show List.countP _ _ ≤ List.countP _ _
    simp only [List.countP_cons, List.countP_append]
    omega
  · have := h.subset (a := p)
    simp only [List.mem_append, List.mem_cons] at hp ⊢
    rcases hp with h | h | h
    · exact .inr (.inl h)
    · exact .inl h
    · exact .inr (.inr (this h))
theorem SR.drop1 {A B B' : List En} (S : SR g N H0 (A ++ B) H) (h : B'.Sublist B) : SR g N H0 (A ++ B') H := S.sub (h.append_left A)
theorem SR.perm (S : SR g N H0 L H) (h : L.Perm L') : SR g N H0 L' H :=
  S.to (fun a => Nat.le_of_eq (h.countP_eq _).symm) fun p hp => .inl (h.mem_iff.mpr hp)

theorem zip_get {i : Nat} {x : Sl} {y : Option V} (hl : s.length = σ.length) (h1 : s[i]? = some x) (h2 : σ[i]? = some y) : (x, y) ∈ s.zip σ := by
  have : (s.zip σ)[i]? = some (x, y) := by rw [List.getElem?_zip_eq_some]; exact ⟨h1, h2⟩
  exact List.mem_of_getElem? this
theorem zip_get' {i : Nat} {x : Sl} (hl : s.length = σ.length) (h1 : s[i]? = some x) : ∃ y, σ[i]? = some y ∧ (x, y) ∈ s.zip σ := by
  have : i < σ.length := by rw [← hl]; exact (List.getElem?_eq_some_iff.mp h1).1
  exact ⟨σ[i], List.getElem?_eq_getElem this, zip_get hl h1 (List.getElem?_eq_getElem this)⟩

/-- reading -/
theorem SR.rd {Qd : D → Prop} (S : SR g N H0 L H) (hz : ∀ p ∈ s.zip σ, p ∈ L) (hl : s.length = σ.length) (hm : (r.sl, some v) ∈ L) (hv : RVal σ r v) (h : rdW s r Qd) : ∃ d, Qd d ∧ View g.bv (Nn N L) H d v := by
  have ow : ∀ {ds : List D}, (Sl.ow ds, some v) ∈ L → View g.bv (Nn N L) H (.lst ds) v := fun hm => by
    obtain ⟨a, vs, e, _, _, hh, r, _⟩ := S.own_n hm
    cases e; exact ⟨a, vs, rfl, hh, r⟩
  have sh : ∀ {d : D}, (Sl.sh d, some v) ∈ L → View g.bv (Nn N L) H d v := fun hm => by
    obtain ⟨w, e, r⟩ := S.each _ hm
    cases e; exact .of r
  cases r with
  | sh d => exact ⟨d, h, sh hm⟩
  | fr ds => exact ⟨_, h, ow hm⟩
  | al i =>
    simp only [rdW] at h
    have hi : σ[i]? = some (some v) := hv
    cases e : s[i]? with
    | none => rw [e] at h; exact h.elim
    | some x =>
      rw [e] at h
      have hm' := hz _ (zip_get hl e hi)
      cases x with
      | un => exact h.elim
      | sh d => exact ⟨d, h, sh hm'⟩
      | ow ds => exact ⟨_, h, ow hm'⟩

theorem zip_set {i : Nat} {x : Sl} {y : Option V} {z : Sl} (hl : s.length = σ.length) (h1 : s[i]? = some x) (h2 : σ[i]? = some y) : ∃ A B, s.zip σ = A ++ (x, y) :: B ∧ (s.set i z).zip σ = A ++ (z, y) :: B ∧ A.length = i := by
  induction i generalizing s σ with
  | zero =>
    cases s with
    | nil => simp at h1
    | cons a s =>
      cases σ with
      | nil => simp at h2
      | cons b σ =>
        simp at h1 h2; subst h1; subst h2
        exact ⟨[], s.zip σ, rfl, rfl, rfl⟩
  | succ i ih =>
    cases s with
    | nil => simp at h1
    | cons a s =>
      cases σ with
      | nil => simp at h2
      | cons b σ =>
        simp at h1 h2 hl
        obtain ⟨A, B, e1, e2, e3⟩ := ih hl h1 h2
        exact ⟨(a, b) :: A, B, by simp [e1], by simp [e2], by simp [e3]⟩

/-- giving out -/
theorem SR.fz {A B : List En} {Qd : D → Sg → Prop} (S : SR g N H0 (s.zip σ ++ (A ++ (r.sl, some v) :: B)) H) (hl : s.length = σ.length) (hv : RVal σ r v) (h : fzW s r Qd) :
    ∃ d s', Qd d s' ∧ s'.length = σ.length ∧ SR g N H0 (s'.zip σ ++ (A ++ (.sh d, some v) :: B)) H := by
  cases r with
  | sh d => exact ⟨d, s, h, hl, S⟩
  | fr ds => 
    refine ⟨_, s, h, hl, ?_⟩
    rw [← List.append_assoc] at S ⊢
    exact S.freeze
  | al i =>
    simp only [fzW] at h
    have hi : σ[i]? = some (some v) := hv
    have key : ∀ {s' : Sg} {d : D}, SR g N H0 (s'.zip σ ++ (A ++ (Sl.un, some v) :: B)) H → (Sl.sh d, some v) ∈ s'.zip σ → SR g N H0 (s'.zip σ ++ (A ++ (.sh d, some v) :: B)) H := fun {s' d} S hm => by
      obtain ⟨w, e, r⟩ := S.each _ (List.mem_append_left _ hm)
      cases e
      have S1 := S.addSh r
      refine S1.to (fun a => ?_) fun p hp => .inl ?_
      · show List.countP _ _ ≤ List.countP _ _
        simp only [List.countP_cons, List.countP_append]
        omega
      · simp only [List.mem_append, List.mem_cons] at hp ⊢
        rcases hp with h | h | h | h
        · exact .inr (.inl h)
        · exact .inr (.inr (.inl h))
        · exact .inl h
        · exact .inr (.inr (.inr (.inr h)))
    cases e : s[i]? with
    | none => rw [e] at h; exact h.elim
    | some x =>
      rw [e] at h
      cases x with
      | un => exact h.elim
      | sh d => exact ⟨d, s, h, hl, key S (zip_get hl e hi)⟩
      | ow ds =>
        refine ⟨_, _, h, by simpa using hl, ?_⟩
        obtain ⟨A', B', e1, e2, _⟩ := zip_set (z := .sh (.lst ds)) hl e hi
        refine key ?_ ?_
        · rw [e1, List.append_assoc] at S
          rw [e2, List.append_assoc]
          exact S.freeze
        · rw [e2]; simp

/-- pending values -/
def pend : List RV → List V → List En
  | r :: rs, v :: vs => (r.sl, some v) :: pend rs vs
  | _, _ => []
def pendD : List D → List V → List En
  | d :: ds, v :: vs => (.sh d, some v) :: pendD ds vs
  | _, _ => []
inductive RVals (σ : L2.St) : List RV → List V → Prop
  | nil : RVals σ [] []
  | cons {r v rs vs} : RVal σ r v → RVals σ rs vs → RVals σ (r :: rs) (v :: vs)
theorem SR.rds {s : Sg} (hl : s.length = σ.length) : ∀ {rs : List RV} {vs : List V} {L : List En} {Qd : List D → Prop}, SR g N H0 L H → (∀ p ∈ s.zip σ, p ∈ L) → (∀ p ∈ pend rs vs, p ∈ L) → RVals σ rs vs → rdL s rs Qd → ∃ ds, Qd ds ∧ Views g.bv (Nn N L) H ds vs
  | [], _, _, _, _, _, _, .nil, h => ⟨[], h, .nil⟩
  | r :: rs, _, _, _, S, hz, hp, .cons a b, h => by
    obtain ⟨d, h1, v1⟩ := S.rd hz hl (hp _ (by simp [pend])) a h
    obtain ⟨ds, h2, v2⟩ := SR.rds hl S hz (fun p h => hp p (by simp [pend, h])) b h1
    exact ⟨d :: ds, h2, .cons v1 v2⟩
theorem SR.fzs : ∀ {rs : List RV} {vs : List V} {s : Sg} {A B : List En} {Qd : List D → Sg → Prop}, s.length = σ.length → SR g N H0 (s.zip σ ++ (A ++ (pend rs vs ++ B))) H → RVals σ rs vs → fzL s rs Qd →
    ∃ ds s', Qd ds s' ∧ s'.length = σ.length ∧ ds.length = vs.length ∧ SR g N H0 (s'.zip σ ++ (A ++ (pendD ds vs ++ B))) H
  | [], _, s, _, _, _, hl, S, .nil, h => ⟨[], s, h, hl, rfl, S⟩
  | r :: rs, v :: vs, s, A, B, _, hl, S, .cons a b, h => by
    obtain ⟨d, s1, h1, hl1, S1⟩ := SR.fz (A := A) (B := pend rs vs ++ B) S hl a h
    have e : ∀ (s : Sg) (X : List En), s.zip σ ++ (A ++ (Sl.sh d, some v) :: X) = s.zip σ ++ ((A ++ [(Sl.sh d, some v)]) ++ X) := fun s X => by simp
    rw [e] at S1
    obtain ⟨ds, s2, h2, hl2, hn, S2⟩ := SR.fzs hl1 S1 b h1
    rw [← e] at S2
    exact ⟨d :: ds, s2, h2, hl2, by simp [hn], S2⟩
theorem SR.reps : ∀ {ds : List D} {vs : List V} {L : List En}, ds.length = vs.length → SR g N H0 L H → (∀ p ∈ pendD ds vs, p ∈ L) → Reps g.bv H (Nn N L) ds vs
  | [], [], _, _, _, _ => .nil
  | d :: ds, v :: vs, L, hn, S, hp => by
    obtain ⟨w, e, r⟩ := S.each _ (hp (Sl.sh d, some v) (by simp [pendD]))
    cases e
    exact .cons r (SR.reps (by simpa using hn) S fun p h => hp p (by simp [pendD, h]))
end

/-! ### the judgements -/
def LEt (t : TE) (w : WE) : Prop := ∀ (g : Bag) (N : Addr → Prop) (H0 : Hp) (s : Sg) (σ : L2.St) (P : List En) (H : Hp) (Qw : RV → Sg → Prop) (Q : VK), s.length = σ.length → SR g N H0 (s.zip σ ++ P) H → w s Qw →
  (∀ r s' v H', s'.length = σ.length → SR g N H0 (s'.zip σ ++ (r.sl, some v) :: P) H' → RVal σ r v → Qw r s' → Q v H') → t σ H Q
structure LE (X : Cx) (e : Expr) (w : WE) : Prop where
  ex : ∃ t, PE X e t ∧ LEt t w
def LTt (t : TT) (w : WT) : Prop := ∀ (g : Bag) (N : Addr → Prop) (H0 : Hp) (s : Sg) (σ : L2.St) (P : List En) (H : Hp) (Qw : Bool → Sg → Prop) (Q : Bool → Hp → Prop), s.length = σ.length → SR g N H0 (s.zip σ ++ P) H → w s Qw →
  (∀ b s' H', s'.length = σ.length → SR g N H0 (s'.zip σ ++ P) H' → Qw b s' → Q b H') → t σ H Q
structure LT (X : Cx) (e : Expr) (w : WT) : Prop where
  ex : ∃ t, PT X e t ∧ LTt t w
def LAt (t : TA) (w : WA) : Prop := ∀ (g : Bag) (N : Addr → Prop) (H0 : Hp) (s : Sg) (σ : L2.St) (P : List En) (H : Hp) (Qw : List RV → Sg → Prop) (Q : List V → Hp → Prop), s.length = σ.length → SR g N H0 (s.zip σ ++ P) H → w s Qw →
  (∀ rs s' vs H', s'.length = σ.length → SR g N H0 (s'.zip σ ++ (pend rs vs ++ P)) H' → RVals σ rs vs → Qw rs s' → Q vs H') → t σ H Q
structure LA (X : Cx) (es : List Expr) (w : WA) : Prop where
  ex : ∃ t, PA X es t ∧ LAt t w

section
variable {X : Cx} {a b e : Expr} {wa wb : WE} {pos : Pos}

/-! ### names, constants -/
def wV (i : Nat) : WE := fun s Q => match s[i]? with
  | some (.sh d) => Q (.sh d) s
  | some (.ow _) => Q (.al i) s
  | _ => False
def wC (d : D) : WE := fun s Q => Q (.sh d) s
theorem le_v {i : Nat} {x : Str} (h : PE X (.Name x pos) (tVar i)) : LE X (.Name x pos) (wV i) := ⟨⟨_, h, fun g N H0 s σ P H Qw Q hl S h k => by
  simp only [wV] at h
  cases e : s[i]? with
  | none => rw [e] at h; exact h.elim
  | some x =>
    rw [e] at h
    obtain ⟨y, hy, hm⟩ := zip_get' hl e
    cases x with
    | un => exact h.elim
    | sh d =>
      obtain ⟨v, ev, r⟩ := S.each _ (List.mem_append_left _ hm)
      simp only at ev; subst ev
      exact ⟨v, hy, k (.sh d) s v H hl ((S.addSh r).mid (List.Sublist.refl _)) trivial h⟩
    | ow ds =>
      obtain ⟨a, vs, ev, _⟩ := S.each _ (List.mem_append_left _ hm)
      simp only at ev; subst ev
      exact ⟨_, hy, k (.al i) s _ H hl ((S.addUn (v := some (.ref a))).mid (List.Sublist.refl _)) hy h⟩⟩⟩
theorem le_c {d : D} {v : V} (h : PE X e (tC v)) (r : ∀ bv H N, Rep bv H N d v) : LE X e (wC d) := ⟨⟨_, h, fun g N H0 s σ P H Qw Q hl S h k =>
  k (.sh d) s v H hl ((S.addSh (r _ _ _)).mid (List.Sublist.refl _)) trivial h⟩⟩

/-! ### argument lists -/
def wNil : WA := fun s Q => Q [] s
def wCons (wa : WE) (wr : WA) : WA := fun s Q => wa s fun r s1 => wr s1 fun rs s2 => Q (r :: rs) s2
theorem la_nil : LA X [] wNil := ⟨⟨_, pa_nil, fun g N H0 s σ P H Qw Q hl S h k => k [] s [] H hl S .nil h⟩⟩
theorem la_cons {es : List Expr} {wr : WA} (ha : LE X e wa) (hr : LA X es wr) (hs : starEach (e :: es) X.env = (false, eval e X.env) :: starEach es X.env) : LA X (e :: es) (wCons wa wr) := by
  obtain ⟨ta, pa, la⟩ := ha.ex
  obtain ⟨tr, pr, lr⟩ := hr.ex
  refine ⟨⟨_, pa_cons pa pr hs, fun g N H0 s σ P H Qw Q hl S h k => ?_⟩⟩
  refine la g N H0 s σ P H _ _ hl S h fun r s1 v H1 hl1 S1 rv h1 => ?_
  refine lr g N H0 s1 σ ((r.sl, some v) :: P) H1 _ _ hl1 S1 h1 fun rs s2 vs H2 hl2 S2 rvs h2 => ?_
  refine k (r :: rs) s2 (v :: vs) H2 hl2 (S2.perm ?_) (.cons rv rvs) h2
  exact List.Perm.append_left _ (List.perm_middle)

/-! ### operators of two -/
abbrev F2 := D → D → (RV → Prop) → Prop
/-- how a result is handed on -/
def Hand (g : Bag) (N : Addr → Prop) (H0 : Hp) (L : List En) (Qf : RV → Prop) (Q : VK) : Prop := ∀ r v H', SR g N H0 ((r.sl, some v) :: L) H' → (∀ i, r ≠ .al i) → Qf r → Q v H'
def OpS (r : R2) (f : F2) : Prop := ∀ (g : Bag) (N : Addr → Prop) (H0 : Hp) (L : List En) (H : Hp) (da db : D) (x y : V) (Qf : RV → Prop) (Q : VK), SR g N H0 L H → View g.bv (Nn N L) H da x → View g.bv (Nn N L) H db y → f da db Qf → Hand g N H0 L Qf Q → r x y H Q
def wOp (f : F2) (wa wb : WE) : WE := fun s Q => wa s fun ra s1 => wb s1 fun rb s2 => rdW s2 ra fun da => rdW s2 rb fun db => f da db fun r => Q r s2
theorem RVal.ok {σ : L2.St} {r : RV} {v : V} (h : ∀ i, r ≠ .al i) : RVal σ r v := by cases r <;> first | trivial | exact absurd rfl (h _)
theorem let_op {r : R2} {f : F2} {ta tb : TE} (ho : OpS r f) (la : LEt ta wa) (lb : LEt tb wb) : LEt (tOp r ta tb) (wOp f wa wb) := fun g N H0 s σ P H Qw Q hl S h k => by
  refine la g N H0 s σ P H _ _ hl S h fun ra s1 x H1 hl1 S1 rx h1 => ?_
  refine lb g N H0 s1 σ ((ra.sl, some x) :: P) H1 _ _ hl1 S1 h1 fun rb s2 y H2 hl2 S2 ry h2 => ?_
  have hz : ∀ p ∈ s2.zip σ, p ∈ s2.zip σ ++ (rb.sl, some y) :: (ra.sl, some x) :: P := fun p h => List.mem_append_left _ h
  obtain ⟨da, h3, va⟩ := S2.rd hz hl2 (by simp) rx h2
  obtain ⟨db, h4, vb⟩ := S2.rd hz hl2 (by simp) ry h3
  exact ho g N H0 _ H2 da db x y _ Q S2 va vb h4 fun r v H3 S3 hr h5 => k r s2 v H3 hl2 (S3.mid (by simp)) (RVal.ok hr) h5
theorem le_op {op : Operator} {r : R2} {f : F2} (ho : OpR X (binaryOp op) r) (hf : OpS r f) (ha : LE X a wa) (hb : LE X b wb) : LE X (.BinOp a op b pos) (wOp f wa wb) := by
  obtain ⟨ta, pa, la⟩ := ha.ex
  obtain ⟨tb, pb, lb⟩ := hb.ex
  exact ⟨⟨_, pe_op ho pa pb, let_op hf la lb⟩⟩
theorem le_cmp {op : CmpOp} {r : R2} {f : F2} (ho : OpR X (compareOp op) r) (hf : OpS r f) (ha : LE X a wa) (hb : LE X b wb) (hm : behindInMarks op b = false) : LE X (.Compare a [op] [b] pos) (wOp f wa wb) := by
  obtain ⟨ta, pa, la⟩ := ha.ex
  obtain ⟨tb, pb, lb⟩ := hb.ex
  exact ⟨⟨_, pe_cmpR ho pa pb hm, let_op hf la lb⟩⟩
/-- a value as a test -/
def wTst (w : WE) : WT := fun s Q => w s fun r s1 => rdW s1 r fun d => match d with
  | .bl b => Q b s1
  | _ => False
theorem ltt_of {t : TE} {w : WE} (h : LEt t w) : LTt (tTest t) (wTst w) := fun g N H0 s σ P H Qw Q hl S hw k => by
  refine h g N H0 s σ P H _ _ hl S hw fun r s1 v H1 hl1 S1 rv h1 => ?_
  obtain ⟨d, h2, vd⟩ := S1.rd (fun p h => List.mem_append_left _ h) hl1 (by simp) rv h1
  cases d with
  | bl b => cases vd; exact ⟨b, rfl, k b s1 H1 hl1 (S1.drop1 (by simp)) h2⟩
  | _ => exact h2.elim
theorem lt_cmp {op : CmpOp} {r : R2} {f : F2} (ho : OpR X (compareOp op) r) (hf : OpS r f) (ha : LE X a wa) (hb : LE X b wb) (hm : behindInMarks op b = false) : LT X (.Compare a [op] [b] pos) (wTst (wOp f wa wb)) := by
  obtain ⟨ta, pa, la⟩ := ha.ex
  obtain ⟨tb, pb, lb⟩ := hb.ex
  exact ⟨⟨_, pt_cmpR ho pa pb hm, ltt_of (let_op hf la lb)⟩⟩
end
end LV
namespace LV
open PySem PySem.Spec PyProof.Rows L2

/-! ### a tuple once, or not at all -/
section
variable {l : Addr} {its : Array Value} {n : Nat} {dd : Option Addr} {sl : Array (Option Value)} {x : Int} {u : Tok}
theorem mul_once (d0 : (decide (x < -(2 ^ 63)) || decide (x ≥ 2 ^ 63)) = false) (d1 : (its.isEmpty || x == 1) = true) :
    Meets (Builtin.«tuple.__mul__» ⟨[.ref l, .int x u], []⟩) (fun _ R s => s.heap.get? l = some { cls := .type "tuple", dict := dd, data := .seq its n, slots := sl } ∧ R (.ok (.ret (Value.ref l))) s) :=
  .of_wp fun prog w A R s h => by
    obtain ⟨hp, g, d, tk, os⟩ := s
    obtain ⟨he, h⟩ := h
    have ix := AutoSeq1.idx_int
    wp_walk using wpAny_loadPart' he
    repeat (first
      | (refine wpAny_ite_false (decide_eq_false (by rw [d0]; decide)) ?_; wp_walk using wpAny_loadPart' he)
      | (refine wpAny_ite_true (decide_eq_true d1) ?_; wp_walk using wpAny_loadPart' he))
    exact ⟨_, rfl, h⟩
theorem mul_none (d0 : (decide (x < -(2 ^ 63)) || decide (x ≥ 2 ^ 63)) = false) (d1 : (its.isEmpty || x == 1) = false) (d2 : (decide (x ≤ 0) || its.isEmpty) = true) :
    Meets (Builtin.«tuple.__mul__» ⟨[.ref l, .int x u], []⟩) (fun _ R s => s.heap.get? l = some { cls := .type "tuple", dict := dd, data := .seq its n, slots := sl } ∧
      R (.ok (.ret (Value.ref s.heap.objs.size))) { s with heap := s.heap.push { cls := Value.type "tuple", data := Data.seq #[] }, toks := s.toks }) :=
  .of_wp fun prog w A R s h => by
    obtain ⟨hp, g, d, tk, os⟩ := s
    obtain ⟨he, h⟩ := h
    have ix := AutoSeq1.idx_int
    wp_walk using wpAny_loadPart' he
    repeat (first
      | (refine wpAny_ite_false (decide_eq_false (by rw [d0]; decide)) ?_; wp_walk using wpAny_loadPart' he)
      | (refine wpAny_ite_false (decide_eq_false (by rw [d1]; decide)) ?_; wp_walk using wpAny_loadPart' he)
      | (refine wpAny_ite_true (decide_eq_true d2) ?_; wp_walk using wpAny_loadPart' he))
    exact ⟨_, rfl, h⟩
end
def rRepU (K : PySem.W.Frag) : R2 := fun x y H Q => ∃ l k xs, x = .ref l ∧ y = .int k ∧ SqT K H l xs ∧ xs ≠ [] ∧ -1000 ≤ k ∧ k ≤ 1 ∧ (k = 1 → Q (.ref l) H) ∧ (k ≤ 0 → ∀ p, H p = none → Q (.ref p) (upd H p (.tup [])))
theorem op_repU {X : Cx} : OpR X (binaryOp .Mult) (rRepU X.K) := by
  intro pins s σ H x y v u Q I rx ry h
  obtain ⟨l, k, xs, rfl, rfl, hT, hne, h1, h2, q1, q0⟩ := h
  cases rx
  obtain ⟨t, rfl⟩ := ry
  obtain ⟨its, r, ⟨⟨cls, dd, data, sl⟩, ho, hc, n, hd⟩, hs⟩ := I.tuple hT
  simp only at hc hd
  subst hc hd
  have hn : its ≠ [] := fun e => hne (List.eq_nil_of_length_eq_zero (by rw [r.length, e]; rfl))
  have hi : its.toArray.isEmpty = false := by
    cases its with
    | nil => exact absurd rfl hn
    | cons a b => rfl
  have d0 : (decide (k < -(2 ^ 63)) || decide (k ≥ 2 ^ 63)) = false := by
    rw [decide_eq_false (by omega), decide_eq_false (by omega)] <;> rfl
  by_cases hk : k = 1
  · have d1 : (its.toArray.isEmpty || k == 1) = true := by rw [hi, hk]; rfl
    exact wpAny_binaryOp_repeat_ref (T := "tuple") (U := "int") (by decide) ⟨_, ho, rfl⟩ (fun s' => typeIs_int s' k t) noFill_tuple_mul F.fills_int_mul F.slot_int_rmul repeat_tuple F.slot_int_index.lookup
      (call_meets F.slot_int_rmul (typeIs_int s k t) F.entry_int_rmul (F.args_int_rmul_2 _ _) (int_rmul_tuple k t l its.toArray n dd sl)
        ⟨ho, rfl, ⟨_, ho, rfl⟩, call_meets F.slot_tuple_mul ⟨_, ho, rfl⟩ F.entry_tuple_mul (F.args_tuple_mul_2 _ _) (mul_once d0 d1) ⟨ho, .ref l, H, I, rfl, q1 hk⟩⟩)
  · have d1 : (its.toArray.isEmpty || k == 1) = false := by rw [hi, Bool.false_or]; exact beq_eq_false_iff_ne.mpr hk
    have d2 : (decide (k ≤ 0) || its.toArray.isEmpty) = true := by rw [decide_eq_true (by omega)]; rfl
    refine wpAny_binaryOp_repeat_ref (T := "tuple") (U := "int") (by decide) ⟨_, ho, rfl⟩ (fun s' => typeIs_int s' k t) noFill_tuple_mul F.fills_int_mul F.slot_int_rmul repeat_tuple F.slot_int_index.lookup
      (call_meets F.slot_int_rmul (typeIs_int s k t) F.entry_int_rmul (F.args_int_rmul_2 _ _) (int_rmul_tuple k t l its.toArray n dd sl)
        ⟨ho, rfl, ⟨_, ho, rfl⟩, call_meets F.slot_tuple_mul ⟨_, ho, rfl⟩ F.entry_tuple_mul (F.args_tuple_mul_2 _ _) (mul_none d0 d1 d2) ⟨ho, ?_⟩⟩)
    refine ⟨.ref s.heap.objs.size, _, I.laid (t' := s.toks) (o := .tup []) (fun b ob q => Heap.get?_push_of_some _ q) (Nat.le_refl _) ?_, rfl, q0 (by omega) _ (I.hok.fresh (Nat.le_refl _))⟩
    exact ⟨Nat.zero_le _, [], .nil, IsTup.new _ _⟩
end LV
namespace LV
open PySem PySem.Spec PyProof.Rows L2

/-! ### values by themselves -/
mutual
def toPy : D → PyData
  | .non => .none
  | .bl b => .bool b
  | .int i => .int i
  | .str x => .str x
  | .tup ds => .tuple (toPys ds)
  | .lst ds => .list (toPys ds)
  | .bag _ => .dict []
  | .scr _ => .dict []
def toPys : List D → List PyData
  | [] => []
  | d :: ds => toPy d :: toPys ds
end
mutual
theorem Rep.dp {bv H N} (K : PySem.W.Frag) : ∀ {d v}, Rep bv H N d v → SeqAt.shaped (toPy d) = true ∨ (toPy d).canLay0 = true → Dp K H v (toPy d)
  | _, _, .non, _ => .non
  | _, _, .bl, _ => .bl _
  | _, _, .int, _ => .int _
  | _, _, .str, _ => .str _
  | _, _, .bag _, h => by rcases h with h | h <;> cases h
  | _, _, .scrF _ _ _, h => by rcases h with h | h <;> cases h
  | _, _, .scrK _ _, h => by rcases h with h | h <;> cases h
  | _, _, .tup e _ r, h => .tup (SqT.of e) (Reps.dp K r (by
      rcases h with h | h
      · exact SeqAt.canLay_of_shaped h
      · exact h))
  | _, _, .lst e _ r, h => .lst (SqL.of e) (Reps.dp K r (by
      rcases h with h | h
      · exact SeqAt.canLay_of_shaped h
      · exact h))
theorem Reps.dp {bv H N} (K : PySem.W.Frag) : ∀ {ds vs}, Reps bv H N ds vs → PyData.canLayAll0 (toPys ds) = true → DpAll K H vs (toPys ds)
  | _, _, .nil, _ => .nil
  | _, _, .cons r rs, h => by
    have h' := Bool.and_eq_true_iff.mp h
    exact .cons (Rep.dp K r (.inr h'.1)) (Reps.dp K rs h'.2)
end
theorem View.dp {bv H N} (K : PySem.W.Frag) {d v} (h : View bv N H d v) (hs : SeqAt.shaped (toPy d) = true) : Dp K H v (toPy d) := by
  cases d with
  | lst ds =>
    obtain ⟨a, vs, rfl, e, r⟩ := h
    exact .lst (SqL.of e) (Reps.dp K r (SeqAt.canLay_of_shaped hs))
  | _ => exact Rep.dp K h (.inl hs)

/-! ### handing on -/
section
variable {g : Bag} {N : Addr → Prop} {H0 H : Hp} {L : List En} {Qf : RV → Prop} {Q : VK}
theorem Hand.sh (k : Hand g N H0 L Qf Q) (S : SR g N H0 L H) {d : D} {v : V} (r : Rep g.bv H (Nn N L) d v) (h : Qf (.sh d)) : Q v H := k (.sh d) v H (S.addSh r) (fun _ h => nomatch h) h
theorem Hand.fr (k : Hand g N H0 L Qf Q) (S : SR g N H0 L H) {ds : List D} {vs : List V} (r : Reps g.bv H (Nn N L) ds vs) (h : Qf (.fr ds)) (p : Addr) (hp : H p = none) : Q (.ref p) (upd H p (.lst vs)) :=
  k (.fr ds) _ _ (S.newL hp r) (fun _ h => nomatch h) h
theorem Hand.tp (k : Hand g N H0 L Qf Q) (S : SR g N H0 L H) {ds : List D} {vs : List V} (r : Reps g.bv H (Nn N L) ds vs) (h : Qf (.sh (.tup ds))) (p : Addr) (hp : H p = none) : Q (.ref p) (upd H p (.tup vs)) :=
  k (.sh (.tup ds)) _ _ (S.newT hp r) (fun _ h => nomatch h) h
end
theorem View.tup {bv N H ds v} (h : View bv N H (.tup ds) v) : ∃ a vs, v = .ref a ∧ H a = some (.tup vs) ∧ ¬ N a ∧ Reps bv H N ds vs := by cases h; exact ⟨_, _, rfl, by assumption, by assumption, by assumption⟩
theorem View.int {bv N H i v} (h : View bv N H (.int i) v) : v = .int i := by cases h; rfl
theorem View.bl {bv N H i v} (h : View bv N H (.bl i) v) : v = .bl i := by cases h; rfl
theorem View.str {bv N H i v} (h : View bv N H (.str i) v) : v = .str i := by cases h; rfl

/-! ### arithmetic -/
def CDivA (i j : Int) : Prop := j ≠ 0 ∧ (j.natAbs.log2 < 9000 ∨ i.natAbs.log2 < 13500)
theorem noPylong_near {x y : Int} (h : x.natAbs.log2 < 13500) : Builtin.divisionGoesByPylong x y = false := by
  have key : (if x == 0 then 0 else x.natAbs.log2 / 30 + 1) ≤ 450 := by
    by_cases hx : (x == 0) = true
    · rw [if_pos hx]; exact Nat.zero_le _
    · rw [if_neg hx]; omega
  show (decide ((if y == 0 then 0 else y.natAbs.log2 / 30 + 1) > 300) && decide ((if x == 0 then 0 else x.natAbs.log2 / 30 + 1) > (if y == 0 then 0 else y.natAbs.log2 / 30 + 1) + 150)) = false
  by_cases hy : (if y == 0 then 0 else y.natAbs.log2 / 30 + 1) > 300
  · rw [decide_eq_false (p := _ > _ + 150) (by omega), Bool.and_false]
  · rw [decide_eq_false hy, Bool.false_and]
theorem op_fdivA {X : Cx} : OpR X (binaryOp .FloorDiv) (rI CDivA fun i j => .int (i.fdiv j)) := opI fun i j _ _ _ _ _ hc q =>
  floordiv_int hc.1 q (.inl (hc.2.elim PyProof.noPylong_of_log2 noPylong_near))
def fSub : F2 := fun a b Q => match a, b with
  | .int i, .int j => Q (.sh (.int (i - j)))
  | _, _ => False
def fDiv : F2 := fun a b Q => match a, b with
  | .int i, .int j => CDivA i j ∧ Q (.sh (.int (i.fdiv j)))
  | _, _ => False
def fMod : F2 := fun a b Q => match a, b with
  | .int i, .int j => j ≠ 0 ∧ Q (.sh (.int (i.fmod j)))
  | _, _ => False
def fPow : F2 := fun a b Q => match a, b with
  | .int i, .int j => CPow i j ∧ Q (.sh (.int (i ^ j.toNat)))
  | _, _ => False
def fAdd : F2 := fun a b Q => match a, b with
  | .int i, .int j => Q (.sh (.int (i + j)))
  | .lst xs, .lst ys => xs.length + ys.length ≤ sizeLine ∧ Q (.fr (xs ++ ys))
  | .tup xs, .tup ys => xs.length + ys.length ≤ sizeLine ∧ Q (.sh (.tup (xs ++ ys)))
  | .str x, .str y => x.length + y.length ≤ sizeLine ∧ Q (.sh (.str (x ++ y)))
  | _, _ => False
def fMul : F2 := fun a b Q => match a, b with
  | .int i, .int j => CMulW i j ∧ Q (.sh (.int (i * j)))
  | .lst xs, .int k => -(2 ^ 63) ≤ k ∧ k < 2 ^ 63 ∧ xs.length * k.toNat ≤ sizeLine ∧ Q (.fr (List.replicate k.toNat xs).flatten)
  | .tup xs, .int k => xs ≠ [] ∧ -1000 ≤ k ∧ k ≤ 1000 ∧ xs.length ≤ 1000 ∧ Q (.sh (.tup (List.replicate k.toNat xs).flatten))
  | _, _ => False
theorem opS_I {C : Int → Int → Prop} {h : Int → Int → Int} {f : F2} (hf : ∀ a b Q, f a b Q → ∃ i j, a = .int i ∧ b = .int j ∧ C i j ∧ Q (.sh (.int (h i j)))) : OpS (rI C fun i j => .int (h i j)) f := by
  intro g N H0 L H da db x y Qf Q S va vb hq k
  obtain ⟨i, j, rfl, rfl, c, q⟩ := hf _ _ _ hq
  exact ⟨i, j, va.int, vb.int, c, k.sh S .int q⟩
theorem opS_sub : OpS (rI0 fun i j => .int (i - j)) fSub := by
  intro g N H0 L H da db x y Qf Q S va vb hq k
  unfold fSub at hq; split at hq
  · exact ⟨_, _, va.int, vb.int, k.sh S .int hq⟩
  · exact hq.elim
theorem opS_div : OpS (rI CDivA fun i j => .int (i.fdiv j)) fDiv := opS_I fun a b Q h => by
  unfold fDiv at h; split at h
  · exact ⟨_, _, rfl, rfl, h⟩
  · exact h.elim
theorem opS_mod : OpS (rI (fun _ j => j ≠ 0) fun i j => .int (i.fmod j)) fMod := opS_I fun a b Q h => by
  unfold fMod at h; split at h
  · exact ⟨_, _, rfl, rfl, h⟩
  · exact h.elim
theorem opS_pow : OpS (rI CPow fun i j => .int (i ^ j.toNat)) fPow := opS_I fun a b Q h => by
  unfold fPow at h; split at h
  · exact ⟨_, _, rfl, rfl, h⟩
  · exact h.elim
abbrev rAddA (K : PySem.W.Frag) : R2 := fun x y H Q => (rI0 fun i j => .int (i + j)) x y H Q ∨ (rCat x y H Q ∨ (rCatA K x y H Q ∨ (∃ i j, x = .str i ∧ y = .str j ∧ i.length + j.length ≤ sizeLine ∧ Q (.str (i ++ j)) H)))
theorem op_addA {X : Cx} : OpR X (binaryOp .Add) (rAddA X.K) := op_add.or (op_cat.or (op_catA.or op_add_str))
theorem opS_add {K : PySem.W.Frag} : OpS (rAddA K) fAdd := by
  intro g N H0 L H da db x y Qf Q S va vb hq k
  unfold fAdd at hq; split at hq
  · exact .inl ⟨_, _, va.int, vb.int, k.sh S .int hq⟩
  · obtain ⟨a, vs, rfl, ea, ra⟩ := va
    obtain ⟨b, ws, rfl, eb, rb⟩ := vb
    exact .inr (.inl ⟨_, _, _, _, rfl, rfl, ea, eb, by rw [← ra.length, ← rb.length]; exact hq.1, fun p hp => k.fr S (ra.append rb) hq.2 p hp⟩)
  · obtain ⟨a, vs, rfl, ea, na, ra⟩ := va.tup
    obtain ⟨b, ws, rfl, eb, nb, rb⟩ := vb.tup
    refine .inr (.inr (.inl ⟨_, _, _, _, rfl, rfl, SqT.of ea, SqT.of eb, by rw [← ra.length, ← rb.length]; exact hq.1, fun e => ?_, fun n e => ?_, fun _ _ p hp => k.tp S (ra.append rb) hq.2 p hp⟩))
    · subst e
      have := ra.length; simp at this; subst this
      exact k.sh S (.tup eb nb rb) hq.2
    · subst e
      have := rb.length; simp at this; subst this
      exact k.sh S (.tup ea na (by simpa using ra)) hq.2
  · exact .inr (.inr (.inr ⟨_, _, va.str, vb.str, hq.1, k.sh S .str hq.2⟩))
  · exact hq.elim
abbrev rMulA (K : PySem.W.Frag) : R2 := fun x y H Q => (rI CMulW fun i j => .int (i * j)) x y H Q ∨ (rRep x y H Q ∨ (rRepT K x y H Q ∨ rRepU K x y H Q))
theorem op_mulA {X : Cx} : OpR X (binaryOp .Mult) (rMulA X.K) := op_mulW.or (op_rep.or (op_repT.or op_repU))
theorem opS_mul {K : PySem.W.Frag} : OpS (rMulA K) fMul := by
  intro g N H0 L H da db x y Qf Q S va vb hq k
  unfold fMul at hq; split at hq
  · exact .inl ⟨_, _, va.int, vb.int, hq.1, k.sh S .int hq.2⟩
  · obtain ⟨a, vs, rfl, ea, ra⟩ := va
    obtain ⟨h1, h2, h3, q⟩ := hq
    exact .inr (.inl ⟨_, _, _, rfl, vb.int, ea, h1, h2, by rw [← ra.length]; exact h3, fun p hp => k.fr S (ra.replicate _) q p hp⟩)
  · rename_i xs i
    obtain ⟨a, vs, rfl, ea, na, ra⟩ := va.tup
    obtain ⟨h0, h1, h2, h3, q⟩ := hq
    have hne : vs ≠ [] := fun e => h0 (by subst e; have := ra.length; simpa using this)
    by_cases hk : 2 ≤ i
    · exact .inr (.inr (.inl ⟨_, _, _, rfl, vb.int, SqT.of ea, hne, hk, h2, by rw [← ra.length]; exact h3, fun p hp => k.tp S (ra.replicate _) q p hp⟩))
    · refine .inr (.inr (.inr ⟨_, _, _, rfl, vb.int, SqT.of ea, hne, h1, by omega, fun e => ?_, fun e p hp => ?_⟩))
      · subst e
        refine k.sh S (.tup ea na ra) ?_
        simpa using q
      · have e0 : i.toNat = 0 := by omega
        rw [e0] at q
        exact k.tp S .nil q p hp
  · exact hq.elim

/-! ### comparisons -/
def fCI (p : Int → Int → Bool) : F2 := fun a b Q => match a, b with
  | .int i, .int j => Q (.sh (.bl (p i j)))
  | _, _ => False
theorem opS_CI {p : Int → Int → Bool} : OpS (rI0 fun i j => .bl (p i j)) (fCI p) := by
  intro g N H0 L H da db x y Qf Q S va vb hq k
  unfold fCI at hq; split at hq
  · exact ⟨_, _, va.int, vb.int, k.sh S .bl hq⟩
  · exact hq.elim
def eqD (a b : D) : Bool := PyData.eqv (toPy a) (toPy b)
abbrev fLt : F2 := fCI fun i j => decide (i < j)
abbrev fLe : F2 := fCI fun i j => decide (i ≤ j)
abbrev fGt : F2 := fCI fun i j => decide (j < i)
abbrev fGe : F2 := fCI fun i j => decide (j ≤ i)
def sha (d : D) : Prop := SeqAt.shaped (toPy d) = true
def fEq : F2 := fun a b Q => match a, b with
  | .int i, .int j => Q (.sh (.bl (decide (i = j))))
  | .str i, .str j => Q (.sh (.bl (decide (i = j))))
  | a, b => sha a ∧ sha b ∧ Q (.sh (.bl (eqD a b)))
def fNe : F2 := fun a b Q => match a, b with
  | .int i, .int j => Q (.sh (.bl (!decide (i = j))))
  | .str i, .str j => Q (.sh (.bl (!decide (i = j))))
  | a, b => sha a ∧ sha b ∧ Q (.sh (.bl (!eqD a b)))
abbrev rEqA (K : PySem.W.Frag) : R2 := fun x y H Q => rEq x y H Q ∨ rEqD K x y H Q
abbrev rNeA (K : PySem.W.Frag) : R2 := fun x y H Q => rNe x y H Q ∨ rNeD K x y H Q
theorem op_eqA {X : Cx} (hu : X.A.units + 64 < cLine) : OpR X (compareOp .Eq) (rEqA X.K) := op_eq.or (op_eqD hu)
theorem op_neA {X : Cx} (hu : X.A.units + 64 < cLine) : OpR X (compareOp .NotEq) (rNeA X.K) := op_ne.or (op_neD hu)
theorem dec_vi {i j : Int} : decide (V.int i = V.int j) = decide (i = j) := by simp
theorem dec_vs {i j : Str} : decide (V.str i = V.str j) = decide (i = j) := by simp
theorem opS_eq {K : PySem.W.Frag} : OpS (rEqA K) fEq := by
  intro g N H0 L H da db x y Qf Q S va vb hq k
  unfold fEq at hq; split at hq
  · refine .inl ?_
    rw [va.int, vb.int]
    exact ⟨rfl, by rw [dec_vi]; exact k.sh S .bl hq⟩
  · refine .inl ?_
    rw [va.str, vb.str]
    exact ⟨rfl, by rw [dec_vs]; exact k.sh S .bl hq⟩
  · obtain ⟨h1, h2, q⟩ := hq
    exact .inr ⟨_, _, va.dp K h1, vb.dp K h2, h1, h2, k.sh S .bl q⟩
theorem opS_ne {K : PySem.W.Frag} : OpS (rNeA K) fNe := by
  intro g N H0 L H da db x y Qf Q S va vb hq k
  unfold fNe at hq; split at hq
  · refine .inl ?_
    rw [va.int, vb.int]
    exact ⟨rfl, by rw [dec_vi]; exact k.sh S .bl hq⟩
  · refine .inl ?_
    rw [va.str, vb.str]
    exact ⟨rfl, by rw [dec_vs]; exact k.sh S .bl hq⟩
  · obtain ⟨h1, h2, q⟩ := hq
    exact .inr ⟨_, _, va.dp K h1, vb.dp K h2, h1, h2, k.sh S .bl q⟩

/-! ### one operand -/
abbrev F1 := D → (RV → Prop) → Prop
def UnS (r : V → Hp → VK → Prop) (f : F1) : Prop := ∀ (g : Bag) (N : Addr → Prop) (H0 : Hp) (L : List En) (H : Hp) (da : D) (x : V) (Qf : RV → Prop) (Q : VK), SR g N H0 L H → View g.bv (Nn N L) H da x → f da Qf → Hand g N H0 L Qf Q → r x H Q
def wUn (f : F1) (wa : WE) : WE := fun s Q => wa s fun ra s1 => rdW s1 ra fun da => f da fun r => Q r s1
theorem let_un {r : V → Hp → VK → Prop} {f : F1} {ta : TE} {wa : WE} (ho : UnS r f) (la : LEt ta wa) : LEt (tUn r ta) (wUn f wa) := fun g N H0 s σ P H Qw Q hl S h k => by
  refine la g N H0 s σ P H _ _ hl S h fun ra s1 x H1 hl1 S1 rx h1 => ?_
  obtain ⟨da, h3, va⟩ := S1.rd (fun p h => List.mem_append_left _ h) hl1 (by simp) rx h1
  exact ho g N H0 _ H1 da x _ Q S1 va h3 fun r v H3 S3 hr h5 => k r s1 v H3 hl1 (S3.mid (by simp)) (RVal.ok hr) h5
theorem le_un {X : Cx} {a : Expr} {op : UnaryOp} {r : V → Hp → VK → Prop} {f : F1} {wa : WE} {pos : Pos} (ho : UnR X (unaryOp op) r) (hf : UnS r f) (ha : LE X a wa) : LE X (.UnaryOp op a pos) (wUn f wa) := by
  obtain ⟨ta, pa, la⟩ := ha.ex
  exact ⟨⟨_, pe_un ho pa, let_un hf la⟩⟩
def fNeg : F1 := fun a Q => match a with
  | .int i => Q (.sh (.int (-i)))
  | _ => False
theorem unS_neg : UnS (rU fun i => .int (-i)) fNeg := by
  intro g N H0 L H da x Qf Q S va hq k
  unfold fNeg at hq; split at hq
  · exact ⟨_, va.int, k.sh S .int hq⟩
  · exact hq.elim

/-! ### subscripts -/
theorem View.bag {bv N H k v} (h : View bv N H (.bag k) v) : bv.1 = k := by cases h; subst bv; rfl
theorem View.bag2 {bv N H k v} (h : View bv N H (.bag k) v) : v = bv.2 := by cases h; subst bv; rfl
theorem View.scr {bv N H K v} (h : View bv N H (.scr K) v) : ∃ a ns, v = .ref a ∧ ns.length ≤ 63 ∧ SqL K H a (List.map V.int ns) := by
  cases h with
  | scrF e n l => exact ⟨_, _, rfl, l, .inl (.inr ⟨_, e⟩)⟩
  | scrK e l => exact ⟨_, _, rfl, l, .inr e⟩
theorem reps_ints {bv H N} : ∀ ns : List Int, Reps bv H N (ns.map D.int) (ns.map V.int)
  | [] => .nil
  | n :: ns => .cons .int (reps_ints ns)
def ixD (xs : List D) (i : Int) (Q : D → Prop) : Prop := match atI xs i with
  | some d => Q d
  | none => False
def fIx : F2 := fun a b Q => match a, b with
  | .lst xs, .int i => ixD xs i fun d => Q (.sh d)
  | .tup xs, .int i => ixD xs i fun d => Q (.sh d)
  | .bag k, .int i => k = 1 ∧ (i = 1 ∧ (∀ v : Int, 0 ≤ v → Q (.sh (.int v))) ∨ i = 2 ∧ ∀ v : Int, 0 ≤ v → v < 2147483647 → Q (.sh (.int v)))
  | _, _ => False
theorem Reps.atI {bv H N ds vs} (r : Reps bv H N ds vs) {i : Int} {d : D} (e : L2.atI ds i = some d) : ∃ v, L2.atI vs i = some v ∧ Rep bv H N d v := by
  unfold L2.atI at e ⊢
  rw [← r.length]
  cases q : ixN ds.length i with
  | none => rw [q] at e; cases e
  | some j => rw [q] at e; exact r.get e
theorem opS_ix {K : PySem.W.Frag} : OpS (fun x y H Q => rIxL K x y H Q ∨ rIxT K x y H Q) fIx := by
  intro g N H0 L H da db x y Qf Q S va vb hq k
  unfold fIx at hq; split at hq
  · obtain ⟨a, vs, rfl, ea, ra⟩ := va
    unfold ixD at hq; split at hq
    · obtain ⟨v, h1, h2⟩ := ra.atI (by assumption)
      exact .inl ⟨_, _, _, _, rfl, vb.int, SqL.of ea, h1, k.sh S h2 hq⟩
    · exact hq.elim
  · obtain ⟨a, vs, rfl, ea, na, ra⟩ := va.tup
    unfold ixD at hq; split at hq
    · obtain ⟨v, h1, h2⟩ := ra.atI (by assumption)
      exact .inr ⟨_, _, _, _, rfl, vb.int, SqT.of ea, h1, k.sh S h2 hq⟩
    · exact hq.elim
  · obtain ⟨e1, hq⟩ := hq
    subst e1
    obtain ⟨b, l, CS, eb, _, _, _, _, hG⟩ := g.sp.1 va.bag
    obtain ⟨cells, cur, mixed, _, hb, _, h1, h2, h3⟩ := (hG H).mp S.hg
    have ev : x = .ref b := va.bag2.trans eb
    rcases hq with ⟨rfl, hq⟩ | ⟨rfl, hq⟩
    · exact .inl ⟨b, _, _, _, ev, vb.int, SqL.of hb, rfl, k.sh S .int (hq cur h1)⟩
    · exact .inl ⟨b, _, _, _, ev, vb.int, SqL.of hb, rfl, k.sh S .int (hq mixed h2 h3)⟩
  · exact hq.elim
theorem le_ix {X : Cx} {a b : Expr} {wa wb : WE} {pos : Pos} (ha : LE X a wa) (hb : LE X b wb) (hs : PlainIx b) : LE X (.Subscript a b pos) (wOp fIx wa wb) := by
  obtain ⟨ta, pa, la⟩ := ha.ex
  obtain ⟨tb, pb, lb⟩ := hb.ex
  exact ⟨⟨_, pe_ix (ix_list.or ix_tup) pa pb hs, let_op opS_ix la lb⟩⟩
/-- a part of a slice -/
abbrev WO := Sg → (Option Int → Sg → Prop) → Prop
def LOt (t : TO) (w : WO) : Prop := ∀ (g : Bag) (N : Addr → Prop) (H0 : Hp) (s : Sg) (σ : L2.St) (P : List En) (H : Hp) (Qw : Option Int → Sg → Prop) (Q : Option Int → Hp → Prop), s.length = σ.length → SR g N H0 (s.zip σ ++ P) H → w s Qw →
  (∀ b s' H', s'.length = σ.length → SR g N H0 (s'.zip σ ++ P) H' → Qw b s' → Q b H') → t σ H Q
structure LO (X : Cx) (e : Option Expr) (w : WO) : Prop where
  ex : ∃ t, PO X e t ∧ LOt t w
def wONone : WO := fun s Q => Q none s
def wOSome (w : WE) : WO := fun s Q => w s fun r s1 => rdW s1 r fun d => match d with
  | .int i => Q (some i) s1
  | _ => False
theorem lo_none {X : Cx} : LO X none wONone := ⟨⟨_, po_none, fun g N H0 s σ P H Qw Q hl S h k => k none s H hl S h⟩⟩
theorem lo_some {X : Cx} {e : Expr} {w : WE} (h : LE X e w) : LO X (some e) (wOSome w) := by
  obtain ⟨t, p, l⟩ := h.ex
  refine ⟨⟨_, po_some p, fun g N H0 s σ P H Qw Q hl S h k => ?_⟩⟩
  refine l g N H0 s σ P H _ _ hl S h fun r s1 v H1 hl1 S1 rv h1 => ?_
  obtain ⟨d, h2, vd⟩ := S1.rd (fun p h => List.mem_append_left _ h) hl1 (by simp) rv h1
  cases d with
  | int i => exact ⟨i, vd.int, k _ s1 H1 hl1 (S1.drop1 (by simp)) h2⟩
  | _ => exact h2.elim
def cutD (xs : List D) (lo hi : Option Int) : List D := (xs.drop (HT.sIx xs.length 0 lo)).take (HT.sIx xs.length xs.length hi - HT.sIx xs.length 0 lo)
def fSl (K : PySem.W.Frag) (a : D) (lo hi : Option Int) (Q : RV → Prop) : Prop := match a with
  | .lst xs => Q (.fr (cutD xs lo hi))
  | .tup xs => Q (.sh (.tup (cutD xs lo hi)))
  | .scr K' => K' = K ∧ ∀ ns : List Int, ns.length ≤ 63 → Q (.fr (cutD (ns.map D.int) lo hi))
  | _ => False
def wSl (K : PySem.W.Frag) (wa : WE) (wl wh : WO) : WE := fun s Q => wa s fun ra s1 => wl s1 fun lo s2 => wh s2 fun hi s3 => rdW s3 ra fun da => fSl K da lo hi fun r => Q r s3
theorem Reps.cut {bv H N ds vs} (r : Reps bv H N ds vs) (lo hi : Option Int) : Reps bv H N (cutD ds lo hi) (cutV vs lo hi) := by
  unfold cutD cutV
  rw [← r.length]
  exact (r.drop _).take _
end LV
namespace LV
open PySem PySem.Spec PyProof.Rows L2
section
variable {X : Cx} {a b c e : Expr} {wa wb we : WE} {wt wu : WT} {pos : Pos}

theorem le_sl {lo hi : Option Expr} {wl wh : WO} {p2 : Pos} (ha : LE X a wa) (hl : LO X lo wl) (hh : LO X hi wh) : LE X (.Subscript a (.Slice lo hi none p2) pos) (wSl X.K wa wl wh) := by
  obtain ⟨ta, pa, la⟩ := ha.ex
  obtain ⟨tl, pl, ll⟩ := hl.ex
  obtain ⟨th, ph, lh⟩ := hh.ex
  refine ⟨⟨_, pe_slice (sl_list.or sl_tupA) pa pl ph, fun g N H0 s σ P H Qw Q hl S h k => ?_⟩⟩
  refine la g N H0 s σ P H _ _ hl S h fun ra s1 x H1 hl1 S1 rx h1 => ?_
  refine ll g N H0 s1 σ _ H1 _ _ hl1 S1 h1 fun lo s2 H2 hl2 S2 h2 => ?_
  refine lh g N H0 s2 σ _ H2 _ _ hl2 S2 h2 fun hi s3 H3 hl3 S3 h3 => ?_
  obtain ⟨da, h4, va⟩ := S3.rd (fun p h => List.mem_append_left _ h) hl3 (by simp) rx h3
  have fin : Hand g N H0 (s3.zip σ ++ (ra.sl, some x) :: P) (fun r => Qw r s3) Q := fun r v H4 S4 hr h5 => k r s3 v H4 hl3 (S4.mid (by simp)) (RVal.ok hr) h5
  unfold fSl at h4; split at h4
  · obtain ⟨a, vs, rfl, ea, ra⟩ := va
    exact .inl ⟨_, _, rfl, SqL.of ea, fun p hp => fin.fr S3 (ra.cut lo hi) h4 p hp⟩
  · obtain ⟨a, vs, rfl, ea, na, ra⟩ := va.tup
    refine .inr ⟨_, _, rfl, SqT.of ea, fun hc => ?_, fun _ p hp => fin.tp S3 (ra.cut lo hi) h4 p hp⟩
    refine fin.sh S3 (d := .tup _) ?_ h4
    have e : ∀ ds : List D, ds.length = vs.length → cutD ds lo hi = ds := fun ds hd => by
      unfold cutD; rw [hd, hc.1, hc.2, List.drop_zero, Nat.sub_zero, ← hd]; exact List.take_length
    rw [e _ ra.length]
    exact .tup ea na ra
  · obtain ⟨rfl, h4⟩ := h4
    obtain ⟨a, ns, rfl, l, sq⟩ := va.scr
    exact .inl ⟨_, _, rfl, sq, fun p hp => fin.fr S3 ((reps_ints ns).cut lo hi) (h4 ns l) p hp⟩
  · exact h4.elim

/-! ### tests -/
def tru (d : D) (Q : Bool → Prop) : Prop := match d with
  | .non => Q false
  | .bl b => Q b
  | .int i => Q (i != 0)
  | .lst xs => Q (!xs.isEmpty)
  | .tup xs => Q (!xs.isEmpty)
  | .str y => y.length ≤ sizeLine ∧ Q ((y.length : Int) != 0)
  | .bag _ => False
  | .scr _ => False
theorem tru_rel {bv H N d v Q} (K : PySem.W.Frag) (h : View bv N H d v) (t : tru d Q) : ∃ k, TruV K v H k ∧ Q k := by
  cases d with
  | non => cases h; exact ⟨_, rfl, t⟩
  | bl b => cases h; exact ⟨_, rfl, t⟩
  | int i => cases h; exact ⟨_, rfl, t⟩
  | str y => cases h; exact ⟨_, ⟨t.1, rfl⟩, t.2⟩
  | lst xs =>
    obtain ⟨a, vs, rfl, e, r⟩ := h
    refine ⟨_, .inl ⟨vs, SqL.of e, rfl⟩, ?_⟩
    have : vs.isEmpty = xs.isEmpty := by cases r <;> rfl
    rw [this]; exact t
  | tup xs =>
    obtain ⟨a, vs, rfl, e, n, r⟩ := h.tup
    refine ⟨_, .inr (.inl ⟨vs, SqT.of e, rfl⟩), ?_⟩
    have : vs.isEmpty = xs.isEmpty := by cases r <;> rfl
    rw [this]; exact t
  | bag => exact t.elim
  | scr => exact t.elim
/-- a value by its truth -/
def wTru (w : WE) : WT := fun s Q => w s fun r s1 => rdW s1 r fun d => tru d fun k => Q k s1
theorem lt_tru (ha : LE X a wa) (he : ∀ whole, isTrue a X.env whole = (do let v ← whole; standAt a.pos; holding [v] (truthy v))) : LT X a (wTru wa) := by
  obtain ⟨t, p, l⟩ := ha.ex
  refine ⟨⟨_, pt_truth p he, fun g N H0 s σ P H Qw Q hl S h k => ?_⟩⟩
  refine l g N H0 s σ P H _ _ hl S h fun r s1 v H1 hl1 S1 rv h1 => ?_
  obtain ⟨d, h2, vd⟩ := S1.rd (fun p h => List.mem_append_left _ h) hl1 (by simp) rv h1
  obtain ⟨b, t, q⟩ := tru_rel X.K vd h2
  exact ⟨b, t, k b s1 H1 hl1 (S1.drop1 (by simp)) q⟩
def wNot (w : WT) : WT := fun s Q => w s fun b s1 => Q (!b) s1
theorem lt_not (h : LT X a wt) : LT X (.UnaryOp .Not a pos) (wNot wt) := by
  obtain ⟨t, p, l⟩ := h.ex
  exact ⟨⟨_, pt_not p, fun g N H0 s σ P H Qw Q hl S h k => l g N H0 s σ P H _ _ hl S h fun b s1 H1 hl1 S1 h1 => k _ s1 H1 hl1 S1 h1⟩⟩
structure LW (X : Cx) (e : Expr) (w : WT) : Prop where
  ex : ∃ t, PW X e t ∧ LTt t w
theorem LW.lt (h : LW X e wt) : LT X e wt := let ⟨t, p, l⟩ := h.ex; ⟨⟨t, p.pt, l⟩⟩
def wAnd (wt wu : WT) : WT := fun s Q => wt s fun b s1 => if b = true then wu s1 Q else Q false s1
def wOr (wt wu : WT) : WT := fun s Q => wt s fun b s1 => if b = true then Q true s1 else wu s1 Q
theorem lw_and1 (h : LT X a wt) : LW X (.BoolOp .And [a] pos) wt := let ⟨t, p, l⟩ := h.ex; ⟨⟨t, pw_and1 p, l⟩⟩
theorem lw_or1 (h : LT X a wt) : LW X (.BoolOp .Or [a] pos) wt := let ⟨t, p, l⟩ := h.ex; ⟨⟨t, pw_or1 p, l⟩⟩
theorem lw_and {rest : List Expr} (h : LT X a wt) (h2 : LW X (.BoolOp .And (b :: rest) pos) wu) : LW X (.BoolOp .And (a :: b :: rest) pos) (wAnd wt wu) := by
  obtain ⟨t, p, l⟩ := h.ex
  obtain ⟨t2, p2, l2⟩ := h2.ex
  refine ⟨⟨_, pw_and p p2, fun g N H0 s σ P H Qw Q hl S h k => l g N H0 s σ P H _ _ hl S h fun c s1 H1 hl1 S1 h1 => ?_⟩⟩
  cases c with
  | true => exact l2 g N H0 s1 σ P H1 _ _ hl1 S1 h1 k
  | false => exact k _ s1 H1 hl1 S1 h1
theorem lw_or {rest : List Expr} (h : LT X a wt) (h2 : LW X (.BoolOp .Or (b :: rest) pos) wu) : LW X (.BoolOp .Or (a :: b :: rest) pos) (wOr wt wu) := by
  obtain ⟨t, p, l⟩ := h.ex
  obtain ⟨t2, p2, l2⟩ := h2.ex
  refine ⟨⟨_, pw_or p p2, fun g N H0 s σ P H Qw Q hl S h k => l g N H0 s σ P H _ _ hl S h fun c s1 H1 hl1 S1 h1 => ?_⟩⟩
  cases c with
  | false => exact l2 g N H0 s1 σ P H1 _ _ hl1 S1 h1 k
  | true => exact k _ s1 H1 hl1 S1 h1
/-- and, or, not as values: of bools -/
def wAndV (wa wb : WE) : WE := fun s Q => wa s fun r s1 => rdW s1 r fun d => match d with
  | .bl b => if b = true then wb s1 Q else Q (.sh (.bl false)) s1
  | _ => False
def wOrV (wa wb : WE) : WE := fun s Q => wa s fun r s1 => rdW s1 r fun d => match d with
  | .bl b => if b = true then Q (.sh (.bl true)) s1 else wb s1 Q
  | _ => False
def wNotV (wa : WE) : WE := fun s Q => wa s fun r s1 => rdW s1 r fun d => tru d fun b => Q (.sh (.bl (!b))) s1
theorem le_one {op} (h : LE X a wa) : LE X (.BoolOp op [a] pos) wa := let ⟨t, p, l⟩ := h.ex; ⟨⟨t, pe_one p, l⟩⟩
theorem le_and {rest : List Expr} (h : LE X a wa) (h2 : LE X (.BoolOp .And (b :: rest) pos) wb) : LE X (.BoolOp .And (a :: b :: rest) pos) (wAndV wa wb) := by
  obtain ⟨t, p, l⟩ := h.ex
  obtain ⟨t2, p2, l2⟩ := h2.ex
  refine ⟨⟨_, pe_and p p2, fun g N H0 s σ P H Qw Q hl S h k => l g N H0 s σ P H _ _ hl S h fun r s1 v H1 hl1 S1 rv h1 => ?_⟩⟩
  obtain ⟨d, h2, vd⟩ := S1.rd (fun p h => List.mem_append_left _ h) hl1 (by simp) rv h1
  have S2 := S1.drop1 (List.sublist_cons_self _ _)
  cases d with
  | bl c =>
    refine ⟨c, vd.bl, ?_⟩
    cases c with
    | true => exact l2 g N H0 s1 σ P H1 _ _ hl1 S2 h2 k
    | false => exact k (.sh (.bl false)) s1 _ H1 hl1 ((S2.addSh .bl).mid (List.Sublist.refl _)) trivial h2
  | _ => exact h2.elim
theorem le_or {rest : List Expr} (h : LE X a wa) (h2 : LE X (.BoolOp .Or (b :: rest) pos) wb) : LE X (.BoolOp .Or (a :: b :: rest) pos) (wOrV wa wb) := by
  obtain ⟨t, p, l⟩ := h.ex
  obtain ⟨t2, p2, l2⟩ := h2.ex
  refine ⟨⟨_, pe_or p p2, fun g N H0 s σ P H Qw Q hl S h k => l g N H0 s σ P H _ _ hl S h fun r s1 v H1 hl1 S1 rv h1 => ?_⟩⟩
  obtain ⟨d, h2, vd⟩ := S1.rd (fun p h => List.mem_append_left _ h) hl1 (by simp) rv h1
  have S2 := S1.drop1 (List.sublist_cons_self _ _)
  cases d with
  | bl c =>
    refine ⟨c, vd.bl, ?_⟩
    cases c with
    | false => exact l2 g N H0 s1 σ P H1 _ _ hl1 S2 h2 k
    | true => exact k (.sh (.bl true)) s1 _ H1 hl1 ((S2.addSh .bl).mid (List.Sublist.refl _)) trivial h2
  | _ => exact h2.elim
theorem le_not (h : LE X a wa) : LE X (.UnaryOp .Not a pos) (wNotV wa) := by
  obtain ⟨t, p, l⟩ := h.ex
  refine ⟨⟨_, pe_notT p, fun g N H0 s σ P H Qw Q hl S h k => l g N H0 s σ P H _ _ hl S h fun r s1 v H1 hl1 S1 rv h1 => ?_⟩⟩
  obtain ⟨d, h2, vd⟩ := S1.rd (fun p h => List.mem_append_left _ h) hl1 (by simp) rv h1
  have S2 := S1.drop1 (List.sublist_cons_self _ _)
  obtain ⟨b, t, q⟩ := tru_rel X.K vd h2
  exact ⟨b, t, k (.sh (.bl _)) s1 _ H1 hl1 ((S2.addSh .bl).mid (List.Sublist.refl _)) trivial q⟩
def wIf (wt : WT) (wa wb : WE) : WE := fun s Q => wt s fun b s1 => if b = true then wa s1 Q else wb s1 Q
theorem le_if (hc : LT X c wt) (ha : LE X a wa) (hb : LE X b wb) : LE X (.IfExp c a b pos) (wIf wt wa wb) := by
  obtain ⟨tc, pc, lc⟩ := hc.ex
  obtain ⟨ta, pa, la⟩ := ha.ex
  obtain ⟨tb, pb, lb⟩ := hb.ex
  refine ⟨⟨_, pe_ifExp pc pa pb, fun g N H0 s σ P H Qw Q hl S h k => lc g N H0 s σ P H _ _ hl S h fun d s1 H1 hl1 S1 h1 => ?_⟩⟩
  cases d with
  | true => exact la g N H0 s1 σ P H1 _ _ hl1 S1 h1 k
  | false => exact lb g N H0 s1 σ P H1 _ _ hl1 S1 h1 k
/-- a chain a op b op' c -/
def wChain (f f' : F2) (wa wb wc : WE) : WT := fun s Q => wa s fun ra s1 => wb s1 fun rb s2 => rdW s2 ra fun da => rdW s2 rb fun db => f da db fun r => match r with
  | .sh (.bl k) => if k = true then wc s2 fun rc s3 => rdW s3 rb fun db => rdW s3 rc fun dc => f' db dc fun r => (match r with
      | .sh (.bl k) => Q k s3
      | _ => False) else Q false s2
  | _ => False

/-! ### displays -/
def wTup (wa : WA) : WE := fun s Q => wa s fun rs s1 => rs.length ≤ 1000 ∧ fzL s1 rs fun ds s2 => Q (.sh (.tup ds)) s2
def wLst (wa : WA) : WE := fun s Q => wa s fun rs s1 => rs.length ≤ 1000 ∧ fzL s1 rs fun ds s2 => Q (.fr ds) s2
theorem RVals.length {σ : L2.St} : ∀ {rs vs}, RVals σ rs vs → rs.length = vs.length
  | _, _, .nil => rfl
  | _, _, .cons _ h => by simp [RVals.length h]
theorem le1000 {n : Nat} (h : n ≤ 1000) : n ≤ sizeLine := Nat.le_of_lt (small1000 h)
theorem le_tup {es : List Expr} {x1} {wa : WA} (h : LA X es wa) : LE X (.Tuple es x1 pos) (wTup wa) := by
  obtain ⟨t, p, l⟩ := h.ex
  refine ⟨⟨_, pe_tup p, fun g N H0 s σ P H Qw Q hl S h k => l g N H0 s σ P H _ _ hl S h fun rs s1 vs H1 hl1 S1 rv h1 => ?_⟩⟩
  obtain ⟨hn, h1⟩ := h1
  refine ⟨le1000 (by rw [← rv.length]; exact hn), fun p hp => ?_⟩
  obtain ⟨ds, s2, h2, hl2, hd, S2⟩ := SR.fzs (A := []) hl1 S1 rv h1
  have r := S2.reps hd (fun p hp => by simp [hp])
  exact k (.sh (.tup ds)) s2 _ _ hl2 ((S2.newT hp r).mid (List.sublist_append_right (pendD ds vs) P)) trivial h2
theorem le_lst {es : List Expr} {wa : WA} (h : LA X es wa) : LE X (.List es pos) (wLst wa) := by
  obtain ⟨t, p, l⟩ := h.ex
  refine ⟨⟨_, pe_lst p, fun g N H0 s σ P H Qw Q hl S h k => l g N H0 s σ P H _ _ hl S h fun rs s1 vs H1 hl1 S1 rv h1 => ?_⟩⟩
  obtain ⟨hn, h1⟩ := h1
  refine ⟨le1000 (by rw [← rv.length]; exact hn), fun p hp => ?_⟩
  obtain ⟨ds, s2, h2, hl2, hd, S2⟩ := SR.fzs (A := []) hl1 S1 rv h1
  have r := S2.reps hd (fun p hp => by simp [hp])
  exact k (.fr ds) s2 _ _ hl2 ((S2.newL hp r).mid (List.sublist_append_right (pendD ds vs) P)) trivial h2

/-! ### calls of built-ins: what is handed in is read -/
abbrev FN := List D → (RV → Prop) → Prop
def CaS (r : List V → Hp → VK → Prop) (f : FN) : Prop := ∀ (g : Bag) (N : Addr → Prop) (H0 : Hp) (L : List En) (H : Hp) (ds : List D) (vs : List V) (Qf : RV → Prop) (Q : VK), SR g N H0 L H → Views g.bv (Nn N L) H ds vs → f ds Qf → Hand g N H0 L Qf Q → r vs H Q
def wCB (f : FN) (wa : WA) : WE := fun s Q => wa s fun rs s1 => rdL s1 rs fun ds => f ds fun r => Q r s1
theorem let_cb {r : List V → Hp → VK → Prop} {f : FN} {t : TA} {wa : WA} (hc : CaS r f) (l : LAt t wa) : LEt (tCB r t) (wCB f wa) := fun g N H0 s σ P H Qw Q hl S h k => by
  refine l g N H0 s σ P H _ _ hl S h fun rs s1 vs H1 hl1 S1 rv h1 => ?_
  obtain ⟨ds, h2, vd⟩ := S1.rds hl1 (fun p h => List.mem_append_left _ h) (fun p h => List.mem_append_right _ (List.mem_append_left _ h)) rv h1
  exact hc g N H0 _ H1 ds vs _ Q S1 vd h2 fun r v H3 S3 hr h5 => k r s1 v H3 hl1 (S3.mid (List.sublist_append_right _ _)) (RVal.ok hr) h5
theorem le_callB {id : String} {x : Str} {p : Pos} {es : List Expr} {r : List V → Hp → VK → Prop} {f : FN} {wa : WA} (hc : CallR X (.builtin id) r) (hf : CaS r f) (hg : Gl X x) (hm : X.mg x = none) (hv : bootBuiltins x = some (.builtin id)) (ha : LA X (e :: es) wa)
    (hn : x ≠ "__name__") (hdb : (x == ("__debug__" : Str)) = false) (he : starEach (e :: es) X.env = (false, eval e X.env) :: starEach es X.env) (hpl : (backTo pos (starEach es X.env)).any (·.1) = false) : LE X (.Call (.Name x p) (e :: es) [] pos) (wCB f wa) := by
  obtain ⟨t, pa, l⟩ := ha.ex
  exact ⟨⟨_, pe_callB hc hg hm hv pa hn hdb he hpl, let_cb hf l⟩⟩
theorem le_callTy {T : String} {x : Str} {p : Pos} {es : List Expr} {r : List V → Hp → VK → Prop} {f : FN} {wa : WA} (hc : CallR X (.type T) r) (hf : CaS r f) (hg : Gl X x) (hm : X.mg x = none) (hv : bootBuiltins x = some (.type T)) (ha : LA X (e :: es) wa)
    (hn : x ≠ "__name__") (hdb : (x == ("__debug__" : Str)) = false) (he : starEach (e :: es) X.env = (false, eval e X.env) :: starEach es X.env) (hpl : (backTo pos (starEach es X.env)).any (·.1) = false) : LE X (.Call (.Name x p) (e :: es) [] pos) (wCB f wa) := by
  obtain ⟨t, pa, l⟩ := ha.ex
  exact ⟨⟨_, pe_callTy hc hg hm hv pa hn hdb he hpl, let_cb hf l⟩⟩
/-- math.gcd and its like, a global -/
theorem le_callM {id : String} {x : Str} {p : Pos} {es : List Expr} {r : List V → Hp → VK → Prop} {f : FN} {wa : WA} (hc : CallR X (.builtin id) r) (hf : CaS r f) (hg : Gl X x) (hm : X.mg x = some (.builtin id)) (ha : LA X (e :: es) wa)
    (hdb : (x == ("__debug__" : Str)) = false) (he : starEach (e :: es) X.env = (false, eval e X.env) :: starEach es X.env) (hpl : (backTo pos (starEach es X.env)).any (·.1) = false) : LE X (.Call (.Name x p) (e :: es) [] pos) (wCB f wa) := by
  obtain ⟨t, pa, l⟩ := ha.ex
  exact ⟨⟨_, pe_callBfun hc hg hm pa hdb he hpl, let_cb hf l⟩⟩
end
theorem Views.one {bv N H d vs} (h : Views bv N H [d] vs) : ∃ v, vs = [v] ∧ View bv N H d v := by
  cases h with
  | cons a b => cases b; exact ⟨_, rfl, a⟩
theorem Views.two {bv N H d d' vs} (h : Views bv N H [d, d'] vs) : ∃ v v', vs = [v, v'] ∧ View bv N H d v ∧ View bv N H d' v' := by
  cases h with
  | cons a b =>
    obtain ⟨v', rfl, c⟩ := b.one
    exact ⟨_, _, rfl, a, c⟩
/-! ### the built-ins -/
def fLen : FN := fun ds Q => match ds with
  | [.lst xs] => Q (.sh (.int xs.length))
  | [.tup xs] => Q (.sh (.int xs.length))
  | _ => False
theorem caS_len {K : PySem.W.Frag} : CaS (fun xs H Q => ∃ p ys, xs = [.ref p] ∧ (SqL K H p ys ∨ SqT K H p ys) ∧ Q (.int ys.length) H) fLen := by
  intro g N H0 L H ds vs Qf Q S vd hq k
  unfold fLen at hq; split at hq
  · obtain ⟨v, rfl, h⟩ := vd.one
    obtain ⟨a, vs, rfl, e, r⟩ := h
    exact ⟨_, _, rfl, .inl (SqL.of e), by rw [← r.length]; exact k.sh S .int hq⟩
  · obtain ⟨v, rfl, h⟩ := vd.one
    obtain ⟨a, vs, rfl, e, n, r⟩ := h.tup
    exact ⟨_, _, rfl, .inr (SqT.of e), by rw [← r.length]; exact k.sh S .int hq⟩
  · exact hq.elim
def fAbs : FN := fun ds Q => match ds with
  | [.int i] => Q (.sh (.int (if i < 0 then -i else i)))
  | _ => False
theorem caS_abs : CaS (fun xs H Q => ∃ i, xs = [.int i] ∧ Q (.int (if i < 0 then -i else i)) H) fAbs := by
  intro g N H0 L H ds vs Qf Q S vd hq k
  unfold fAbs at hq; split at hq
  · obtain ⟨v, rfl, h⟩ := vd.one
    exact ⟨_, by rw [h.int], k.sh S .int hq⟩
  · exact hq.elim
def fInt : FN := fun ds Q => match ds with
  | [.int i] => Q (.sh (.int i))
  | [.bl b] => Q (.sh (.int (if b then 1 else 0)))
  | _ => False
theorem caS_int : CaS (fun xs H Q => (∃ i, xs = [.int i] ∧ Q (.int i) H) ∨ ∃ k, xs = [.bl k] ∧ Q (.int (if k then 1 else 0)) H) fInt := by
  intro g N H0 L H ds vs Qf Q S vd hq k
  unfold fInt at hq; split at hq
  · obtain ⟨v, rfl, h⟩ := vd.one
    exact .inl ⟨_, by rw [h.int], k.sh S .int hq⟩
  · obtain ⟨v, rfl, h⟩ := vd.one
    exact .inr ⟨_, by rw [h.bl], k.sh S .int hq⟩
  · exact hq.elim
def fGcd : FN := fun ds Q => match ds with
  | [.int a, .int b] => Q (.sh (.int ((Nat.gcd a.natAbs b.natAbs : Nat) : Int)))
  | _ => False
theorem caS_gcd : CaS rGcd fGcd := by
  intro g N H0 L H ds vs Qf Q S vd hq k
  unfold fGcd at hq; split at hq
  · obtain ⟨v, v', rfl, h, h'⟩ := vd.two
    exact ⟨_, _, by rw [h.int, h'.int], k.sh S .int hq⟩
  · exact hq.elim
def fList : FN := fun ds Q => match ds with
  | [.lst xs] => Q (.fr xs)
  | [.tup xs] => Q (.fr xs)
  | _ => False
theorem caS_list {K : PySem.W.Frag} : CaS (fun xs H Q => ∃ p ys, xs = [.ref p] ∧ (SqL K H p ys ∨ SqT K H p ys) ∧ ∀ l, H l = none → Q (.ref l) (upd H l (.lst ys))) fList := by
  intro g N H0 L H ds vs Qf Q S vd hq k
  unfold fList at hq; split at hq
  · obtain ⟨v, rfl, h⟩ := vd.one
    obtain ⟨a, vs, rfl, e, r⟩ := h
    exact ⟨_, _, rfl, .inl (SqL.of e), fun l hl => k.fr S r hq l hl⟩
  · obtain ⟨v, rfl, h⟩ := vd.one
    obtain ⟨a, vs, rfl, e, n, r⟩ := h.tup
    exact ⟨_, _, rfl, .inr (SqT.of e), fun l hl => k.fr S r hq l hl⟩
  · exact hq.elim
def fTuple : FN := fun ds Q => match ds with
  | [.lst xs] => Q (.sh (.tup xs))
  | [.tup xs] => Q (.sh (.tup xs))
  | _ => False
theorem caS_tuple {K : PySem.W.Frag} : CaS (fun xs H Q => ∃ p ys, xs = [.ref p] ∧ ((SqL K H p ys ∧ ∀ l, H l = none → Q (.ref l) (upd H l (.tup ys))) ∨ (SqT K H p ys ∧ Q (.ref p) H))) fTuple := by
  intro g N H0 L H ds vs Qf Q S vd hq k
  unfold fTuple at hq; split at hq
  · obtain ⟨v, rfl, h⟩ := vd.one
    obtain ⟨a, vs, rfl, e, r⟩ := h
    exact ⟨_, _, rfl, .inl ⟨SqL.of e, fun l hl => k.tp S r hq l hl⟩⟩
  · obtain ⟨v, rfl, h⟩ := vd.one
    obtain ⟨a, vs, rfl, e, n, r⟩ := h.tup
    exact ⟨_, _, rfl, .inr ⟨SqT.of e, k.sh S (.tup e n r) hq⟩⟩
  · exact hq.elim
/-- the ints of a list -/
def intsOf : List D → Option (List Int)
  | [] => some []
  | .int i :: ds => (intsOf ds).map (i :: ·)
  | _ :: _ => none
theorem intsOf_map (ns : List Int) : intsOf (ns.map D.int) = some ns := by
  induction ns with
  | nil => rfl
  | cons n ns ih => simp [intsOf, ih]
theorem intsOf_eq : ∀ {ds : List D} {ns : List Int}, intsOf ds = some ns → ds = ns.map D.int
  | [], ns, h => by simp [intsOf] at h; subst h; rfl
  | .int i :: ds, ns, h => by
    simp [intsOf] at h
    obtain ⟨ms, h1, rfl⟩ := h
    rw [intsOf_eq h1]; rfl
  | .non :: _, _, h => by cases h
  | .bl _ :: _, _, h => by cases h
  | .str _ :: _, _, h => by cases h
  | .tup _ :: _, _, h => by cases h
  | .lst _ :: _, _, h => by cases h
  | .bag _ :: _, _, h => by cases h
  | .scr _ :: _, _, h => by cases h
def fSum : FN := fun ds Q => match ds with
  | [.lst xs] => match intsOf xs with
    | some ns => Q (.sh (.int ns.sum))
    | none => False
  | _ => False
theorem caS_sum {K : PySem.W.Frag} : CaS (rSum K) fSum := by
  intro g N H0 L H ds vs Qf Q S vd hq k
  unfold fSum at hq; split at hq
  · split at hq
    · obtain ⟨v, rfl, h⟩ := vd.one
      obtain ⟨a, vs, rfl, e, r⟩ := h
      have := intsOf_eq (by assumption)
      subst this
      have := r.ints; subst this
      exact ⟨a, _, rfl, SqL.of e, k.sh S .int hq⟩
    · exact hq.elim
  · exact hq.elim
/-- max, min of some ints: what is greatest -/
def fMax : FN := fun ds Q => match ds with
  | [.lst xs] => match intsOf xs with
    | some ns => 0 < ns.length ∧ ∀ m, m ∈ ns → (∀ y, y ∈ ns → y ≤ m) → Q (.sh (.int m))
    | none => False
  | [.int i, .int j] => Q (.sh (.int (if j > i then j else i)))
  | _ => False
def fMin : FN := fun ds Q => match ds with
  | [.lst xs] => match intsOf xs with
    | some ns => 0 < ns.length ∧ ∀ m, m ∈ ns → (∀ y, y ∈ ns → m ≤ y) → Q (.sh (.int m))
    | none => False
  | [.int i, .int j] => Q (.sh (.int (if j < i then j else i)))
  | _ => False
theorem caS_max {K : PySem.W.Frag} : CaS (fun xs H Q => rMax K xs H Q ∨ ∃ i j, xs = [.int i, .int j] ∧ Q (.int (if j > i then j else i)) H) fMax := by
  intro g N H0 L H ds vs Qf Q S vd hq k
  unfold fMax at hq; split at hq
  · split at hq
    · obtain ⟨v, rfl, h⟩ := vd.one
      obtain ⟨a, vs, rfl, e, r⟩ := h
      have := intsOf_eq (by assumption)
      subst this
      have := r.ints; subst this
      exact .inl ⟨a, _, rfl, SqL.of e, hq.1, fun m h1 h2 => k.sh S .int (hq.2 m h1 h2)⟩
    · exact hq.elim
  · obtain ⟨v, v', rfl, h, h'⟩ := vd.two
    exact .inr ⟨_, _, by rw [h.int, h'.int], k.sh S .int hq⟩
  · exact hq.elim
theorem caS_min {K : PySem.W.Frag} : CaS (fun xs H Q => rMin K xs H Q ∨ ∃ i j, xs = [.int i, .int j] ∧ Q (.int (if j < i then j else i)) H) fMin := by
  intro g N H0 L H ds vs Qf Q S vd hq k
  unfold fMin at hq; split at hq
  · split at hq
    · obtain ⟨v, rfl, h⟩ := vd.one
      obtain ⟨a, vs, rfl, e, r⟩ := h
      have := intsOf_eq (by assumption)
      subst this
      have := r.ints; subst this
      exact .inl ⟨a, _, rfl, SqL.of e, hq.1, fun m h1 h2 => k.sh S .int (hq.2 m h1 h2)⟩
    · exact hq.elim
  · obtain ⟨v, v', rfl, h, h'⟩ := vd.two
    exact .inr ⟨_, _, by rw [h.int, h'.int], k.sh S .int hq⟩
  · exact hq.elim
/-- the bools of a list -/
def blsOf : List D → Option (List Bool)
  | [] => some []
  | .bl i :: ds => (blsOf ds).map (i :: ·)
  | _ :: _ => none
theorem blsOf_map (ns : List Bool) : blsOf (ns.map D.bl) = some ns := by
  induction ns with
  | nil => rfl
  | cons n ns ih => simp [blsOf, ih]
theorem blsOf_eq : ∀ {ds : List D} {ns : List Bool}, blsOf ds = some ns → ds = ns.map D.bl
  | [], ns, h => by simp [blsOf] at h; subst h; rfl
  | .bl i :: ds, ns, h => by
    simp [blsOf] at h
    obtain ⟨ms, h1, rfl⟩ := h
    rw [blsOf_eq h1]; rfl
  | .non :: _, _, h => by cases h
  | .int _ :: _, _, h => by cases h
  | .str _ :: _, _, h => by cases h
  | .tup _ :: _, _, h => by cases h
  | .lst _ :: _, _, h => by cases h
  | .bag _ :: _, _, h => by cases h
  | .scr _ :: _, _, h => by cases h
def fAll : FN := fun ds Q => match ds with
  | [.lst xs] => match blsOf xs with
    | some ns => Q (.sh (.bl (ns.all id)))
    | none => False
  | _ => False
def fAny : FN := fun ds Q => match ds with
  | [.lst xs] => match blsOf xs with
    | some ns => Q (.sh (.bl (ns.any id)))
    | none => False
  | _ => False
theorem caS_all {K : PySem.W.Frag} : CaS (rAll K) fAll := by
  intro g N H0 L H ds vs Qf Q S vd hq k
  unfold fAll at hq; split at hq
  · split at hq
    · obtain ⟨v, rfl, h⟩ := vd.one
      obtain ⟨a, vs, rfl, e, r⟩ := h
      have := blsOf_eq (by assumption)
      subst this
      have := r.bls; subst this
      exact ⟨a, _, rfl, SqL.of e, k.sh S .bl hq⟩
    · exact hq.elim
  · exact hq.elim
theorem caS_any {K : PySem.W.Frag} : CaS (rAny K) fAny := by
  intro g N H0 L H ds vs Qf Q S vd hq k
  unfold fAny at hq; split at hq
  · split at hq
    · obtain ⟨v, rfl, h⟩ := vd.one
      obtain ⟨a, vs, rfl, e, r⟩ := h
      have := blsOf_eq (by assumption)
      subst this
      have := r.bls; subst this
      exact ⟨a, _, rfl, SqL.of e, k.sh S .bl hq⟩
    · exact hq.elim
  · exact hq.elim
end LV
namespace LV
open PySem PySem.Spec PyProof.Rows L2

/-! ### calls of the text's own defs -/
abbrev VS := List D → (RV → Prop) → Prop
def ResOk (bv : Nat × V) (N : Addr → Prop) (H H' : Hp) (r : RV) (v : V) : Prop := match r with
  | .sh d => Rep bv H' N d v
  | .fr ds => ∃ a vs, v = .ref a ∧ H a = none ∧ H' a = some (.lst vs) ∧ Reps bv H' (fun b => N b ∨ b = a) ds vs
  | .al _ => False
def lift (F : VS) : Sp := fun vs H Q _ => ∃ (g : Bag) (N : Addr → Prop) (ds : List D) (Qf : RV → Prop), Reps g.bv H N ds vs ∧ g.G H ∧ (∀ a, g.B a → N a) ∧ (∀ a, N a → (H a).isSome = true) ∧ F ds Qf ∧
  ∀ r v H', Qf r → Sm g.B H H' → g.G H' → ResOk g.bv N H H' r v → Q v H'
def wCall (F : VS) (wa : WA) : WE := fun s Q => wa s fun rs s1 => fzL s1 rs fun ds s2 => F ds fun r => Q r s2
section
variable {g : Bag} {N : Addr → Prop} {H0 H H' : Hp} {L L' P P' : List En} {s s' : Sg} {σ : L2.St} {r : RV} {v : V}
theorem SR.addOw (S : SR g N H0 L H) (hg : g.G H') (hs : Sm g.B H H') {p : Addr} (hp : H p = none) {ds vs} (hv : H' p = some (.lst vs)) (r : Reps g.bv H' (fun b => Nn N L b ∨ b = p) ds vs) : SR g N H0 ((.ow ds, some (.ref p)) :: L) H' := by
  have S1 := S.grow hg hs
  have h0 := S.h0 hp
  have nf := S.nn_fresh hp
  have hc : ∀ a, cnt a ((Sl.ow ds, some (V.ref p)) :: L) = cnt a L + if a = p then 1 else 0 := fun a => by
    show List.countP _ _ = _
    rw [List.countP_cons]
    by_cases e : a = p
    · subst e; simp [owns]
    · have : owns a (Sl.ow ds, some (V.ref p)) = false := by
        simp only [owns, beq_eq_false_iff_ne, ne_eq, Option.some.injEq, V.ref.injEq]; exact fun z => e z.symm
      simp [this, e]
  have hn' : ∀ a, Nn N ((Sl.ow ds, some (V.ref p)) :: L) a → Nn N L a ∨ a = p := fun a z => z.elim (fun z => .inl (.inl z)) fun z => by
    rw [hc a] at z
    by_cases e : a = p
    · exact .inr e
    · rw [if_neg e] at z; exact .inl (.inr z)
  have hn : ∀ a o, H a = some o → Nn N ((Sl.ow ds, some (V.ref p)) :: L) a → Nn N L a := fun a o e z => (hn' a z).elim id fun w => by
    subst w; rw [hp] at e; cases e
  have hk : ∀ a o, H a = some o → ¬ Nn N L a → H' a = some o := fun a o e n => hs a o e fun b => n (.inl (S.bn a b))
  refine ⟨S1.hg, S1.sm, S1.nd, S1.bn, fun q hq => ?_, fun a => ?_⟩
  · rcases List.mem_cons.mp hq with e | h
    · subst e; exact ⟨p, vs, rfl, h0, hv, r.mono (fun _ _ e _ => e) fun a _ _ z => hn' a z⟩
    · obtain ⟨sl, v⟩ := q
      cases sl with
      | un => trivial
      | sh d => obtain ⟨v, e, r⟩ := S.each _ h; exact ⟨v, e, r.mono hk hn⟩
      | ow es =>
        obtain ⟨a, ws, e, n, h0, hh, r, _⟩ := S.own_n h
        exact ⟨a, ws, e, h0, hs a _ hh fun b => n (S.bn a b), r.mono hk hn⟩
  · rw [hc a]
    by_cases e : a = p
    · subst e
      have : ¬ 0 < cnt a L := fun z => nf (.inr z)
      have : cnt a L = 0 := by omega
      rw [this, if_pos rfl]
      exact Nat.le_refl _
    · rw [if_neg e]; exact S.dist a
theorem SR.res (S : SR g N H0 L H) (hg : g.G H') (hs : Sm g.B H H') (h : ResOk g.bv (Nn N L) H H' r v) : SR g N H0 ((r.sl, some v) :: L) H' ∧ ∀ i, r ≠ .al i := by
  cases r with
  | sh d => exact ⟨(S.grow hg hs).addSh h, fun _ h => nomatch h⟩
  | fr ds =>
    obtain ⟨a, vs, rfl, h1, h2, h3⟩ := h
    exact ⟨S.addOw hg hs h1 h2 h3, fun _ h => nomatch h⟩
  | al i => exact h.elim
end
theorem let_call {F : VS} {wa : WA} {t : TA} {E : XK} (l : LAt t wa) : LEt (tCall (lift F) [] E t) (wCall F wa) := fun g N H0 s σ P H Qw Q hl S h k => by
  refine l g N H0 s σ P H _ _ hl S h fun rs s1 vs H1 hl1 S1 rv h1 => ?_
  obtain ⟨ds, s2, h2, hl2, hd, S2⟩ := SR.fzs (A := []) hl1 S1 rv h1
  have r := S2.reps hd (fun p hp => by simp [hp])
  refine ⟨g, _, ds, _, by rw [List.append_nil]; exact r, S2.hg, fun a b => .inl (S2.bn a b), fun a h => S2.tracked h, h2, fun r v H' h3 hs hg hr => ?_⟩
  obtain ⟨S3, ha⟩ := S2.res hg hs hr
  exact k r s2 v H' hl2 (S3.mid (List.sublist_append_right (pendD ds vs) P)) (RVal.ok ha) h3

/-! ### statements -/
structure LK where
  nx : Sg → Prop
  rt : RV → Prop
  bk : Sg → Prop := fun _ => False
  ct : Sg → Prop := fun _ => False
abbrev WS := LK → Sg → Prop
structure Fits (g : Bag) (N : Addr → Prop) (H0 : Hp) (P : List En) (n : Nat) (K : LK) (D : Ends) : Prop where
  nx : ∀ s' σ' H', s'.length = σ'.length → σ'.length = n → SR g N H0 (s'.zip σ' ++ P) H' → K.nx s' → D.nx σ' H'
  bk : ∀ s' σ' H', s'.length = σ'.length → σ'.length = n → SR g N H0 (s'.zip σ' ++ P) H' → K.bk s' → D.bk σ' H'
  ct : ∀ s' σ' H', s'.length = σ'.length → σ'.length = n → SR g N H0 (s'.zip σ' ++ P) H' → K.ct s' → D.ct σ' H'
  rt : ∀ r v H' L', SR g N H0 ((r.sl, some v) :: L') H' → (∀ i, r ≠ .al i) → K.rt r → D.rt v H'
def LSt (t : TS) (w : WS) : Prop := ∀ (g : Bag) (N : Addr → Prop) (H0 : Hp) (s : Sg) (σ : L2.St) (P : List En) (H : Hp) (K : LK) (D : Ends), s.length = σ.length → SR g N H0 (s.zip σ ++ P) H → w K s → Fits g N H0 P σ.length K D → t D σ H
structure LS (X : Cx) (st : Stmt) (w : WS) : Prop where
  ex : ∃ t, PS X st t ∧ LSt t w
structure LSs (X : Cx) (st : List Stmt) (w : WS) : Prop where
  ex : ∃ t, PSs X st t ∧ LSt t w
def wNext : WS := fun K s => K.nx s
def wSeq (a b : WS) : WS := fun K s => a { K with nx := b K } s
section
variable {X : Cx} {st : Stmt} {rest : List Stmt} {e : Expr} {we : WE} {w w2 : WS} {pos : Pos}
theorem lss_nil : LSs X [] wNext := ⟨⟨_, pss_nil, fun g N H0 s σ P H K D hl S h f => f.nx s σ H hl rfl S h⟩⟩
theorem lss_one (h : LS X st w) : LSs X [st] w := let ⟨t, p, l⟩ := h.ex; ⟨⟨t, pss_one p, l⟩⟩
theorem lss_cons (h : LS X st w) (h2 : LSs X rest w2) : LSs X (st :: rest) (wSeq w w2) := by
  obtain ⟨t, p, l⟩ := h.ex
  obtain ⟨t2, p2, l2⟩ := h2.ex
  refine ⟨⟨_, pss_cons p p2, fun g N H0 s σ P H K D hl S h f => ?_⟩⟩
  exact l g N H0 s σ P H { K with nx := w2 K } _ hl S h ⟨fun s' σ' H' e1 e2 S' h' => l2 g N H0 s' σ' P H' K D e1 S' h' (by rw [e2]; exact f), f.bk, f.ct, f.rt⟩
theorem ls_pass : LS X (.Pass pos) wNext := ⟨⟨_, ps_pass, fun g N H0 s σ P H K D hl S h f => f.nx s σ H hl rfl S h⟩⟩
def wBreak : WS := fun K s => K.bk s
def wCont : WS := fun K s => K.ct s
theorem ls_break : LS X (.Break pos) wBreak := ⟨⟨_, ps_break, fun g N H0 s σ P H K D hl S h f => f.bk s σ H hl rfl S h⟩⟩
theorem ls_cont : LS X (.Continue pos) wCont := ⟨⟨_, ps_continue, fun g N H0 s σ P H K D hl S h f => f.ct s σ H hl rfl S h⟩⟩
/-- an expression whose value is dropped -/
def wDrop (we : WE) : WS := fun K s => we s fun _ s1 => K.nx s1
theorem ls_expr (h : LE X e we) (hs : swapsWith e none pos.line X.env = pure false) : LS X (.Expr e pos) (wDrop we) := by
  obtain ⟨t, p, l⟩ := h.ex
  exact ⟨⟨_, ps_expr p hs, fun g N H0 s σ P H K D hl S h f => l g N H0 s σ P H _ _ hl S h fun r s1 v H1 hl1 S1 _ h1 => f.nx s1 σ H1 hl1 rfl (S1.drop1 (List.sublist_cons_self _ _)) h1⟩⟩
/-- what is handed out of the frame -/
def outW (s : Sg) (r : RV) (Q : RV → Prop) : Prop := match r with
  | .sh d => Q (.sh d)
  | .fr ds => Q (.fr ds)
  | .al i => match s[i]? with
    | some (.sh d) => Q (.sh d)
    | some (.ow ds) => Q (.fr ds)
    | _ => False
def wRet (we : WE) : WS := fun K s => we s fun r s1 => outW s1 r K.rt
theorem SR.only {g N H0 L H} {p : En} (S : SR g N H0 L H) (h : p ∈ L) : SR g N H0 [p] H := S.to (fun a => by
  show List.countP _ _ ≤ _
  rw [List.countP_cons, List.countP_nil]
  split
  · have : 0 < cnt a L := List.countP_pos_iff.mpr ⟨_, h, by assumption⟩
    omega
  · omega) fun q hq => .inl (by rw [List.mem_singleton.mp hq]; exact h)
theorem ls_ret (h : LE X e we) : LS X (.Return (some e) pos) (wRet we) := by
  obtain ⟨t, p, l⟩ := h.ex
  refine ⟨⟨_, ps_ret p, fun g N H0 s σ P H K D hl S h f => l g N H0 s σ P H _ _ hl S h fun r s1 v H1 hl1 S1 rv h1 => ?_⟩⟩
  have hm : ((r.sl, some v) : En) ∈ s1.zip σ ++ (r.sl, some v) :: P := by simp
  cases r with
  | sh d => exact f.rt (.sh d) v H1 [] (S1.only hm) (fun _ h => nomatch h) h1
  | fr ds => exact f.rt (.fr ds) v H1 [] (S1.only hm) (fun _ h => nomatch h) h1
  | al i =>
    simp only [outW] at h1
    have hi : σ[i]? = some (some v) := rv
    cases e : s1[i]? with
    | none => rw [e] at h1; exact h1.elim
    | some x =>
      rw [e] at h1
      have hm' := List.mem_append_left ((RV.sl (.al i), some v) :: P) (zip_get hl1 e hi)
      cases x with
      | un => exact h1.elim
      | sh d => exact f.rt (.sh d) v H1 [] (S1.only hm') (fun _ h => nomatch h) h1
      | ow ds => exact f.rt (.fr ds) v H1 [] (S1.only hm') (fun _ h => nomatch h) h1
def wRetN : WS := fun K _ => K.rt (.sh .non)
theorem ls_retN : LS X (.Return none pos) wRetN := ⟨⟨_, ps_retN, fun g N H0 s σ P H K D hl S h f => f.rt (.sh .non) .non H _ (S.addSh .non) (fun _ h => nomatch h) h⟩⟩
def wIfS (wt : WT) (a b : WS) : WS := fun K s => wt s fun c s1 => if c = true then a K s1 else b K s1
theorem ls_if {c : Expr} {a b : List Stmt} {wt : WT} (hc : LT X c wt) (ha : LSs X a w) (hb : LSs X b w2) : LS X (.If c a b pos) (wIfS wt w w2) := by
  obtain ⟨tc, pc, lc⟩ := hc.ex
  obtain ⟨ta, pa, la⟩ := ha.ex
  obtain ⟨tb, pb, lb⟩ := hb.ex
  refine ⟨⟨_, ps_if pc pa pb, fun g N H0 s σ P H K D hl S h f => lc g N H0 s σ P H _ _ hl S h fun d s1 H1 hl1 S1 h1 => ?_⟩⟩
  cases d with
  | true => exact la g N H0 s1 σ P H1 K D hl1 S1 h1 f
  | false => exact lb g N H0 s1 σ P H1 K D hl1 S1 h1 f
def wNever : WS := fun _ _ => False
theorem ls_never : LS X st wNever := ⟨⟨_, ps_never, fun g N H0 s σ P H K D hl S h f => h.elim⟩⟩

/-! ### targets: a value that is shared -/
abbrev WG := D → Sg → (Sg → Prop) → Prop
abbrev WGs := List D → Sg → (Sg → Prop) → Prop
def LGt (t : TG) (w : WG) (T : List Nat) : Prop := ∀ (g : Bag) (N : Addr → Prop) (H0 : Hp) (s : Sg) (σ : L2.St) (P : List En) (H : Hp) (d : D) (v : V) (Qg : Sg → Prop) (Q : L2.St → Hp → Prop), s.length = σ.length → SR g N H0 (s.zip σ ++ P) H → (Sl.sh d, some v) ∈ P → w d s Qg →
  (∀ s' σ' H', s'.length = σ'.length → σ'.length = σ.length → (∀ i, i ∉ T → σ'[i]? = σ[i]?) → SR g N H0 (s'.zip σ' ++ P) H' → Qg s' → Q σ' H') → t v σ H Q
def LGts (t : TGs) (w : WGs) (T : List Nat) : Prop := ∀ (g : Bag) (N : Addr → Prop) (H0 : Hp) (s : Sg) (σ : L2.St) (P : List En) (H : Hp) (ds : List D) (vs : List V) (Qg : Sg → Prop) (Q : L2.St → Hp → Prop), s.length = σ.length → ds.length = vs.length → SR g N H0 (s.zip σ ++ P) H → (∀ p ∈ pendD ds vs, p ∈ P) → w ds s Qg →
  (∀ s' σ' H', s'.length = σ'.length → σ'.length = σ.length → (∀ i, i ∉ T → σ'[i]? = σ[i]?) → SR g N H0 (s'.zip σ' ++ P) H' → Qg s' → Q σ' H') → t vs σ H Q
structure LG (X : Cx) (e : Expr) (w : WG) (T : List Nat) : Prop where
  ex : ∃ t, PG X e t ∧ LGt t w T
structure LGs (X : Cx) (es : List Expr) (w : WGs) (T : List Nat) : Prop where
  ex : ∃ t, PGs X es t ∧ LGts t w T
def gN (i : Nat) : WG := fun d s Q => Q (s.set i (.sh d))
def gNi : WGs := fun ds s Q => match ds with
  | [] => Q s
  | _ => False
def gCo (w : WG) (u : WGs) : WGs := fun ds s Q => match ds with
  | d :: ds => w d s fun s1 => u ds s1 Q
  | [] => False
def gTu (u : WGs) (n : Nat) : WG := fun d s Q => match d with
  | .tup ds => ds.length = n ∧ u ds s Q
  | .lst ds => ds.length = n ∧ u ds s Q
  | _ => False
theorem zip_put {s : Sg} {σ : L2.St} {z : Sl} {w : Option V} (i : Nat) (hl : s.length = σ.length) (hi : i < s.length) : ∃ A x B, s.zip σ = A ++ x :: B ∧ (s.set i z).zip (σ.set i w) = A ++ (z, w) :: B := by
  induction i generalizing s σ with
  | zero =>
    cases s with
    | nil => simp at hi
    | cons a s =>
      cases σ with
      | nil => simp at hl
      | cons b σ => exact ⟨[], (a, b), s.zip σ, rfl, rfl⟩
  | succ i ih =>
    cases s with
    | nil => simp at hi
    | cons a s =>
      cases σ with
      | nil => simp at hl
      | cons b σ =>
        simp at hi hl
        obtain ⟨A, x, B, e1, e2⟩ := ih hl hi
        exact ⟨(a, b) :: A, x, B, by simp [e1], by simp [e2]⟩
theorem SR.put {g N H0 H} {s : Sg} {σ : L2.St} {P : List En} {z : Sl} {w : Option V} (i : Nat) (hl : s.length = σ.length) (S : SR g N H0 (s.zip σ ++ (z, w) :: P) H) : SR g N H0 ((s.set i z).zip (σ.set i w) ++ P) H := by
  by_cases hi : i < s.length
  · obtain ⟨A, x, B, e1, e2⟩ := zip_put (z := z) (w := w) i hl hi
    rw [e1] at S
    rw [e2]
    refine S.to (fun a => ?_) fun p hp => .inl ?_
    · show List.countP _ _ ≤ List.countP _ _
      simp only [List.countP_append, List.countP_cons]
      omega
    · simp only [List.mem_append, List.mem_cons] at hp ⊢
      rcases hp with (h | h | h) | h
      · exact .inl (.inl h)
      · exact .inr (.inl h)
      · exact .inl (.inr (.inr h))
      · exact .inr (.inr h)
  · rw [List.set_eq_of_length_le (by omega), List.set_eq_of_length_le (by omega)]
    exact S.drop1 (List.sublist_cons_self _ _)
theorem SR.dup {g N H0 H L} (S : SR g N H0 L H) {d : D} {v : V} (h : (Sl.sh d, some v) ∈ L) : SR g N H0 ((.sh d, some v) :: L) H := by
  obtain ⟨w, e, r⟩ := S.each _ h
  cases e; exact S.addSh r
theorem lg_n {i : Nat} {x : Str} (h : PG X (.Name x pos) (gName i)) : LG X (.Name x pos) (gN i) [i] := ⟨⟨_, h, fun g N H0 s σ P H d v Qg Q hl S hm h k =>
  k _ _ H (by simp [hl]) (by simp) (fun j hj => List.getElem?_set_ne (by simp at hj; exact fun e => hj e.symm)) (SR.put i hl ((S.dup (List.mem_append_right _ hm)).mid (List.Sublist.refl _))) h⟩⟩
theorem lgs_nil : LGs X [] gNi [] := ⟨⟨_, pgs_nil, fun g N H0 s σ P H ds vs Qg Q hl hd S hm h k => by
  cases ds with
  | nil =>
    cases vs with
    | nil => exact ⟨rfl, k s σ H hl rfl (fun _ _ => rfl) S h⟩
    | cons _ _ => simp at hd
  | cons _ _ => exact h.elim⟩⟩
theorem lgs_cons {es : List Expr} {w : WG} {u : WGs} {T U : List Nat} (h1 : LG X e w T) (h2 : LGs X es u U) (hs : (assignEach (e :: es) X.env).map (·.2) = assign e X.env :: (assignEach es X.env).map (·.2)) : LGs X (e :: es) (gCo w u) (T ++ U) := by
  obtain ⟨t, p, l⟩ := h1.ex
  obtain ⟨t2, p2, l2⟩ := h2.ex
  refine ⟨⟨_, pgs_cons p p2 hs, fun g N H0 s σ P H ds vs Qg Q hl hd S hm h k => ?_⟩⟩
  cases ds with
  | nil => exact h.elim
  | cons d ds =>
    cases vs with
    | nil => simp at hd
    | cons v vs =>
      refine ⟨v, vs, rfl, l g N H0 s σ P H d v _ _ hl S (hm _ (by simp [pendD])) h fun s1 σ1 H1 e1 e2 a1 S1 h1 => ?_⟩
      exact l2 g N H0 s1 σ1 P H1 ds vs Qg Q e1 (by simpa using hd) S1 (fun p h => hm p (by simp [pendD, h])) h1 fun s2 σ2 H2 e3 e4 a2 => k s2 σ2 H2 e3 (e4.trans e2) fun i hi => by
        simp only [List.mem_append, not_or] at hi
        exact (a2 i hi.2).trans (a1 i hi.1)
theorem Reps.pends {g N H0 L H} (S : SR g N H0 L H) : ∀ {ds vs}, Reps g.bv H (Nn N L) ds vs → SR g N H0 (pendD ds vs ++ L) H
  | _, _, .nil => S
  | _, _, .cons r rs => by
    have S1 := Reps.pends S rs
    have hc : ∀ ds vs a, cnt a (pendD ds vs ++ L) = cnt a L := fun ds vs a => by
      induction ds generalizing vs with
      | nil => rfl
      | cons d ds ih =>
        cases vs with
        | nil => rfl
        | cons v vs =>
          show List.countP _ _ = _
          simp only [pendD, List.cons_append]
          rw [List.countP_cons_of_neg (by simp [owns])]
          exact ih vs
    exact S1.addSh (r.mono (fun _ _ e _ => e) fun a _ _ z => Nn.le (fun a => Nat.le_of_eq (hc _ _ a)) a z)
theorem lg_tu {es : List Expr} {k : Nat} {u : WGs} {n : Nat} {T : List Nat} (hc : X.calm = true) (h : LGs X es u T) (hn : (assignEach es X.env).length = n) (hst : (assignEach es X.env).findIdx? (·.1) = none) : LG X (.Tuple es k pos) (gTu u n) T := by
  obtain ⟨t, p, l⟩ := h.ex
  have pt := pg_tup (pos := pos) (k := k) hc p hn hst
  have pl := pg_lst (pos := pos) (k := k) hc p hn hst
  refine ⟨⟨fun v σ H Q => gTup X.K n t v σ H Q ∨ gLst X.K n t v σ H Q, ⟨fun pins s σ H v u Q I r h => h.elim (pt.run pins s σ H v u Q I r) (pl.run pins s σ H v u Q I r)⟩, fun g N H0 s σ P H d v Qg Q hl S hm h kk => ?_⟩⟩
  have key : ∀ {ds vs}, Reps g.bv H (Nn N (s.zip σ ++ P)) ds vs → u ds s Qg → t vs σ H Q := fun {ds vs} r h => by
    have S1 := Reps.pends S r
    have S2 : SR g N H0 (s.zip σ ++ (pendD ds vs ++ P)) H := S1.perm (List.perm_append_comm_assoc _ _ _)
    refine l g N H0 s σ (pendD ds vs ++ P) H ds vs Qg Q hl r.length S2 (fun p h => List.mem_append_left _ h) h fun s2 σ2 H2 e1 e2 a2 S3 h3 => kk s2 σ2 H2 e1 e2 a2 (S3.drop1 (List.sublist_append_right _ _)) h3
  obtain ⟨w, e, r⟩ := S.each _ (List.mem_append_right _ hm)
  cases e
  unfold gTu at h
  split at h
  · cases r with
    | tup e1 n1 r1 => exact .inl ⟨_, _, rfl, SqT.of e1, by rw [← r1.length]; exact h.1, key r1 h.2⟩
  · cases r with
    | lst e1 n1 r1 => exact .inr ⟨_, _, rfl, SqL.of e1, by rw [← r1.length]; exact h.1, key r1 h.2⟩
  · exact h.elim

/-! ### assignments -/
def placeW (i : Nat) (r : RV) (s : Sg) (Q : Sg → Prop) : Prop := match r with
  | .sh d => Q (s.set i (.sh d))
  | .fr ds => Q (s.set i (.ow ds))
  | .al j => match s[j]? with
    | some (.sh d) => Q (s.set i (.sh d))
    | some (.ow ds) => Q ((s.set j (.sh (.lst ds))).set i (.sh (.lst ds)))
    | _ => False
def wSet (i : Nat) (we : WE) : WS := fun K s => we s fun r s1 => placeW i r s1 K.nx
theorem SR.place {g N H0 H} {s : Sg} {σ : L2.St} {P : List En} {r : RV} {v : V} {i : Nat} {Q : Sg → Prop} (hl : s.length = σ.length) (S : SR g N H0 (s.zip σ ++ (r.sl, some v) :: P) H) (rv : RVal σ r v) (h : placeW i r s Q) :
    ∃ s', Q s' ∧ s'.length = (σ.set i (some v)).length ∧ SR g N H0 (s'.zip (σ.set i (some v)) ++ P) H := by
  cases r with
  | sh d => exact ⟨_, h, by simp [hl], S.put i hl⟩
  | fr ds => exact ⟨_, h, by simp [hl], S.put i hl⟩
  | al j =>
    have h' : fzW s (.al j) fun d s1 => Q (s1.set i (.sh d)) := by
      simp only [placeW] at h
      simp only [fzW]
      cases e : s[j]? with
      | none => rw [e] at h; exact h
      | some x => rw [e] at h; cases x <;> exact h
    obtain ⟨d, s1, h1, hl1, S1⟩ := SR.fz (A := []) S hl rv h'
    exact ⟨_, h1, by simp [hl1], SR.put i hl1 S1⟩
/-- a reading of name = value, and what is stored -/
theorem let_set {i : Nat} {te : TE} (l : LEt te we) : LSt (tAsg te (gName i)) (wSet i we) := fun g N H0 s σ P H K D hl S h f => by
  refine l g N H0 s σ P H _ _ hl S h fun r s1 v H1 hl1 S1 rv h1 => ?_
  obtain ⟨s2, h2, hl2, S2⟩ := S1.place hl1 rv h1
  exact f.nx s2 _ H1 hl2 (by simp) S2 h2
/-- target = value, the value shared -/
def wAsg (we : WE) (wg : WG) : WS := fun K s => we s fun r s1 => fzW s1 r fun d s2 => wg d s2 K.nx
theorem let_asg {te : TE} {tg : TG} {wg : WG} {T : List Nat} (l : LEt te we) (lg : LGt tg wg T) : LSt (tAsg te tg) (wAsg we wg) := fun g N H0 s σ P H K D hl S h f => by
  refine l g N H0 s σ P H _ _ hl S h fun r s1 v H1 hl1 S1 rv h1 => ?_
  obtain ⟨d, s2, h2, hl2, S2⟩ := SR.fz (A := []) S1 hl1 rv h1
  exact lg g N H0 s2 σ ((.sh d, some v) :: P) H1 d v _ _ hl2 S2 (List.mem_cons_self ..) h2 fun s3 σ3 H3 e1 e2 _ S3 h3 => f.nx s3 σ3 H3 e1 e2 (S3.drop1 (List.sublist_cons_self _ _)) h3
/-- several names at once: what slots hold is given out first -/
def unL (s : Sg) : List RV → (List RV → Sg → Prop) → Prop
  | [], Q => Q [] s
  | .al i :: rs, Q => fzW s (.al i) fun d s1 => unL s1 rs fun rs' s2 => Q (.sh d :: rs') s2
  | r :: rs, Q => unL s rs fun rs' s1 => Q (r :: rs') s1
def putS : List Nat → List RV → Sg → Sg
  | i :: is, r :: rs, s => putS is rs (s.set i r.sl)
  | _, _, s => s
def putV : List Nat → List V → L2.St → L2.St
  | i :: is, v :: vs, σ => putV is vs (σ.set i (some v))
  | _, _, σ => σ
def wPar (is : List Nat) (wa : WA) : WS := fun K s => wa s fun rs s1 => unL s1 rs fun rs' s2 => rs'.length = is.length ∧ K.nx (putS is rs' s2)
theorem SR.un {g N H0 H} {σ : L2.St} : ∀ {rs : List RV} {vs : List V} {s : Sg} {A B : List En} {Qd : List RV → Sg → Prop}, s.length = σ.length → SR g N H0 (s.zip σ ++ (A ++ (pend rs vs ++ B))) H → RVals σ rs vs → unL s rs Qd →
    ∃ rs' s', Qd rs' s' ∧ s'.length = σ.length ∧ rs'.length = vs.length ∧ SR g N H0 (s'.zip σ ++ (A ++ (pend rs' vs ++ B))) H
  | [], _, s, _, _, _, hl, S, .nil, h => ⟨[], s, h, hl, rfl, S⟩
  | .al i :: rs, v :: vs, s, A, B, _, hl, S, .cons a b, h => by
    obtain ⟨d, s1, h1, hl1, S1⟩ := SR.fz (A := A) (B := pend rs vs ++ B) (r := .al i) (v := v) S hl a h
    have e : ∀ (s : Sg) (X : List En), s.zip σ ++ (A ++ (Sl.sh d, some v) :: X) = s.zip σ ++ ((A ++ [(Sl.sh d, some v)]) ++ X) := fun s X => by simp
    rw [e] at S1
    obtain ⟨ds, s2, h2, hl2, hn, S2⟩ := SR.un hl1 S1 b h1
    rw [← e] at S2
    exact ⟨.sh d :: ds, s2, h2, hl2, by simp [hn], S2⟩
  | .sh d :: rs, v :: vs, s, A, B, _, hl, S, .cons a b, h => by
    have e : ∀ (s : Sg) (X : List En), s.zip σ ++ (A ++ (Sl.sh d, some v) :: X) = s.zip σ ++ ((A ++ [(Sl.sh d, some v)]) ++ X) := fun s X => by simp
    have S1 : SR g N H0 (s.zip σ ++ (A ++ (Sl.sh d, some v) :: (pend rs vs ++ B))) H := S
    rw [e] at S1
    obtain ⟨ds, s2, h2, hl2, hn, S2⟩ := SR.un hl S1 b h
    rw [← e] at S2
    exact ⟨.sh d :: ds, s2, h2, hl2, by simp [hn], S2⟩
  | .fr d :: rs, v :: vs, s, A, B, _, hl, S, .cons a b, h => by
    have e : ∀ (s : Sg) (X : List En), s.zip σ ++ (A ++ (Sl.ow d, some v) :: X) = s.zip σ ++ ((A ++ [(Sl.ow d, some v)]) ++ X) := fun s X => by simp
    have S1 : SR g N H0 (s.zip σ ++ (A ++ (Sl.ow d, some v) :: (pend rs vs ++ B))) H := S
    rw [e] at S1
    obtain ⟨ds, s2, h2, hl2, hn, S2⟩ := SR.un hl S1 b h
    rw [← e] at S2
    exact ⟨.fr d :: ds, s2, h2, hl2, by simp [hn], S2⟩
theorem putV_length : ∀ (is : List Nat) (vs : List V) (σ : L2.St), (putV is vs σ).length = σ.length
  | [], _, _ => rfl
  | _ :: _, [], _ => rfl
  | i :: is, v :: vs, σ => by simp [putV, putV_length is vs]
theorem SR.puts {g N H0 H P} : ∀ {is : List Nat} {rs : List RV} {vs : List V} {s : Sg} {σ : L2.St}, s.length = σ.length → rs.length = vs.length → SR g N H0 (s.zip σ ++ (pend rs vs ++ P)) H →
    (putS is rs s).length = (putV is vs σ).length ∧ SR g N H0 ((putS is rs s).zip (putV is vs σ) ++ P) H
  | [], rs, vs, s, σ, hl, _, S => ⟨by simpa [putS, putV] using hl, S.drop1 (List.sublist_append_right _ _)⟩
  | _ :: _, [], [], s, σ, hl, _, S => ⟨by simpa [putS, putV] using hl, S⟩
  | i :: is, r :: rs, v :: vs, s, σ, hl, hn, S => SR.puts (is := is) (s := s.set i r.sl) (σ := σ.set i (some v)) (by simp [hl]) (by simpa using hn) (SR.put i hl S)
  | _ :: _, [], _ :: _, _, _, _, h, _ => by simp at h
  | _ :: _, _ :: _, [], _, _, _, h, _ => by simp at h
theorem let_par {is : List Nat} {ta : TA} {wa : WA} {t : TS} (l : LAt ta wa) (ht : ∀ D σ H, ta σ H (fun vs H1 => vs.length = is.length ∧ D.nx (putV is vs σ) H1) → t D σ H) : LSt t (wPar is wa) := fun g N H0 s σ P H K D hl S h f => by
  refine ht D σ H (l g N H0 s σ P H _ _ hl S h fun rs s1 vs H1 hl1 S1 rv h1 => ?_)
  obtain ⟨rs', s2, h2, hl2, hn, S2⟩ := SR.un (A := []) hl1 S1 rv h1
  obtain ⟨e, S3⟩ := SR.puts (is := is) hl2 hn S2
  exact ⟨hn.symm.trans h2.1, f.nx _ _ H1 e (by rw [putV_length]) S3 h2.2⟩
end
end LV
namespace LV
open PySem PySem.Spec PyProof.Rows L2
section
variable {X : Cx} {e : Expr} {we : WE} {w w2 wb : WS} {wt : WT} {pos : Pos}

/-! ### while -/
def wWhileN (wt : WT) (wb : WS) (K : LK) : Nat → Sg → Prop
  | 0, _ => False
  | n + 1, s => wt s fun b s1 => if b = true then wb { K with nx := wWhileN wt wb K n, ct := wWhileN wt wb K n, bk := K.nx } s1 else K.nx s1
def wWhile (wt : WT) (wb : WS) : WS := fun K s => ∃ n, wWhileN wt wb K n s
theorem ls_while {c : Expr} {body : List Stmt} (hp : PassesOwn (model X.prog X.w) X.A X.env X.xe) (hc : LT X c wt) (hb : LSs X body wb) : LS X (.While c body [] pos) (wWhile wt wb) := by
  obtain ⟨tc, pc, lc⟩ := hc.ex
  obtain ⟨tb, pb, lb⟩ := hb.ex
  refine ⟨⟨_, ps_while hp pc pb, fun g N H0 s σ P H K D hl S h f => ?_⟩⟩
  obtain ⟨n, h⟩ := h
  refine ⟨fun m σ' H' => ∃ s', s'.length = σ'.length ∧ σ'.length = σ.length ∧ SR g N H0 (s'.zip σ' ++ P) H' ∧ wWhileN wt wb K m s', ⟨n, s, hl, rfl, S, h⟩, fun m σ1 H1 ⟨s1, e1, e2, S1, h1⟩ => ?_⟩
  cases m with
  | zero => exact h1.elim
  | succ m =>
    refine lc g N H0 s1 σ1 P H1 _ _ e1 S1 h1 fun b s2 H2 e3 S2 h2 => ?_
    cases b with
    | true =>
      refine ⟨fun σ' H' => ∃ s', s'.length = σ'.length ∧ σ'.length = σ.length ∧ SR g N H0 (s'.zip σ' ++ P) H' ∧ wWhileN wt wb K m s', fun σ' H' h => ⟨m, Nat.lt_succ_self m, h⟩, ?_⟩
      refine lb g N H0 s2 σ1 P H2 _ _ e3 S2 h2 ⟨fun s' σ' H' a b S' h' => ⟨s', a, b.trans e2, S', h'⟩, fun s' σ' H' a b S' h' => f.nx s' σ' H' a (b.trans e2) S' h', fun s' σ' H' a b S' h' => ⟨s', a, b.trans e2, S', h'⟩, f.rt⟩
    | false => exact f.nx s2 σ1 H2 e3 e2 S2 h2

/-! ### what is walked -/
abbrev ZF := List D → Option (List D)
def GoodJ (g : Bag) (N : Addr → Prop) (H0 : Hp) (J : It) (vs : List V) (srcs items : List D) : Prop := ∀ L H, SR g N H0 L H → Views g.bv (Nn N L) H srcs vs → ∀ i,
  (∀ d, items[i]? = some d → J.go i H ∧ ∀ x H', J.yld i H x H' → SR g N H0 ((.sh d, some x) :: L) H') ∧ (items.length = i → J.stop i H)
def LIt (wi : TI) (wa : WA) (z : ZF) : Prop := ∀ (g : Bag) (N : Addr → Prop) (H0 : Hp) (s : Sg) (σ : L2.St) (P : List En) (H : Hp) (Qw : List RV → List D → List D → Sg → Prop) (R : It → Hp → Prop), s.length = σ.length → SR g N H0 (s.zip σ ++ P) H →
  wa s (fun rs s' => rdL s' rs fun srcs => ∃ items, z srcs = some items ∧ Qw rs srcs items s') →
  (∀ rs srcs items s' vs H' J, s'.length = σ.length → SR g N H0 (s'.zip σ ++ (pend rs vs ++ P)) H' → RVals σ rs vs → GoodJ g N H0 J vs srcs items → Qw rs srcs items s' → R J H') → wi σ H R
structure LI (X : Cx) (tg iter : Expr) (wa : WA) (z : ZF) : Prop where
  ex : ∃ wi, PI X tg iter wi ∧ LIt wi wa z
def zSeq : ZF := fun ds => match ds with
  | [.lst xs] => some xs
  | [.tup xs] => some xs
  | _ => none
def w1 (we : WE) : WA := fun s Q => we s fun r s1 => Q [r] s1
theorem good_list {g N H0} (K : PySem.W.Frag) (a : Addr) (ds : List D) : GoodJ g N H0 (Itl K a) [.ref a] [.lst ds] ds := by
  intro L H S vw i
  obtain ⟨v, e, b, vs, e2, ha, r⟩ := vw.one
  cases e; cases e2
  refine ⟨fun d hd => ?_, fun hi => ⟨vs, SqL.of ha, by rw [← r.length]; exact Nat.le_of_eq hi⟩⟩
  obtain ⟨v, hv, rv⟩ := r.get hd
  refine ⟨⟨vs, v, SqL.of ha, hv⟩, fun x H' ⟨e, hx⟩ => ?_⟩
  subst e
  have := hx vs (SqL.of ha)
  rw [hv] at this; cases this
  exact S.addSh rv
theorem good_tup {g N H0} (K : PySem.W.Frag) (a : Addr) (ds : List D) : GoodJ g N H0 (Itt K a) [.ref a] [.tup ds] ds := by
  intro L H S vw i
  obtain ⟨v, e, vt⟩ := vw.one
  obtain ⟨b, vs, e2, ha, na, r⟩ := vt.tup
  cases e; cases e2
  refine ⟨fun d hd => ?_, fun hi => ⟨vs, SqT.of ha, by rw [← r.length]; exact Nat.le_of_eq hi⟩⟩
  obtain ⟨v, hv, rv⟩ := r.get hd
  refine ⟨⟨vs, v, SqT.of ha, hv⟩, fun x H' ⟨e, hx⟩ => ?_⟩
  subst e
  have := hx vs (SqT.of ha)
  rw [hv] at this; cases this
  exact S.addSh rv
theorem pi_or {tg iter : Expr} {w1 w2 : TI} (h1 : PI X tg iter w1) (h2 : PI X tg iter w2) : PI X tg iter fun σ H R => w1 σ H R ∨ w2 σ H R :=
  ⟨fun pins s σ H R I h => h.elim (h1.run pins s σ H R I) (h2.run pins s σ H R I)⟩
theorem it_new {tg : Expr} {pins : List (Addr × Obj)} {σ : L2.St} {H1 : Hp} {s1 : Shared} {ob : Obj} {J : It} {R : It → Hp → Prop} {tn : Nat → Heap → Prop} (I1 : Inv X pins σ H1 s1)
    (tr : Turn X.prog X.w X.K tg J [s1.heap.objs.size] s1.heap.objs.size tn) (t0 : tn 0 (s1.heap.push ob)) (q : R J H1) : PIE X pins σ tg R (.ref s1.heap.objs.size) { s1 with heap := s1.heap.push ob } := by
  have nw : H1 s1.heap.objs.size = none := I1.hok.fresh (Nat.le_refl _)
  refine ⟨_, _, tn, J, H1, rfl, I1.kept (t' := s1.toks) fun _ _ ee => Heap.get?_push_of_some _ ee, tr, t0, ?_, q⟩
  intro b hb
  rw [List.mem_singleton.mp hb]
  exact I1.fpOk (Nat.le_refl _) nw
theorem it_seq {tg : Expr} {pins : List (Addr × Obj)} {σ : L2.St} {H1 : Hp} {s1 : Shared} {a : Addr} {R : It → Hp → Prop} (I1 : Inv X pins σ H1 s1)
    (q : ((∃ xs, H1 a = some (.lst xs)) ∧ R (Itl X.K a) H1) ∨ ((∃ xs, H1 a = some (.tup xs)) ∧ R (Itt X.K a) H1)) : wpAny (model X.prog X.w) X.A (pyIter (.ref a)) (PIE X pins σ tg R) X.xe s1 := by
  rcases q with ⟨⟨xs, hx⟩, q⟩ | ⟨⟨xs, hx⟩, q⟩
  · obtain ⟨its, _, pl, _⟩ := I1.list (SqL.of hx)
    exact wpAny_pyIter_list pl.isList (it_new I1 (turn_list a _) ⟨_, Heap.get?_push_size _ rfl, rfl, rfl⟩ q)
  · obtain ⟨its, _, pt, _⟩ := I1.tuple (SqT.of hx)
    exact wpAny_pyIter_tuple (show s1.heap.IsTuple a its.toArray from pt) (it_new I1 (turn_tuple a _) ⟨_, Heap.get?_push_size _ rfl, rfl, rfl⟩ q)
theorem li_seq {tg : Expr} (h : LE X e we) : LI X tg e (w1 we) zSeq := by
  obtain ⟨t, p, l⟩ := h.ex
  refine ⟨⟨fun σ H R => t σ H fun x H1 => ∃ a, x = .ref a ∧ (((∃ xs, H1 a = some (.lst xs)) ∧ R (Itl X.K a) H1) ∨ ((∃ xs, H1 a = some (.tup xs)) ∧ R (Itt X.K a) H1)), ?_, ?_⟩⟩
  · refine ⟨fun pins s σ H R I h => thn (p.run pins s σ H _ I h) fun v s1 ⟨x, H1, I1, r1, q1⟩ => ?_⟩
    obtain ⟨a, rfl, q⟩ := q1
    cases r1
    exact it_seq I1 q
  · intro g N H0 s σ P H Qw R hl S hw k
    refine l g N H0 s σ P H _ _ hl S hw fun r s1 v H1 hl1 S1 rv h1 => ?_
    obtain ⟨d, hd, vd⟩ := S1.rd (fun p h => List.mem_append_left _ h) hl1 (by simp) rv h1
    obtain ⟨items, hz, h2⟩ := hd
    cases d with
    | lst ds =>
      obtain ⟨a, vs, rfl, ea, ra⟩ := vd
      cases hz
      exact ⟨a, rfl, .inl ⟨⟨vs, ea⟩, k [r] _ _ s1 [.ref a] H1 _ hl1 S1 (.cons rv .nil) (good_list X.K a _) h2⟩⟩
    | tup ds =>
      obtain ⟨a, vs, rfl, ea, na, ra⟩ := vd.tup
      cases hz
      exact ⟨a, rfl, .inr ⟨⟨vs, ea⟩, k [r] _ _ s1 [.ref a] H1 _ hl1 S1 (.cons rv .nil) (good_tup X.K a _) h2⟩⟩
    | _ => cases hz
/-- range -/
def rngD (lo : Int) (n : Nat) : List D := (List.range n).map fun (i : Nat) => .int (lo + (i : Int))
def rgOk (i : Int) : Bool := decide (-(2 ^ 62) ≤ i) && decide (i < 2 ^ 62)
def zRng1 : ZF := fun ds => match ds with
  | [.int j] => if rgOk j = true then some (rngD 0 j.toNat) else none
  | _ => none
def zRng2 : ZF := fun ds => match ds with
  | [.int i, .int j] => if rgOk i = true ∧ rgOk j = true then some (rngD i (j - i).toNat) else none
  | _ => none
theorem good_rng {g N H0} (lo : Int) (n : Nat) (vs : List V) (srcs : List D) : GoodJ g N H0 (Itr lo n) vs srcs (rngD lo n) := by
  intro L H S vw i
  refine ⟨fun d hd => ?_, fun hi => Nat.le_of_eq (by simpa [rngD] using hi : n = i)⟩
  unfold rngD at hd
  rw [List.getElem?_map] at hd
  by_cases hi : i < n
  · rw [List.getElem?_range hi] at hd
    cases hd
    refine ⟨hi, fun x H' ⟨e, hx⟩ => ?_⟩
    subst e; subst hx
    exact S.addSh .int
  · rw [List.getElem?_eq_none (by simpa using hi)] at hd; cases hd
theorem rgOk_of {i : Int} (h : rgOk i = true) : -(2 ^ 62) ≤ i ∧ i < 2 ^ 62 := by
  have := Bool.and_eq_true_iff.mp h
  exact ⟨of_decide_eq_true this.1, of_decide_eq_true this.2⟩
theorem li_rng1 {tg a : Expr} {wa : WA} {p : Pos} (hg : Gl X "range") (hm : X.mg "range" = none) (ha : LA X [a] wa) (hs : starEach [a] X.env = [(false, eval a X.env)]) : LI X tg (.Call (.Name "range" p) [a] [] pos) wa zRng1 := by
  obtain ⟨t, pa, l⟩ := ha.ex
  refine ⟨⟨_, pi_range1 hg hm pa hs, fun g N H0 s σ P H Qw R hl S hw k => ?_⟩⟩
  refine l g N H0 s σ P H _ _ hl S hw fun rs s1 vs H1 hl1 S1 rv h1 => ?_
  obtain ⟨ds, ⟨items, hz, h2⟩, vd⟩ := S1.rds hl1 (fun p h => List.mem_append_left _ h) (fun p h => List.mem_append_right _ (List.mem_append_left _ h)) rv h1
  unfold zRng1 at hz
  split at hz
  · split at hz
    · cases hz
      obtain ⟨v, rfl, vi⟩ := vd.one
      have := vi.int; subst this
      have hh := rgOk_of (by assumption)
      exact ⟨_, rfl, hh.1, hh.2, k rs _ _ s1 _ H1 _ hl1 S1 rv (good_rng _ _ _ _) h2⟩
    · cases hz
  · cases hz
theorem li_rng2 {tg a b : Expr} {wa : WA} {p : Pos} (hg : Gl X "range") (hm : X.mg "range" = none) (ha : LA X [a, b] wa) (hs : starEach [a, b] X.env = [(false, eval a X.env), (false, eval b X.env)]) (hs2 : starEach [b] X.env = [(false, eval b X.env)]) :
    LI X tg (.Call (.Name "range" p) [a, b] [] pos) wa zRng2 := by
  obtain ⟨t, pa, l⟩ := ha.ex
  refine ⟨⟨_, pi_range2 hg hm pa hs hs2, fun g N H0 s σ P H Qw R hl S hw k => ?_⟩⟩
  refine l g N H0 s σ P H _ _ hl S hw fun rs s1 vs H1 hl1 S1 rv h1 => ?_
  obtain ⟨ds, ⟨items, hz, h2⟩, vd⟩ := S1.rds hl1 (fun p h => List.mem_append_left _ h) (fun p h => List.mem_append_right _ (List.mem_append_left _ h)) rv h1
  unfold zRng2 at hz
  split at hz
  · split at hz
    · cases hz
      obtain ⟨v, v', rfl, vi, vj⟩ := vd.two
      have := vi.int; subst this
      have := vj.int; subst this
      obtain ⟨b1, b2⟩ : rgOk _ = true ∧ rgOk _ = true := by assumption
      have h1 := rgOk_of b1
      have h2' := rgOk_of b2
      exact ⟨_, _, rfl, ⟨h1.1, h1.2, h2'.1, h2'.2⟩, k rs _ _ s1 _ H1 _ hl1 S1 rv (good_rng _ _ _ _) h2⟩
    · cases hz
  · cases hz
/-- enumerate of a list -/
def enumD (n : Nat) : List D → List D
  | [] => []
  | d :: ds => .tup [.int (n : Nat), d] :: enumD (n + 1) ds
theorem enumD_get : ∀ (ds : List D) (n i : Nat), (enumD n ds)[i]? = ds[i]?.map fun d => D.tup [.int ((n + i : Nat) : Int), d]
  | [], _, _ => by simp [enumD]
  | d :: ds, n, 0 => by simp [enumD]
  | d :: ds, n, i + 1 => by
    simp only [enumD, List.getElem?_cons_succ]
    rw [enumD_get ds (n + 1) i, show n + 1 + i = n + (i + 1) by omega]
theorem enumD_length : ∀ (ds : List D) (n : Nat), (enumD n ds).length = ds.length
  | [], _ => rfl
  | d :: ds, n => by simp [enumD, enumD_length ds]
def zEnum : ZF := fun ds => match ds with
  | [.lst xs] => some (enumD 0 xs)
  | [.tup xs] => some (enumD 0 xs)
  | _ => none
/-- zip of two lists, of two tuples -/
def zipD : List D → List D → List D
  | d :: ds, e :: es => .tup [d, e] :: zipD ds es
  | _, _ => []
theorem zipD_get : ∀ (ds es : List D) (i : Nat) (x : D), (zipD ds es)[i]? = some x → ∃ d e, ds[i]? = some d ∧ es[i]? = some e ∧ x = .tup [d, e]
  | [], _, _, _, h => by simp [zipD] at h
  | _ :: _, [], _, _, h => by simp [zipD] at h
  | d :: ds, e :: es, 0, x, h => by simp [zipD] at h; exact ⟨d, e, rfl, rfl, h.symm⟩
  | d :: ds, e :: es, i + 1, x, h => by
    simp only [zipD, List.getElem?_cons_succ] at h
    obtain ⟨d', e', h1, h2, h3⟩ := zipD_get ds es i x h
    exact ⟨d', e', by simpa using h1, by simpa using h2, h3⟩
theorem zipD_length : ∀ (ds es : List D), (zipD ds es).length = min ds.length es.length
  | [], _ => by simp [zipD]
  | _ :: _, [] => by simp [zipD]
  | d :: ds, e :: es => by simp [zipD, zipD_length ds es]
def zZip : ZF := fun ds => match ds with
  | [.lst xs, .lst ys] => some (zipD xs ys)
  | [.tup xs, .tup ys] => some (zipD xs ys)
  | [.lst xs, .tup ys] => some (zipD xs ys)
  | [.tup xs, .lst ys] => some (zipD xs ys)
  | _ => none
/-! ### for -/
def wForL (wg : WG) (wb : WS) (K : LK) : List D → Sg → Prop
  | [], s => K.nx s
  | d :: ds, s => wg d s fun s1 => wb { K with nx := wForL wg wb K ds, ct := wForL wg wb K ds, bk := K.nx } s1
def wFor (wa : WA) (z : ZF) (wg : WG) (wb : WS) : WS := fun K s => wa s fun rs s1 => rdL s1 rs fun srcs => ∃ items, z srcs = some items ∧ fzL s1 rs fun srcs' s2 => srcs' = srcs ∧ wForL wg wb K items s2
theorem Views.of : ∀ {bv N H ds vs}, Reps bv H N ds vs → Views bv N H ds vs
  | _, _, _, _, _, .nil => .nil
  | _, _, _, _, _, .cons r rs => .cons (.of r) (Views.of rs)
theorem drop_get {α : Type} {l : List α} {i : Nat} {d : α} {ds : List α} (h : l.drop i = d :: ds) : l[i]? = some d ∧ l.drop (i + 1) = ds := by
  have h1 : l[i]? = some d := by
    have : (l.drop i)[0]? = some d := by rw [h]; rfl
    simpa [List.getElem?_drop] using this
  refine ⟨h1, ?_⟩
  rw [← List.drop_drop, h]; rfl
theorem ls_for {tg iter : Expr} {body : List Stmt} {wa : WA} {z : ZF} {wg : WG} {T : List Nat} (hp : PassesOwn (model X.prog X.w) X.A X.env X.xe) (hc : X.calm = true) (hi : LI X tg iter wa z) (hg : LG X tg wg T) (hb : LSs X body wb)
    (hs : ∀ x, foldedSetIterable iter X.env x = pure x) : LS X (.For tg iter body [] pos) (wFor wa z wg wb) := by
  obtain ⟨wi, pi, li⟩ := hi.ex
  obtain ⟨tt, pt, lt⟩ := hg.ex
  obtain ⟨tb, pb, lb⟩ := hb.ex
  refine ⟨⟨_, ps_for hp hc pi pt pb hs, fun g N H0 s σ P H K D hl S h f => ?_⟩⟩
  refine li g N H0 s σ P H (fun rs srcs items s1 => fzL s1 rs fun srcs' s2 => srcs' = srcs ∧ wForL wg wb K items s2) _ hl S h fun rs srcs items s1 vs H1 J hl1 S1 rv gj h1 => ?_
  obtain ⟨ds, s2, ⟨rfl, h2⟩, hl2, hd, S2⟩ := SR.fzs (A := []) hl1 S1 rv h1
  refine ⟨fun i m σ' H' => ∃ s', s'.length = σ'.length ∧ σ'.length = σ.length ∧ SR g N H0 (s'.zip σ' ++ (pendD ds vs ++ P)) H' ∧ wForL wg wb K (items.drop i) s' ∧ m + i = items.length, ⟨items.length, s2, hl2, rfl, S2, h2, rfl⟩, fun i m σ1 H2 ⟨s3, e1, e2, S3, h3, hm⟩ => ?_⟩
  have gi := gj _ H2 S3 (.of (S3.reps hd (fun p hp => by simp [hp]))) i
  cases hdr : items.drop i with
  | nil =>
    rw [hdr] at h3
    exact .inl ⟨gi.2 (by have := List.drop_eq_nil_iff.mp hdr; omega), f.nx s3 σ1 H2 e1 e2 (S3.drop1 (List.sublist_append_right _ _)) h3⟩
  | cons d rest =>
    rw [hdr] at h3
    obtain ⟨g1, g2⟩ := drop_get hdr
    obtain ⟨hgo, hy⟩ := gi.1 d g1
    refine .inr ⟨hgo, fun σ' H' => ∃ s', s'.length = σ'.length ∧ σ'.length = σ.length ∧ SR g N H0 (s'.zip σ' ++ (pendD ds vs ++ P)) H' ∧ wForL wg wb K (items.drop (i + 1)) s', fun σ' H' ⟨s', a, b, c, d⟩ => ⟨m - 1, ?_, s', a, b, c, d, ?_⟩, fun x H3 hx => ?_⟩
    · have : i < items.length := (List.getElem?_eq_some_iff.mp g1).1
      omega
    · have : i < items.length := (List.getElem?_eq_some_iff.mp g1).1
      omega
    · have S4 := (hy x H3 hx).mid (List.Sublist.refl _)
      refine lt g N H0 s3 σ1 _ H3 d x _ _ e1 S4 (List.mem_cons_self ..) h3 fun s4 σ2 H4 e3 e4 _ S5 h5 => ?_
      rw [← g2] at h5
      have S6 := S5.drop1 (List.sublist_cons_self _ _)
      refine lb g N H0 s4 σ2 (pendD ds vs ++ P) H4 _ _ e3 S6 h5 ⟨fun s' σ' H' a b S' h' => ⟨s', a, b.trans (e4.trans e2), S', h'⟩, fun s' σ' H' a b S' h' => f.nx s' σ' H' a (b.trans (e4.trans e2)) (S'.drop1 (List.sublist_append_right _ _)) h',
        fun s' σ' H' a b S' h' => ⟨s', a, b.trans (e4.trans e2), S', h'⟩, f.rt⟩
end
end LV
/-! zip and enumerate of what is a list or a tuple -/
namespace LV
open PySem PySem.Spec PyProof.Rows L2
/-- a list (false), a tuple (true) -/
def Sk (k : Bool) (K : PySem.W.Frag) (H : Hp) (a : Addr) (xs : List V) : Prop := match k with
  | false => SqL K H a xs
  | true => SqT K H a xs
def Ik (k : Bool) (h : Heap) (it a : Addr) (i : Nat) : Prop := match k with
  | false => h.IsListIter it a i
  | true => h.IsTupleIter it a i
def Okk (k : Bool) (h : Heap) (a : Addr) (its : Array Value) : Prop := match k with
  | false => h.IsList a its
  | true => h.IsTuple a its
abbrev itO (k : Bool) (a : Addr) : Obj := { cls := .type (if k then "tuple_iterator" else "list_iterator"), data := .fields #[.ref a, .int 0 0] }
section
variable {X : Cx} {pins : List (Addr × Obj)} {σ : L2.St} {H : Hp} {s : Shared} {a : Addr} {xs ys : List V}
theorem Sk.items {k : Bool} (I : Inv X pins σ H s) (h : Sk k X.K H a xs) : ∃ its : List Value, Vals xs its ∧ Okk k s.heap a its.toArray := by
  cases k with
  | false => obtain ⟨its, r, p, _⟩ := I.list h; exact ⟨its, r, p.isList⟩
  | true => obtain ⟨its, r, p, _⟩ := I.tuple h; exact ⟨its, r, p⟩
theorem Sk.inj {k : Bool} (I : Inv X pins σ H s) (h : Sk k X.K H a xs) (h' : Sk k X.K H a ys) : xs = ys := by
  cases k with
  | false => exact I.list_inj h h'
  | true => exact I.tuple_inj h h'
theorem Okk.lt {k : Bool} {h : Heap} {its : Array Value} (o : Okk k h a its) : a < h.objs.size := by
  cases k with
  | false => obtain ⟨o, e, _⟩ := o; exact Heap.lt_size e
  | true => obtain ⟨o, e, _⟩ := o; exact Heap.lt_size e
theorem Ik.obj {k : Bool} {h : Heap} {it : Addr} {i : Nat} (o : Ik k h it a i) : ∃ o, h.get? it = some o ∧ ∀ v, o.data ≠ .cell v := by
  cases k with
  | false => obtain ⟨o, e, _, d⟩ := o; exact ⟨o, e, fun v q => by rw [d] at q; cases q⟩
  | true => obtain ⟨o, e, _, d⟩ := o; exact ⟨o, e, fun v q => by rw [d] at q; cases q⟩
theorem Ik.lt {k : Bool} {h : Heap} {it : Addr} {i : Nat} (o : Ik k h it a i) : it < h.objs.size := by obtain ⟨_, e, _⟩ := o.obj; exact Heap.lt_size e
theorem Ik.at {k : Bool} {h h' : Heap} {it : Addr} {i : Nat} (o : Ik k h it a i) (e : ∀ o, h.get? it = some o → h'.get? it = some o) : Ik k h' it a i := by
  cases k with
  | false => exact Heap.IsListIter.at o e
  | true => exact Heap.IsTupleIter.at o e
theorem Ik.new {k : Bool} {h : Heap} {it : Addr} (e : h.get? it = some (itO k a)) : Ik k h it a 0 := by
  cases k with
  | false => exact ⟨_, e, rfl, rfl⟩
  | true => exact ⟨_, e, rfl, rfl⟩
theorem ik_ne {k : Bool} {h : Heap} {it : Addr} {i : Nat} {its : Array Value} (hi : Ik k h it a i) (ho : Okk k h a its) : a ≠ it := fun e => by
  subst e
  cases k with
  | false => obtain ⟨o, e1, c1, d1⟩ := hi; obtain ⟨o', e2, c2, d2⟩ := ho; rw [e1] at e2; cases e2; rw [c1] at c2; exact absurd c2 (by decide)
  | true => obtain ⟨o, e1, c1, d1⟩ := hi; obtain ⟨o', e2, c2, d2⟩ := ho; rw [e1] at e2; cases e2; rw [c1] at c2; exact absurd c2 (by decide)
theorem drk (k : Bool) {prog : Program} {w : World} {A : Around} (hh : A.handled = none) (it a : Addr) (hne : a ≠ it) (items : Array Value) : Draws prog w A it [it, a] items.size (fun i v => items[i]? = some v) (fun i h => Ik k h it a i ∧ Okk k h a items) := by
  cases k with
  | false => exact Draws.list hh it a hne items
  | true => exact Draws.tuple hh it a hne items
theorem begins_k (k : Bool) (a : Addr) (items : Array Value) : Begins (.ref a) (itO k a) fun h => Okk k h a items := by
  cases k with
  | false => exact begins_list a items
  | true => exact begins_tuple a items
end

/-! ### enumerate -/
def ItEn (k : Bool) (K : PySem.W.Frag) (a : Addr) : It :=
  ⟨fun i H => ∃ (xs : List V) (x : V), Sk k K H a xs ∧ xs[i]? = some x, fun i H v H' => ∃ T x, v = .ref T ∧ H T = none ∧ H' = upd H T (.tup [.int (i : Nat), x]) ∧ ∀ xs, Sk k K H a xs → xs[i]? = some x, fun i H => ∃ xs : List V, Sk k K H a xs ∧ xs.length = i⟩
theorem turn_enumA (k : Bool) {P : Program} {w : World} {K : PySem.W.Frag} {elts : List Expr} {kk : Nat} {tpos : Pos} {a e it : Addr} (ne : e ≠ it) (na : e ≠ a) (ni : a ≠ it) :
    Turn P w K (.Tuple elts kk tpos) (ItEn k K a) [e, it] e (fun i h => (∃ old, IsEnum h e it ((i : Nat) : Int) old) ∧ Ik k h it a i) where
  mem := by simp
  obj := fun i h st b hb => by
    obtain ⟨⟨old, he⟩, hi⟩ := st
    have e' : b = e ∨ b = it := by simpa using hb
    rcases e' with z | z
    · rw [z]; exact ⟨_, he, fun v q => nomatch q⟩
    · rw [z]; exact hi.obj
  keep := fun i h h' st kp => let ⟨⟨old, he⟩, hi⟩ := st; ⟨⟨old, kp e (by simp) _ he⟩, hi.at fun o q => kp it (by simp) o q⟩
  item := by
    intro X hP hw hK hc i pins s σ H E I hf st hg
    subst hP hw hK
    obtain ⟨⟨old, he⟩, hit⟩ := st
    obtain ⟨xs, x, hq, hx⟩ := hg
    obtain ⟨its, rv, p⟩ := hq.items I
    obtain ⟨u, hu, ru⟩ := rv.get hx
    have hel : e < s.heap.objs.size := Heap.lt_size he
    have hil := hit.lt
    have hlt : i < its.toArray.size := by
      have := (List.getElem?_eq_some_iff.mp hu).1
      simpa using this
    refine wpAny_pyNext_enum_itemD (drk k (show X.A.in1.handled = none from I.ok.hd hc) it a ni its.toArray) he ⟨hit, p⟩ hlt ne (by simp [ne, na]) fun v h' tk hv ho st' hT hsz hkp => ?_
    have hv : v = u := by
      have : its.toArray[i]? = some u := by simpa using hu
      rw [this] at hv; cases hv; rfl
    subst hv
    refine ⟨_, rfl, wpAny_letOwnedTupleGo_enum (s := { s with heap := h', toks := tk + 1 }) ho fun h'' he' sb => ?_⟩
    have hT2 : h''.get? s.heap.objs.size = some { cls := .type "tuple", data := .seq #[.int i tk, v] } := (sb.2 _ (Nat.ne_of_gt hel)).trans hT
    have new : ObjOk X.prog X.w (upd H s.heap.objs.size (.tup [.int (i : Nat), x])) h'' s.heap.objs.size (.tup [.int (i : Nat), x]) :=
      ⟨by show 2 ≤ sizeLine; decide, [.int i tk, v], .cons ⟨_, rfl⟩ (.cons ru .nil), ⟨_, hT2, rfl, _, rfl⟩⟩
    have I1 : Inv X pins σ (upd H s.heap.objs.size (.tup [.int (i : Nat), x])) { s with heap := h'', toks := tk + 1 } :=
      I.turnedNew (ch := [e, it]) (fun b ob hb q => (sb.2 b (fun z => hb (by simp [z]))).trans (hkp b ob (fun z => hb (by simp [z])) (fun z => hb (by simp [z])) q)) hf (Nat.le_refl _) new
    refine ⟨.ref s.heap.objs.size, _, I1, rfl, ⟨_, x, rfl, I.hok.fresh (Nat.le_refl _), rfl, fun ys hy => by rw [hy.inj I hq]; exact hx⟩, ⟨⟨v, ?_⟩, st'.1.at fun o q => (sb.2 it (Ne.symm ne)).trans q⟩, fun b hb => ?_⟩
    · have e1 : ((i + 1 : Nat) : Int) = (i : Int) + 1 := by omega
      rw [e1]; exact he'
    · have hb' : b < s.heap.objs.size := by
        have e' : b = e ∨ b = it := by simpa using hb
        rcases e' with z | z
        · rw [z]; exact hel
        · rw [z]; exact hil
      rw [upd_ne (Nat.ne_of_lt hb')]
      exact (hf b hb).1
  done := by
    intro X hP hw hK hc i pins s σ H E I hf st hg
    subst hP hw hK
    obtain ⟨⟨old, he⟩, hit⟩ := st
    obtain ⟨xs, hq, hx⟩ := hg
    obtain ⟨its, rv, p⟩ := hq.items I
    obtain ⟨f0, f1, f2, f3, f4, f5⟩ := hf it (by simp)
    have hl := rv.length
    have hi : i = its.toArray.size := by simp; omega
    subst hi
    exact wpAny_pyNext_enum_endD (drk k (show X.A.in1.handled = none from I.ok.hd hc) it a ni its.toArray) he ⟨hit, p⟩ fun h' eb => ⟨rfl, I.turned (t' := s.toks) (fun b o hb q => eb b o hb q) f0 f1 f3 f4 f5⟩
  self := fun A i s Q E st h => let ⟨⟨_, he⟩, _⟩ := st; wpAny_pyIter_enum he h
theorem meets_enumerate_B1 {v : Value} {o : Obj} {H : Heap → Prop} (B : Begins v o H) :
    Meets (Builtin.«enumerate.__new__» ⟨[.type "enumerate", v], []⟩) (fun _ R s => H s.heap ∧
      R (.ok (.ret (.ref (s.heap.push o).objs.size))) { s with heap := (s.heap.push o).push { cls := .type "enumerate", data := .fields #[.none, .bool false, .ref s.heap.objs.size, rawInt 0, .none, .none] } }) :=
  .of_wp fun prog w A R s h => by
    obtain ⟨hp, g, d, tk, os⟩ := s; obtain ⟨h1, h⟩ := h
    have hsub := sub_enumerate
    have q1 : ∀ {A' : Around} {E : Value → Shared → Prop} {Q : Value → Shared → Prop}, Q (.ref hp.objs.size) ⟨hp.push o, g, d, tk, os⟩ → wpAny (model prog w) A' (pyIter v) Q E ⟨hp, g, d, tk, os⟩ :=
      fun q => B.iter prog w _ _ ⟨hp, g, d, tk, os⟩ _ h1 q
    wp_walk using q1
    refine wpAny_stack_any fun st => wpAny_pure ?_
    split
    · rename_i c _ _ _ _ _
      cases (c == Value.type "enumerate")
      · wp_walk using q1
        exact ⟨_, rfl, h⟩
      · wp_walk using q1
        exact ⟨_, rfl, h⟩
    · wp_walk using q1
      exact ⟨_, rfl, h⟩
theorem call_enumerate_B {prog : Program} {w : World} {A : Around} {E : Value → Shared → Prop} {s : Shared} {v : Value} {o : Obj} {H : Heap → Prop} {Q : Value → Shared → Prop} (B : Begins v o H) (h1 : H s.heap)
    (h : ∀ h', IsEnum h' (s.heap.objs.size + 1) s.heap.objs.size 0 .none → h'.get? s.heap.objs.size = some o → h'.objs.size = s.heap.objs.size + 2 →
      (∀ b o, s.heap.get? b = some o → h'.get? b = some o) → Q (.ref (s.heap.objs.size + 1)) { s with heap := h' }) :
    wpAny (model prog w) A (call (.type "enumerate") [v]) Q E s := by
  refine callType_new F.called_enumerate (by decide) (F.typeCall_enumerate_1 _) (F.newCall_enumerate_1 _) (fun obj => F.args_object_init_2 obj _) F.entry_enumerate_new
    (meets_enumerate_B1 B) ⟨h1, ?_⟩
  have hz : (s.heap.push o).objs.size = s.heap.objs.size + 1 := Heap.size_push ..
  show _ ∧ _
  rw [hz]
  have he : IsEnum ((s.heap.push o).push { cls := .type "enumerate", data := .fields #[.none, .bool false, .ref s.heap.objs.size, rawInt 0, .none, .none] }) (s.heap.objs.size + 1) s.heap.objs.size 0 .none := by
    have := Heap.get?_push_size (s.heap.push o) (o := { cls := .type "enumerate", data := .fields #[.none, .bool false, .ref s.heap.objs.size, rawInt 0, .none, .none] }) rfl
    rw [hz] at this; exact this
  refine ⟨⟨_, he, rfl⟩, h _ he (Heap.get?_push_of_some _ (Heap.get?_push_size _ B.free)) (by rw [Heap.size_push, hz]) fun b o x => Heap.get?_push_of_some _ (Heap.get?_push_of_some _ x)⟩
def iEnumA (K : PySem.W.Frag) (ta : TA) : TI := fun σ H R => ta σ H fun vs H1 => ∃ k a xs, vs = [.ref a] ∧ Sk k K H1 a xs ∧ R (ItEn k K a) H1
theorem pi_enumA {X : Cx} {e : Expr} {ta : TA} {p pos tpos : Pos} {elts : List Expr} {kk : Nat} (hg : Gl X "enumerate") (hm : X.mg "enumerate" = none) (ha : PA X [e] ta) (hs : starEach [e] X.env = [(false, eval e X.env)]) :
    PI X (.Tuple elts kk tpos) (.Call (.Name "enumerate" p) [e] [] pos) (iEnumA X.K ta) := by
  refine ⟨fun pins s σ H R I h => ?_⟩
  refine Call_ (ld_blt I hg hm boot_enumerate (PyProof.Rows.callWith_type1 (thn (ha.run pos pins s σ H _ I h) fun us s1 ⟨vs, H1, I1, r1, q1⟩ => ?_) hs rfl))
  obtain ⟨k, a, xs, ex, hq, q⟩ := q1
  subst ex
  cases r1 with
  | cons r rr =>
    cases rr
    cases r
    obtain ⟨its, rv, p'⟩ := hq.items I1
    have hlt := p'.lt
    refine call_enumerate_B (begins_k k a its.toArray) p' fun h' he hit hsz hk => wpAny_pyIter_enum he ?_
    have I2 : Inv X pins σ H1 { s1 with heap := h' } := I1.kept (t' := s1.toks) hk
    have n1 : s1.heap.objs.size + 1 ≠ a := Nat.ne_of_gt (Nat.lt_succ_of_lt hlt)
    have n2 : a ≠ s1.heap.objs.size := Nat.ne_of_lt hlt
    refine ⟨s1.heap.objs.size + 1, [s1.heap.objs.size + 1, s1.heap.objs.size], _, _, H1, rfl, I2, turn_enumA k (Nat.succ_ne_self _) n1 n2, ⟨⟨.none, he⟩, .new hit⟩, fun b hb => ?_, q⟩
    have e' : b = s1.heap.objs.size + 1 ∨ b = s1.heap.objs.size := by simpa using hb
    have hle : s1.heap.objs.size ≤ b := by
      rcases e' with z | z
      · rw [z]; exact Nat.le_add_right _ _
      · rw [z]; exact Nat.le_refl _
    exact I1.fpOk hle (I1.hok.fresh hle)
section
variable {X : Cx} {pos : Pos}
theorem good_enumA {g N H0} (k : Bool) (K : PySem.W.Frag) (a : Addr) (d0 : D) (ds : List D) (hv : ∀ {bv N H}, View bv N H d0 (.ref a) → ∃ vs, Sk k K H a vs ∧ Reps bv H N ds vs) : GoodJ g N H0 (ItEn k K a) [.ref a] [d0] (enumD 0 ds) := by
  intro L H S vw i
  obtain ⟨v, e, vd⟩ := vw.one
  cases e
  obtain ⟨vs, ha, r⟩ := hv vd
  refine ⟨fun d hd => ?_, fun hi => ?_⟩
  · rw [enumD_get, Option.map_eq_some_iff] at hd
    obtain ⟨d', hd, rfl⟩ := hd
    obtain ⟨v, hv', rv⟩ := r.get hd
    refine ⟨⟨vs, v, ha, hv'⟩, fun x H' ⟨T, y, e, hT, e2, hx⟩ => ?_⟩
    subst e; subst e2
    have := hx vs ha
    rw [hv'] at this; cases this
    rw [Nat.zero_add]
    exact S.newT hT (.cons .int (.cons rv .nil))
  · subst hi
    exact ⟨vs, ha, by rw [← r.length, enumD_length]⟩
theorem view_lst {bv N H a} {ds : List D} (K : PySem.W.Frag) (h : View bv N H (.lst ds) (.ref a)) : ∃ vs, Sk false K H a vs ∧ Reps bv H N ds vs := by
  obtain ⟨b, vs, e, hh, r⟩ := h
  cases e; exact ⟨vs, SqL.of hh, r⟩
theorem view_tup {bv N H a} {ds : List D} (K : PySem.W.Frag) (h : View bv N H (.tup ds) (.ref a)) : ∃ vs, Sk true K H a vs ∧ Reps bv H N ds vs := by
  obtain ⟨b, vs, e, hh, _, r⟩ := View.tup h
  cases e; exact ⟨vs, SqT.of hh, r⟩
theorem view_ref {bv N H v} {ds : List D} (h : View bv N H (.lst ds) v) : ∃ a, v = .ref a := by obtain ⟨a, _, e, _⟩ := h; exact ⟨a, e⟩
theorem view_refT {bv N H v} {ds : List D} (h : View bv N H (.tup ds) v) : ∃ a, v = .ref a := by obtain ⟨a, _, e, _⟩ := View.tup h; exact ⟨a, e⟩
theorem li_enum {a tpos} {elts : List Expr} {kk : Nat} {wa : WA} {p : Pos} (hg : Gl X "enumerate") (hm : X.mg "enumerate" = none) (ha : LA X [a] wa) (hs : starEach [a] X.env = [(false, eval a X.env)]) :
    LI X (.Tuple elts kk tpos) (.Call (.Name "enumerate" p) [a] [] pos) wa zEnum := by
  obtain ⟨t, pa, l⟩ := ha.ex
  refine ⟨⟨_, pi_enumA hg hm pa hs, fun g N H0 s σ P H Qw R hl S hw k => ?_⟩⟩
  refine l g N H0 s σ P H _ _ hl S hw fun rs s1 vs H1 hl1 S1 rv h1 => ?_
  obtain ⟨ds, ⟨items, hz, h2⟩, vd⟩ := S1.rds hl1 (fun p h => List.mem_append_left _ h) (fun p h => List.mem_append_right _ (List.mem_append_left _ h)) rv h1
  unfold zEnum at hz
  split at hz
  · cases hz
    obtain ⟨v, rfl, vd⟩ := vd.one
    obtain ⟨a, rfl⟩ := view_ref vd
    obtain ⟨ws, hs, r⟩ := view_lst X.K vd
    exact ⟨false, a, _, rfl, hs, k rs _ _ s1 _ H1 _ hl1 S1 rv (good_enumA false X.K a _ _ (view_lst X.K)) h2⟩
  · cases hz
    obtain ⟨v, rfl, vd⟩ := vd.one
    obtain ⟨a, rfl⟩ := view_refT vd
    obtain ⟨ws, hs, r⟩ := view_tup X.K vd
    exact ⟨true, a, _, rfl, hs, k rs _ _ s1 _ H1 _ hl1 S1 rv (good_enumA true X.K a _ _ (view_tup X.K)) h2⟩
  · cases hz
end

/-! ### zip of two -/
def ItZi (k1 k2 : Bool) (K : PySem.W.Frag) (a b : Addr) : It :=
  ⟨fun i H => ∃ (xs ys : List V) (x y : V), Sk k1 K H a xs ∧ Sk k2 K H b ys ∧ xs[i]? = some x ∧ ys[i]? = some y,
    fun i H v H' => ∃ T x y, v = .ref T ∧ H T = none ∧ H' = upd H T (.tup [x, y]) ∧ (∀ xs, Sk k1 K H a xs → xs[i]? = some x) ∧ ∀ ys, Sk k2 K H b ys → ys[i]? = some y,
    fun i H => ∃ xs ys : List V, Sk k1 K H a xs ∧ Sk k2 K H b ys ∧ i = min xs.length ys.length⟩
theorem turn_zipB (k1 k2 : Bool) {P : Program} {w : World} {K : PySem.W.Frag} {elts : List Expr} {kk : Nat} {tpos : Pos} {a b z TI TO i1 i2 : Addr} (D : ZipSep2 z TI TO i1 i2 [i1, a] [i2, b]) :
    Turn P w K (.Tuple elts kk tpos) (ItZi k1 k2 K a b) [z, TI, TO, i1, i2] z (fun i h => IsZip h z TI TO .none ∧ IsTupOf2 h TI (.ref i1) (.ref i2) ∧ (∃ x y, IsTupOf2 h TO x y) ∧ Ik k1 h i1 a i ∧ Ik k2 h i2 b i) where
  mem := by simp
  obj := fun i h st c hc => by
    obtain ⟨hz, hTI, ⟨x, y, hTO⟩, h1, h2⟩ := st
    have e' : c = z ∨ c = TI ∨ c = TO ∨ c = i1 ∨ c = i2 := by simpa using hc
    rcases e' with q | q | q | q | q
    · rw [q]; exact ⟨_, hz, fun v q => nomatch q⟩
    · rw [q]; exact ⟨_, hTI, fun v q => nomatch q⟩
    · rw [q]; exact ⟨_, hTO, fun v q => nomatch q⟩
    · rw [q]; exact h1.obj
    · rw [q]; exact h2.obj
  keep := fun i h h' st k => by
    obtain ⟨hz, hTI, ⟨x, y, hTO⟩, h1, h2⟩ := st
    exact ⟨k z (by simp) _ hz, k TI (by simp) _ hTI, ⟨x, y, k TO (by simp) _ hTO⟩, h1.at fun o q => k i1 (by simp) o q, h2.at fun o q => k i2 (by simp) o q⟩
  item := by
    intro X hP hw hK hc i pins s σ H E I hf st hg
    subst hP hw hK
    obtain ⟨hz, hTI, ⟨x0, y0, hTO⟩, h1, h2⟩ := st
    obtain ⟨xs, ys, x, y, hqx, hqy, hx, hy⟩ := hg
    obtain ⟨its, rv, p⟩ := hqx.items I
    obtain ⟨its2, rv2, p2⟩ := hqy.items I
    obtain ⟨u, hu, ru⟩ := rv.get hx
    obtain ⟨u2, hu2, ru2⟩ := rv2.get hy
    have hzl : z < s.heap.objs.size := Heap.lt_size hz
    have hh : X.A.in1.handled = none := I.ok.hd hc
    have lt1 : i < its.toArray.size := by simpa using (List.getElem?_eq_some_iff.mp hu).1
    have lt2 : i < its2.toArray.size := by simpa using (List.getElem?_eq_some_iff.mp hu2).1
    have n1 : a ≠ i1 := ik_ne h1 p
    have n2 : b ≠ i2 := ik_ne h2 p2
    refine wpAny_pyNext_zipD2_item D (drk k1 hh i1 a n1 its.toArray) (drk k2 hh i2 b n2 its2.toArray) hz hTI hTO ⟨h1, p⟩ ⟨h2, p2⟩ lt1 lt2 fun v1 v2 h' tk hv1 hv2 z' TO' h1' h2' hT hsz hk => ?_
    have e1 : v1 = u := by
      have : its.toArray[i]? = some u := by simpa using hu
      rw [this] at hv1; cases hv1; rfl
    have e2 : v2 = u2 := by
      have : its2.toArray[i]? = some u2 := by simpa using hu2
      rw [this] at hv2; cases hv2; rfl
    subst e1; subst e2
    refine ⟨_, rfl, wpAny_letOwnedTupleGo_zip (s := { s with heap := h', toks := tk }) z' fun h'' z'' sb => ?_⟩
    have hT2 : h''.get? s.heap.objs.size = some { cls := .type "tuple", data := .seq #[v1, v2] } := (sb.2 _ (Nat.ne_of_gt hzl)).trans hT
    have new : ObjOk X.prog X.w (upd H s.heap.objs.size (.tup [x, y])) h'' s.heap.objs.size (.tup [x, y]) :=
      ⟨by show 2 ≤ sizeLine; decide, [v1, v2], .cons ru (.cons ru2 .nil), ⟨_, hT2, rfl, _, rfl⟩⟩
    have I1 : Inv X pins σ (upd H s.heap.objs.size (.tup [x, y])) { s with heap := h'', toks := tk } :=
      I.turnedNew (ch := [z, TI, TO, i1, i2]) (fun c o hb q => (sb.2 c (fun q' => hb (by simp [q']))).trans (hk c o (fun q' => hb (by simp [q'])) (fun q' => hb (by simp [q'])) (fun q' => hb (by simp [q'])) (fun q' => hb (by simp [q'])) q)) hf (Nat.le_refl _) new
    refine ⟨.ref s.heap.objs.size, _, I1, rfl, ⟨_, x, y, rfl, I.hok.fresh (Nat.le_refl _), rfl, fun l hl => by rw [hl.inj I hqx]; exact hx, fun l hl => by rw [hl.inj I hqy]; exact hy⟩, ⟨z'', ?_, ⟨v1, v2, ?_⟩, ?_, ?_⟩, fun c hcm => ?_⟩
    · exact (sb.2 _ D.TIz).trans (hk _ _ D.TIz D.TITO D.TIi1 D.TIi2 hTI)
    · exact (sb.2 _ D.TOz).trans TO'
    · exact h1'.1.at fun o q => (sb.2 _ (Ne.symm D.zi1)).trans q
    · exact h2'.1.at fun o q => (sb.2 _ (Ne.symm D.zi2)).trans q
    · have hlt : c < s.heap.objs.size := by
        have e' : c = z ∨ c = TI ∨ c = TO ∨ c = i1 ∨ c = i2 := by simpa using hcm
        rcases e' with q | q | q | q | q
        · rw [q]; exact hzl
        · rw [q]; exact Heap.lt_size hTI
        · rw [q]; exact Heap.lt_size hTO
        · rw [q]; exact h1.lt
        · rw [q]; exact h2.lt
      rw [upd_ne (Nat.ne_of_lt hlt)]
      exact (hf c hcm).1
  done := by
    intro X hP hw hK hc i pins s σ H E I hf st hg
    subst hP hw hK
    obtain ⟨hz, hTI, ⟨x0, y0, hTO⟩, h1, h2⟩ := st
    obtain ⟨xs, ys, hqx, hqy, hend⟩ := hg
    obtain ⟨its, rv, p⟩ := hqx.items I
    obtain ⟨its2, rv2, p2⟩ := hqy.items I
    have l1 := rv.length
    have l2 := rv2.length
    have s1 : its.toArray.size = xs.length := by simp; omega
    have s2 : its2.toArray.size = ys.length := by simp; omega
    have hh : X.A.in1.handled = none := I.ok.hd hc
    have n1 : a ≠ i1 := ik_ne h1 p
    have n2 : b ≠ i2 := ik_ne h2 p2
    exact wpAny_pyNext_zipD2_end D (drk k1 hh i1 a n1 its.toArray) (drk k2 hh i2 b n2 its2.toArray) hz hTI hTO ⟨h1, p⟩ ⟨h2, p2⟩ (by omega) (by omega) (by omega) fun h' tk hk => ⟨rfl, I.turnedL (ch := [z, TI, TO, i1, i2]) (fun c o hb q =>
      hk c o (fun q' => hb (by simp [q'])) (fun q' => hb (by simp [q'])) (fun q' => hb (by simp [q'])) (fun q' => hb (by simp [q'])) q) hf⟩
  self := fun A i s Q E st h => wpAny_pyIter_zip st.1 h
def iZipB (K : PySem.W.Frag) (ta : TA) : TI := fun σ H R => ta σ H fun vs H1 => ∃ k1 k2 a b xs ys, vs = [.ref a, .ref b] ∧ Sk k1 K H1 a xs ∧ Sk k2 K H1 b ys ∧ R (ItZi k1 k2 K a b) H1
theorem pi_zipB {X : Cx} {e e2 : Expr} {ta : TA} {p pos tpos : Pos} {elts : List Expr} {kk : Nat} (hg : Gl X "zip") (hm : X.mg "zip" = none) (ha : PA X [e, e2] ta)
    (hs : starEach [e, e2] X.env = (false, eval e X.env) :: starEach [e2] X.env) (hpl : (backTo pos (starEach [e2] X.env)).any (·.1) = false) :
    PI X (.Tuple elts kk tpos) (.Call (.Name "zip" p) [e, e2] [] pos) (iZipB X.K ta) := by
  refine ⟨fun pins s σ H R I h => ?_⟩
  refine Call_ (ld_blt I hg hm PyProof.Rows.boot_zip (PyProof.Rows.callWith_type1 (thn (ha.run pos pins s σ H _ I h) fun us s1 ⟨vs, H1, I1, r1, q1⟩ => ?_) hs hpl))
  obtain ⟨k1, k2, a, b, xs, ys, ex, hqx, hqy, q⟩ := q1
  subst ex
  cases r1 with
  | cons r rr =>
    cases rr with
    | cons r' rr =>
      cases rr
      cases r
      cases r'
      obtain ⟨its, rv, p1⟩ := hqx.items I1
      obtain ⟨its2, rv2, p2⟩ := hqy.items I1
      have hla := p1.lt
      have hlb := p2.lt
      refine zip_begins2 (begins_k k1 a its.toArray) (begins_k k2 b its2.toArray) p1 p2 fun h' hz hTI hTO h1 h2 hsz hk => wpAny_pyIter_zip hz ?_
      have I2 : Inv X pins σ H1 { s1 with heap := h' } := I1.kept (t' := s1.toks) hk
      have fresh5 : ∀ c, c ∈ [s1.heap.objs.size + 4, s1.heap.objs.size + 2, s1.heap.objs.size + 3, s1.heap.objs.size, s1.heap.objs.size + 1] → FpOk X pins H1 c := fun c hcm => by
        have e' : c = s1.heap.objs.size + 4 ∨ c = s1.heap.objs.size + 2 ∨ c = s1.heap.objs.size + 3 ∨ c = s1.heap.objs.size ∨ c = s1.heap.objs.size + 1 := by simpa using hcm
        have hle : s1.heap.objs.size ≤ c := by
          rcases e' with z | z | z | z | z
          · rw [z]; exact Nat.le_add_right _ _
          · rw [z]; exact Nat.le_add_right _ _
          · rw [z]; exact Nat.le_add_right _ _
          · rw [z]; exact Nat.le_refl _
          · rw [z]; exact Nat.le_add_right _ _
        exact I1.fpOk hle (I1.hok.fresh hle)
      exact ⟨s1.heap.objs.size + 4, [s1.heap.objs.size + 4, s1.heap.objs.size + 2, s1.heap.objs.size + 3, s1.heap.objs.size, s1.heap.objs.size + 1], _, _, H1, rfl, I2, turn_zipB k1 k2 (zip_sep2 (N := s1.heap.objs.size) (fp1 := [a]) (fp2 := [b]) (fun c hc => by rw [List.mem_singleton.mp hc]; exact hla) (fun c hc => by rw [List.mem_singleton.mp hc]; exact hlb)),
        ⟨hz, hTI, ⟨_, _, hTO⟩, .new h1, .new h2⟩, fresh5, q⟩
section
variable {X : Cx} {pos : Pos}
theorem good_zipB {g N H0} (k1 k2 : Bool) (K : PySem.W.Frag) (a b : Addr) (d1 d2 : D) (ds es : List D) (hv : ∀ {bv N H}, View bv N H d1 (.ref a) → ∃ vs, Sk k1 K H a vs ∧ Reps bv H N ds vs) (hw : ∀ {bv N H}, View bv N H d2 (.ref b) → ∃ vs, Sk k2 K H b vs ∧ Reps bv H N es vs) :
    GoodJ g N H0 (ItZi k1 k2 K a b) [.ref a, .ref b] [d1, d2] (zipD ds es) := by
  intro L H S vw i
  obtain ⟨v, v', e, va, vb⟩ := vw.two
  cases e
  obtain ⟨vs, ha, ra⟩ := hv va
  obtain ⟨ws, hb, rb⟩ := hw vb
  refine ⟨fun d hd => ?_, fun hi => ⟨vs, ws, ha, hb, by rw [← ra.length, ← rb.length, ← hi, zipD_length]⟩⟩
  obtain ⟨x, y, hx, hy, e⟩ := zipD_get _ _ _ _ hd
  subst e
  obtain ⟨v, hv, rv⟩ := ra.get hx
  obtain ⟨w, hw, rw'⟩ := rb.get hy
  refine ⟨⟨vs, ws, v, w, ha, hb, hv, hw⟩, fun x H' ⟨T, p, q, e, hT, e2, h1, h2⟩ => ?_⟩
  subst e; subst e2
  have := h1 vs ha
  rw [hv] at this; cases this
  have := h2 ws hb
  rw [hw] at this; cases this
  exact S.newT hT (.cons rv (.cons rw' .nil))
theorem li_zip {a b : Expr} {tpos} {elts : List Expr} {kk : Nat} {wa : WA} {p : Pos} (hg : Gl X "zip") (hm : X.mg "zip" = none) (ha : LA X [a, b] wa) (hs : starEach [a, b] X.env = (false, eval a X.env) :: starEach [b] X.env) (hpl : (backTo pos (starEach [b] X.env)).any (·.1) = false) :
    LI X (.Tuple elts kk tpos) (.Call (.Name "zip" p) [a, b] [] pos) wa zZip := by
  obtain ⟨t, pa, l⟩ := ha.ex
  refine ⟨⟨_, pi_zipB hg hm pa hs hpl, fun g N H0 s σ P H Qw R hl S hw k => ?_⟩⟩
  refine l g N H0 s σ P H _ _ hl S hw fun rs s1 vs H1 hl1 S1 rv h1 => ?_
  obtain ⟨ds, ⟨items, hz, h2⟩, vd⟩ := S1.rds hl1 (fun p h => List.mem_append_left _ h) (fun p h => List.mem_append_right _ (List.mem_append_left _ h)) rv h1
  have key : ∀ (k1 k2 : Bool) (d1 d2 : D) (xs ys : List D), ds = [d1, d2] → items = zipD xs ys → (∀ {bv N H v}, View bv N H d1 v → ∃ a, v = .ref a) → (∀ {bv N H v}, View bv N H d2 v → ∃ a, v = .ref a) →
      (∀ {bv N H a}, View bv N H d1 (.ref a) → ∃ vs, Sk k1 X.K H a vs ∧ Reps bv H N xs vs) → (∀ {bv N H a}, View bv N H d2 (.ref a) → ∃ vs, Sk k2 X.K H a vs ∧ Reps bv H N ys vs) → iZipB X.K (fun _ H Q => Q vs H) σ H1 R := fun k1 k2 d1 d2 xs ys e1 e2 r1 r2 v1 v2 => by
    subst e1; subst e2
    obtain ⟨v, v', rfl, va, vb⟩ := vd.two
    obtain ⟨a, rfl⟩ := r1 va
    obtain ⟨b, rfl⟩ := r2 vb
    obtain ⟨ws, hs, _⟩ := v1 va
    obtain ⟨us, hu, _⟩ := v2 vb
    exact ⟨k1, k2, a, b, _, _, rfl, hs, hu, k rs _ _ s1 _ H1 _ hl1 S1 rv (good_zipB k1 k2 X.K a b _ _ _ _ v1 v2) h2⟩
  unfold zZip at hz
  split at hz
  · cases hz; exact key false false _ _ _ _ rfl rfl view_ref view_ref (view_lst X.K) (view_lst X.K)
  · cases hz; exact key true true _ _ _ _ rfl rfl view_refT view_refT (view_tup X.K) (view_tup X.K)
  · cases hz; exact key false true _ _ _ _ rfl rfl view_ref view_refT (view_lst X.K) (view_tup X.K)
  · cases hz; exact key true false _ _ _ _ rfl rfl view_refT view_ref (view_tup X.K) (view_lst X.K)
  · cases hz
end
end LV
/-! zip of three lists or tuples -/
namespace LV
open PySem PySem.Spec PyProof.Rows L2
def ItZ3 (k1 k2 k3 : Bool) (K : PySem.W.Frag) (a b c : Addr) : It :=
  ⟨fun i H => ∃ (xs ys zs : List V) (x y z : V), Sk k1 K H a xs ∧ Sk k2 K H b ys ∧ Sk k3 K H c zs ∧ xs[i]? = some x ∧ ys[i]? = some y ∧ zs[i]? = some z,
    fun i H v H' => ∃ T x y z, v = .ref T ∧ H T = none ∧ H' = upd H T (.tup [x, y, z]) ∧ (∀ xs, Sk k1 K H a xs → xs[i]? = some x) ∧ (∀ ys, Sk k2 K H b ys → ys[i]? = some y) ∧ ∀ zs, Sk k3 K H c zs → zs[i]? = some z,
    fun i H => ∃ xs ys zs : List V, Sk k1 K H a xs ∧ Sk k2 K H b ys ∧ Sk k3 K H c zs ∧ i = min xs.length (min ys.length zs.length)⟩
theorem turn_zip3 (k1 k2 k3 : Bool) {P : Program} {w : World} {K : PySem.W.Frag} {elts : List Expr} {kk : Nat} {tpos : Pos} {a b c z TI TO i1 i2 i3 : Addr} (D : ZipSep3 z TI TO i1 i2 i3 [i1, a] [i2, b] [i3, c]) :
    Turn P w K (.Tuple elts kk tpos) (ItZ3 k1 k2 k3 K a b c) [z, TI, TO, i1, i2, i3] z (fun i h => IsZip h z TI TO .none ∧ IsTupOf3 h TI (.ref i1) (.ref i2) (.ref i3) ∧ (∃ x y u, IsTupOf3 h TO x y u) ∧ Ik k1 h i1 a i ∧ Ik k2 h i2 b i ∧ Ik k3 h i3 c i) where
  mem := by simp
  obj := fun i h st c hc => by
    obtain ⟨hz, hTI, ⟨x, y, u, hTO⟩, h1, h2, h3⟩ := st
    have e' : c = z ∨ c = TI ∨ c = TO ∨ c = i1 ∨ c = i2 ∨ c = i3 := by simpa using hc
    rcases e' with q | q | q | q | q | q
    · rw [q]; exact ⟨_, hz, fun v q => nomatch q⟩
    · rw [q]; exact ⟨_, hTI, fun v q => nomatch q⟩
    · rw [q]; exact ⟨_, hTO, fun v q => nomatch q⟩
    · rw [q]; exact h1.obj
    · rw [q]; exact h2.obj
    · rw [q]; exact h3.obj
  keep := fun i h h' st k => by
    obtain ⟨hz, hTI, ⟨x, y, u, hTO⟩, h1, h2, h3⟩ := st
    exact ⟨k z (by simp) _ hz, k TI (by simp) _ hTI, ⟨x, y, u, k TO (by simp) _ hTO⟩, h1.at fun o q => k i1 (by simp) o q, h2.at fun o q => k i2 (by simp) o q, h3.at fun o q => k i3 (by simp) o q⟩
  item := by
    intro X hP hw hK hc i pins s σ H E I hf st hg
    subst hP hw hK
    obtain ⟨hz, hTI, ⟨x0, y0, u0, hTO⟩, h1, h2, h3⟩ := st
    obtain ⟨xs, ys, zs, x, y, r, hqx, hqy, hqz, hx, hy, hr⟩ := hg
    obtain ⟨its, rv, p⟩ := hqx.items I
    obtain ⟨its2, rv2, p2⟩ := hqy.items I
    obtain ⟨its3, rv3, p3⟩ := hqz.items I
    obtain ⟨u, hu, ru⟩ := rv.get hx
    obtain ⟨u2, hu2, ru2⟩ := rv2.get hy
    obtain ⟨u3, hu3, ru3⟩ := rv3.get hr
    have hzl : z < s.heap.objs.size := Heap.lt_size hz
    have hh : X.A.in1.handled = none := I.ok.hd hc
    have lt1 : i < its.toArray.size := by simpa using (List.getElem?_eq_some_iff.mp hu).1
    have lt2 : i < its2.toArray.size := by simpa using (List.getElem?_eq_some_iff.mp hu2).1
    have lt3 : i < its3.toArray.size := by simpa using (List.getElem?_eq_some_iff.mp hu3).1
    refine wpAny_pyNext_zipD3_item D (drk k1 hh i1 a (ik_ne h1 p) its.toArray) (drk k2 hh i2 b (ik_ne h2 p2) its2.toArray) (drk k3 hh i3 c (ik_ne h3 p3) its3.toArray) hz hTI hTO ⟨h1, p⟩ ⟨h2, p2⟩ ⟨h3, p3⟩ lt1 lt2 lt3 fun v1 v2 v3 h' tk hv1 hv2 hv3 z' TO' h1' h2' h3' hT hsz hk => ?_
    have e1 : v1 = u := by
      have : its.toArray[i]? = some u := by simpa using hu
      rw [this] at hv1; cases hv1; rfl
    have e2 : v2 = u2 := by
      have : its2.toArray[i]? = some u2 := by simpa using hu2
      rw [this] at hv2; cases hv2; rfl
    have e3 : v3 = u3 := by
      have : its3.toArray[i]? = some u3 := by simpa using hu3
      rw [this] at hv3; cases hv3; rfl
    subst e1; subst e2; subst e3
    refine ⟨_, rfl, wpAny_letOwnedTupleGo_zip (s := { s with heap := h', toks := tk }) z' fun h'' z'' sb => ?_⟩
    have hT2 : h''.get? s.heap.objs.size = some { cls := .type "tuple", data := .seq #[v1, v2, v3] } := (sb.2 _ (Nat.ne_of_gt hzl)).trans hT
    have new : ObjOk X.prog X.w (upd H s.heap.objs.size (.tup [x, y, r])) h'' s.heap.objs.size (.tup [x, y, r]) :=
      ⟨by show 3 ≤ sizeLine; decide, [v1, v2, v3], .cons ru (.cons ru2 (.cons ru3 .nil)), ⟨_, hT2, rfl, _, rfl⟩⟩
    have I1 : Inv X pins σ (upd H s.heap.objs.size (.tup [x, y, r])) { s with heap := h'', toks := tk } :=
      I.turnedNew (ch := [z, TI, TO, i1, i2, i3]) (fun c o hb q => (sb.2 c (fun q' => hb (by simp [q']))).trans (hk c o (fun q' => hb (by simp [q'])) (fun q' => hb (by simp [q'])) (fun q' => hb (by simp [q'])) (fun q' => hb (by simp [q'])) (fun q' => hb (by simp [q'])) q)) hf (Nat.le_refl _) new
    refine ⟨.ref s.heap.objs.size, _, I1, rfl, ⟨_, x, y, r, rfl, I.hok.fresh (Nat.le_refl _), rfl, fun l hl => by rw [hl.inj I hqx]; exact hx, fun l hl => by rw [hl.inj I hqy]; exact hy, fun l hl => by rw [hl.inj I hqz]; exact hr⟩, ⟨z'', ?_, ⟨v1, v2, v3, ?_⟩, ?_, ?_, ?_⟩, fun c hcm => ?_⟩
    · exact (sb.2 _ D.TIz).trans (hk _ _ D.TIz D.TITO D.TIi1 D.TIi2 D.TIi3 hTI)
    · exact (sb.2 _ D.TOz).trans TO'
    · exact h1'.1.at fun o q => (sb.2 _ (Ne.symm D.zi1)).trans q
    · exact h2'.1.at fun o q => (sb.2 _ (Ne.symm D.zi2)).trans q
    · exact h3'.1.at fun o q => (sb.2 _ (Ne.symm D.zi3)).trans q
    · have hlt : c < s.heap.objs.size := by
        have e' : c = z ∨ c = TI ∨ c = TO ∨ c = i1 ∨ c = i2 ∨ c = i3 := by simpa using hcm
        rcases e' with q | q | q | q | q | q
        · rw [q]; exact hzl
        · rw [q]; exact Heap.lt_size hTI
        · rw [q]; exact Heap.lt_size hTO
        · rw [q]; exact h1.lt
        · rw [q]; exact h2.lt
        · rw [q]; exact h3.lt
      rw [upd_ne (Nat.ne_of_lt hlt)]
      exact (hf c hcm).1
  done := by
    intro X hP hw hK hc i pins s σ H E I hf st hg
    subst hP hw hK
    obtain ⟨hz, hTI, ⟨x0, y0, u0, hTO⟩, h1, h2, h3⟩ := st
    obtain ⟨xs, ys, zs, hqx, hqy, hqz, hend⟩ := hg
    obtain ⟨its, rv, p⟩ := hqx.items I
    obtain ⟨its2, rv2, p2⟩ := hqy.items I
    obtain ⟨its3, rv3, p3⟩ := hqz.items I
    have l1 := rv.length
    have l2 := rv2.length
    have l3 := rv3.length
    have s1 : its.toArray.size = xs.length := by simp; omega
    have s2 : its2.toArray.size = ys.length := by simp; omega
    have s3 : its3.toArray.size = zs.length := by simp; omega
    have hh : X.A.in1.handled = none := I.ok.hd hc
    exact wpAny_pyNext_zipD3_end D (drk k1 hh i1 a (ik_ne h1 p) its.toArray) (drk k2 hh i2 b (ik_ne h2 p2) its2.toArray) (drk k3 hh i3 c (ik_ne h3 p3) its3.toArray) hz hTI hTO ⟨h1, p⟩ ⟨h2, p2⟩ ⟨h3, p3⟩ (by omega) (by omega) (by omega) (by omega) fun h' tk hk => ⟨rfl, I.turnedL (ch := [z, TI, TO, i1, i2, i3]) (fun c o hb q =>
      hk c o (fun q' => hb (by simp [q'])) (fun q' => hb (by simp [q'])) (fun q' => hb (by simp [q'])) (fun q' => hb (by simp [q'])) (fun q' => hb (by simp [q'])) q) hf⟩
  self := fun A i s Q E st h => wpAny_pyIter_zip st.1 h
def iZip3 (K : PySem.W.Frag) (ta : TA) : TI := fun σ H R => ta σ H fun vs H1 => ∃ k1 k2 k3 a b c xs ys zs, vs = [.ref a, .ref b, .ref c] ∧ Sk k1 K H1 a xs ∧ Sk k2 K H1 b ys ∧ Sk k3 K H1 c zs ∧ R (ItZ3 k1 k2 k3 K a b c) H1
theorem pi_zip3 {X : Cx} {e e2 e3 : Expr} {ta : TA} {p pos tpos : Pos} {elts : List Expr} {kk : Nat} (hg : Gl X "zip") (hm : X.mg "zip" = none) (ha : PA X [e, e2, e3] ta)
    (hs : starEach [e, e2, e3] X.env = (false, eval e X.env) :: starEach [e2, e3] X.env) (hpl : (backTo pos (starEach [e2, e3] X.env)).any (·.1) = false) :
    PI X (.Tuple elts kk tpos) (.Call (.Name "zip" p) [e, e2, e3] [] pos) (iZip3 X.K ta) := by
  refine ⟨fun pins s σ H R I h => ?_⟩
  refine Call_ (ld_blt I hg hm PyProof.Rows.boot_zip (PyProof.Rows.callWith_type1 (thn (ha.run pos pins s σ H _ I h) fun us s1 ⟨vs, H1, I1, r1, q1⟩ => ?_) hs hpl))
  obtain ⟨k1, k2, k3, a, b, c, xs, ys, zs, ex, hqx, hqy, hqz, q⟩ := q1
  subst ex
  cases r1 with
  | cons r rr =>
    cases rr with
    | cons r' rr =>
      cases rr with
      | cons r'' rr =>
        cases rr
        cases r
        cases r'
        cases r''
        obtain ⟨its, rv, p1⟩ := hqx.items I1
        obtain ⟨its2, rv2, p2⟩ := hqy.items I1
        obtain ⟨its3, rv3, p3⟩ := hqz.items I1
        have hla := p1.lt
        have hlb := p2.lt
        have hlc := p3.lt
        refine zip_begins3 (begins_k k1 a its.toArray) (begins_k k2 b its2.toArray) (begins_k k3 c its3.toArray) p1 p2 p3 fun h' hz hTI hTO h1 h2 h3 hsz hk => wpAny_pyIter_zip hz ?_
        have I2 : Inv X pins σ H1 { s1 with heap := h' } := I1.kept (t' := s1.toks) hk
        have fresh6 : ∀ c, c ∈ [s1.heap.objs.size + 5, s1.heap.objs.size + 3, s1.heap.objs.size + 4, s1.heap.objs.size, s1.heap.objs.size + 1, s1.heap.objs.size + 2] → FpOk X pins H1 c := fun c hcm => by
          have e' : c = s1.heap.objs.size + 5 ∨ c = s1.heap.objs.size + 3 ∨ c = s1.heap.objs.size + 4 ∨ c = s1.heap.objs.size ∨ c = s1.heap.objs.size + 1 ∨ c = s1.heap.objs.size + 2 := by simpa using hcm
          have hle : s1.heap.objs.size ≤ c := by
            rcases e' with z | z | z | z | z | z
            · rw [z]; exact Nat.le_add_right _ _
            · rw [z]; exact Nat.le_add_right _ _
            · rw [z]; exact Nat.le_add_right _ _
            · rw [z]; exact Nat.le_refl _
            · rw [z]; exact Nat.le_add_right _ _
            · rw [z]; exact Nat.le_add_right _ _
          exact I1.fpOk hle (I1.hok.fresh hle)
        exact ⟨s1.heap.objs.size + 5, [s1.heap.objs.size + 5, s1.heap.objs.size + 3, s1.heap.objs.size + 4, s1.heap.objs.size, s1.heap.objs.size + 1, s1.heap.objs.size + 2], _, _, H1, rfl, I2,
          turn_zip3 k1 k2 k3 (zip_sep3 (N := s1.heap.objs.size) (fp1 := [a]) (fp2 := [b]) (fp3 := [c]) (fun c hc => by rw [List.mem_singleton.mp hc]; exact hla) (fun c hc => by rw [List.mem_singleton.mp hc]; exact hlb) (fun c hc => by rw [List.mem_singleton.mp hc]; exact hlc)),
          ⟨hz, hTI, ⟨_, _, _, hTO⟩, .new h1, .new h2, .new h3⟩, fresh6, q⟩
def zip3D : List D → List D → List D → List D
  | d :: ds, e :: es, f :: fs => .tup [d, e, f] :: zip3D ds es fs
  | _, _, _ => []
theorem zip3D_get : ∀ (ds es fs : List D) (i : Nat) (x : D), (zip3D ds es fs)[i]? = some x → ∃ d e f, ds[i]? = some d ∧ es[i]? = some e ∧ fs[i]? = some f ∧ x = .tup [d, e, f]
  | [], _, _, _, _, h => by simp [zip3D] at h
  | _ :: _, [], _, _, _, h => by simp [zip3D] at h
  | _ :: _, _ :: _, [], _, _, h => by simp [zip3D] at h
  | d :: ds, e :: es, f :: fs, 0, x, h => by simp [zip3D] at h; exact ⟨d, e, f, rfl, rfl, rfl, h.symm⟩
  | d :: ds, e :: es, f :: fs, i + 1, x, h => by
    simp only [zip3D, List.getElem?_cons_succ] at h
    obtain ⟨d', e', f', h1, h2, h3, h4⟩ := zip3D_get ds es fs i x h
    exact ⟨d', e', f', by simpa using h1, by simpa using h2, by simpa using h3, h4⟩
theorem zip3D_length : ∀ (ds es fs : List D), (zip3D ds es fs).length = min ds.length (min es.length fs.length)
  | [], _, _ => by simp [zip3D]
  | _ :: _, [], _ => by simp [zip3D]
  | _ :: _, _ :: _, [] => by simp [zip3D]
  | d :: ds, e :: es, f :: fs => by simp [zip3D, zip3D_length ds es fs]
def zZip3 : ZF := fun ds => match ds with
  | [.lst xs, .lst ys, .lst zs] => some (zip3D xs ys zs)
  | [.lst xs, .lst ys, .tup zs] => some (zip3D xs ys zs)
  | [.tup xs, .tup ys, .tup zs] => some (zip3D xs ys zs)
  | [.tup xs, .tup ys, .lst zs] => some (zip3D xs ys zs)
  | _ => none
theorem Views.three' {bv N H d d' d'' vs} (h : Views bv N H [d, d', d''] vs) : ∃ v v' v'', vs = [v, v', v''] ∧ View bv N H d v ∧ View bv N H d' v' ∧ View bv N H d'' v'' := by
  cases h with
  | cons a b =>
    obtain ⟨v', v'', rfl, c, d⟩ := b.two
    exact ⟨_, _, _, rfl, a, c, d⟩
section
variable {X : Cx} {pos : Pos}
theorem good_zip3 {g N H0} (k1 k2 k3 : Bool) (K : PySem.W.Frag) (a b c : Addr) (d1 d2 d3 : D) (ds es fs : List D) (hv : ∀ {bv N H}, View bv N H d1 (.ref a) → ∃ vs, Sk k1 K H a vs ∧ Reps bv H N ds vs) (hw : ∀ {bv N H}, View bv N H d2 (.ref b) → ∃ vs, Sk k2 K H b vs ∧ Reps bv H N es vs)
    (hu : ∀ {bv N H}, View bv N H d3 (.ref c) → ∃ vs, Sk k3 K H c vs ∧ Reps bv H N fs vs) :
    GoodJ g N H0 (ItZ3 k1 k2 k3 K a b c) [.ref a, .ref b, .ref c] [d1, d2, d3] (zip3D ds es fs) := by
  intro L H S vw i
  obtain ⟨v, v', v'', e, va, vb, vc⟩ := vw.three'
  cases e
  obtain ⟨vs, ha, ra⟩ := hv va
  obtain ⟨ws, hb, rb⟩ := hw vb
  obtain ⟨us, hc, rc⟩ := hu vc
  refine ⟨fun d hd => ?_, fun hi => ⟨vs, ws, us, ha, hb, hc, by rw [← ra.length, ← rb.length, ← rc.length, ← hi, zip3D_length]⟩⟩
  obtain ⟨x, y, z, hx, hy, hz, e⟩ := zip3D_get _ _ _ _ _ hd
  subst e
  obtain ⟨v, hv, rv⟩ := ra.get hx
  obtain ⟨w, hw, rw'⟩ := rb.get hy
  obtain ⟨u, hu, ru⟩ := rc.get hz
  refine ⟨⟨vs, ws, us, v, w, u, ha, hb, hc, hv, hw, hu⟩, fun x H' ⟨T, p, q, r, e, hT, e2, h1, h2, h3⟩ => ?_⟩
  subst e; subst e2
  have := h1 vs ha
  rw [hv] at this; cases this
  have := h2 ws hb
  rw [hw] at this; cases this
  have := h3 us hc
  rw [hu] at this; cases this
  exact S.newT hT (.cons rv (.cons rw' (.cons ru .nil)))
theorem li_zip3 {a b c : Expr} {tpos} {elts : List Expr} {kk : Nat} {wa : WA} {p : Pos} (hg : Gl X "zip") (hm : X.mg "zip" = none) (ha : LA X [a, b, c] wa) (hs : starEach [a, b, c] X.env = (false, eval a X.env) :: starEach [b, c] X.env) (hpl : (backTo pos (starEach [b, c] X.env)).any (·.1) = false) :
    LI X (.Tuple elts kk tpos) (.Call (.Name "zip" p) [a, b, c] [] pos) wa zZip3 := by
  obtain ⟨t, pa, l⟩ := ha.ex
  refine ⟨⟨_, pi_zip3 hg hm pa hs hpl, fun g N H0 s σ P H Qw R hl S hw k => ?_⟩⟩
  refine l g N H0 s σ P H _ _ hl S hw fun rs s1 vs H1 hl1 S1 rv h1 => ?_
  obtain ⟨ds, ⟨items, hz, h2⟩, vd⟩ := S1.rds hl1 (fun p h => List.mem_append_left _ h) (fun p h => List.mem_append_right _ (List.mem_append_left _ h)) rv h1
  have key : ∀ (k1 k2 k3 : Bool) (d1 d2 d3 : D) (xs ys zs : List D), ds = [d1, d2, d3] → items = zip3D xs ys zs → (∀ {bv N H v}, View bv N H d1 v → ∃ a, v = .ref a) → (∀ {bv N H v}, View bv N H d2 v → ∃ a, v = .ref a) → (∀ {bv N H v}, View bv N H d3 v → ∃ a, v = .ref a) →
      (∀ {bv N H a}, View bv N H d1 (.ref a) → ∃ vs, Sk k1 X.K H a vs ∧ Reps bv H N xs vs) → (∀ {bv N H a}, View bv N H d2 (.ref a) → ∃ vs, Sk k2 X.K H a vs ∧ Reps bv H N ys vs) → (∀ {bv N H a}, View bv N H d3 (.ref a) → ∃ vs, Sk k3 X.K H a vs ∧ Reps bv H N zs vs) →
      iZip3 X.K (fun _ H Q => Q vs H) σ H1 R := fun k1 k2 k3 d1 d2 d3 xs ys zs e1 e2 r1 r2 r3 v1 v2 v3 => by
    subst e1; subst e2
    obtain ⟨v, v', v'', rfl, va, vb, vc⟩ := vd.three'
    obtain ⟨a, rfl⟩ := r1 va
    obtain ⟨b, rfl⟩ := r2 vb
    obtain ⟨c, rfl⟩ := r3 vc
    obtain ⟨ws, hs, _⟩ := v1 va
    obtain ⟨us, hu, _⟩ := v2 vb
    obtain ⟨xs', hx, _⟩ := v3 vc
    exact ⟨k1, k2, k3, a, b, c, _, _, _, rfl, hs, hu, hx, k rs _ _ s1 _ H1 _ hl1 S1 rv (good_zip3 k1 k2 k3 X.K a b c _ _ _ _ _ _ v1 v2 v3) h2⟩
  unfold zZip3 at hz
  split at hz
  · cases hz; exact key false false false _ _ _ _ _ _ rfl rfl view_ref view_ref view_ref (view_lst X.K) (view_lst X.K) (view_lst X.K)
  · cases hz; exact key false false true _ _ _ _ _ _ rfl rfl view_ref view_ref view_refT (view_lst X.K) (view_lst X.K) (view_tup X.K)
  · cases hz; exact key true true true _ _ _ _ _ _ rfl rfl view_refT view_refT view_refT (view_tup X.K) (view_tup X.K) (view_tup X.K)
  · cases hz; exact key true true false _ _ _ _ _ _ rfl rfl view_refT view_refT view_ref (view_tup X.K) (view_tup X.K) (view_lst X.K)
  · cases hz
end
end LV
namespace LV
open PySem PySem.Spec PyProof.Rows L2

/-! ### list comprehensions -/
/-- the block's own slots forgotten; and put back -/
def wipeS : List Nat → Sg → Sg
  | [], s => s
  | i :: is, s => (wipeS is s).set i .un
def backS (s : Sg) : List Nat → Sg → Sg
  | [], s4 => s4
  | i :: is, s4 => (backS s is s4).set i (s.getD i .un)
def backV (σ : L2.St) : List Nat → L2.St → L2.St
  | [], σ2 => σ2
  | i :: is, σ2 => (backV σ is σ2).set i (σ.getD i none)
def notOw : Sl → Bool
  | .ow _ => false
  | _ => true
def wTts (wt : Option WT) : WT := match wt with
  | none => fun s Q => Q true s
  | some w => w
def wLcL (rs : List RV) (srcs : List D) (own : List Nat) (wg : WG) (wt : WT) (we : WE) (Q : RV → Sg → Prop) : List D → List D → Sg → Prop
  | [], acc, s => rdL s rs (fun ds => ds = srcs) ∧ Q (.fr acc) s
  | d :: ds, acc, s => rdL s rs (fun ds => ds = srcs) ∧ acc.length < 16777216 ∧ own.all (fun i => notOw (s.getD i .un)) = true ∧
    wg d (wipeS own s) fun s1 => wt s1 fun b s2 => if b = true then we s2 fun r s3 => fzW s3 r fun e s4 => wLcL rs srcs own wg wt we Q ds (acc ++ [e]) (backS s own s4) else wLcL rs srcs own wg wt we Q ds acc (backS s own s2)
def wLc (wa : WA) (z : ZF) (own : List Nat) (wg : WG) (wt : WT) (we : WE) : WE := fun s Q => wa s fun rs s1 => rdL s1 rs fun srcs => ∃ items, z srcs = some items ∧ wLcL rs srcs own wg wt we Q items [] s1

section
variable {g : Bag} {N : Addr → Prop} {H0 H H' : Hp} {L L' P P' : List En} {s s' : Sg} {σ σ2 : L2.St} {r : RV} {v : V}
theorem wipeS_length : ∀ (own : List Nat) (s : Sg), (wipeS own s).length = s.length
  | [], _ => rfl
  | i :: is, s => by simp [wipeS, wipeS_length is]
theorem backS_length : ∀ (own : List Nat) (s4 : Sg), (backS s own s4).length = s4.length
  | [], _ => rfl
  | i :: is, s => by simp [backS, backS_length is]
theorem backV_length : ∀ (own : List Nat) (σ2 : L2.St), (backV σ own σ2).length = σ2.length
  | [], _ => rfl
  | i :: is, s => by simp [backV, backV_length is]
/-- entries that are put into slots: not owners -/
theorem SR.put' {z : Sl} {w : Option V} (i : Nat) (hl : s.length = σ.length) (hm : (z, w) ∈ P) (hz : notOw z = true) (S : SR g N H0 (s.zip σ ++ P) H) : SR g N H0 ((s.set i z).zip (σ.set i w) ++ P) H := by
  refine SR.put i hl (S.to (L' := s.zip σ ++ (z, w) :: P) (fun a => ?_) fun p hp => .inl ?_)
  · have : owns a (z, w) = false := by cases z <;> first | rfl | cases hz
    show List.countP _ _ ≤ List.countP _ _
    rw [List.countP_append, List.countP_append, List.countP_cons_of_neg (by simp [this])]
    exact Nat.le_refl _
  · simp only [List.mem_append, List.mem_cons] at hp ⊢
    rcases hp with h | h | h
    · exact .inl h
    · subst h; exact .inr hm
    · exact .inr h
theorem SR.wiped : ∀ (own : List Nat) {s : Sg} {σ : L2.St}, s.length = σ.length → SR g N H0 (s.zip σ ++ P) H → SR g N H0 ((wipeS own s).zip (wipe σ own) ++ P) H
  | [], _, _, _, S => S
  | i :: is, s, σ, hl, S => by
    have S1 := SR.wiped is hl S
    have h1 : (wipeS is s).length = (wipe σ is).length := by rw [wipeS_length, wipe_length]; exact hl
    have S2 := S1.addUn (v := none)
    exact SR.put i h1 (S2.mid (List.Sublist.refl _))
theorem SR.backed : ∀ (own : List Nat) {s4 : Sg} {σ2 : L2.St}, s4.length = σ2.length → (∀ i ∈ own, (s.getD i .un, σ.getD i none) ∈ P ∧ notOw (s.getD i .un) = true) → SR g N H0 (s4.zip σ2 ++ P) H → SR g N H0 ((backS s own s4).zip (backV σ own σ2) ++ P) H
  | [], _, _, _, _, S => S
  | i :: is, s4, σ2, hl, hm, S => by
    have S1 := SR.backed is hl (fun j hj => hm j (List.mem_cons_of_mem _ hj)) S
    have h1 : (backS s is s4).length = (backV σ is σ2).length := by rw [backS_length, backV_length]; exact hl
    exact SR.put' i h1 (hm i (List.mem_cons_self ..)).1 (hm i (List.mem_cons_self ..)).2 S1
theorem wipe_get (own : List Nat) (σ : L2.St) (i : Nat) : (wipe σ own)[i]? = if i ∈ own ∧ i < σ.length then some none else σ[i]? := by
  induction own with
  | nil => simp [wipe]
  | cons v vs ih =>
    unfold wipe
    by_cases h : v = i
    · subst h
      by_cases hi : v < σ.length
      · rw [List.getElem?_set_self (by rw [wipe_length]; exact hi), if_pos ⟨List.mem_cons_self .., hi⟩]
      · rw [List.getElem?_eq_none (by simp [wipe_length]; omega), if_neg (fun z => hi z.2), List.getElem?_eq_none (by omega)]
    · rw [List.getElem?_set_ne h, ih]
      have : (i ∈ v :: vs) ↔ i ∈ vs := by simp [Ne.symm h]
      simp only [this]
theorem backV_get (own : List Nat) (σ σ2 : L2.St) (i : Nat) (hl : σ2.length = σ.length) : (backV σ own σ2)[i]? = if i ∈ own then σ[i]? else σ2[i]? := by
  induction own with
  | nil => simp [backV]
  | cons v vs ih =>
    unfold backV
    by_cases h : v = i
    · subst h
      rw [if_pos (List.mem_cons_self ..)]
      by_cases hi : v < σ.length
      · rw [List.getElem?_set_self (by rw [backV_length, hl]; exact hi), List.getD_eq_getElem?_getD, List.getElem?_eq_getElem hi]; rfl
      · rw [List.getElem?_eq_none (by simp [backV_length]; omega), List.getElem?_eq_none (by omega)]
    · rw [List.getElem?_set_ne h, ih]
      have : (i ∈ v :: vs) ↔ i ∈ vs := by simp [Ne.symm h]
      simp only [this]
theorem backV_eq (own : List Nat) (hl : σ2.length = σ.length) (h : ∀ i, i ∉ own → σ2[i]? = σ[i]?) : backV σ own σ2 = σ := by
  refine List.ext_getElem? fun i => ?_
  rw [backV_get own σ σ2 i hl]
  split
  · rfl
  · exact h i (by assumption)
theorem wipe_eq (own : List Nat) (hl : σ2.length = σ.length) (h : ∀ i, i ∉ own → σ2[i]? = σ[i]?) : wipe σ2 own = wipe σ own := by
  refine List.ext_getElem? fun i => ?_
  rw [wipe_get, wipe_get, hl]
  split
  · rfl
  · by_cases hi : i ∈ own
    · have : ¬ i < σ.length := fun z => by simp_all
      rw [List.getElem?_eq_none (by omega), List.getElem?_eq_none (by omega)]
    · exact h i hi
end

section
variable {X : Cx} {e : Expr} {we : WE} {w w2 wb : WS} {wt : WT} {pos : Pos}
structure LTs (X : Cx) (ifs : List Expr) (w : WT) : Prop where
  ex : ∃ t, PTs X ifs t ∧ LTt t w
def wYes : WT := fun s Q => Q true s
theorem lts_nil : LTs X [] wYes := ⟨⟨_, pts_nil, fun g N H0 s σ P H Qw Q hl S h k => k true s H hl S h⟩⟩
theorem lts_one {c : Expr} (h : LT X c wt) : LTs X [c] wt := let ⟨t, p, l⟩ := h.ex; ⟨⟨t, pts_one p, l⟩⟩
/-- the entries of the own slots, kept beside -/
def ownE (s : Sg) (σ : L2.St) (own : List Nat) : List En := own.map fun i => (s.getD i .un, σ.getD i none)
theorem SR.own {g N H0 H} {s : Sg} {σ : L2.St} {P : List En} (own : List Nat) (hl : s.length = σ.length) (hn : own.all (fun i => notOw (s.getD i .un)) = true) (S : SR g N H0 (s.zip σ ++ P) H) : SR g N H0 (s.zip σ ++ (ownE s σ own ++ P)) H := by
  have hno : ∀ p ∈ ownE s σ own, notOw p.1 = true ∧ (p.1 = .un ∨ p ∈ s.zip σ) := fun p hp => by
    obtain ⟨i, hi, rfl⟩ := List.mem_map.mp hp
    refine ⟨(List.all_eq_true.mp hn) i hi, ?_⟩
    by_cases hh : i < s.length
    · right
      have h1 : s[i]? = some (s.getD i .un) := by rw [List.getD_eq_getElem?_getD, List.getElem?_eq_getElem hh]; rfl
      have h2 : σ[i]? = some (σ.getD i none) := by rw [List.getD_eq_getElem?_getD, List.getElem?_eq_getElem (by omega)]; rfl
      exact zip_get hl h1 h2
    · left
      show s.getD i .un = .un
      rw [List.getD_eq_getElem?_getD, List.getElem?_eq_none (by omega)]; rfl
  have hc : ∀ a, (ownE s σ own).countP (owns a) = 0 := fun a => List.countP_eq_zero.mpr fun p hp h => by
    have := (hno p hp).1
    obtain ⟨z, w⟩ := p
    cases z <;> first | (simp [owns] at h; done) | cases this
  refine ⟨S.hg, S.sm, S.nd, S.bn, fun p hp => ?_, fun a => ?_⟩
  · have hle : ∀ a, cnt a (s.zip σ ++ (ownE s σ own ++ P)) ≤ cnt a (s.zip σ ++ P) := fun a => by
      show List.countP _ _ ≤ List.countP _ _
      simp only [List.countP_append, hc a]; omega
    have key : ∀ p, p ∈ s.zip σ ++ P → Ok g.bv (Nn N (s.zip σ ++ (ownE s σ own ++ P))) H0 H p := fun p h => (S.each p h).mono (Nn.le hle)
    simp only [List.mem_append] at hp
    rcases hp with h | h | h
    · exact key p (List.mem_append_left _ h)
    · rcases (hno p h).2 with e | h2
      · obtain ⟨z, w⟩ := p
        simp only at e; subst e; trivial
      · exact key p (List.mem_append_left _ h2)
    · exact key p (List.mem_append_right _ h)
  · have e : cnt a (s.zip σ ++ (ownE s σ own ++ P)) = cnt a (s.zip σ ++ P) := by
      show List.countP _ _ = List.countP _ _
      simp only [List.countP_append, hc a]; omega
    rw [e]; exact S.dist a
theorem let_lc {wi : TI} {g : TG} {tt : TT} {te : TE} {wa : WA} {z : ZF} {own T : List Nat} {wg : WG} (li : LIt wi wa z) (lg : LGt g wg T) (lt : LTt tt wt) (le : LEt te we) (hT : ∀ i ∈ T, i ∈ own) : LEt (tLc wi g tt te own) (wLc wa z own wg wt we) := fun bg N H0 s σ P H Qw Q hl S h k => by
  refine li bg N H0 s σ P H (fun rs srcs items s1 => wLcL rs srcs own wg wt we Qw items [] s1) _ hl S h fun rs srcs items s1 vs H1 J hl1 S1 rv gj h1 => ?_
  intro D hD
  have S1' := S1.newL hD (ds := []) (vs := []) .nil
  refine ⟨fun i m H' => ∃ s' acc, s'.length = σ.length ∧ SR bg N H0 (s'.zip σ ++ (pend rs vs ++ (.ow acc, some (.ref D)) :: P)) H' ∧ wLcL rs srcs own wg wt we Qw (items.drop i) acc s' ∧ m + i = items.length,
    ⟨items.length, s1, [], hl1, S1'.perm ?_, h1, rfl⟩, fun i m H2 ⟨s2, acc, hl2, S2, h2, hm⟩ => ?_⟩
  · refine (List.perm_middle (l₁ := s1.zip σ)).symm.trans (List.Perm.append_left _ List.perm_middle.symm)
  have chk : ∀ {C : Prop}, (rdL s2 rs (fun ds => ds = srcs) ∧ C) → Views bg.bv (Nn N (s2.zip σ ++ (pend rs vs ++ (Sl.ow acc, some (V.ref D)) :: P))) H2 srcs vs := fun h => by
    obtain ⟨ds, e, vw⟩ := S2.rds hl2 (fun p h => List.mem_append_left _ h) (fun p h => List.mem_append_right _ (List.mem_append_left _ h)) rv h.1
    subst e; exact vw
  cases hdr : items.drop i with
  | nil =>
    rw [hdr] at h2
    have gi := gj _ H2 S2 (chk h2) i
    refine .inl ⟨gi.2 (by have := List.drop_eq_nil_iff.mp hdr; omega), ?_⟩
    refine k (.fr acc) s2 (.ref D) H2 hl2 ?_ trivial h2.2
    rw [← List.append_assoc] at S2
    have S3 : SR bg N H0 ((Sl.ow acc, some (V.ref D)) :: (s2.zip σ ++ (pend rs vs ++ P))) H2 := S2.perm (by
      rw [← List.append_assoc]
      exact List.perm_middle)
    exact S3.mid (List.sublist_append_right _ _)
  | cons d rest =>
    rw [hdr] at h2
    obtain ⟨g1, g2⟩ := drop_get hdr
    have hlt : i < items.length := (List.getElem?_eq_some_iff.mp g1).1
    have gi := gj _ H2 S2 (chk h2) i
    obtain ⟨hgo, hy⟩ := gi.1 d g1
    obtain ⟨hc, hacc, hno, h3⟩ := h2
    rw [← g2] at h3
    refine .inr ⟨hgo, fun H' => ∃ s' acc, s'.length = σ.length ∧ SR bg N H0 (s'.zip σ ++ (pend rs vs ++ (.ow acc, some (.ref D)) :: P)) H' ∧ wLcL rs srcs own wg wt we Qw (items.drop (i + 1)) acc s', fun H' ⟨s', acc, a, b, c⟩ => ⟨m - 1, by omega, s', acc, a, b, c, by omega⟩, fun x H3 hx => ?_⟩
    -- the turn: the own slots' entries beside, the item pending
    have S3 := SR.own own hl2 hno ((hy x H3 hx).mid (List.Sublist.refl _))
    have S4 := SR.wiped own hl2 S3
    have hl3 : (wipeS own s2).length = (wipe σ own).length := by rw [wipeS_length, wipe_length]; exact hl2
    refine lg bg N H0 (wipeS own s2) (wipe σ own) _ H3 d x _ _ hl3 S4 (by simp) h3 fun s4 σ2 H4 e3 e4 ag S5 h5 => ?_
    have hl4 : σ2.length = σ.length := by rw [e4, wipe_length]
    have ag2 : ∀ i, i ∉ own → σ2[i]? = σ[i]? := fun i hi => by
      rw [ag i (fun z => hi (hT i z)), wipe_get, if_neg (fun z => hi z.1)]
    refine ⟨wipe_eq own hl4 ag2, ?_⟩
    refine lt bg N H0 s4 σ2 _ H4 _ _ e3 S5 h5 fun b s5 H5 e5 S6 h6 => ?_
    have back : ∀ {s6 : Sg} {A : List En} {H6 : Hp}, s6.length = σ2.length → SR bg N H0 (s6.zip σ2 ++ (A ++ (ownE s2 σ own ++ (Sl.sh d, some x) :: (pend rs vs ++ (Sl.ow acc, some (V.ref D)) :: P)))) H6 →
        (backS s2 own s6).length = σ.length ∧ SR bg N H0 ((backS s2 own s6).zip σ ++ (A ++ (pend rs vs ++ (Sl.ow acc, some (V.ref D)) :: P))) H6 := fun {s6 A H6} e S => by
      have S7 := SR.backed (s := s2) (σ := σ) own e (fun i hi => ⟨List.mem_append_right _ (List.mem_append_left _ (List.mem_map.mpr ⟨i, hi, rfl⟩)), (List.all_eq_true.mp hno) i hi⟩) S
      rw [backV_eq own hl4 ag2] at S7
      refine ⟨by rw [backS_length, e, hl4], S7.sub (List.Sublist.append_left (List.Sublist.append_left ?_ _) _)⟩
      exact (List.sublist_cons_self _ _).trans (List.sublist_append_right _ _)
    cases b with
    | false =>
      simp only [if_neg Bool.false_ne_true] at h6 ⊢
      obtain ⟨e7, S7⟩ := back (A := []) e5 S6
      exact ⟨_, acc, e7, S7, h6⟩
    | true =>
      simp only [if_true] at h6 ⊢
      refine le bg N H0 s5 σ2 _ H5 _ _ e5 S6 h6 fun r s6 y H6 e6 S7 ry h7 => ?_
      obtain ⟨de, s7, h8, e8, S8⟩ := SR.fz (A := []) S7 e6 ry h7
      obtain ⟨e9, S9⟩ := back (A := [(Sl.sh de, some y)]) e8 S8
      have hm : ((Sl.ow acc, some (V.ref D)) : En) ∈ (backS s2 own s7).zip σ ++ ([(Sl.sh de, some y)] ++ (pend rs vs ++ (Sl.ow acc, some (V.ref D)) :: P)) := by simp
      obtain ⟨a', vs', e, _, _, hh, rr, _⟩ := S9.own_n hm
      cases e
      refine ⟨vs', hh, by rw [← rr.length, sizeLine_eq]; exact hacc, backS s2 own s7, acc ++ [de], e9, ?_, h8⟩
      obtain ⟨y', ey, ryp⟩ := S9.each (Sl.sh de, some y) (by simp)
      cases ey
      have ea : (backS s2 own s7).zip σ ++ ([(Sl.sh de, some y)] ++ (pend rs vs ++ (Sl.ow acc, some (V.ref D)) :: P)) = ((backS s2 own s7).zip σ ++ ((Sl.sh de, some y) :: pend rs vs)) ++ (Sl.ow acc, some (V.ref D)) :: P := by simp
      rw [ea] at S9 rr ryp
      have S10 := S9.mut (rr.append (.cons ryp .nil))
      refine S10.sub ?_
      simp only [List.append_assoc, List.cons_append]
      exact List.Sublist.append_left (List.sublist_cons_self _ _) _
theorem le_lc {elt tg iter : Expr} {ifs : List Expr} {scope : Scope} {own : List (Str × Nat)} {T : List Nat} {wa : WA} {z : ZF} {wg : WG} (hc : X.calm = true) (hN : X.N.Nodup) (hi : LI X tg iter wa z) (ok : BlkOk X.N X.env.scope scope own)
    (hg : ∃ g, LGt g wg T ∧ ∀ (s : Shared) (H : Hp) (C : Addr) (cl : List (Str × Addr)) (fp : List Addr), PG (X.blk s H scope (compEnvC scope cl C X.env) fp) tg g)
    (ht : ∃ t, LTt t wt ∧ ∀ (s : Shared) (H : Hp) (C : Addr) (cl : List (Str × Addr)) (fp : List Addr), PTs (X.blk s H scope (compEnvC scope cl C X.env) fp) ifs t)
    (he : ∃ t, LEt t we ∧ ∀ (s : Shared) (H : Hp) (C : Addr) (cl : List (Str × Addr)) (fp : List Addr), PE (X.blk s H scope (compEnvC scope cl C X.env) fp) elt t)
    (hT : ∀ i ∈ T, i ∈ own.map (·.2)) (hs : ∀ x, foldedSetIterable iter X.env x = pure x) : LE X (.ListComp elt [⟨tg, iter, ifs, 0⟩] scope pos) (wLc wa z (own.map (·.2)) wg wt we) := by
  obtain ⟨wi, pi, li⟩ := hi.ex
  obtain ⟨g, lg, pg⟩ := hg
  obtain ⟨t, lt, pt⟩ := ht
  obtain ⟨te, le, pe⟩ := he
  exact ⟨⟨_, pe_lc hc hN pi ok pg pt pe hs, let_lc li lg lt le hT⟩⟩
/-- name = [..]: the name is stored within the comprehension's end -/
theorem ls_setLc {i : Nat} {y : Str} {py spos : Pos} {elt tg iter : Expr} {ifs : List Expr} {scope : Scope} {own : List (Str × Nat)} {T : List Nat} {wa : WA} {z : ZF} {wg : WG} (hc : X.calm = true) (hN : X.N.Nodup) (hy : X.N[i]? = some y) (hyl : X.env.scope.names.lookup y = some .local)
    (hsw : swapsWith (.ListComp elt [⟨tg, iter, ifs, 0⟩] scope pos) (some (.Name y py)) spos.line X.env = pure true) (hi : LI X tg iter wa z) (ok : BlkOk X.N X.env.scope scope own)
    (hg : ∃ g, LGt g wg T ∧ ∀ (s : Shared) (H : Hp) (C : Addr) (cl : List (Str × Addr)) (fp : List Addr), PG (X.blk s H scope (compEnvC scope cl C X.env) fp) tg g)
    (ht : ∃ t, LTt t wt ∧ ∀ (s : Shared) (H : Hp) (C : Addr) (cl : List (Str × Addr)) (fp : List Addr), PTs (X.blk s H scope (compEnvC scope cl C X.env) fp) ifs t)
    (he : ∃ t, LEt t we ∧ ∀ (s : Shared) (H : Hp) (C : Addr) (cl : List (Str × Addr)) (fp : List Addr), PE (X.blk s H scope (compEnvC scope cl C X.env) fp) elt t)
    (hT : ∀ i ∈ T, i ∈ own.map (·.2)) (hs : ∀ x, foldedSetIterable iter X.env x = pure x) : LS X (.Assign [.Name y py] (.ListComp elt [⟨tg, iter, ifs, 0⟩] scope pos) spos) (wSet i (wLc wa z (own.map (·.2)) wg wt we)) := by
  obtain ⟨wi, pi, li⟩ := hi.ex
  obtain ⟨g, lg, pg⟩ := hg
  obtain ⟨t, lt, pt⟩ := ht
  obtain ⟨te, le, pe⟩ := he
  exact ⟨⟨_, ps_setLc hc hN hy hyl hsw pi ok pg pt pe hs, let_set (let_lc li lg lt le hT)⟩⟩

/-! ### methods of a list that a slot holds -/
def owW (s : Sg) (r : RV) (Q : Nat → List D → Prop) : Prop := match r with
  | .al i => match s[i]? with
    | some (.ow ds) => Q i ds
    | _ => False
  | _ => False
def wAppend (wo wa : WE) : WE := fun s Q => wo s fun ro s1 => owW s1 ro (fun _ _ => True) ∧ wa s1 fun r s2 => fzW s2 r fun d s3 => owW s3 ro fun i ds => ds.length < 16777216 ∧ Q (.sh .non) (s3.set i (.ow (ds ++ [d])))
theorem SR.ow {g N H0 H} {s : Sg} {σ : L2.St} {P : List En} {ro : RV} {v : V} {Q : Nat → List D → Prop} (hl : s.length = σ.length) (S : SR g N H0 (s.zip σ ++ P) H) (rv : RVal σ ro v) (h : owW s ro Q) :
    ∃ i ds a vs, Q i ds ∧ v = .ref a ∧ H a = some (.lst vs) ∧ Reps g.bv H (Nn N (s.zip σ ++ P)) ds vs ∧
      ∀ P' ds' vs', SR g N H0 (s.zip σ ++ P') H → Reps g.bv H (Nn N (s.zip σ ++ P')) ds' vs' → (s.set i (.ow ds')).length = σ.length ∧ SR g N H0 ((s.set i (.ow ds')).zip σ ++ P') (upd H a (.lst vs')) := by
  cases ro with
  | sh d => exact h.elim
  | fr ds => exact h.elim
  | al i =>
    simp only [owW] at h
    have hi : σ[i]? = some (some v) := rv
    cases e : s[i]? with
    | none => rw [e] at h; exact h.elim
    | some x =>
      rw [e] at h
      cases x with
      | un => exact h.elim
      | sh d => exact h.elim
      | ow ds =>
        obtain ⟨a, vs, e1, n, h0, hh, rr, _⟩ := S.own_n (List.mem_append_left _ (zip_get hl e hi))
        cases e1
        refine ⟨i, ds, a, vs, h, rfl, hh, rr, fun P' ds' vs' S' r' => ⟨by simp [hl], ?_⟩⟩
        obtain ⟨A, B, e1, e2, _⟩ := zip_set (z := .ow ds') hl e hi
        rw [e1, List.append_assoc] at S' r'
        rw [e2, List.append_assoc]
        exact S'.mut r'
theorem le_append {o c : Expr} {wo wa : WE} {apos cpos : Pos} (ho : LE X o wo) (ha : LE X c wa) (hbase : attributeBase o "append" X.env (eval o X.env) = eval o X.env)
    (hfew : ((backTo cpos (starEach [c] X.env)).all (fun x => !x.1) && (backToKw cpos (keywordEach [] X.env)).all (fun x => x.1.isSome) && decide ([c].length + ([] : List Keyword).length + (if ([] : List Keyword).isEmpty then 0 else 1) < 30)) = true)
    (hline : (apos.endLine == cpos.line) = true) (hs : starEach [c] X.env = (false, eval c X.env) :: starEach [] X.env) : LE X (.Call (.Attribute o "append" apos) [c] [] cpos) (wAppend wo wa) := by
  obtain ⟨to, po, lo⟩ := ho.ex
  obtain ⟨ta, pa, la⟩ := ha.ex
  refine ⟨⟨_, pe_bm PySem.F.plainAttrs_list PySem.F.slot_list_append PySem.F.type_list_append mt_append po (pa_cons pa pa_nil hs) hbase hfew hline hs rfl, fun g N H0 s σ P H Qw Q hl S h k => ?_⟩⟩
  refine lo g N H0 s σ P H _ _ hl S h fun ro s1 x H1 hl1 S1 rv h1 => ?_
  obtain ⟨h1, h2⟩ := h1
  obtain ⟨i, ds, a, vs, _, rfl, hh, _, _⟩ := SR.ow hl1 S1 rv h1
  refine ⟨.inl ⟨rfl, _, SqL.of hh⟩, ?_⟩
  refine la g N H0 s1 σ _ H1 _ _ hl1 S1 h2 fun r s2 y H2 hl2 S2 ry h3 => ?_
  obtain ⟨d, s3, h4, hl3, S3⟩ := SR.fz (A := []) S2 hl2 ry h3
  obtain ⟨i, ds, a', vs, ⟨hn, hq⟩, e, hh, rr, up⟩ := SR.ow hl3 S3 rv h4
  cases e
  refine ⟨a, vs, y, rfl, rfl, hh, by rw [← rr.length, sizeLine_eq]; exact hn, ?_⟩
  obtain ⟨w, ew, rw'⟩ := S3.each (Sl.sh d, some y) (by simp)
  cases ew
  obtain ⟨hl4, S4⟩ := up _ (ds ++ [d]) (vs ++ [y]) S3 (rr.append (.cons rw' .nil))
  have S5 := S4.drop1 (B' := P) ((List.sublist_cons_self _ _).trans (List.sublist_cons_self _ _))
  exact k (.sh .non) _ .non _ hl4 ((S5.addSh .non).mid (List.Sublist.refl _)) trivial hq
/-- pop() -/
def wPop (wo : WE) : WE := fun s Q => wo s fun ro s1 => owW s1 ro fun i ds => match ds.getLast? with
  | some d => Q (.sh d) (s1.set i (.ow ds.dropLast))
  | none => False
theorem le_pop {o : Expr} {wo : WE} {apos cpos : Pos} (ho : LE X o wo) (hbase : attributeBase o "pop" X.env (eval o X.env) = eval o X.env) (hline : (apos.endLine == cpos.line) = true) : LE X (.Call (.Attribute o "pop" apos) [] [] cpos) (wPop wo) := by
  obtain ⟨to, po, lo⟩ := ho.ex
  refine ⟨⟨_, pe_bm0 PySem.F.plainAttrs_list PySem.F.slot_list_pop PySem.F.type_list_pop mt_pop po hbase hline, fun g N H0 s σ P H Qw Q hl S h k => ?_⟩⟩
  refine lo g N H0 s σ P H _ _ hl S h fun ro s1 x H1 hl1 S1 rv h1 => ?_
  obtain ⟨i, ds, a, vs, hq, rfl, hh, rr, up⟩ := SR.ow hl1 S1 rv h1
  refine ⟨.inl ⟨rfl, _, SqL.of hh⟩, ?_⟩
  cases e : ds.getLast? with
  | none => rw [e] at hq; exact hq.elim
  | some d =>
    rw [e] at hq
    rw [List.getLast?_eq_getElem?] at e
    obtain ⟨y, hy, ry⟩ := rr.get e
    rw [rr.length] at hy
    refine ⟨a, vs, y, rfl, rfl, hh, hy, ?_⟩
    have S1' := (S1.addSh ry).mid (List.Sublist.refl _)
    have hle : ∀ a, cnt a (s1.zip σ ++ (Sl.sh d, some y) :: (ro.sl, some (V.ref a)) :: P) = cnt a (s1.zip σ ++ (Sl.sh d, some y) :: (ro.sl, some (V.ref a)) :: P) := fun _ => rfl
    have rr' : Reps g.bv H1 (Nn N (s1.zip σ ++ (Sl.sh d, some y) :: (ro.sl, some (V.ref a)) :: P)) ds vs := rr.mono (fun _ _ e _ => e) fun b _ _ z => Nn.le (fun b => by
      show List.countP _ _ ≤ List.countP _ _
      simp only [List.countP_append, List.countP_cons]
      have : owns b (Sl.sh d, some y) = false := rfl
      rw [this]; simp) b z
    obtain ⟨hl2, S2⟩ := up _ ds.dropLast vs.dropLast S1' rr'.dropLast
    exact k (.sh d) _ y _ hl2 (S2.drop1 ((List.sublist_cons_self _ _).cons_cons _)) trivial hq
/-- x[k] = v, x a list that a slot holds -/
def gIx (wo wi : WE) : WG := fun d s Q => wo s fun ro s1 => wi s1 fun ri s2 => rdW s2 ri fun di => match ro with
  | .sh (.bag 1) => (match di, d with
    | .int k, .int v => (k = 1 ∧ 0 ≤ v ∨ k = 2 ∧ 0 ≤ v ∧ v < 2147483647) ∧ Q s2
    | _, _ => False)
  | ro => owW s2 ro fun i ds => match di with
  | .int k => (match ixN ds.length k with
    | some j => Q (s2.set i (.ow (ds.set j d)))
    | none => False)
  | _ => False
theorem lg_ix {o c : Expr} {wo wi : WE} (ho : LE X o wo) (hi : LE X c wi) (h : ∀ {to ti : TE}, PE X o to → PE X c ti → PG X (.Subscript o c pos) (gSub to ti rSetL)) : LG X (.Subscript o c pos) (gIx wo wi) [] := by
  obtain ⟨to, po, lo⟩ := ho.ex
  obtain ⟨ti, pi, li⟩ := hi.ex
  refine ⟨⟨_, h po pi, fun g N H0 s σ P H d v Qg Q hl S hm h k => ?_⟩⟩
  refine lo g N H0 s σ P H _ _ hl S h fun ro s1 x H1 hl1 S1 rx h1 => ?_
  refine li g N H0 s1 σ _ H1 _ _ hl1 S1 h1 fun ri s2 y H2 hl2 S2 ry h2 => ?_
  obtain ⟨di, h3, vi⟩ := S2.rd (fun p h => List.mem_append_left _ h) hl2 (by simp) ry h2
  obtain ⟨w, ew, rw'⟩ := S2.each (Sl.sh d, some v) (List.mem_append_right _ (List.mem_cons_of_mem _ (List.mem_cons_of_mem _ hm)))
  cases ew
  split at h3
  · split at h3
    · obtain ⟨h3, hq⟩ := h3
      have vx : View g.bv (Nn N (s2.zip σ ++ ((ri.sl, some y) :: ((RV.sh (D.bag 1)).sl, some x) :: P))) H2 (.bag 1) x := by
        obtain ⟨w, ew, rw''⟩ := S2.each (Sl.sh (.bag 1), some x) (by simp [RV.sl])
        cases ew; exact rw''
      have hv := (View.of rw').int
      have hi := vi.int
      subst hv; subst hi
      obtain ⟨b, l, CS, eb, nbl, hB, hpre, hpos, hG⟩ := g.sp.1 vx.bag
      obtain ⟨cells, cur, mixed, hcs, hb, hcl, h1, h2, h4⟩ := (hG H2).mp S2.hg
      have ev : x = .ref b := vx.bag2.trans eb
      subst ev
      have keep : ∀ o, Sm g.B H2 (upd H2 b o) := fun o a u e n => (upd_ne fun z => n ((hB a).mpr (.inl z))).trans e
      have fin : ∀ (cur' mixed' : Int), 0 ≤ cur' → 0 ≤ mixed' → mixed' < 2147483647 → Q σ (upd H2 b (.lst [.ref l, .int cur', .int mixed'])) := fun cur' mixed' q1 q2 q3 => by
        refine k s2 σ _ hl2 rfl (fun _ _ => rfl) ?_ hq
        refine (S2.drop1 ((List.sublist_cons_self _ _).trans (List.sublist_cons_self _ _))).grow ((hG _).mpr ⟨cells, cur', mixed', hcs, upd_same, (upd_ne (Ne.symm nbl)).trans hcl, q1, q2, q3⟩) (keep _)
      rcases h3 with ⟨rfl, q⟩ | ⟨rfl, q, q'⟩
      · exact ⟨b, _, 1, 1, rfl, rfl, hb, rfl, fin _ _ q h2 h4⟩
      · exact ⟨b, _, 2, 2, rfl, rfl, hb, rfl, fin _ _ h1 q q'⟩
    · exact h3.elim
  obtain ⟨i, ds, a, vs, h4, rfl, hh, rr, up⟩ := SR.ow hl2 S2 rx h3
  cases di with
  | int kk =>
    simp only at h4
    cases e : ixN ds.length kk with
    | none => rw [e] at h4; exact h4.elim
    | some j =>
      rw [e] at h4
      have := vi.int; subst this
      refine ⟨a, vs, kk, j, rfl, rfl, hh, by rw [← rr.length]; exact e, ?_⟩
      obtain ⟨hl3, S3⟩ := up _ (ds.set j d) (vs.set j v) S2 (Reps.set rw' j rr)
      exact k _ σ _ hl3 rfl (fun _ _ => rfl) (S3.drop1 ((List.sublist_cons_self _ _).trans (List.sublist_cons_self _ _))) h4
  | _ => exact h4.elim
end
end LV
namespace LV
open PySem PySem.Spec PyProof.Rows L2

/-! ### promises of defs that are called where no repr is going on -/
structure FnG (P : Program) (w : World) (K : PySem.W.Frag) (mg : Str → Option Value) (base : Heap)
    (CX : CXT) (k : Nat) (f : Addr) (fd : FuncData) (ps : List Str) (sp : Sp) : Prop where
  len : ∀ vs H Q E, sp vs H Q E → vs.length = ps.length
  run : ∀ (A : Around) (outer : List Env) (s : Shared) (H : Hp) (args : Args) (us : List Value) (vs : List V) (Q : VK) (E : XK),
    A.guards = some [] → Room k A → Env0 P w K mg base A outer s H → BindsTo s fd args (ps.zip us) → Vals vs us →
    sp vs H Q E → codeAny (model P w) A (.call (.ref f) args) (CR CX outer P w H s Q E) s
section
variable {P : Program} {w : World} {K : PySem.W.Frag} {mg : Str → Option Value} {base : Heap} {CX : CXT} {f : Addr} {fd : FuncData} {ps : List Str} {sp : Sp}
theorem FnOk.toG {k : Nat} (F : FnOk P w K mg base CX k f fd ps sp) : FnG P w K mg base CX k f fd ps sp :=
  ⟨F.len, fun A outer s H args us vs Q E _ => F.run A outer s H args us vs Q E⟩
theorem FnG.up {j k : Nat} (F : FnG P w K mg base CX j f fd ps sp) (hjk : j ≤ k) : FnG P w K mg base CX k f fd ps sp :=
  ⟨F.len, fun A outer s H args us vs Q E g r => F.run A outer s H args us vs Q E g (r.mono hjk)⟩
/-- a def's promise out of its body -/
theorem fnG_of {x qual : Str} {st : Stmt} {N : List Str} {k : Nat} (F : Fun K x qual st f fd) (S : FnScope N ps (defScope st)) (len : ∀ vs H Q E, sp vs H Q E → vs.length = ps.length)
    (hb : ∀ (cdv : Value) (A : Around) (outer : List Env) (s : Shared) (H : Hp) (vs : List V) (Q : VK) (E : XK), A.guards = some [] →
      Room k (A.deeper (envOfC qual (defScope st) s.heap.objs.size f cdv)) → sp vs H Q E →
      ∃ t, PSs (cxOf CX P w K mg base N qual (defScope st) f cdv A outer s H E) (defBody st) t ∧ t { nx := fun _ H' => Q .non H', rt := Q } (L2.start N vs) H) :
    FnG P w K mg base CX (k + 1) f fd ps sp := by
  obtain ⟨oc, od, kV, doc, pm, an, cdv, ct, osl, rfl, look, hcode⟩ := F.ex
  constructor
  · exact len
  intro A outer s H args us vs Q E hg room e0 binds rel want
  have inS : K.In s.heap := e0.mod.kin.keeps fun b o hbo => (e0.bs b o hbo).1
  have nolim : s.heap.NoLimit := e0.mod.nolimit.keeps fun b o hbo => (e0.bs b o hbo).1
  have kinds : ∀ y ∈ ps.zip us, (defScope st).names.lookup y.1 = some .local ∨
      ((defScope st).names.lookup y.1 = some .cell ∧ ((cellsFrom (s.heap.objs.size + 1) (defScope st).names []).lookup y.1).isSome = true) := by
    rintro ⟨n, v⟩ hy
    cases S.par n (List.of_mem_zip hy).1 with
    | inl q => exact .inl q
    | inr q => exact .inr ⟨q, PySem.W.cellsFrom_some _ _ _ (.inl q)⟩
  refine codeAny_call_function room.depth (inS _ _ look) rfl S.co S.gen rfl (PySem.W.codeRec_of inS hcode) (binds _ _ _ _ ?_)
  refine wpAny_newFunctionEnv_cells S.kind kinds ?_
  intro env henv s1 frame
  subst henv
  refine ⟨nolim.keeps frame.toInCall.keep, codeAny_func ?_⟩
  obtain ⟨t, body, reading⟩ := hb cdv A outer s H vs Q E hg (room.deeper _) want
  have begun := inv_start (CX := CX) (E := E) S room.hd e0 (len _ _ _ _ want) rel frame
  refine wpAny_mono (body.run [] s1 _ H _ begun reading) ?_ (fun _ _ he => he)
  intro flow s' ends
  match flow, ends with
  | .ret u, ⟨v, σ', H', J, rv, q⟩ => exact ⟨v, H', J.os, J.bare, J.base, J.hok, rv, q⟩
  | .next, ⟨σ', H', J, q⟩ => exact ⟨V.non, H', J.os, J.bare, J.base, J.hok, rfl, q⟩
  | .brk, ⟨_, _, _, q⟩ => exact q.elim
  | .cont, ⟨_, _, _, q⟩ => exact q.elim
end
section
variable {X : Cx} {CX : CXT} {k : Nat} {f : Addr} {fd : FuncData} {ps ks : List Str} {sp : Sp} {E : XK} {x : Str} {p pos : Pos} {e : Expr} {es : List Expr} {kws : List Keyword} {t tk : TA} {g : List Value → List Value → List Value} {gV : List V → List V → List V}
/-- behind the call -/
theorem ended {pins : List (Addr × Obj)} {σ : L2.St} {H : Hp} {s s' : Shared} {Q : VK} {r : Result} (hx : Passes CX X E) (I : Inv X pins σ H s)
    (h : CR CX X.stack X.prog X.w H s Q E r s') : match r with
      | .ok (.ret u) => EP X pins σ Q u s'
      | .ok _ => False
      | .error e => X.xe e s' := by
  match r, h with
  | .ok (.ret u), h => exact I.after h
  | .ok .next, h => exact h
  | .ok .brk, h => exact h
  | .ok .cont, h => exact h
  | .error e, h => exact hx pins σ H s e s' I h
theorem callG {pins : List (Addr × Obj)} {σ : L2.St} {H : Hp} {s : Shared} {Q : VK} {args : Args} {us : List Value} {vs : List V} (F : FnG X.prog X.w X.K X.mg X.base CX k f fd ps sp) (hgd : X.A.guards = some []) (hr : Room k X.A) (hx : Passes CX X E)
    (I : Inv X pins σ H s) (hb : BindsTo s fd args (ps.zip us)) (r : Vals vs us) (h : sp vs H Q E) : wpAny (model X.prog X.w) X.A (call (.ref f) args.pos args.kw) (EP X pins σ Q) X.xe s := by
  refine wpAny_call (codeAny_mono (F.run X.A X.stack s H args us vs Q E hgd hr I.env0 hb r h) ?_)
  intro res s' he
  have q := ended hx I he
  cases res with
  | error e => exact q
  | ok fl => cases fl <;> first | exact q | exact False.elim q
theorem pe_callG (F : FnG X.prog X.w X.K X.mg X.base CX k f fd ps sp) (hgd : X.A.guards = some []) (hr : Room k X.A) (hg : Gl X x) (hm : X.mg x = some (.ref f)) (hk : PySem.W.keepIn X.K (.ref f) = true)
    (hb : Binds X.K fd ps []) (hx : Passes CX X E) (ha : PA X (e :: es) t) (hdb : (x == ("__debug__" : Str)) = false)
    (he : starEach (e :: es) X.env = (false, eval e X.env) :: starEach es X.env) (hpl : (backTo pos (starEach es X.env)).any (·.1) = false) :
    PE X (.Call (.Name x p) (e :: es) [] pos) (tCall sp [] E t) := by
  constructor
  intro pins s σ H Q I h
  refine wpAny_Call_Name_kw (ld_glob I hg hm ?_ hdb)
  refine PySem.W.callWith_K (h₀ := X.base) I.ok.mod.kin hk (thn (ha.run pos pins s σ H _ I h) ?_) he hpl
  rintro us s1 ⟨vs, H1, I1, rv, want⟩
  rw [List.append_nil] at want
  have hl : us.length = ps.length := by rw [← rv.length]; exact F.len _ _ _ _ want
  have bd := hb s1 us I1.kIn (by rw [List.append_nil]; exact hl)
  rw [List.append_nil] at bd
  exact ⟨I1.kIn, callG (args := ⟨us, []⟩) F hgd hr hx I1 bd rv want⟩
theorem pe_callG0 (F : FnG X.prog X.w X.K X.mg X.base CX k f fd ps sp) (hgd : X.A.guards = some []) (hr : Room k X.A) (hg : Gl X x) (hm : X.mg x = some (.ref f)) (hk : PySem.W.keepIn X.K (.ref f) = true)
    (hb : Binds X.K fd ps []) (hx : Passes CX X E) (hdb : (x == ("__debug__" : Str)) = false) : PE X (.Call (.Name x p) [] [] pos) (tCall sp [] E tNil) := by
  constructor
  intro pins s σ H Q I h
  refine wpAny_Call_Name_kw (ld_glob I hg hm ?_ hdb)
  have want : sp [] H Q E := h
  have hl : ([] : List Value).length = ps.length := F.len _ _ _ _ want
  have bd := hb s [] I.kIn hl
  exact PySem.W.callWith_K0 I.kIn hk (callG (args := ⟨[], []⟩) F hgd hr hx I bd .nil want)
theorem pe_callKG (F : FnG X.prog X.w X.K X.mg X.base CX k f fd ps sp) (hgd : X.A.guards = some []) (hr : Room k X.A) (hg : Gl X x) (hm : X.mg x = some (.ref f)) (hk : PySem.W.keepIn X.K (.ref f) = true)
    (hb : KBinds X.K fd ps ks g gV) (hx : Passes CX X E) (ha : PA X (e :: es) t) (hkw : PK X kws tk)
    (hall : (backToKw pos (keywordEach kws X.env)).all (·.1.isSome) = true) (hks : (backToKw pos (keywordEach kws X.env)).filterMap (·.1) = ks)
    (hdb : (x == ("__debug__" : Str)) = false) (he : starEach (e :: es) X.env = (false, eval e X.env) :: starEach es X.env)
    (hpl : ((backTo pos (starEach (e :: es) X.env)).any (·.1) || (backToKw pos (keywordEach kws X.env)).any (·.1.isNone)) = false) :
    PE X (.Call (.Name x p) (e :: es) kws pos) (tCallK sp gV E t tk) := by
  constructor
  intro pins s σ H Q I h
  refine wpAny_Call_Name_kw (ld_glob I hg hm ?_ hdb)
  refine PySem.W.callWith_KW (h₀ := X.base) I.ok.mod.kin hk hall (thn (ha.run pos pins s σ H _ I h) ?_) hpl he
  rintro us s1 ⟨vs, H1, I1, rv, h1⟩
  refine thn (hkw.run pos pins s1 σ H1 _ I1 h1) ?_
  rintro ws s2 ⟨zs, H2, I2, rz, want⟩
  have rel := hb.rel rv rz
  have bd := hb.to s2 us ws I2.kIn (by rw [← rel.length]; exact F.len _ _ _ _ want)
  rw [hks]
  exact ⟨I2.kIn, callG (args := ⟨us, ks.zip ws⟩) F hgd hr hx I2 bd rel want⟩
theorem pe_callKG0 (F : FnG X.prog X.w X.K X.mg X.base CX k f fd ps sp) (hgd : X.A.guards = some []) (hr : Room k X.A) (hg : Gl X x) (hm : X.mg x = some (.ref f)) (hk : PySem.W.keepIn X.K (.ref f) = true)
    (hb : KBinds X.K fd ps ks g gV) (hx : Passes CX X E) (hkw : PK X kws tk)
    (hall : (backToKw pos (keywordEach kws X.env)).all (·.1.isSome) = true) (hks : (backToKw pos (keywordEach kws X.env)).filterMap (·.1) = ks) (hnn : (backToKw pos (keywordEach kws X.env)).any (·.1.isNone) = false)
    (hdb : (x == ("__debug__" : Str)) = false) : PE X (.Call (.Name x p) [] kws pos) (tCallK sp gV E tNil tk) := by
  constructor
  intro pins s σ H Q I h
  refine wpAny_Call_Name_kw (ld_glob I hg hm ?_ hdb)
  refine PySem.W.callWith_KW0 (h₀ := X.base) I.ok.mod.kin hk hall (thn (hkw.run pos pins s σ H _ I h) ?_) (by rw [hnn]; rfl)
  rintro ws s2 ⟨zs, H2, I2, rz, want⟩
  have rel := hb.rel .nil rz
  have bd := hb.to s2 [] ws I2.kIn (by rw [← rel.length]; exact F.len _ _ _ _ want)
  rw [hks]
  exact ⟨I2.kIn, callG (args := ⟨[], ks.zip ws⟩) F hgd hr hx I2 bd rel want⟩
end
end LV
namespace LV
open PySem PySem.Spec PyProof.Rows L2

/-! plain argument lists -/
def plainE : Expr → Bool
  | .Starred .. => false
  | _ => true
theorem star_cons {e : Expr} {es : List Expr} {env : Env} (h : plainE e = true) : starEach (e :: es) env = (false, eval e env) :: starEach es env := by
  cases e <;> first | rfl | cases h
theorem star_plain {es : List Expr} {env : Env} {pos : Pos} (h : es.all plainE = true) : (backTo pos (starEach es env)).any (·.1) = false ∧ (backTo pos (starEach es env)).all (fun x => !x.1) = true := by
  induction es with
  | nil => exact ⟨rfl, rfl⟩
  | cons e es ih =>
    have h' := Bool.and_eq_true_iff.mp h
    rw [star_cons h'.1]
    have ih := ih h'.2
    unfold backTo at ih ⊢
    simp only [List.map_cons, List.any_cons, List.all_cons, ih.1, ih.2]
    exact ⟨rfl, rfl⟩
theorem asg_cons {e : Expr} {es : List Expr} {env : Env} (h : plainE e = true) : assignEach (e :: es) env = (false, assign e env) :: assignEach es env := by
  cases e <;> first | rfl | cases h
theorem asg_plain {es : List Expr} {env : Env} (h : es.all plainE = true) : (assignEach es env).length = es.length ∧ (assignEach es env).findIdx? (·.1) = none := by
  induction es with
  | nil => exact ⟨rfl, rfl⟩
  | cons e es ih =>
    have h' := Bool.and_eq_true_iff.mp h
    rw [asg_cons h'.1]
    have ih := ih h'.2
    refine ⟨by simp [ih.1], ?_⟩
    rw [List.findIdx?_cons]
    simp [ih.2]
def notSet : Expr → Bool
  | .Set .. => false
  | _ => true
theorem foldset {e : Expr} {env : Env} (h : notSet e = true) (x : Value) : foldedSetIterable e env x = pure x := by
  cases e <;> first | rfl | cases h
def notSlice : Expr → Bool
  | .Slice .. => false
  | _ => true
theorem plainIx {e : Expr} (h : notSlice e = true) : PlainIx e := fun o i => by cases e <;> first | rfl | cases h
def notComp : Expr → Bool
  | .ListComp .. => false
  | .SetComp .. => false
  | .DictComp .. => false
  | _ => true
theorem noswap {e : Expr} {t : Option Expr} {l : Nat} {env : Env} (h : notComp e = true) : swapsWith e t l env = pure false := by
  cases e <;> first | rfl | cases h
def notCall : Expr → Bool
  | .Call .. => false
  | _ => true
theorem attrbase {o : Expr} {a : Str} {env : Env} (h : notCall o = true) : attributeBase o a env (eval o env) = eval o env := by
  cases o <;> first | rfl | cases h
/-- tests that go by the value's truth -/
def truE : Expr → Bool
  | .Name .. => true
  | .Call .. => true
  | .Subscript .. => true
  | .BinOp .. => true
  | _ => false
theorem tru_plain {e : Expr} {env : Env} (h : truE e = true) (whole : Sem Value) : isTrue e env whole = (do let v ← whole; standAt e.pos; holding [v] (truthy v)) := by
  cases e <;> first | rfl | cases h
end LV
/-! list(zip(..)), list(enumerate(..)): an iterator that hands out a new pair each time, all of them kept -/
namespace LV
open PySem PySem.Spec PyProof.Rows
abbrev pairO (x y : Value) : Obj := { cls := .type "tuple", data := .seq #[x, y] }
abbrev listO (acc : Array Value) (c : Nat) : Obj := { cls := .type "list", dict := none, data := .seq acc c, slots := #[] }
/-- an iterator of pairs at I; own: the cells that its next writes; fp: what it leans on -/
structure Pairs (prog : Program) (w : World) (A : Around) (T : String) (I : Addr) (own fp : List Addr) (n : Nat) (Pt : Nat → Value → Value → Prop) (St : Nat → Heap → Prop) : Prop where
  mem : I ∈ fp
  sub : ∀ b ∈ own, b ∈ fp
  ty : ∀ i (s : Shared), St i s.heap → s.TypeIs (.ref I) T
  old : ∀ i h, St i h → ∀ b ∈ fp, b < h.objs.size
  frame : ∀ i h h' S acc c, St i h → S ∉ fp → h.get? S = some (listO acc c) → (∀ b o, b ≠ S → h.get? b = some o → h'.get? b = some o) → St i h'
  item : ∀ i (s : Shared) (Q : Option Value → Shared → Prop) (E : Value → Shared → Prop), i < n → St i s.heap →
    (∀ h' tk x y, Pt i x y → h'.get? s.heap.objs.size = some (pairO x y) → h'.objs.size = s.heap.objs.size + 1 → St (i + 1) h' → (∀ b o, b ∉ own → s.heap.get? b = some o → h'.get? b = some o) →
      Q (some (.ref s.heap.objs.size)) { s with heap := h', toks := tk }) → wpAny (model prog w) A (pyNext (.ref I)) Q E s
  done : ∀ (s : Shared) (Q : Option Value → Shared → Prop) (E : Value → Shared → Prop), St n s.heap →
    (∀ h' tk, (∀ b o, b ∉ own → s.heap.get? b = some o → h'.get? b = some o) → Q none { s with heap := h', toks := tk }) → wpAny (model prog w) A (pyNext (.ref I)) Q E s
  self : ∀ (s : Shared) (Q : Value → Shared → Prop) (E : Value → Shared → Prop), St 0 s.heap → Q (.ref I) s → wpAny (model prog w) A (pyIter (.ref I)) Q E s

/-- the pairs handed out: where they lie, what they hold -/
abbrev Tr := Addr × Value × Value
structure Held (Pt : Nat → Value → Value → Prop) (lo : Nat) (h : Heap) (L : List Tr) : Prop where
  at' : ∀ t ∈ L, h.get? t.1 = some (pairO t.2.1 t.2.2) ∧ lo ≤ t.1 ∧ t.1 < h.objs.size
  nd : (L.map (·.1)).Nodup
  pt : ∀ (j : Nat) (t : Tr), L[j]? = some t → Pt j t.2.1 t.2.2
def refsOf (L : List Tr) : Array Value := (L.map fun t => Value.ref t.1).toArray
theorem refsOf_push (L : List Tr) (t : Tr) : (refsOf L).push (.ref t.1) = refsOf (L ++ [t]) := by simp [refsOf]
theorem refsOf_size (L : List Tr) : (refsOf L).size = L.length := by simp [refsOf]
section
variable {prog : Program} {w : World} {A : Around} {R : Result → Shared → Prop} {T : String} {I : Addr} {own fp : List Addr} {n : Nat} {Pt : Nat → Value → Value → Prop} {St : Nat → Heap → Prop}
theorem extend_pairs (W : Pairs prog w A.in1 T I own fp n Pt St) (hn : n ≤ sizeLine) (S : Addr) (hSf : S ∉ fp) (res : Value) (lo : Nat) (hown : ∀ b ∈ own, b < lo) (hSlo : S < lo) : ∀ (k i : Nat) (s : Shared) (L : List Tr) (c : Nat), n - i = k → i ≤ n → St i s.heap →
    s.heap.get? S = some (listO (refsOf L) c) → Held Pt lo s.heap L → L.length = i → lo ≤ s.heap.objs.size →
    (∀ h' tk L' c', (∀ b o, b ≠ S → b ∉ own → s.heap.get? b = some o → h'.get? b = some o) → h'.get? S = some (listO (refsOf L') c') → Held Pt lo h' L' → L'.length = n → R (.ok (.ret res)) { s with heap := h', toks := tk }) →
    codeAny (model prog w) A (.builtin "list.extend.loop" ⟨[.ref S, .ref I, res], []⟩) R s := by
  have hSo : S ∉ own := fun h => hSf (W.sub _ h)
  intro k
  induction k with
  | zero =>
    intro i s L c hk hi st hS held hl hlo hR
    have e : i = n := Nat.le_antisymm hi (Nat.sub_eq_zero_iff_le.mp hk)
    subst e
    refine codeAny_builtin F.entry_extend_loop ?_
    rw [Around.under_plainId F.plain_extend_loop _]
    show wpAny _ A.in1 (pyNext (.ref I) >>= _) _ _ s
    refine wpAny_bind (W.done s _ _ st ?_)
    intro h' tk keep
    refine wpAny_pure (hR h' tk L c (fun b o _ hb e => keep b o hb e) (keep S _ hSo hS) ⟨?_, held.nd, held.pt⟩ hl)
    intro t ht
    obtain ⟨h1, h2, h3⟩ := held.at' t ht
    have no : t.1 ∉ own := fun z => Nat.lt_irrefl _ (Nat.lt_of_lt_of_le (hown _ z) h2)
    exact ⟨keep _ _ no h1, h2, Heap.lt_size (keep _ _ no h1)⟩
  | succ k ih =>
    intro i s L c hk hi st hS held hl hlo hR
    have hlt : i < n := by omega
    refine codeAny_builtin F.entry_extend_loop ?_
    rw [Around.under_plainId F.plain_extend_loop _]
    show wpAny _ A.in1 (pyNext (.ref I) >>= _) _ _ s
    refine wpAny_bind (W.item i s _ _ hlt st ?_)
    intro h1 tk x y px hp hsz st1 keep
    have hS1 : h1.get? S = some (listO (refsOf L) c) := keep S _ hSo hS
    show wpAny _ A.in1 (updateSeq S (·.push (.ref s.heap.objs.size)) >>= _) _ _ _
    refine wpAny_bind ?_
    have hT0 : s.heap.objs.size ≠ S := Nat.ne_of_gt (Nat.lt_of_lt_of_le hSlo hlo)
    have upd1 : ∀ b o, b ≠ S → h1.get? b = some o → (h1.update S (Obj.mapSeq (·.push (.ref s.heap.objs.size)))).get? b = some o := fun b o hb e => (Heap.get?_update_other _ _ (Ne.symm hb)).trans e
    have hS2 : (h1.update S (Obj.mapSeq (·.push (.ref s.heap.objs.size)))).get? S = some (listO ((refsOf L).push (.ref s.heap.objs.size)) _) := Heap.get?_update_self _ hS1 rfl
    refine wpAny_updateSeq hS1 rfl (wpAny_pure ⟨plainId_quiet F.plain_extend_loop _, ?_⟩) (by rw [refsOf_size]; omega) (by show ((refsOf L).push _).size ≤ sizeLine + 1; rw [Array.size_push, refsOf_size]; omega)
    rw [refsOf_push L (s.heap.objs.size, x, y)] at hS2
    refine ih (i + 1) _ (L ++ [(s.heap.objs.size, x, y)]) _ (by omega) hlt (W.frame _ h1 _ S _ _ st1 hSf hS1 upd1) hS2 ⟨?_, ?_, ?_⟩ (by simp [hl]) ?_ ?_
    · intro t ht
      have lt1 : ∀ {b o}, (h1.update S (Obj.mapSeq (·.push (.ref s.heap.objs.size)))).get? b = some o → b < (h1.update S (Obj.mapSeq (·.push (.ref s.heap.objs.size)))).objs.size := fun e => Heap.lt_size e
      rcases List.mem_append.mp ht with h | h
      · obtain ⟨a1, a2, a3⟩ := held.at' t h
        have no : t.1 ∉ own := fun z => Nat.lt_irrefl _ (Nat.lt_of_lt_of_le (hown _ z) a2)
        have g1 := upd1 t.1 _ (Nat.ne_of_gt (Nat.lt_of_lt_of_le hSlo a2)) (keep _ _ no a1)
        exact ⟨g1, a2, lt1 g1⟩
      · rw [List.mem_singleton.mp h]
        have g1 := upd1 s.heap.objs.size _ hT0 hp
        exact ⟨g1, hlo, lt1 g1⟩
    · rw [List.map_append, List.nodup_append]
      refine ⟨held.nd, by simp, ?_⟩
      intro a ha b hb e
      simp at hb
      subst hb; subst e
      obtain ⟨t, ht, e⟩ := List.mem_map.mp ha
      have := (held.at' t ht).2.2
      rw [e] at this
      exact Nat.lt_irrefl _ this
    · intro j t ht
      rw [List.getElem?_append] at ht
      split at ht
      · exact held.pt j t ht
      · rename_i q
        have : j - L.length = 0 := by
          rcases hh : j - L.length with _ | m
          · rfl
          · rw [hh] at ht; simp at ht
        rw [this] at ht
        simp at ht; subst ht
        have : j = i := by omega
        subst this
        exact px
    · show lo ≤ (h1.update S _).objs.size
      rw [Heap.size_update, hsz]; exact Nat.le_succ_of_le hlo
    · intro h' tk' L' c' k2 e2 held' hl'
      have := hR h' tk' L' c' (fun b o b1 b2 e => k2 b o b1 b2 (upd1 b o b1 (keep b o b2 e))) e2 held' hl'
      exact this
end
section
variable {prog : Program} {w : World} {A : Around} {E : Value → Shared → Prop} {s : Shared} {T : String} {I : Addr} {own fp : List Addr} {n : Nat} {Pt : Nat → Value → Value → Prop} {St : Nat → Heap → Prop}
/-- list(I) -/
theorem list_of_pairs {Q : Value → Shared → Prop} (hl : typeLookup (.type T) "__len__" = pure none) (hh : typeLookup (.type T) "__length_hint__" = pure none) (t1 : (Value.type T == Value.type "list") = false) (t2 : (Value.type T == Value.type "tuple") = false)
    (W : Pairs prog w A.in1.in1 T I own fp n Pt St) (hn : n ≤ sizeLine) (st : St 0 s.heap)
    (frame0 : ∀ (h' : Heap) S acc c, S = s.heap.objs.size → (∀ b o, s.heap.get? b = some o → h'.get? b = some o) → h'.get? S = some (listO acc c) → St 0 h')
    (hQ : ∀ h' tk L c, (∀ b o, b ∉ own → s.heap.get? b = some o → h'.get? b = some o) → h'.get? s.heap.objs.size = some (listO (refsOf L) c) → Held Pt (s.heap.objs.size + 1) h' L → L.length = n →
      Q (.ref s.heap.objs.size) { s with heap := h', toks := tk }) : wpAny (model prog w) A (call (.type "list") [.ref I]) Q E s := by
  have low : ∀ b ∈ fp, b < s.heap.objs.size := W.old 0 _ st
  have hSf : s.heap.objs.size ∉ fp := fun z => Nat.lt_irrefl _ (low _ z)
  have hSI : s.heap.objs.size ≠ I := fun e => hSf (by rw [e]; exact W.mem)
  refine callType_codes (Q₁ := fun obj s₁ => obj = .ref s.heap.objs.size ∧ s₁ = { s with heap := s.heap.push { cls := .type "list", data := .seq #[] } }) F.called_list (F.typeCall_list_1 _) F.entry_list_init (code_list_new _ ⟨rfl, rfl⟩) ?_
  rintro obj s1 ⟨rfl, rfl⟩
  have h0 : (s.heap.push { cls := .type "list", data := .seq #[] }).get? s.heap.objs.size = some { cls := .type "list", data := .seq #[] } := Heap.get?_push_size _ rfl
  refine ⟨⟨_, h0, rfl⟩, F.args_list_init_2 _ _, ?_⟩
  show wpAny _ A.in1.in1 (do
    let old ← Builtin.List.listItems (.ref s.heap.objs.size)
    Builtin.List.listUpdate (.ref s.heap.objs.size) (fun _ => #[])
    letGo old.toList.reverse
    Builtin.List.listExtendWith (.ref s.heap.objs.size) (.ref I) .none) _ _ _
  refine wpAny_bind ?_
  unfold Builtin.List.listItems
  refine wpAny_bind (wpAny_seqItems h0 rfl (wpAny_pure ?_))
  show wpAny _ A.in1.in1 (updateSeq s.heap.objs.size (fun _ => #[]) >>= fun _ =>
    letGo (#[] : Array Value).toList.reverse >>= fun _ => Builtin.List.listExtendWith (.ref s.heap.objs.size) (.ref I) .none) _ _ _
  refine wpAny_bind (wpAny_updateSeq h0 rfl ?_)
  refine wpAny_bind (wpAny_letGo ?_)
  have h1 := Heap.get?_update_self (Obj.mapSeq (fun _ => (#[] : Array Value))) h0 rfl
  unfold Builtin.List.listExtendWith
  have keep1 : ∀ b o, s.heap.get? b = some o → ((s.heap.push { cls := .type "list", data := .seq #[] }).update s.heap.objs.size (Obj.mapSeq (fun _ => (#[] : Array Value)))).get? b = some o := fun b o e =>
    (Heap.get?_update_other _ _ (Nat.ne_of_gt (Heap.lt_size e))).trans (Heap.get?_push_of_some _ e)
  have st1 : St 0 ((s.heap.push { cls := .type "list", data := .seq #[] }).update s.heap.objs.size (Obj.mapSeq (fun _ => (#[] : Array Value)))) := frame0 _ _ _ _ rfl keep1 h1
  refine wpAny_bind (wpAny_typeOf (W.ty 0 _ st1) ?_)
  have ns : Builtin.List.listSameRef (.ref s.heap.objs.size) (.ref I) = false := by simp [Builtin.List.listSameRef, hSI]
  simp only [ns, t1, t2, Bool.or_false, Bool.false_eq_true, if_false]
  refine wpAny_bind (W.self _ _ _ st1 (wpAny_bind (wpAny_holding ?_) |> fun q => q))
  unfold Builtin.List.listLengthHint
  refine wpAny_bind (wpAny_specialOf (W.ty 0 _ st1) hl ?_)
  show wpAny _ _ (specialOf (Value.ref I) (Str.ofString "__length_hint__") >>= _) _ _ _
  refine wpAny_bind (wpAny_specialOf (W.ty 0 _ st1) hh ?_)
  refine wpAny_pure ?_
  show wpAny _ _ (rule "list.extend.makes-room" >>= fun _ => Builtin.List.listTouch (.ref s.heap.objs.size) >>= fun _ =>
    again (.builtin "list.extend.loop" ⟨[.ref s.heap.objs.size, .ref I, .none], []⟩)) _ _ _
  refine wpAny_bind (wpAny_rule (wpAny_bind ?_))
  show wpAny _ _ (updateSeq s.heap.objs.size (·.push .none) >>= fun _ => updateSeq s.heap.objs.size (·.pop)) _ _ _
  refine wpAny_bind (wpAny_updateSeq h1 rfl ?_)
  have h2 := Heap.get?_update_self (Obj.mapSeq (·.push Value.none)) h1 rfl
  refine wpAny_updateSeq (hz := by seq_fits) h2 rfl ?_
  have h3 := Heap.get?_update_self (Obj.mapSeq (·.pop)) h2 rfl
  have keep3 : ∀ b o, s.heap.get? b = some o → ((((s.heap.push { cls := .type "list", data := .seq #[] }).update s.heap.objs.size (Obj.mapSeq (fun _ => (#[] : Array Value)))).update s.heap.objs.size (Obj.mapSeq (·.push Value.none))).update
      s.heap.objs.size (Obj.mapSeq (·.pop))).get? b = some o := fun b o e =>
    have ne := Nat.ne_of_gt (Heap.lt_size e)
    (Heap.get?_update_other _ _ ne).trans ((Heap.get?_update_other _ _ ne).trans (keep1 b o e))
  have st3 := frame0 _ _ _ _ rfl keep3 h3
  refine wpAny_pure ⟨plainId_quiet F.plain_extend_loop _, ?_⟩
  refine extend_pairs W hn _ hSf _ (s.heap.objs.size + 1) (fun b hb => Nat.lt_succ_of_lt (low b (W.sub b hb))) (Nat.lt_succ_self _) n 0 _ [] _ rfl (Nat.zero_le _) st3 h3 { at' := (fun t ht => nomatch ht), nd := List.nodup_nil, pt := (fun j t ht => by simp at ht) } rfl ?_ ?_
  · rw [Heap.size_update, Heap.size_update, Heap.size_update, Heap.size_push]; exact Nat.le_refl _
  · intro h' tk L' c' k e held hl'
    exact ⟨rfl, hQ h' tk L' c' (fun b o hb q => k b o (Nat.ne_of_lt (Heap.lt_size q)) hb (keep3 b o q)) e held hl'⟩
end
end LV
namespace LV
open PySem PySem.Spec PyProof.Rows
section
variable {prog : Program} {w : World} {A : Around} {E : Value → Shared → Prop} {s : Shared} {z TI TO i1 i2 T : Addr} {f : Bool} {oT : Obj} {fp1 fp2 : List Addr} {n1 n2 i : Nat} {P1 P2 : Nat → Value → Prop} {St1 St2 : Nat → Heap → Prop}
theorem zh_item {Q : Value → Shared → Prop} (S : ZipSep2 z TI TO i1 i2 fp1 fp2) (D1 : Draws prog w A i1 fp1 n1 P1 St1) (D2 : Draws prog w A i2 fp2 n2 P2 St2)
    (hz : IsZipHeld s.heap z TI TO T f) (hT : s.heap.get? T = some oT) (hTI : IsTupOf2 s.heap TI (.ref i1) (.ref i2)) (st1 : St1 i s.heap) (st2 : St2 i s.heap) (lt1 : i < n1) (lt2 : i < n2)
    (hQ : ∀ x y h' tk, P1 i x → P2 i y → IsZipHeld h' z TI TO T true → St1 (i + 1) h' → St2 (i + 1) h' → h'.get? s.heap.objs.size = some (pairO x y) → h'.objs.size = s.heap.objs.size + 1 →
      (∀ c o, c ≠ z → c ≠ i1 → c ≠ i2 → s.heap.get? c = some o → h'.get? c = some o) → Q (.ref s.heap.objs.size) { s with heap := h', toks := tk }) :
    wpAny (model prog w) A (Builtin.«zip.__next__» ⟨[.ref z], []⟩) (fun fin s' => ∃ v, fin = .done (.ret v) ∧ Q v s') E s := by
  show wpAny _ _ (field (.ref z) 2 >>= _) _ _ _
  refine wpAny_bind (wpAny_field hz rfl (x := .bool false) rfl ?_)
  show wpAny _ _ (field (.ref z) 3 >>= _) _ _ _
  refine wpAny_bind (wpAny_field hz rfl (x := .ref TI) rfl (wpAny_bind (wpAny_seqItems hTI rfl ?_) |> fun q => q))
  show wpAny _ _ (Builtin.SmallTypes.ownedTupleIsFree (.ref z) >>= _) _ _ _
  refine wpAny_bind (wpAny_tupleHeld_zip hz hT ?_)
  intro h1 hz1 same1
  simp only [Bool.false_eq_true, if_false]
  refine wpAny_bind ?_
  rw [← Array.forIn_toList]
  simp only [List.forIn_cons, List.forIn_nil]
  refine wpAny_bind (wpAny_bind (wpAny_holding ?_))
  show wpAny _ _ (Builtin.SmallTypes.nextOf (.ref i1) >>= _) _ _ _
  have a1 : St1 i h1 := D1.over st1 same1 S.zf1
  have a2 : St2 i h1 := D2.over st2 same1 S.zf2
  refine wpAny_bind (D1.item i _ _ _ lt1 a1 ?_)
  intro x h2 tk2 px b1 same2
  refine wpAny_pure (wpAny_pure ?_)
  have b2 : St2 i h2 := D2.over a2 same2 S.sep1_2
  refine wpAny_bind (wpAny_bind (wpAny_holding ?_))
  show wpAny _ _ (Builtin.SmallTypes.nextOf (.ref i2) >>= _) _ _ _
  refine wpAny_bind (D2.item i _ _ _ lt2 b2 ?_)
  intro y h3 tk3 py c2 same3
  have c1 : St1 (i + 1) h3 := D1.over b1 same3 S.sep2_1
  refine wpAny_pure (wpAny_pure (wpAny_pure ?_))
  show wpAny _ _ (newTuple [x, y] >>= _) _ _ _
  refine wpAny_bind (wpAny_newTuple (wpAny_pure ⟨_, rfl, ?_⟩))
  have size3 : h3.objs.size = s.heap.objs.size := by rw [same3.1, same2.1, same1.1]
  have up : ∀ c o, c ≠ z → c ≠ i1 → c ≠ i2 → s.heap.get? c = some o → h3.get? c = some o := fun c o q1 q2 q3 e => same3.extBut _ _ q3 (same2.extBut _ _ q2 (same1.extBut _ _ q1 e))
  have zz : IsZipHeld h3 z TI TO T true := same3.extBut _ _ S.zi2 (same2.extBut _ _ S.zi1 hz1)
  have pair : (h3.push (pairO x y)).get? h3.objs.size = some (pairO x y) := Heap.get?_push_size _ rfl
  have more : (h3.push (pairO x y)).objs.size = h3.objs.size + 1 := Heap.size_push ..
  have fin := hQ x y (h3.push (pairO x y)) tk3 px py (Heap.get?_push_of_some _ zz) (D1.frame _ _ _ c1 fun b _ o e => Heap.get?_push_of_some _ e) (D2.frame _ _ _ c2 fun b _ o e => Heap.get?_push_of_some _ e)
    (by rw [← size3]; exact pair) (by rw [more, size3]) (fun c o q1 q2 q3 e => Heap.get?_push_of_some _ (up c o q1 q2 q3 e))
  show Q (.ref h3.objs.size) _
  rw [size3]
  exact fin
theorem zh_end {Q : Fin → Shared → Prop} (S : ZipSep2 z TI TO i1 i2 fp1 fp2) (D1 : Draws prog w A i1 fp1 n1 P1 St1) (D2 : Draws prog w A i2 fp2 n2 P2 St2)
    (hz : IsZipHeld s.heap z TI TO T f) (hT : s.heap.get? T = some oT) (hTI : IsTupOf2 s.heap TI (.ref i1) (.ref i2)) (st1 : St1 i s.heap) (st2 : St2 i s.heap) (le1 : i ≤ n1) (le2 : i ≤ n2) (hend : i = n1 ∨ i = n2)
    (hE : ∀ h' tk e, (∀ c o, c ≠ z → c ≠ i1 → c ≠ i2 → s.heap.get? c = some o → h'.get? c = some o) → (∃ o, h'.get? e = some o ∧ o.cls = .type "StopIteration") → E (.ref e) { s with heap := h', toks := tk }) :
    wpAny (model prog w) A (Builtin.«zip.__next__» ⟨[.ref z], []⟩) Q E s := by
  show wpAny _ _ (field (.ref z) 2 >>= _) _ _ _
  refine wpAny_bind (wpAny_field hz rfl (x := .bool false) rfl ?_)
  show wpAny _ _ (field (.ref z) 3 >>= _) _ _ _
  refine wpAny_bind (wpAny_field hz rfl (x := .ref TI) rfl (wpAny_bind (wpAny_seqItems hTI rfl ?_) |> fun q => q))
  show wpAny _ _ (Builtin.SmallTypes.ownedTupleIsFree (.ref z) >>= _) _ _ _
  refine wpAny_bind (wpAny_tupleHeld_zip hz hT ?_)
  intro h1 hz1 same1
  simp only [Bool.false_eq_true, if_false]
  refine wpAny_bind ?_
  rw [← Array.forIn_toList]
  simp only [List.forIn_cons, List.forIn_nil]
  refine wpAny_bind (wpAny_bind (wpAny_holding ?_))
  show wpAny _ _ (Builtin.SmallTypes.nextOf (.ref i1) >>= _) _ _ _
  have a1 : St1 i h1 := D1.over st1 same1 S.zf1
  have a2 : St2 i h1 := D2.over st2 same1 S.zf2
  by_cases q : i = n1
  · subst q
    refine wpAny_bind (D1.done _ _ _ a1 ?_)
    intro h2 e ext2 stop
    exact hE h2 _ e (fun c o q1 q2 _ x => ext2 _ _ q2 (same1.extBut _ _ q1 x)) stop
  · have q2 : i = n2 := hend.resolve_left q
    subst q2
    refine wpAny_bind (D1.item i _ _ _ (Nat.lt_of_le_of_ne le1 q) a1 ?_)
    intro x h2 tk2 px b1 same2
    refine wpAny_pure (wpAny_pure ?_)
    have b2 : St2 i h2 := D2.over a2 same2 S.sep1_2
    refine wpAny_bind (wpAny_bind (wpAny_holding ?_))
    show wpAny _ _ (Builtin.SmallTypes.nextOf (.ref i2) >>= _) _ _ _
    refine wpAny_bind (D2.done _ _ _ b2 ?_)
    intro h3 e ext3 stop
    exact hE h3 _ e (fun c o q1 q2 q3 x => ext3 _ _ q3 (same2.extBut _ _ q2 (same1.extBut _ _ q1 x))) stop
end
section
variable {prog : Program} {w : World} {A : Around} {z TI TO i1 i2 : Addr} {fp1 fp2 : List Addr} {n1 n2 : Nat} {P1 P2 : Nat → Value → Prop} {St1 St2 : Nat → Heap → Prop}
def ZSt (z TI TO i1 i2 : Addr) (fp1 fp2 : List Addr) (St1 St2 : Nat → Heap → Prop) (i : Nat) (h : Heap) : Prop :=
  IsTupOf2 h TI (.ref i1) (.ref i2) ∧ (∃ a b, IsTupOf2 h TO a b) ∧ St1 i h ∧ St2 i h ∧
    ((i = 0 ∧ IsZip h z TI TO .none) ∨ ∃ T f x y, 0 < i ∧ IsZipHeld h z TI TO T f ∧ h.get? T = some (pairO x y) ∧ T ∉ z :: TI :: TO :: (fp1 ++ fp2))
theorem ZSt.z_there {i : Nat} {h : Heap} (st : ZSt z TI TO i1 i2 fp1 fp2 St1 St2 i h) : ∃ fs, h.get? z = some { cls := .type "zip", data := .fields fs } := by
  rcases st.2.2.2.2 with ⟨_, q⟩ | ⟨T, f, x, y, _, q, _⟩ <;> exact ⟨_, q⟩
theorem pairs_zip (S : ZipSep2 z TI TO i1 i2 fp1 fp2) (D1 : Draws prog w A.in1 i1 fp1 n1 P1 St1) (D2 : Draws prog w A.in1 i2 fp2 n2 P2 St2) (hh : A.handled = none)
    (live1 : ∀ i h, St1 i h → ∀ b ∈ fp1, b < h.objs.size) (live2 : ∀ i h, St2 i h → ∀ b ∈ fp2, b < h.objs.size) :
    Pairs prog w A "zip" z [z, TO, i1, i2] (z :: TI :: TO :: (fp1 ++ fp2)) (min n1 n2) (fun i x y => P1 i x ∧ P2 i y) (ZSt z TI TO i1 i2 fp1 fp2 St1 St2) := by
  have old : ∀ i h, ZSt z TI TO i1 i2 fp1 fp2 St1 St2 i h → ∀ b ∈ z :: TI :: TO :: (fp1 ++ fp2), b < h.objs.size := fun i h st b hb => by
    obtain ⟨fs, hz⟩ := st.z_there
    obtain ⟨x, y, hTO⟩ := st.2.1
    simp only [List.mem_cons, List.mem_append] at hb
    rcases hb with e | e | e | e | e
    · rw [e]; exact Heap.lt_size hz
    · rw [e]; exact Heap.lt_size st.1
    · rw [e]; exact Heap.lt_size hTO
    · exact live1 i h st.2.2.1 b e
    · exact live2 i h st.2.2.2.1 b e
  refine { mem := List.mem_cons_self .., sub := ?_, ty := ?_, old := old, frame := ?_, item := ?_, done := ?_, self := ?_ }
  · intro b hb
    simp only [List.mem_cons, List.not_mem_nil, or_false] at hb
    simp only [List.mem_cons, List.mem_append]
    rcases hb with e | e | e | e
    · exact .inl e
    · exact .inr (.inr (.inl e))
    · rw [e]; exact .inr (.inr (.inr (.inl S.mem1)))
    · rw [e]; exact .inr (.inr (.inr (.inr S.mem2)))
  · intro i s st
    obtain ⟨fs, hz⟩ := st.z_there
    exact ⟨_, hz, rfl⟩
  · intro i h h' Sx acc c st hS hl keep
    simp only [List.mem_cons, List.mem_append, not_or] at hS
    obtain ⟨x, y, hTO⟩ := st.2.1
    refine ⟨keep _ _ (Ne.symm hS.2.1) st.1, ⟨x, y, keep _ _ (Ne.symm hS.2.2.1) hTO⟩, D1.frame _ _ _ st.2.2.1 fun b hb o e => keep b o (fun q => hS.2.2.2.1 (q ▸ hb)) e, D2.frame _ _ _ st.2.2.2.1 fun b hb o e => keep b o (fun q => hS.2.2.2.2 (q ▸ hb)) e, ?_⟩
    rcases st.2.2.2.2 with ⟨i0, q⟩ | ⟨T, f, x, y, i0, q, hT, no⟩
    · exact .inl ⟨i0, keep _ _ (Ne.symm hS.1) q⟩
    · refine .inr ⟨T, f, x, y, i0, keep _ _ (Ne.symm hS.1) q, keep _ _ (fun e => ?_) hT, no⟩
      rw [e, hl] at hT; simp [listO, pairO] at hT
  · intro i s Q E lt st hQ
    have lt1 : i < n1 := Nat.lt_of_lt_of_le lt (Nat.min_le_left _ _)
    have lt2 : i < n2 := Nat.lt_of_lt_of_le lt (Nat.min_le_right _ _)
    have fresh : s.heap.objs.size ∉ z :: TI :: TO :: (fp1 ++ fp2) := fun m => Nat.lt_irrefl _ (old i _ st _ m)
    obtain ⟨hTI, ⟨a, b, hTO⟩, st1, st2, ⟨i0, hz⟩ | ⟨T, f, x, y, i0, hz, hT, no⟩⟩ := st
    · refine wpAny_pyNext_zipD2_item S D1 D2 hz hTI hTO st1 st2 lt1 lt2 ?_
      intro x y h' tk p1 p2 z1 o1 u1 u2 pr sz keep
      have nTI : ∀ c, c ≠ z → c ≠ TO → c ≠ i1 → c ≠ i2 → ∀ o, s.heap.get? c = some o → h'.get? c = some o := fun c q1 q2 q3 q4 o e => keep c o q1 q2 q3 q4 e
      refine hQ h' tk x y ⟨p1, p2⟩ pr sz ⟨nTI TI S.TIz S.TITO S.TIi1 S.TIi2 _ hTI, ⟨_, _, o1⟩, u1, u2, .inr ⟨_, false, x, y, Nat.succ_pos _, z1, pr, fresh⟩⟩ ?_
      intro c o hc e
      simp only [List.mem_cons, List.not_mem_nil, or_false, not_or] at hc
      exact keep c o hc.1 hc.2.1 hc.2.2.1 hc.2.2.2 e
    · have isT : s.TypeIs (.ref z) "zip" := ⟨_, hz, rfl⟩
      unfold pyNext
      refine wpAny_bind (wpAny_attempt (wpAny_callSpecial?_slot (name := Str.ofString "__next__") isT F.slot_zip_next (wpAny_call_entry F.slot_zip_next isT F.entry_zip_next ?_ (F.args_zip_next_1 _))))
      refine zh_item S D1 D2 hz hT hTI st1 st2 lt1 lt2 ?_
      intro x' y' h' tk p1 p2 z1 u1 u2 pr sz keep
      simp only [List.mem_cons, List.mem_append, not_or] at no
      have n1 : T ≠ i1 := fun e => no.2.2.2.1 (e ▸ S.mem1)
      have n2 : T ≠ i2 := fun e => no.2.2.2.2 (e ▸ S.mem2)
      refine wpAny_pure (hQ h' tk x' y' ⟨p1, p2⟩ pr sz ⟨keep TI _ S.TIz S.TIi1 S.TIi2 hTI, ⟨a, b, keep TO _ S.TOz S.Ti1 S.Ti2 hTO⟩, u1, u2,   .inr ⟨T, true, x, y, Nat.succ_pos _, z1, keep T _ no.1 n1 n2 hT, ?_⟩⟩ ?_)
      · simp only [List.mem_cons, List.mem_append, not_or]; exact no
      · intro c o hc e
        simp only [List.mem_cons, List.not_mem_nil, or_false, not_or] at hc
        exact keep c o hc.1 hc.2.2.1 hc.2.2.2 e
  · intro s Q E st hQ
    obtain ⟨hTI, ⟨a, b, hTO⟩, st1, st2, ⟨i0, hz⟩ | ⟨T, f, x, y, i0, hz, hT, no⟩⟩ := st
    · refine wpAny_pyNext_zipD2_end S D1 D2 hz hTI hTO st1 st2 (Nat.min_le_left _ _) (Nat.min_le_right _ _) (by omega) ?_
      intro h' tk keep
      refine hQ h' tk ?_
      intro c o hc e
      simp only [List.mem_cons, List.not_mem_nil, or_false, not_or] at hc
      exact keep c o hc.1 hc.2.1 hc.2.2.1 hc.2.2.2 e
    · have isT : s.TypeIs (.ref z) "zip" := ⟨_, hz, rfl⟩
      unfold pyNext
      refine wpAny_bind (wpAny_attempt (wpAny_callSpecial?_slot (name := Str.ofString "__next__") isT F.slot_zip_next (wpAny_call_entry F.slot_zip_next isT F.entry_zip_next ?_ (F.args_zip_next_1 _))))
      refine zh_end S D1 D2 hz hT hTI st1 st2 (Nat.min_le_left _ _) (Nat.min_le_right _ _) (by omega) ?_
      intro h' tk e keep stop
      obtain ⟨o, ho, hc⟩ := stop
      refine wpAny_bind (wpAny_isInstance (T := "StopIteration") (b := true) ⟨o, ho, hc⟩ isSubtype_stop (wpAny_pure (hQ _ _ ?_)))
      intro c o hc e
      simp only [List.mem_cons, List.not_mem_nil, or_false, not_or] at hc
      exact keep c o hc.1 hc.2.2.1 hc.2.2.2 e
  · intro s Q E st hQ
    rcases st.2.2.2.2 with ⟨_, q⟩ | ⟨T, f, x, y, i0, _⟩
    · exact wpAny_pyIter_zip q hQ
    · exact absurd i0 (Nat.lt_irrefl 0)
end
end LV
namespace LV
open PySem PySem.Spec PyProof.Rows L2

/-- a list of new pairs stands at p -/
structure NewPairs (H H' : Hp) (xs ys : List V) (p : Addr) : Prop where
  same : ∀ a o, H a = some o → H' a = some o
  fresh : H p = none
  ex : ∃ ps : List V, H' p = some (.lst ps) ∧ ps.length = min xs.length ys.length ∧
    ∀ (j : Nat) (x y : V), xs[j]? = some x → ys[j]? = some y → ∃ T, ps[j]? = some (.ref T) ∧ H T = none ∧ H' T = some (.tup [x, y])
theorem lookup_nd {α β : Type} [BEq α] [LawfulBEq α] : ∀ {l : List (α × β)} {j : Nat} {a : α} {b : β}, (l.map (·.1)).Nodup → l[j]? = some (a, b) → l.lookup a = some b
  | [], _, _, _, _, h => by simp at h
  | (k, v) :: l, 0, a, b, _, h => by simp at h; obtain ⟨rfl, rfl⟩ := h; simp
  | (k, v) :: l, j + 1, a, b, nd, h => by
    rw [List.map_cons, List.nodup_cons] at nd
    simp only [List.getElem?_cons_succ] at h
    have hm : a ∈ l.map (·.1) := List.mem_map.mpr ⟨(a, b), List.mem_of_getElem? h, rfl⟩
    have ne : (a == k) = false := beq_eq_false_iff_ne.mpr fun e => nd.1 (e ▸ hm)
    rw [List.lookup_cons, ne]
    exact lookup_nd nd.2 h
theorem lookup_mem {α β : Type} [BEq α] [LawfulBEq α] : ∀ {l : List (α × β)} {a : α} {b : β}, l.lookup a = some b → (a, b) ∈ l
  | [], _, _, h => by simp at h
  | (k, v) :: l, a, b, h => by
    rw [List.lookup_cons] at h
    cases e : (a == k) with
    | true => rw [e] at h; cases h; rw [eq_of_beq e]; exact List.mem_cons_self ..
    | false => rw [e] at h; exact List.mem_cons_of_mem _ (lookup_mem h)
section
variable {X : Cx} {pins : List (Addr × Obj)} {σ : L2.St} {H1 : Hp} {s1 : Shared} {h' : Heap} {tk : Nat}
theorem laid_pairs (I : Inv X pins σ H1 s1) (keep : ∀ b o, s1.heap.get? b = some o → h'.get? b = some o) {L : List Tr} {S : Addr} {c : Nat} {xs ys : List V} {Pt : Nat → Value → Value → Prop} (hpt : ∀ j x y, Pt j x y → (∃ vx, xs[j]? = some vx ∧ RelV vx x) ∧ ∃ vy, ys[j]? = some vy ∧ RelV vy y)
    (hS : s1.heap.objs.size ≤ S) (hL : h'.get? S = some (listO (refsOf L) c)) (held : Held Pt (S + 1) h' L) (hn : L.length = min xs.length ys.length) (hz : xs.length ≤ sizeLine) :
    ∃ H', NewPairs H1 H' xs ys S ∧ Inv X pins σ H' { s1 with heap := h', toks := tk } := by
  let ks := L.map (·.1)
  let tab : List (Addr × (V × V)) := ks.zip (xs.zip ys)
  have tabk : tab.map (·.1) = ks := by
    have : ks.length ≤ (xs.zip ys).length := by simp [ks, hn]
    exact List.map_fst_zip this
  have tnd : (tab.map (·.1)).Nodup := by rw [tabk]; exact held.nd
  have tget : ∀ {j : Nat} {t : Tr}, L[j]? = some t → ∃ x y, xs[j]? = some x ∧ ys[j]? = some y ∧ RelV x t.2.1 ∧ RelV y t.2.2 ∧ tab[j]? = some (t.1, x, y) := fun {j t} e => by
    obtain ⟨⟨vx, ex, rx⟩, vy, ey, ry⟩ := hpt _ _ _ (held.pt j t e)
    refine ⟨vx, vy, ex, ey, rx, ry, ?_⟩
    have ek : ks[j]? = some t.1 := by simp [ks, e]
    have ez : (xs.zip ys)[j]? = some (vx, vy) := by rw [List.getElem?_zip_eq_some]; exact ⟨ex, ey⟩
    rw [List.getElem?_zip_eq_some]; exact ⟨ek, ez⟩
  have tmem : ∀ {b : Addr} {xy : V × V}, tab.lookup b = some xy → ∃ (j : Nat) (t : Tr), L[j]? = some t ∧ t.1 = b ∧ tab[j]? = some (b, xy) := fun {b xy} e => by
    obtain ⟨j, hj⟩ := List.mem_iff_getElem?.mp (lookup_mem e)
    have hk : ks[j]? = some b := (List.getElem?_zip_eq_some.mp hj).1
    simp only [ks, List.getElem?_map, Option.map_eq_some_iff] at hk
    obtain ⟨t, ht, e⟩ := hk
    exact ⟨j, t, ht, e, hj⟩
  let ps : List V := L.map fun t => V.ref t.1
  let H' : Hp := fun b => if b = S then some (.lst ps) else match tab.lookup b with
    | some xy => some (.tup [xy.1, xy.2])
    | none => H1 b
  have h0 : ∀ b o, H1 b = some o → b < s1.heap.objs.size := fun b o e => I.hok.lt e
  have hS' : H' S = some (.lst ps) := if_pos rfl
  have tlo : ∀ {b : Addr} {xy}, tab.lookup b = some xy → S < b := fun {b xy} e => by
    obtain ⟨j, t, ht, rfl, _⟩ := tmem e
    exact (held.at' t (List.mem_of_getElem? ht)).2.1
  have hold : ∀ b, b < s1.heap.objs.size → H' b = H1 b := fun b hb => by
    have ne : b ≠ S := Nat.ne_of_lt (Nat.lt_of_lt_of_le hb hS)
    have nl : tab.lookup b = none := by
      cases q : tab.lookup b with
      | none => rfl
      | some xy => exact absurd (Nat.lt_of_le_of_lt hS (tlo q)) (Nat.not_lt.mpr (Nat.le_of_lt hb))
    show (if b = S then _ else _) = _
    rw [if_neg ne, nl]
  have htup : ∀ {b : Addr} {xy : V × V}, tab.lookup b = some xy → H' b = some (.tup [xy.1, xy.2]) := fun {b xy} e => by
    have ne : b ≠ S := Nat.ne_of_gt (tlo e)
    show (if b = S then _ else _) = _
    rw [if_neg ne, e]
  have same : ∀ b o, H1 b = some o → H' b = some o := fun b o e => (hold b (h0 b o e)).trans e
  have un : Un X.fs [] H1 H' s1.heap h' :=
    { keep := fun b o e _ _ _ => keep b o e
      slot := fun b o e _ _ _ => ⟨o.slots, keep b o e⟩
      free := fun b o e n _ => (hold b (Heap.lt_size e)).trans n
      there := fun b o e _ => ⟨o, keep b o e⟩
      tups := fun b xs e => same b _ e
      frzs := fun b o u e => same b _ e
      tbls := fun b ps e => ⟨#[], by rw [Array.append_empty]; exact same b _ e⟩ }
  have hok : HOk X.prog X.w H' h' := fun b o e => by
    by_cases lt : b < s1.heap.objs.size
    · rw [hold b lt] at e
      exact (I.hok b o e).stay (fun c u _ q => keep c u q) (fun c q => same c _ q) (fun c xs q => same c _ q)
    · by_cases eS : b = S
      · subst eS
        rw [hS'] at e; cases e
        refine ⟨by simp [ps]; omega, (L.map fun t => Value.ref t.1), c, ?_, by rw [hL]; rfl⟩
        have : ∀ l : List Tr, Vals (l.map fun t => V.ref t.1) (l.map fun t => Value.ref t.1) := fun l => by
          induction l with
          | nil => exact .nil
          | cons t l ih => exact .cons rfl ih
        exact this L
      · cases q : tab.lookup b with
        | some xy =>
          rw [htup q] at e; cases e
          obtain ⟨j, t, ht, rfl, hj⟩ := tmem q
          obtain ⟨x, y, ex, ey, rx, ry, hj'⟩ := tget ht
          rw [hj'] at hj; cases hj
          refine ⟨by rw [sizeLine_eq]; show 2 ≤ 16777216; decide, [t.2.1, t.2.2], .cons rx (.cons ry .nil), ?_⟩
          exact ⟨_, (held.at' t (List.mem_of_getElem? ht)).1, rfl, _, rfl⟩
        | none =>
          have : H' b = H1 b := by
            show (if b = S then _ else _) = _
            rw [if_neg eS, q]
          rw [this] at e
          exact absurd (h0 b o e) lt
  refine ⟨H', ⟨same, I.hok.fresh hS, ps, hS', by simp [ps, hn], fun j x y ex ey => ?_⟩, I.un un hok⟩
  have jl : j < L.length := by
    have := (List.getElem?_eq_some_iff.mp ex).1
    have := (List.getElem?_eq_some_iff.mp ey).1
    omega
  obtain ⟨x', y', ex', ey', _, _, hj⟩ := tget (List.getElem?_eq_getElem jl)
  rw [ex] at ex'; rw [ey] at ey'
  cases ex'; cases ey'
  have lk := lookup_nd tnd hj
  have lo := tlo lk
  exact ⟨L[j].1, by simp [ps, jl], I.hok.fresh (Nat.le_of_lt (Nat.lt_of_le_of_lt hS lo)), htup lk⟩
end
/-! ### what zip, enumerate walk -/
structure Src (prog : Program) (w : World) (A : Around) (s : Shared) (v : Value) (items : Array Value) : Prop where
  ex : ∃ (o : Obj) (HH : Heap → Prop) (l : Addr), Begins v o HH ∧ HH s.heap ∧ l < s.heap.objs.size ∧ ∀ it, l ≠ it → ∃ St : Nat → Heap → Prop, Draws prog w A it [it, l] items.size (fun i x => items[i]? = some x) St ∧
    (∀ h', h'.get? it = some o → HH h' → St 0 h') ∧ ∀ i h, St i h → ∀ b ∈ [it, l], b < h.objs.size
section
variable {prog : Program} {w : World} {A : Around} {E : Value → Shared → Prop} {s : Shared}
theorem src_list {a : Addr} {items : Array Value} (hh : A.handled = none) (h : s.heap.IsList a items) : Src prog w A s (.ref a) items := by
  refine ⟨⟨_, _, a, begins_list a items, h, ?_, fun it ne => ⟨_, Draws.list hh it a ne items, fun h' e k => ⟨⟨_, e, rfl, rfl⟩, k⟩, fun i h st b hb => ?_⟩⟩⟩
  · obtain ⟨o, e, _⟩ := h; exact Heap.lt_size e
  · obtain ⟨⟨o, e, _⟩, ⟨o', e', _⟩⟩ := st
    simp only [List.mem_cons, List.not_mem_nil, or_false] at hb
    rcases hb with q | q <;> rw [q]
    · exact Heap.lt_size e
    · exact Heap.lt_size e'
theorem src_tup {a : Addr} {items : Array Value} (hh : A.handled = none) (h : s.heap.IsTuple a items) : Src prog w A s (.ref a) items := by
  refine ⟨⟨_, _, a, begins_tuple a items, h, ?_, fun it ne => ⟨_, Draws.tuple hh it a ne items, fun h' e k => ⟨⟨_, e, rfl, rfl⟩, k⟩, fun i h st b hb => ?_⟩⟩⟩
  · obtain ⟨o, e, _⟩ := h; exact Heap.lt_size e
  · obtain ⟨⟨o, e, _⟩, ⟨o', e', _⟩⟩ := st
    simp only [List.mem_cons, List.not_mem_nil, or_false] at hb
    rcases hb with q | q <;> rw [q]
    · exact Heap.lt_size e
    · exact Heap.lt_size e'
theorem nolen_zip : typeLookup (.type "zip") "__len__" = pure none := by rw [typeLookup_type, builtinLookup_eq_fast]; kernel_rfl
theorem nohint_zip : typeLookup (.type "zip") "__length_hint__" = pure none := by rw [typeLookup_type, builtinLookup_eq_fast]; kernel_rfl
/-- list(zip(a, b)) by values -/
theorem list_zip {v1 v2 : Value} {xs ys : Array Value} {Q : Value → Shared → Prop} (hh : A.handled = none) (s1 : Src prog w A.in1.in1.in1 s v1 xs) (s2 : Src prog w A.in1.in1.in1 s v2 ys) (hn : xs.size ≤ sizeLine)
    (hQ : ∀ h' tk L c S, (∀ b o, s.heap.get? b = some o → h'.get? b = some o) → s.heap.objs.size ≤ S → h'.get? S = some (listO (refsOf L) c) → Held (fun i x y => xs[i]? = some x ∧ ys[i]? = some y) (S + 1) h' L → L.length = min xs.size ys.size →
      Q (.ref S) { s with heap := h', toks := tk }) :
    wpAny (model prog w) A (call (.type "zip") [v1, v2]) (fun z s' => wpAny (model prog w) A (call (.type "list") [z]) Q E s') E s := by
  obtain ⟨o1, H1, l1, B1, h1, lt1, d1⟩ := s1.ex
  obtain ⟨o2, H2, l2, B2, h2, lt2, d2⟩ := s2.ex
  refine zip_begins2 B1 B2 h1 h2 ?_
  intro h' hz hTI hTO e1 e2 sz keep
  obtain ⟨St1, D1, b1, f1⟩ := d1 s.heap.objs.size (Nat.ne_of_lt lt1)
  obtain ⟨St2, D2, b2, f2⟩ := d2 (s.heap.objs.size + 1) (Nat.ne_of_lt (Nat.lt_succ_of_lt lt2))
  have sep : ZipSep2 (s.heap.objs.size + 4) (s.heap.objs.size + 2) (s.heap.objs.size + 3) s.heap.objs.size (s.heap.objs.size + 1) [s.heap.objs.size, l1] [s.heap.objs.size + 1, l2] :=
    zip_sep2 (fp1 := [l1]) (fp2 := [l2]) (fun b hb => by rw [List.mem_singleton.mp hb]; exact lt1) (fun b hb => by rw [List.mem_singleton.mp hb]; exact lt2)
  have W := pairs_zip (A := A.in1.in1) sep D1 D2 hh f1 f2
  have st0 : ∀ h'' : Heap, (∀ b o, h'.get? b = some o → h''.get? b = some o) → ZSt (s.heap.objs.size + 4) (s.heap.objs.size + 2) (s.heap.objs.size + 3) s.heap.objs.size (s.heap.objs.size + 1) [s.heap.objs.size, l1] [s.heap.objs.size + 1, l2] St1 St2 0 h'' := fun h'' k =>
    ⟨k _ _ hTI, ⟨_, _, k _ _ hTO⟩, b1 h'' (k _ _ e1) (B1.keeps _ _ h1 fun b o e => k b o (keep b o e)), b2 h'' (k _ _ e2) (B2.keeps _ _ h2 fun b o e => k b o (keep b o e)), .inl ⟨rfl, k _ _ hz⟩⟩
  refine list_of_pairs (s := { s with heap := h' }) nolen_zip nohint_zip (by decide) (by decide) W (Nat.le_trans (Nat.min_le_left _ _) hn) (st0 h' fun _ _ e => e) (fun h'' S acc c _ k _ => st0 h'' k) ?_
  intro h'' tk L c k eS held hl
  refine hQ h'' tk L c _ (fun b o e => k b o ?_ (keep b o e)) ?_ eS held hl
  · have : b < s.heap.objs.size := Heap.lt_size e
    simp only [List.mem_cons, List.not_mem_nil, or_false, not_or]
    exact ⟨Nat.ne_of_lt (Nat.lt_add_right 4 this), Nat.ne_of_lt (Nat.lt_add_right 3 this), Nat.ne_of_lt this, Nat.ne_of_lt (Nat.lt_add_right 1 this)⟩
  · show s.heap.objs.size ≤ h'.objs.size
    rw [sz]; exact Nat.le_add_right _ _
end
end LV
namespace LV
open PySem PySem.Spec PyProof.Rows L2
section
variable {prog : Program} {w : World} {A : Around} {E : Value → Shared → Prop} {s : Shared} {e it l : Addr} {items : Array Value}
def ESt (e it l : Addr) (items : Array Value) (i : Nat) (h : Heap) : Prop :=
  h.IsListIter it l i ∧ h.IsList l items ∧ ((i = 0 ∧ IsEnum h e it 0 .none) ∨ ∃ T f x y old, 0 < i ∧ IsEnumHeld h e it (i : Int) old T f ∧ h.get? T = some (pairO x y) ∧ T ≠ e ∧ T ≠ it ∧ T ≠ l)
theorem ESt.e_there {i : Nat} {h : Heap} (st : ESt e it l items i h) : ∃ fs, h.get? e = some { cls := .type "enumerate", data := .fields fs } := by
  rcases st.2.2 with ⟨_, q⟩ | ⟨T, f, x, y, old, _, q, _⟩ <;> exact ⟨_, q⟩
theorem pairs_enum (hh : A.handled = none) (ne : e ≠ it) (nl : l ≠ it) (nel : e ≠ l) :
    Pairs prog w A "enumerate" e [e, it] [e, it, l] items.size (fun i x y => (∃ t, x = .int (i : Nat) t) ∧ items[i]? = some y) (ESt e it l items) := by
  have old : ∀ i h, ESt e it l items i h → ∀ b ∈ [e, it, l], b < h.objs.size := fun i h st b hb => by
    obtain ⟨fs, he⟩ := st.e_there
    obtain ⟨⟨o1, h1, _⟩, ⟨o2, h2, _⟩, _⟩ := st
    simp only [List.mem_cons, List.not_mem_nil, or_false] at hb
    rcases hb with q | q | q <;> rw [q]
    · exact Heap.lt_size he
    · exact Heap.lt_size h1
    · exact Heap.lt_size h2
  refine { mem := List.mem_cons_self .., sub := fun b hb => ?_, ty := fun i s st => ?_, old := old, frame := ?_, item := ?_, done := ?_, self := ?_ }
  · simp only [List.mem_cons, List.not_mem_nil, or_false] at hb ⊢
    rcases hb with q | q
    · exact .inl q
    · exact .inr (.inl q)
  · obtain ⟨fs, he⟩ := st.e_there
    exact ⟨_, he, rfl⟩
  · intro i h h' S acc c st hS hl keep
    simp only [List.mem_cons, List.not_mem_nil, or_false, not_or] at hS
    obtain ⟨h1, h2, h3⟩ := st
    refine ⟨h1.at fun o q => keep _ o (Ne.symm hS.2.1) q, h2.at fun o q => keep _ o (Ne.symm hS.2.2) q, ?_⟩
    rcases h3 with ⟨i0, q⟩ | ⟨T, f, x, y, old, i0, q, hT, no⟩
    · exact .inl ⟨i0, keep _ _ (Ne.symm hS.1) q⟩
    · refine .inr ⟨T, f, x, y, old, i0, keep _ _ (Ne.symm hS.1) q, keep _ _ (fun z => ?_) hT, no⟩
      rw [z, hl] at hT; simp [listO, pairO] at hT
  · intro i s Q E lt st hQ
    have fresh : s.heap.objs.size ∉ [e, it, l] := fun m => Nat.lt_irrefl _ (old i _ st _ m)
    simp only [List.mem_cons, List.not_mem_nil, or_false, not_or] at fresh
    have hx : items[i]? = some items[i] := Array.getElem?_eq_getElem lt
    have lst : ∀ {h' : Heap}, (∀ b o, b ≠ e → b ≠ it → s.heap.get? b = some o → h'.get? b = some o) → h'.IsList l items := fun k => st.2.1.at fun o q => k l o (Ne.symm nel) nl q
    obtain ⟨hit, hls, ⟨i0, he⟩ | ⟨T, f, x, y, old', i0, he, hT, no⟩⟩ := st
    · subst i0
      refine wpAny_pyNext_enum_itemC (Draws.list (A := A.in1) hh it l nl items) he ⟨hit, hls⟩ lt ne ?_ ?_
      · simp only [List.mem_cons, List.not_mem_nil, or_false, not_or]; exact ⟨ne, nel⟩
      · intro v h' tk pv he' st' pr sz keep
        refine hQ h' (tk + 1) (.int ((0 : Nat) : Int) tk) v ⟨⟨tk, rfl⟩, pv⟩ pr sz ⟨st'.1, st'.2, .inr ⟨_, false, _, _, _, Nat.succ_pos _, he', pr, fresh⟩⟩ ?_
        intro b o hb q
        simp only [List.mem_cons, List.not_mem_nil, or_false, not_or] at hb
        exact keep b o hb.1 hb.2 q
    · refine wpAny_pyNext_enum_item_held he hT no.1 no.2.1 hit hls hx ne ?_
      intro h' he' hit' pr sz keep
      refine hQ h' (s.toks + 1) _ _ ⟨⟨s.toks, rfl⟩, hx⟩ pr sz ⟨hit', lst keep, .inr ⟨T, true, x, y, _, Nat.succ_pos _, he', keep T _ no.1 no.2.1 hT, no⟩⟩ ?_
      intro b o hb q
      simp only [List.mem_cons, List.not_mem_nil, or_false, not_or] at hb
      exact keep b o hb.1 hb.2 q
  · intro s Q E st hQ
    obtain ⟨hit, hls, ⟨i0, he⟩ | ⟨T, f, x, y, old', i0, he, hT, no⟩⟩ := st
    · refine wpAny_pyNext_enum_endD (Draws.list (A := A.in1) hh it l nl items) he ⟨hit, hls⟩ ?_
      intro h' ext
      refine hQ h' s.toks ?_
      intro b o hb q
      simp only [List.mem_cons, List.not_mem_nil, or_false, not_or] at hb
      exact ext b o hb.2 q
    · refine wpAny_pyNext_enum_end_held hh he hit hls (by simp) ?_
      intro h' ext
      refine hQ h' s.toks ?_
      intro b o hb q
      simp only [List.mem_cons, List.not_mem_nil, or_false, not_or] at hb
      exact ext b o hb.2 q
  · intro s Q E st hQ
    rcases st.2.2 with ⟨_, q⟩ | ⟨T, f, x, y, old, i0, _⟩
    · exact wpAny_pyIter_enum q hQ
    · exact absurd i0 (Nat.lt_irrefl 0)
theorem nolen_enum : typeLookup (.type "enumerate") "__len__" = pure none := by rw [typeLookup_type, builtinLookup_eq_fast]; kernel_rfl
theorem nohint_enum : typeLookup (.type "enumerate") "__length_hint__" = pure none := by rw [typeLookup_type, builtinLookup_eq_fast]; kernel_rfl
theorem list_enum {Q : Value → Shared → Prop} (hh : A.handled = none) (hl : s.heap.IsList l items) (hn : items.size ≤ sizeLine)
    (hQ : ∀ h' tk L c S, (∀ b o, s.heap.get? b = some o → h'.get? b = some o) → s.heap.objs.size ≤ S → h'.get? S = some (listO (refsOf L) c) → Held (fun i x y => (∃ t, x = .int (i : Nat) t) ∧ items[i]? = some y) (S + 1) h' L → L.length = items.size →
      Q (.ref S) { s with heap := h', toks := tk }) :
    wpAny (model prog w) A (call (.type "enumerate") [.ref l]) (fun z s' => wpAny (model prog w) A (call (.type "list") [z]) Q E s') E s := by
  have lt : l < s.heap.objs.size := by
    obtain ⟨o, q, _⟩ := hl; exact Heap.lt_size q
  refine call_enumerate_list hl ?_
  intro h' he hit sz keep
  have W := pairs_enum (prog := prog) (w := w) (A := A.in1.in1) (e := s.heap.objs.size + 1) (it := s.heap.objs.size) (l := l) (items := items) hh (Nat.succ_ne_self _) (Nat.ne_of_lt lt) (Nat.ne_of_gt (Nat.lt_succ_of_lt lt))
  have st0 : ∀ h'' : Heap, (∀ b o, h'.get? b = some o → h''.get? b = some o) → ESt (s.heap.objs.size + 1) s.heap.objs.size l items 0 h'' := fun h'' k =>
    ⟨hit.at fun o q => k _ o q, hl.at fun o q => k _ o (keep _ o q), .inl ⟨rfl, k _ _ he⟩⟩
  refine list_of_pairs (s := { s with heap := h' }) nolen_enum nohint_enum (by decide) (by decide) W hn (st0 h' fun _ _ e => e) (fun h'' S acc c _ k _ => st0 h'' k) ?_
  intro h'' tk L c k eS held hl'
  refine hQ h'' tk L c _ (fun b o e => k b o ?_ (keep b o e)) ?_ eS held hl'
  · have : b < s.heap.objs.size := Heap.lt_size e
    simp only [List.mem_cons, List.not_mem_nil, or_false, not_or]
    exact ⟨Nat.ne_of_lt (Nat.lt_succ_of_lt this), Nat.ne_of_lt this⟩
  · show s.heap.objs.size ≤ h'.objs.size
    rw [sz]; exact Nat.le_add_right _ _
end
/-! ### as expressions -/
section
variable {X : Cx}
def Sq (H : Hp) (a : Addr) (xs : List V) : Prop := H a = some (.lst xs) ∨ H a = some (.tup xs)
def tLz (ta : TA) : TE := fun σ H Q => ta σ H fun vs H1 => ∃ a b xs ys, vs = [.ref a, .ref b] ∧ Sq H1 a xs ∧ Sq H1 b ys ∧ ∀ p H', NewPairs H1 H' xs ys p → Q (.ref p) H'
theorem src_of {pins : List (Addr × Obj)} {σ : L2.St} {H : Hp} {s : Shared} {a : Addr} {xs : List V} {A : Around} (hh : A.handled = none) (I : Inv X pins σ H s) (h : Sq H a xs) : ∃ its : List Value, Vals xs its ∧ Src X.prog X.w A s (.ref a) its.toArray ∧ its.length ≤ sizeLine := by
  rcases h with h | h
  · obtain ⟨its, r, pl, z⟩ := I.list (SqL.of h)
    exact ⟨its, r, src_list hh pl.isList, by rw [← r.length]; exact z⟩
  · obtain ⟨its, r, pt, z⟩ := I.tuple (SqT.of h)
    exact ⟨its, r, src_tup hh pt, by rw [← r.length]; exact z⟩
theorem pe_lzip {a b : Expr} {ta : TA} {p p2 pos pos2 : Pos} (hc : X.calm = true) (g1 : Gl X "list") (m1 : X.mg "list" = none) (g2 : Gl X "zip") (m2 : X.mg "zip" = none) (ha : PA X [a, b] ta)
    (hs : starEach [a, b] X.env = (false, eval a X.env) :: starEach [b] X.env) (hpl : (backTo pos2 (starEach [b] X.env)).any (·.1) = false) :
    PE X (.Call (.Name "list" p) [.Call (.Name "zip" p2) [a, b] [] pos2] [] pos) (tLz ta) := by
  constructor
  intro pins s σ H Q I h
  refine Call_ (ld_blt I g1 m1 boot_list (PyProof.Rows.callWith_type1 (args_cons ?_ rfl) rfl))
  have I' := I.tok (s.toks)
  refine Call_ (ld_blt I g2 m2 PyProof.Rows.boot_zip (PyProof.Rows.callWith_type1 (thn (ha.run pos2 pins s σ H _ I h) ?_) hs hpl))
  rintro us s1 ⟨vs, H1, I1, r1, l1, l2, xs, ys, rfl, hx, hy, q⟩
  obtain ⟨u1, u2, rfl, e1, e2⟩ := vals2 r1
  cases e1; cases e2
  obtain ⟨its1, v1, src1, z1⟩ := src_of (A := X.A.in1.in1.in1) (I1.ok.hd hc) I1 hx
  obtain ⟨its2, v2, src2, z2⟩ := src_of (A := X.A.in1.in1.in1) (I1.ok.hd hc) I1 hy
  refine wpAny_mono (list_zip (Q := fun u s' => EP X pins σ Q u s') (I1.ok.hd hc) src1 src2 (by simpa using z1) ?_) (fun z s' hz => args_nil hz) (fun _ _ q => q)
  intro h' tk L c S keep hS eS held hl
  obtain ⟨H', np, I2⟩ := laid_pairs (tk := tk) I1 keep (xs := xs) (ys := ys) (fun j x y ⟨h1, h2⟩ => by
    have h1' : its1[j]? = some x := by simpa using h1
    have h2' : its2[j]? = some y := by simpa using h2
    constructor
    · have jl : j < its1.length := (List.getElem?_eq_some_iff.mp h1').1
      have jx : j < xs.length := by rw [v1.length]; exact jl
      obtain ⟨u, hu, ru⟩ := v1.get (List.getElem?_eq_getElem jx)
      rw [h1'] at hu; cases hu
      exact ⟨_, List.getElem?_eq_getElem jx, ru⟩
    · have jl : j < its2.length := (List.getElem?_eq_some_iff.mp h2').1
      have jx : j < ys.length := by rw [v2.length]; exact jl
      obtain ⟨u, hu, ru⟩ := v2.get (List.getElem?_eq_getElem jx)
      rw [h2'] at hu; cases hu
      exact ⟨_, List.getElem?_eq_getElem jx, ru⟩) hS eS held (by simpa [v1.length, v2.length] using hl) (by rw [v1.length]; exact z1)
  exact ⟨.ref S, H', I2, rfl, q S H' np⟩
def tLe (ta : TA) : TE := fun σ H Q => ta σ H fun vs H1 => ∃ a xs, vs = [.ref a] ∧ H1 a = some (.lst xs) ∧ ∀ p H', NewPairs H1 H' ((List.range xs.length).map fun (i : Nat) => V.int (i : Int)) xs p → Q (.ref p) H'
theorem pe_lenum {a : Expr} {ta : TA} {p p2 pos pos2 : Pos} (hc : X.calm = true) (g1 : Gl X "list") (m1 : X.mg "list" = none) (g2 : Gl X "enumerate") (m2 : X.mg "enumerate" = none) (ha : PA X [a] ta)
    (hs : starEach [a] X.env = [(false, eval a X.env)]) : PE X (.Call (.Name "list" p) [.Call (.Name "enumerate" p2) [a] [] pos2] [] pos) (tLe ta) := by
  constructor
  intro pins s σ H Q I h
  refine Call_ (ld_blt I g1 m1 boot_list (PyProof.Rows.callWith_type1 (args_cons ?_ rfl) rfl))
  refine Call_ (ld_blt I g2 m2 boot_enumerate (PyProof.Rows.callWith_type1 (thn (ha.run pos2 pins s σ H _ I h) ?_) hs rfl))
  rintro us s1 ⟨vs, H1, I1, r1, l1, xs, rfl, hx, q⟩
  obtain ⟨u1, rfl, e1⟩ := vals1 r1
  cases e1
  obtain ⟨its, rv, pl, z⟩ := I1.list (SqL.of hx)
  refine wpAny_mono (list_enum (Q := fun u s' => EP X pins σ Q u s') (I1.ok.hd hc) pl.isList (by simpa [rv.length] using z) ?_) (fun z s' hz => args_nil hz) (fun _ _ q => q)
  intro h' tk L c S keep hS eS held hl
  have hl' : L.length = xs.length := by rw [hl, rv.length]; simp
  obtain ⟨H', np, I2⟩ := laid_pairs (tk := tk) I1 keep (xs := (List.range xs.length).map fun (i : Nat) => V.int (i : Int)) (ys := xs) (fun j x y ⟨⟨t, ht⟩, h2⟩ => by
    have h2' : its[j]? = some y := by simpa using h2
    have jl : j < its.length := (List.getElem?_eq_some_iff.mp h2').1
    have jx : j < xs.length := by rw [rv.length]; exact jl
    obtain ⟨u, hu, ru⟩ := rv.get (List.getElem?_eq_getElem jx)
    rw [h2'] at hu; cases hu
    refine ⟨⟨.int (j : Nat), ?_, ⟨t, ht⟩⟩, _, List.getElem?_eq_getElem jx, ru⟩
    rw [List.getElem?_map, List.getElem?_range jx]; rfl) hS eS held (by simp [hl']) (by simpa using z)
  exact ⟨.ref S, H', I2, rfl, q S H' np⟩
end
end LV
namespace LV
open PySem PySem.Spec PyProof.Rows L2

/-! ### list(reversed(a list)) -/
section
variable {prog : Program} {w : World} {A : Around} {E : Value → Shared → Prop} {s : Shared}
theorem list_rev {it l : Addr} {items : Array Value} {Q : Value → Shared → Prop} (hh : A.handled = none) (hit : s.heap.IsRevIter it l ((items.size : Int) - 1)) (hl : s.heap.IsList l items) (hne : l ≠ it) (hn : items.size ≤ sizeLine)
    (hQ : ∀ (h' : Heap) (tk : Nat) (acc : Array Value) (c : Nat), (∀ b o, b ≠ it → s.heap.get? b = some o → h'.get? b = some o) → h'.get? s.heap.objs.size = some { cls := .type "list", data := .seq acc c } → ItemsOf (fun i v => items[items.size - 1 - i]? = some v) acc items.size →
      Q (.ref s.heap.objs.size) { s with heap := h', toks := tk }) : wpAny (model prog w) A (call (.type "list") [.ref it]) Q E s := by
  have W := (Walks.listRev (prog := prog) (w := w) (A := A.in1.in1) hh it l hne items).toS
  obtain ⟨oi, hoi, _⟩ := id hit
  obtain ⟨ol, hol, _⟩ := id hl
  have li : it < s.heap.objs.size := Heap.lt_size hoi
  have ll : l < s.heap.objs.size := Heap.lt_size hol
  have hSi : s.heap.objs.size ≠ it := Nat.ne_of_gt li
  have hSf : s.heap.objs.size ∉ [it, l] := by
    simp only [List.mem_cons, List.not_mem_nil, or_false, not_or]
    exact ⟨hSi, Nat.ne_of_gt ll⟩
  refine callType_codes (Q₁ := fun obj z => obj = .ref s.heap.objs.size ∧ z = { s with heap := s.heap.push { cls := .type "list", data := .seq #[] } }) F.called_list (F.typeCall_list_1 _) F.entry_list_init (code_list_new _ ⟨rfl, rfl⟩) ?_
  rintro obj z ⟨rfl, rfl⟩
  have h0 : (s.heap.push { cls := .type "list", data := .seq #[] }).get? s.heap.objs.size = some { cls := .type "list", data := .seq #[] } := Heap.get?_push_size _ rfl
  refine ⟨⟨_, h0, rfl⟩, F.args_list_init_2 _ _, ?_⟩
  show wpAny _ A.in1.in1 (do
    let was ← Builtin.List.listItems (.ref s.heap.objs.size)
    Builtin.List.listUpdate (.ref s.heap.objs.size) (fun _ => #[])
    letGo was.toList.reverse
    Builtin.List.listExtendWith (.ref s.heap.objs.size) (.ref it) .none) _ _ _
  refine wpAny_bind ?_
  unfold Builtin.List.listItems
  refine wpAny_bind (wpAny_seqItems h0 rfl (wpAny_pure ?_))
  show wpAny _ A.in1.in1 (updateSeq s.heap.objs.size (fun _ => #[]) >>= fun _ =>
    letGo (#[] : Array Value).toList.reverse >>= fun _ => Builtin.List.listExtendWith (.ref s.heap.objs.size) (.ref it) .none) _ _ _
  refine wpAny_bind (wpAny_updateSeq h0 rfl ?_)
  refine wpAny_bind (wpAny_letGo ?_)
  have h1 := Heap.get?_update_self (Obj.mapSeq (fun _ => (#[] : Array Value))) h0 rfl
  have keep1 : ∀ b o, s.heap.get? b = some o → ((s.heap.push { cls := .type "list", data := .seq #[] }).update s.heap.objs.size (Obj.mapSeq (fun _ => (#[] : Array Value)))).get? b = some o := fun b o e =>
    (Heap.get?_update_other _ _ (Nat.ne_of_gt (Heap.lt_size e))).trans (Heap.get?_push_of_some _ e)
  have hit1 : Heap.IsRevIter ((s.heap.push { cls := .type "list", data := .seq #[] }).update s.heap.objs.size (Obj.mapSeq (fun _ => (#[] : Array Value)))) it l ((items.size : Int) - 1) := hit.at fun o e => keep1 _ o e
  have hl1 : Heap.IsList ((s.heap.push { cls := .type "list", data := .seq #[] }).update s.heap.objs.size (Obj.mapSeq (fun _ => (#[] : Array Value)))) l items := hl.at fun o e => keep1 _ o e
  unfold Builtin.List.listExtendWith
  refine wpAny_bind (wpAny_typeOf hit1.typeIs ?_)
  have ns : Builtin.List.listSameRef (.ref s.heap.objs.size) (.ref it) = false := by simp [Builtin.List.listSameRef, hSi]
  rw [if_neg (by rw [ns]; decide)]
  refine wpAny_bind (wpAny_pyIter_revIter (s := { s with heap := _ }) hit1 ?_)
  refine wpAny_bind (wpAny_holding ?_)
  unfold Builtin.List.listLengthHint
  refine wpAny_bind (wpAny_specialOf hit1.typeIs RT.nolen_lri ?_)
  show wpAny _ A.in1.in1 (specialOf (Value.ref it) (Str.ofString "__length_hint__") >>= _) _ _ _
  refine wpAny_bind (wpAny_specialOf hit1.typeIs RT.hint_lri ?_)
  generalize hid : ("list_reverseiterator.__length_hint__" : String) = id0
  wp_delta
  rw [show splitId id0 = some ("list_reverseiterator", "__length_hint__") from by subst hid; decide +kernel]
  subst hid
  refine wpAny_bind (wpAny_isInstance (b := true) hit1.typeIs (by rw [isSubtype_type]; kernel_rfl) ?_)
  refine wpAny_pure ?_
  rw [if_neg (by decide)]
  have e0 : ((items.size : Nat) : Int) - 1 - ((0 : Nat) : Int) = (items.size : Int) - 1 := by omega
  refine wpAny_pure ⟨plainId_quiet F.plain_extend_loop _, codeAny_extend_loopS W hn _ hSf _ items.size 0 _ _ _ rfl (Nat.zero_le _) ⟨Nat.zero_le _, by rw [e0]; exact hit1, hl1⟩ h1 (ItemsOf.nil _) fun s' acc c hm hS got => ?_⟩
  rw [Moved.eq_with hm]
  refine ⟨rfl, hQ s'.heap s'.toks acc c (fun b o hb e => hm.heap b o (fun mem => ?_) (keep1 b o e)) hS got⟩
  rcases List.mem_cons.mp mem with q | mem
  · exact absurd (Heap.lt_size e) (by rw [q]; exact Nat.lt_irrefl _)
  · exact hb (List.mem_singleton.mp mem)
end
section
variable {X : Cx}
def rLr (K : PySem.W.Frag) : List V → Hp → VK → Prop := fun vs H Q => ∃ (a : Addr) (xs : List V), vs = [.ref a] ∧ SqL K H a xs ∧ ∀ q, H q = none → Q (.ref q) (upd H q (.lst xs.reverse))
theorem pe_lrev {a : Expr} {ta : TA} {p p2 pos pos2 : Pos} (hc : X.calm = true) (g1 : Gl X "list") (m1 : X.mg "list" = none) (g2 : Gl X "reversed") (m2 : X.mg "reversed" = none) (ha : PA X [a] ta)
    (hs : starEach [a] X.env = [(false, eval a X.env)]) : PE X (.Call (.Name "list" p) [.Call (.Name "reversed" p2) [a] [] pos2] [] pos) (tCB (rLr X.K) ta) := by
  constructor
  intro pins s σ H Q I h
  refine Call_ (ld_blt I g1 m1 boot_list (PyProof.Rows.callWith_type1 (args_cons ?_ rfl) rfl))
  refine Call_ (ld_blt I g2 m2 PyProof.Rows.boot_reversed (PyProof.Rows.callWith_type1 (thn (ha.run pos2 pins s σ H _ I h) ?_) hs rfl))
  rintro us s1 ⟨vs, H1, I1, r1, l1, xs, rfl, hx, q⟩
  obtain ⟨u1, rfl, e1⟩ := vals1 r1
  cases e1
  obtain ⟨its, rv, pl, hz⟩ := I1.list hx
  refine call_reversed_list pl.isList (args_nil ?_)
  have k0 : ∀ b o, s1.heap.get? b = some o → (s1.heap.push (revObj l1 ((its.toArray.size : Int) - 1))).get? b = some o := fun b o e => Heap.get?_push_of_some _ e
  have I2 : Inv X pins σ H1 { s1 with heap := s1.heap.push (revObj l1 ((its.toArray.size : Int) - 1)) } := I1.kept (t' := s1.toks) k0
  obtain ⟨f0, f1, f2, f3, f4, f5⟩ := I1.fpOk (H' := H1) (b := s1.heap.objs.size) (Nat.le_refl _) (I1.hok.fresh (Nat.le_refl _))
  have hl := pl.isList
  obtain ⟨ol, hol, _⟩ := id hl
  have hne : l1 ≠ s1.heap.objs.size := Nat.ne_of_lt (Heap.lt_size hol)
  have hn : its.toArray.size ≤ sizeLine := by rw [List.size_toArray, ← rv.length]; exact hz
  refine list_rev (s := { s1 with heap := _ }) (I1.ok.hd hc) ⟨_, Heap.get?_push_size _ rfl, rfl, rfl⟩ (hl.push _) hne hn fun h' tk acc c hk eS hi => ?_
  have fresh : H1 (s1.heap.push (revObj l1 ((its.toArray.size : Int) - 1))).objs.size = none := I2.hok.fresh (Nat.le_refl _)
  refine ⟨.ref _, _, ?_, rfl, q _ fresh⟩
  refine I1.turnedNew (t' := tk) (ch := [s1.heap.objs.size]) (fun b o hb e => hk b o (fun z => hb (by simp [z])) (k0 b o e)) (fun b hb => ?_) ?_ (show ObjOk X.prog X.w _ _ _ (.lst xs.reverse) from ⟨by rw [List.length_reverse]; exact hz, acc.toList, c, RT.vals_rev rv hi, ?_⟩)
  · rw [List.mem_singleton.mp hb]; exact I1.fpOk (Nat.le_refl _) (I1.hok.fresh (Nat.le_refl _))
  · show s1.heap.objs.size ≤ (s1.heap.push _).objs.size
    rw [Heap.size_push]; exact Nat.le_succ _
  · rw [Array.toArray_toList]; exact eS
end
end LV
/-! list(reversed(a tuple)) -/
namespace LV
open PySem PySem.Spec PyProof.Rows L2
theorem slot_rt_hint : Slot "reversed" "__length_hint__" "reversed.__length_hint__" :=
  .of (owner := "reversed") (n := "__length_hint__") (by rw [typeLookup_type, builtinLookup_eq_fast]; kernel_rfl) (by decide +kernel) (by decide +kernel) (by decide +kernel)
    (by first | exact .inl (by decide +kernel) | exact .inr (by decide +kernel)) (by rw [isSubtype_type]; kernel_rfl)
theorem entry_rt_hint : entryFor table "reversed.__length_hint__" = some Builtin.«reversed.__length_hint__» := entryFor_of_tree (by kernel_rfl)
theorem args_rt_hint (a : Value) : argsOk "reversed.__length_hint__" ⟨[a], []⟩ := by unfold argsOk; kernel_rfl
theorem nolen_rt : typeLookup (.type "reversed") "__len__" = pure none := by rw [typeLookup_type, builtinLookup_eq_fast]; kernel_rfl
theorem Walks.tupRev {prog : Program} {w : World} {A : Around} (hh : A.handled = none) (I l : Addr) (hne : l ≠ I) (items : Array Value) (hsz : items.size ≤ sizeLine) :
    Walks prog w A I [I, l] [I] items.size (fun i v => items[items.size - 1 - i]? = some v) (fun i h => i ≤ items.size ∧ RT.IsRt h I l ((items.size : Int) - 1 - (i : Int)) ∧ IsTup h l items) where
  sub := fun b hb => by simp at hb; simp [hb]
  frame := fun _ _ _ x hk => ⟨x.1, x.2.1.at fun o e => hk I (by simp) o e, Heap.IsTuple.at x.2.2 fun o e => hk l (by simp) o e⟩
  item := fun i s Q E hi x hQ => by
    have e : (items.size : Int) - 1 - (i : Int) = ((items.size - 1 - i : Nat) : Int) := by omega
    have hit := x.2.1
    rw [e] at hit
    have hx : items[items.size - 1 - i]? = some (items[items.size - 1 - i]'(by omega)) := Array.getElem?_eq_getElem (by omega)
    refine RT.next_rt_item hit x.2.2 hx hsz fun h' hit' hs' => ?_
    have e2 : ((items.size - 1 - i : Nat) : Int) - 1 = (items.size : Int) - 1 - ((i + 1 : Nat) : Int) := by omega
    rw [e2] at hit'
    exact hQ _ h' _ hx ⟨hi, hit', Heap.IsTuple.at x.2.2 fun o eo => (hs'.2 l hne).trans eo⟩ fun b o hb eo => hs'.extBut b o (fun h => hb (by simp [h])) eo
  done := fun s Q E x hQ => by
    have e : (items.size : Int) - 1 - (items.size : Int) = -1 := by omega
    have hit := x.2.1
    rw [e] at hit
    exact RT.next_rt_end hh hit fun h' he' => hQ h' s.toks fun b o hb eo => he' b o (fun h => hb (by simp [h])) eo
  self := fun _ _ _ _ x hQ => RT.iter_rt x.2.1 hQ
section
variable {prog : Program} {w : World} {A : Around} {E : Value → Shared → Prop} {s : Shared}
theorem hint_run {it t : Addr} {its : Array Value} {Q : Value → Shared → Prop} (hit : RT.IsRt s.heap it t ((its.size : Int) - 1)) (ht : IsTup s.heap t its) (hsz : its.size ≤ sizeLine)
    (hQ : ∀ tk u, Q (.int its.size u) { s with toks := tk }) : wpAny (model prog w) A (Builtin.«reversed.__length_hint__» ⟨[.ref it], []⟩) (fun fin s' => ∃ v, fin = .done (.ret v) ∧ Q v s') E s := by
  obtain ⟨o, ho, hc, hd⟩ := hit
  have hn := line63
  unfold Builtin.«reversed.__length_hint__»
  refine wpAny_bind (wpAny_of_eq (a := .ref it) (by first | rfl | kernel_rfl) ?_)
  refine wpAny_bind (wpAny_field ho hd (x := .ref t) rfl ?_)
  rw [if_neg (by simp)]
  refine wpAny_bind (len_tuple ht (by omega) ?_)
  refine wpAny_bind (wpAny_of_eq (a := some (its.size : Int)) (by first | rfl | kernel_rfl) ?_)
  refine wpAny_bind (wpAny_field (s := { s with toks := _ }) ho hd (x := rawInt ((its.size : Int) - 1)) rfl ?_)
  show wpAny _ _ (if (its.size : Int) < ((its.size : Int) - 1) + 1 then _ else _) _ _ _
  rw [if_neg (by omega)]
  have e : (its.size : Int) - 1 + 1 = (its.size : Int) := by omega
  rw [e]
  unfold retInt
  refine wpAny_bind (wpAny_mkInt ?_)
  exact wpAny_pure ⟨_, rfl, hQ _ _⟩
/-- what list asks first of such an iterator: how many are left -/
theorem lenHint_rt {it t : Addr} {its : Array Value} {Q : Bool → Shared → Prop} (hit : RT.IsRt s.heap it t ((its.size : Int) - 1)) (ht : IsTup s.heap t its) (hsz : its.size ≤ sizeLine)
    (hQ : ∀ tk, Q ((its.size : Int) != 0) { s with toks := tk }) : wpAny (model prog w) A (Builtin.List.listLengthHint (.ref it)) Q E s := by
  have hn := line63
  unfold Builtin.List.listLengthHint
  refine wpAny_bind (wpAny_specialOf hit.typeIs nolen_rt ?_)
  show wpAny _ A (specialOf (Value.ref it) (Str.ofString "__length_hint__") >>= _) _ _ _
  refine wpAny_bind (wpAny_specialOf hit.typeIs slot_rt_hint.lookup ?_)
  generalize hid : ("reversed.__length_hint__" : String) = id0
  wp_delta
  rw [show splitId id0 = some ("reversed", "__length_hint__") from by subst hid; decide +kernel]
  subst hid
  refine wpAny_bind (wpAny_isInstance (b := true) hit.typeIs (by rw [isSubtype_type]; kernel_rfl) ?_)
  rw [if_neg (by decide)]
  show wpAny _ A (if _ = true then _ else _) _ _ _
  rw [if_neg (by decide +kernel)]
  refine wpAny_bind (wpAny_rule ?_)
  refine wpAny_bind (wpAny_of_eq (slot_rt_hint.bind _) ?_)
  show wpAny _ A ((call (.builtin "reversed.__length_hint__") [.ref it]).attempt >>= _) _ _ _
  refine wpAny_bind (wpAny_attempt (wpAny_call_entry slot_rt_hint hit.typeIs entry_rt_hint (hint_run hit ht hsz fun tk u => ?_) (args_rt_hint _)))
  have ea : asInt? (.int (its.size : Int) u) = pure (some (its.size : Int)) := by first | rfl | kernel_rfl
  show wpAny _ A (asInt? (.int (its.size : Int) u) >>= _) _ _ _
  rw [ea, pure_bind]
  have c1 : Builtin.List.listFitsIndex (its.size : Int) = true := by
    unfold Builtin.List.listFitsIndex
    rw [decide_eq_true (by omega), decide_eq_true (by omega)]; rfl
  have c2 : Builtin.List.listTooLong (its.size : Int).toNat = false := by
    unfold Builtin.List.listTooLong
    rw [Int.toNat_natCast]
    exact decide_eq_false (by omega)
  have c3 : ¬ ((its.size : Int) < 0) := by omega
  simp only [c1, c2, c3, Bool.not_true, Bool.false_eq_true, if_false, pure_bind]
  exact wpAny_pure (hQ tk)
theorem list_revT {it l : Addr} {items : Array Value} {Q : Value → Shared → Prop} (hh : A.handled = none) (hit : RT.IsRt s.heap it l ((items.size : Int) - 1)) (hl : IsTup s.heap l items) (hne : l ≠ it) (hn : items.size ≤ sizeLine)
    (hQ : ∀ (h' : Heap) (tk : Nat) (acc : Array Value) (c : Nat), (∀ b o, b ≠ it → s.heap.get? b = some o → h'.get? b = some o) → h'.get? s.heap.objs.size = some { cls := .type "list", data := .seq acc c } → ItemsOf (fun i v => items[items.size - 1 - i]? = some v) acc items.size →
      Q (.ref s.heap.objs.size) { s with heap := h', toks := tk }) : wpAny (model prog w) A (call (.type "list") [.ref it]) Q E s := by
  have W := (Walks.tupRev (prog := prog) (w := w) (A := A.in1.in1) hh it l hne items hn).toS
  obtain ⟨oi, hoi, _⟩ := id hit
  obtain ⟨ol, hol, _⟩ := id hl
  have li : it < s.heap.objs.size := Heap.lt_size hoi
  have ll : l < s.heap.objs.size := Heap.lt_size hol
  have hSi : s.heap.objs.size ≠ it := Nat.ne_of_gt li
  have hSf : s.heap.objs.size ∉ [it, l] := by
    simp only [List.mem_cons, List.not_mem_nil, or_false, not_or]
    exact ⟨hSi, Nat.ne_of_gt ll⟩
  refine callType_codes (Q₁ := fun obj z => obj = .ref s.heap.objs.size ∧ z = { s with heap := s.heap.push { cls := .type "list", data := .seq #[] } }) F.called_list (F.typeCall_list_1 _) F.entry_list_init (code_list_new _ ⟨rfl, rfl⟩) ?_
  rintro obj z ⟨rfl, rfl⟩
  have h0 : (s.heap.push { cls := .type "list", data := .seq #[] }).get? s.heap.objs.size = some { cls := .type "list", data := .seq #[] } := Heap.get?_push_size _ rfl
  refine ⟨⟨_, h0, rfl⟩, F.args_list_init_2 _ _, ?_⟩
  show wpAny _ A.in1.in1 (do
    let was ← Builtin.List.listItems (.ref s.heap.objs.size)
    Builtin.List.listUpdate (.ref s.heap.objs.size) (fun _ => #[])
    letGo was.toList.reverse
    Builtin.List.listExtendWith (.ref s.heap.objs.size) (.ref it) .none) _ _ _
  refine wpAny_bind ?_
  unfold Builtin.List.listItems
  refine wpAny_bind (wpAny_seqItems h0 rfl (wpAny_pure ?_))
  show wpAny _ A.in1.in1 (updateSeq s.heap.objs.size (fun _ => #[]) >>= fun _ =>
    letGo (#[] : Array Value).toList.reverse >>= fun _ => Builtin.List.listExtendWith (.ref s.heap.objs.size) (.ref it) .none) _ _ _
  refine wpAny_bind (wpAny_updateSeq h0 rfl ?_)
  refine wpAny_bind (wpAny_letGo ?_)
  have h1 := Heap.get?_update_self (Obj.mapSeq (fun _ => (#[] : Array Value))) h0 rfl
  have keep1 : ∀ b o, s.heap.get? b = some o → ((s.heap.push { cls := .type "list", data := .seq #[] }).update s.heap.objs.size (Obj.mapSeq (fun _ => (#[] : Array Value)))).get? b = some o := fun b o e =>
    (Heap.get?_update_other _ _ (Nat.ne_of_gt (Heap.lt_size e))).trans (Heap.get?_push_of_some _ e)
  have hit1 : RT.IsRt ((s.heap.push { cls := .type "list", data := .seq #[] }).update s.heap.objs.size (Obj.mapSeq (fun _ => (#[] : Array Value)))) it l ((items.size : Int) - 1) := hit.at fun o e => keep1 _ o e
  have hl1 : IsTup ((s.heap.push { cls := .type "list", data := .seq #[] }).update s.heap.objs.size (Obj.mapSeq (fun _ => (#[] : Array Value)))) l items := Heap.IsTuple.at hl fun o e => keep1 _ o e
  unfold Builtin.List.listExtendWith
  refine wpAny_bind (wpAny_typeOf hit1.typeIs ?_)
  have ns : Builtin.List.listSameRef (.ref s.heap.objs.size) (.ref it) = false := by simp [Builtin.List.listSameRef, hSi]
  rw [if_neg (by rw [ns]; decide)]
  refine wpAny_bind (RT.iter_rt (s := { s with heap := _ }) hit1 ?_)
  refine wpAny_bind (wpAny_holding ?_)
  refine lenHint_rt (s := { s with heap := _ }) hit1 hl1 hn fun tk => ?_
  have e0 : ((items.size : Nat) : Int) - 1 - ((0 : Nat) : Int) = (items.size : Int) - 1 := by omega
  have fin : ∀ (h2 : Heap) (c : Nat) (tk : Nat), h2.get? s.heap.objs.size = some { cls := .type "list", data := .seq #[] c } → (∀ b o, s.heap.get? b = some o → h2.get? b = some o) →
      wpAny (model prog w) A.in1.in1 (again (.builtin "list.extend.loop" ⟨[.ref s.heap.objs.size, .ref it, .none], []⟩) : Sem Fin) (fun fin s' =>
        match fin with
        | Fin.done f => wants (fun r s₂ => r = Value.none ∧ Q (Value.ref s.heap.objs.size) s₂) E (Except.ok f) s'
        | Fin.again c' => c'.quiet = true ∧ codeAny (model prog w) A.in1 c' (wants (fun r s₂ => r = Value.none ∧ Q (Value.ref s.heap.objs.size) s₂) E) s')
        (fun e s' => wants (fun r s₂ => r = Value.none ∧ Q (Value.ref s.heap.objs.size) s₂) E (Except.error e) s') { s with heap := h2, toks := tk } := fun h2 c tk g2 keep2 => by
    have hit2 : RT.IsRt h2 it l ((items.size : Int) - 1) := hit.at fun o e => keep2 _ o e
    have hl2 : IsTup h2 l items := Heap.IsTuple.at hl fun o e => keep2 _ o e
    refine wpAny_pure ⟨plainId_quiet F.plain_extend_loop _, codeAny_extend_loopS W hn _ hSf _ items.size 0 { s with heap := h2, toks := tk } _ _ rfl (Nat.zero_le _) ⟨Nat.zero_le _, by rw [e0]; exact hit2, hl2⟩ g2 (ItemsOf.nil _) fun s' acc c hm hS got => ?_⟩
    rw [Moved.eq_with hm]
    refine ⟨rfl, hQ s'.heap s'.toks acc c (fun b o hb e => hm.heap b o (fun mem => ?_) (keep2 b o e)) hS got⟩
    rcases List.mem_cons.mp mem with q | mem
    · exact absurd (Heap.lt_size e) (by rw [q]; exact Nat.lt_irrefl _)
    · exact hb (List.mem_singleton.mp mem)
  dsimp only
  split
  · refine wpAny_bind (wpAny_rule ?_)
    show wpAny _ A.in1.in1 ((updateSeq s.heap.objs.size (·.push .none) >>= fun _ => updateSeq s.heap.objs.size (·.pop)) >>= fun _ => again (.builtin "list.extend.loop" ⟨[.ref s.heap.objs.size, .ref it, .none], []⟩)) _ _ _
    have h1' : ((s.heap.push { cls := .type "list", data := .seq #[] }).update s.heap.objs.size (Obj.mapSeq (fun _ => (#[] : Array Value)))).get? s.heap.objs.size = some { cls := .type "list", data := .seq #[] _ } := h1
    refine wpAny_bind (wpAny_bind (wpAny_updateSeq h1' rfl ?_ (by simp [sizeLine_eq]) (by simp [sizeLine_eq])))
    have h2' := Heap.get?_update_self (Obj.mapSeq (·.push .none)) h1' rfl
    refine wpAny_updateSeq h2' rfl ?_ (by simp [sizeLine_eq]) (by simp [sizeLine_eq])
    have h3' := Heap.get?_update_self (Obj.mapSeq (·.pop)) h2' rfl
    refine fin _ _ tk h3' fun b o e => ?_
    have nb : s.heap.objs.size ≠ b := Nat.ne_of_gt (Heap.lt_size e)
    exact (Heap.get?_update_other _ _ nb).trans ((Heap.get?_update_other _ _ nb).trans (keep1 b o e))
  · exact fin _ _ tk h1 keep1
end
section
variable {X : Cx}
def rLrA (K : PySem.W.Frag) : List V → Hp → VK → Prop := fun vs H Q => ∃ (k : Bool) (a : Addr) (xs : List V), vs = [.ref a] ∧ Sk k K H a xs ∧ ∀ q, H q = none → Q (.ref q) (upd H q (.lst xs.reverse))
theorem pe_lrevA {a : Expr} {ta : TA} {p p2 pos pos2 : Pos} (hc : X.calm = true) (g1 : Gl X "list") (m1 : X.mg "list" = none) (g2 : Gl X "reversed") (m2 : X.mg "reversed" = none) (ha : PA X [a] ta)
    (hs : starEach [a] X.env = [(false, eval a X.env)]) : PE X (.Call (.Name "list" p) [.Call (.Name "reversed" p2) [a] [] pos2] [] pos) (tCB (rLrA X.K) ta) := by
  constructor
  intro pins s σ H Q I h
  refine Call_ (ld_blt I g1 m1 boot_list (PyProof.Rows.callWith_type1 (args_cons ?_ rfl) rfl))
  refine Call_ (ld_blt I g2 m2 PyProof.Rows.boot_reversed (PyProof.Rows.callWith_type1 (thn (ha.run pos2 pins s σ H _ I h) ?_) hs rfl))
  rintro us s1 ⟨vs, H1, I1, r1, kd, l1, xs, rfl, hx, q⟩
  obtain ⟨u1, rfl, e1⟩ := vals1 r1
  cases e1
  obtain ⟨f0, f1, f2, f3, f4, f5⟩ := I1.fpOk (H' := H1) (b := s1.heap.objs.size) (Nat.le_refl _) (I1.hok.fresh (Nat.le_refl _))
  cases kd with
  | false =>
    obtain ⟨its, rv, pl, hz⟩ := I1.list hx
    refine call_reversed_list pl.isList (args_nil ?_)
    have k0 : ∀ b o, s1.heap.get? b = some o → (s1.heap.push (revObj l1 ((its.toArray.size : Int) - 1))).get? b = some o := fun b o e => Heap.get?_push_of_some _ e
    have I2 : Inv X pins σ H1 { s1 with heap := s1.heap.push (revObj l1 ((its.toArray.size : Int) - 1)) } := I1.kept (t' := s1.toks) k0
    have hl := pl.isList
    obtain ⟨ol, hol, _⟩ := id hl
    have hne : l1 ≠ s1.heap.objs.size := Nat.ne_of_lt (Heap.lt_size hol)
    have hn : its.toArray.size ≤ sizeLine := by rw [List.size_toArray, ← rv.length]; exact hz
    refine list_rev (s := { s1 with heap := _ }) (I1.ok.hd hc) ⟨_, Heap.get?_push_size _ rfl, rfl, rfl⟩ (hl.push _) hne hn fun h' tk acc c hk eS hi => ?_
    have fresh : H1 (s1.heap.push (revObj l1 ((its.toArray.size : Int) - 1))).objs.size = none := I2.hok.fresh (Nat.le_refl _)
    refine ⟨.ref _, _, ?_, rfl, q _ fresh⟩
    refine I1.turnedNew (t' := tk) (ch := [s1.heap.objs.size]) (fun b o hb e => hk b o (fun z => hb (by simp [z])) (k0 b o e)) (fun b hb => ?_) ?_ (show ObjOk X.prog X.w _ _ _ (.lst xs.reverse) from ⟨by rw [List.length_reverse]; exact hz, acc.toList, c, RT.vals_rev rv hi, ?_⟩)
    · rw [List.mem_singleton.mp hb]; exact I1.fpOk (Nat.le_refl _) (I1.hok.fresh (Nat.le_refl _))
    · show s1.heap.objs.size ≤ (s1.heap.push _).objs.size
      rw [Heap.size_push]; exact Nat.le_succ _
    · rw [Array.toArray_toList]; exact eS
  | true =>
    obtain ⟨its, rv, pl, hz⟩ := I1.tuple hx
    have hl := rv.length
    have hn63 := line63
    have hn : its.toArray.size ≤ sizeLine := by rw [List.size_toArray, ← rv.length]; exact hz
    refine RT.call_reversed_tup pl (fun A E Q k => len_tuple pl (by omega) k) (args_nil ?_)
    have k0 : ∀ b o, s1.heap.get? b = some o → (s1.heap.push (RT.rtObj l1 ((its.toArray.size : Int) - 1))).get? b = some o := fun b o e => Heap.get?_push_of_some _ e
    have I2 : Inv X pins σ H1 { s1 with heap := s1.heap.push (RT.rtObj l1 ((its.toArray.size : Int) - 1)), toks := s1.toks + 1 + 1 } := I1.kept (t' := s1.toks + 1 + 1) k0
    obtain ⟨ol, hol, _⟩ := id pl
    have hne : l1 ≠ s1.heap.objs.size := Nat.ne_of_lt (Heap.lt_size hol)
    refine list_revT (s := { s1 with heap := _, toks := _ }) (I1.ok.hd hc) ⟨_, Heap.get?_push_size _ rfl, rfl, rfl⟩ (Heap.IsTuple.at pl fun o e => k0 _ o e) hne hn fun h' tk acc c hk eS hi => ?_
    have fresh : H1 (s1.heap.push (RT.rtObj l1 ((its.toArray.size : Int) - 1))).objs.size = none := I2.hok.fresh (Nat.le_refl _)
    refine ⟨.ref _, _, ?_, rfl, q _ fresh⟩
    refine I1.turnedNew (t' := tk) (ch := [s1.heap.objs.size]) (fun b o hb e => hk b o (fun z => hb (by simp [z])) (k0 b o e)) (fun b hb => ?_) ?_ (show ObjOk X.prog X.w _ _ _ (.lst xs.reverse) from ⟨by rw [List.length_reverse]; exact hz, acc.toList, c, RT.vals_rev rv hi, ?_⟩)
    · rw [List.mem_singleton.mp hb]; exact I1.fpOk (Nat.le_refl _) (I1.hok.fresh (Nat.le_refl _))
    · show s1.heap.objs.size ≤ (s1.heap.push _).objs.size
      rw [Heap.size_push]; exact Nat.le_succ _
    · rw [Array.toArray_toList]; exact eS
end
end LV
namespace LV
open PySem PySem.Spec PyProof.Rows L2

/-! ### is -/
def isNonD : D → Bool
  | .non => true
  | _ => false
def bagD : D → Bool
  | .bag _ => true
  | .scr _ => true
  | _ => false
def fIs : F2 := fun a b Q => match b with
  | .non => bagD a = false ∧ Q (.sh (.bl (isNonD a)))
  | .bl y => match a with
    | .bl x => Q (.sh (.bl (decide (x = y))))
    | .bag _ => False
    | .scr _ => False
    | _ => Q (.sh (.bl false))
  | _ => False
def fIsNot : F2 := fun a b Q => match b with
  | .non => bagD a = false ∧ Q (.sh (.bl (!isNonD a)))
  | .bl y => match a with
    | .bl x => Q (.sh (.bl (!decide (x = y))))
    | _ => False
  | _ => False
theorem View.isNon {bv N H d v} (h : View bv N H d v) (nb : bagD d = false) : decide (v = .non) = isNonD d := by
  cases d <;> first | (cases nb; done) | (cases h; rfl) | (obtain ⟨a, vs, rfl, _⟩ := h; rfl)
/-- what is no bool is not True, is not False -/
def nbV : V → Prop
  | .int _ => True
  | .str _ => True
  | .ref _ => True
  | .non => True
  | _ => False
def rIsO : R2 := fun x y H Q => nbV x ∧ (∃ b, y = .bl b) ∧ Q (.bl false) H
theorem op_isO {X : Cx} : OpR X (compareOp .Is) rIsO := by
  intro pins s σ H x y v u Q I rx ry h
  obtain ⟨hx, ⟨b, rfl⟩, q⟩ := h
  cases (show u = Value.bool b from ry)
  have fin : EP X pins σ Q (.bool false) s := ⟨.bl false, H, I, rfl, q⟩
  cases x <;> first
    | exact hx.elim
    | (cases rx; exact wpAny_is_other rfl (fun z => by cases z) fin)
    | (obtain ⟨t, rfl⟩ := rx; exact wpAny_is_other rfl (fun z => by cases z) fin)
theorem View.nb {bv N H d v} (h : View bv N H d v) (nb : bagD d = false) (n2 : ∀ b, d ≠ .bl b) : nbV v := by
  cases d <;> first | (cases nb; done) | (exact absurd rfl (n2 _)) | (cases h; trivial) | (obtain ⟨a, vs, rfl, _⟩ := h; trivial)
abbrev rIsA : R2 := fun x y H Q => (fun x y (H : Hp) (Q : VK) => y = .non ∧ Q (.bl (decide (x = .non))) H) x y H Q ∨ (rIsB x y H Q ∨ rIsO x y H Q)
abbrev rIsNotA : R2 := fun x y H Q => (fun x y (H : Hp) (Q : VK) => y = .non ∧ Q (.bl (!decide (x = .non))) H) x y H Q ∨ rNotB x y H Q
theorem op_isA {X : Cx} : OpR X (compareOp .Is) rIsA := op_isN.or (op_isBl.or op_isO)
theorem op_isNotA {X : Cx} : OpR X (compareOp .IsNot) rIsNotA := op_notN.or op_notBl
theorem View.eqNon {bv N H v} (h : View bv N H .non v) : v = .non := by cases h; rfl
theorem View.eqBl {bv N H b v} (h : View bv N H (.bl b) v) : v = .bl b := by cases h; rfl
theorem opS_is : OpS rIsA fIs := by
  intro g N H0 L H da db x y Qf Q S va vb hq k
  unfold fIs at hq; split at hq
  · exact .inl ⟨vb.eqNon, by rw [va.isNon hq.1]; exact k.sh S .bl hq.2⟩
  · split at hq
    · exact .inr (.inl ⟨_, _, va.eqBl, vb.eqBl, k.sh S .bl hq⟩)
    · exact hq.elim
    · exact hq.elim
    · rename_i n1 n2 n3
      exact .inr (.inr ⟨va.nb (by cases da <;> first | rfl | (exact absurd rfl (n2 _)) | (exact absurd rfl (n3 _))) (fun b => n1 b), ⟨_, vb.eqBl⟩, k.sh S .bl hq⟩)
  · exact hq.elim
theorem opS_isNot : OpS rIsNotA fIsNot := by
  intro g N H0 L H da db x y Qf Q S va vb hq k
  unfold fIsNot at hq; split at hq
  · exact .inl ⟨vb.eqNon, by rw [va.isNon hq.1]; exact k.sh S .bl hq.2⟩
  · split at hq
    · exact .inr ⟨_, _, va.eqBl, vb.eqBl, k.sh S .bl hq⟩
    · exact hq.elim
  · exact hq.elim

/-! ### isinstance -/
inductive TN where
  | tuple | int | bool | list | str | dict
deriving DecidableEq
def TN.nm : TN → String
  | .tuple => "tuple"
  | .int => "int"
  | .bool => "bool"
  | .list => "list"
  | .str => "str"
  | .dict => "dict"
def tnOf (x : Str) : Option TN :=
  if x = ("tuple" : Str) then some .tuple else if x = ("int" : Str) then some .int else if x = ("bool" : Str) then some .bool else if x = ("list" : Str) then some .list else if x = ("str" : Str) then some .str else if x = ("dict" : Str) then some .dict else none
theorem tnOf_of {x : Str} {T : TN} (h : tnOf x = some T) : bootBuiltins x = some (.type T.nm) ∧ x ≠ "__name__" ∧ (x == ("__debug__" : Str)) = false := by
  unfold tnOf at h
  split at h
  · cases h; subst x; decide +kernel
  split at h
  · cases h; subst x; decide +kernel
  split at h
  · cases h; subst x; decide +kernel
  split at h
  · cases h; subst x; decide +kernel
  split at h
  · cases h; subst x; decide +kernel
  split at h
  · cases h; subst x; decide +kernel
  · cases h
def tyD : D → Option String
  | .non => some "NoneType"
  | .bl _ => some "bool"
  | .int _ => some "int"
  | .str _ => some "str"
  | .tup _ => some "tuple"
  | .lst _ => some "list"
  | .bag _ => none
  | .scr _ => none
def isiB (d : D) (T : TN) : Bool := match T, d with
  | .tuple, .tup _ => true
  | .int, .int _ => true
  | .int, .bl _ => true
  | .bool, .bl _ => true
  | .list, .lst _ => true
  | .str, .str _ => true
  | _, _ => false
theorem kit_isi {K : PySem.W.Frag} {d : D} {t : String} (T : TN) (h : tyD d = some t) : PySem.W.kitOne K (.type t) (.type T.nm) = some (isiB d T) := by
  refine kit_ty ?_
  cases d <;> simp only [tyD, Option.some.injEq] at h <;> first | (cases h; done) | skip
  all_goals (cases h; cases T <;> first | (change kitB _ _ = some true; decide +kernel) | (change kitB _ _ = some false; decide +kernel))
theorem View.tyx {bv N H d v} (K : PySem.W.Frag) {t : String} (h : View bv N H d v) (ht : tyD d = some t) : TyX K H v (.type t) := by
  cases d <;> simp only [tyD, Option.some.injEq] at ht <;> first | cases ht | skip
  · cases h; exact .base .non
  · cases h; exact .base (.bl _)
  · cases h; exact .base (.int _)
  · cases h; exact .base (.str _)
  · obtain ⟨a, vs, rfl, e, _⟩ := h.tup; exact .base (.tup e)
  · obtain ⟨a, vs, rfl, e, _⟩ := h; exact .base (.lst e)
def wIsi (T : TN) (wa : WE) : WE := fun s Q => wa s fun r s1 => rdW s1 r fun d => bagD d = false ∧ Q (.sh (.bl (isiB d T))) s1
theorem le_isi {X : Cx} {a : Expr} {y : Str} {T : TN} {wa : WE} {p p2 pos : Pos} (hg : Gl X "isinstance") (hm : X.mg "isinstance" = none) (hT : tnOf y = some T) (hg2 : Gl X y) (hm2 : X.mg y = none) (hp : plainE a = true) (ha : LE X a wa) :
    LE X (.Call (.Name "isinstance" p) [a, .Name y p2] [] pos) (wIsi T wa) := by
  obtain ⟨t1, h1, h2⟩ := tnOf_of hT
  obtain ⟨ta, pa, la⟩ := ha.ex
  have pt : PE X (.Name y p2) (tC (.ty T.nm)) := pe_bltn hg2 hm2 t1 rfl h1 h2
  refine ⟨⟨_, pe_callB call_isi hg hm (by decide +kernel) (pa_cons pa (pa_cons pt pa_nil rfl) (star_cons hp)) (by decide) (by decide) (star_cons hp) rfl, ?_⟩⟩
  intro g N H0 s σ P H Qw Q hl S h k
  refine la g N H0 s σ P H _ _ hl S h fun r s1 v H1 hl1 S1 rv hh => ?_
  obtain ⟨d, ⟨nb, hq⟩, vd⟩ := S1.rd (fun p h => List.mem_append_left _ h) hl1 (by simp) rv hh
  obtain ⟨t, ht⟩ : ∃ t, tyD d = some t := by cases d <;> first | exact ⟨_, rfl⟩ | cases nb
  exact ⟨v, .ty T.nm, .type t, .type T.nm, isiB d T, rfl, .ty _, vd.tyx X.K ht, kit_isi T ht, k (.sh (.bl (isiB d T))) s1 _ _ hl1 ((S1.addSh .bl).mid (by simp)) (RVal.ok (fun _ e => by cases e)) hq⟩

/-! ### repr -/
def fRepr : FN := fun ds Q => match ds with
  | [d] => sha d ∧ (toPy d).showable = true ∧ (toPy d).shown.length ≤ sizeLine ∧ Q (.sh (.str (toPy d).shown))
  | _ => False
def rRepr (K : PySem.W.Frag) : List V → Hp → VK → Prop := fun xs H Q => ∃ x d, xs = [x] ∧ Dp K H x d ∧ SeqAt.shaped d = true ∧ d.showable = true ∧ d.shown.length ≤ sizeLine ∧ Q (.str d.shown) H
theorem cr_repr {X : Cx} (hg : X.A.guards = some []) (hu : X.A.units + 100 < cLine) : CallR X (.builtin "repr") (rRepr X.K) := by
  intro pins s σ H xs us Q I r h
  obtain ⟨x, d, rfl, hd, hs, hw, hz, q⟩ := h
  obtain ⟨u, rfl, ru⟩ := vals1 r
  obtain ⟨as, hr⟩ := Dp.reads I d x u hd ru
  have hnd := PyData.hasDict_of_canLay d (SeqAt.canLay_of_shaped hs)
  have hdp := SeqAt.depth_of_shaped hs
  have seq : ∀ a, Reads s.heap (.ref a) d as → wpAny (model X.prog X.w) X.A (call (.builtin "repr") [.ref a]) (EP X pins σ Q) X.xe s := fun a hr =>
    repr_of_reads' hr hw (PyData.noDict_hsm hnd) hg (by omega) (fun _ _ e => e) (fun h' t tk hk => ⟨.str d.shown, H, I.kept (t' := tk) hk, ⟨_, rfl⟩, q⟩) hz
  cases hd with
  | non => cases ru; exact PySem.P.repr_of_none ⟨.str "None", H, I.tok _, ⟨_, rfl⟩, q⟩
  | bl b => cases ru; exact PySem.P.repr_of_bool ⟨.str (PyData.bool b).shown, H, I.tok _, ⟨_, by cases b <;> rfl⟩, q⟩
  | int i => obtain ⟨t, rfl⟩ := ru; exact PySem.P.repr_of_int (of_decide_eq_true hw) ⟨.str (PyData.int i).shown, H, I.tok _, ⟨_, rfl⟩, q⟩
  | str y => obtain ⟨t, rfl⟩ := ru; exact PySem.P.repr_of_str ⟨.str (PyData.str y).shown, H, I.tok _, ⟨_, rfl⟩, q⟩ hz
  | lst a b => cases ru; exact seq _ hr
  | tup a b => cases ru; exact seq _ hr
theorem caS_repr {K : PySem.W.Frag} : CaS (rRepr K) fRepr := by
  intro g N H0 L H ds vs Qf Q S vd hq k
  unfold fRepr at hq; split at hq
  · obtain ⟨v, rfl, h⟩ := vd.one
    obtain ⟨h1, h2, h3, hq⟩ := hq
    exact ⟨v, _, rfl, h.dp K h1, h1, h2, h3, k.sh S .str hq⟩
  · exact hq.elim

/-! ### list(zip(xs, ys)), list(enumerate(xs)) -/
def seqD : D → Option (List D)
  | .lst xs => some xs
  | .tup xs => some xs
  | _ => none
def fLz : FN := fun ds Q => match ds with
  | [a, b] => match seqD a, seqD b with
    | some xs, some ys => Q (.fr (zipD xs ys))
    | _, _ => False
  | _ => False
theorem zipD_len : ∀ {xs ys : List D}, (zipD xs ys).length = min xs.length ys.length
  | [], _ => by simp [zipD]
  | _ :: _, [] => by simp [zipD]
  | x :: xs, y :: ys => by simp [zipD, zipD_len (xs := xs) (ys := ys)]
theorem zipD_num : ∀ (ds : List D) (n : Nat), zipD ((List.range' n ds.length).map fun (i : Nat) => .int (i : Int)) ds = enumD n ds
  | [], _ => rfl
  | d :: ds, n => by
    have := zipD_num ds (n + 1)
    simp only [List.length_cons, List.range'_succ, List.map_cons, zipD, enumD, this]
def numD (n : Nat) : List D := (List.range n).map fun (i : Nat) => .int (i : Int)
def fLen0 : FN := fun ds Q => match ds with
  | [.lst xs] => Q (.fr (enumD 0 xs))
  | _ => False
theorem SR.newG {g : Bag} {N : Addr → Prop} {H0 H H' : Hp} {L : List En} (S : SR g N H0 L H) {p : Addr} (hp : H p = none) (hk : ∀ a o, H a = some o → H' a = some o) {ds vs} (he : H' p = some (.lst vs)) (r : Reps g.bv H' (Nn N ((.ow ds, some (.ref p)) :: L)) ds vs) :
    SR g N H0 ((.ow ds, some (.ref p)) :: L) H' := by
  have S1 : SR g N H0 L H' := by
    refine S.grow (g.loc _ _ (fun a b => ?_) S.hg) fun a o e _ => hk a o e
    have := g.dom H a S.hg b
    cases e : H a with
    | none => rw [e] at this; cases this
    | some o => exact hk a o e
  have h0 := S.h0 hp
  have nf := S.nn_fresh hp
  have hc : ∀ a, cnt a ((Sl.ow ds, some (V.ref p)) :: L) = cnt a L + if a = p then 1 else 0 := fun a => by
    show List.countP _ _ = _
    rw [List.countP_cons]
    by_cases e : a = p
    · subst e; simp [owns]
    · have : owns a (Sl.ow ds, some (V.ref p)) = false := by
        simp only [owns, beq_eq_false_iff_ne, ne_eq, Option.some.injEq, V.ref.injEq]; exact fun z => e z.symm
      simp [this, e]
  have hn : ∀ a o, H a = some o → Nn N ((Sl.ow ds, some (V.ref p)) :: L) a → Nn N L a := fun a o e z => z.elim .inl fun z => by
    rw [hc a, if_neg (ne_of_none e hp)] at z; exact .inr z
  have hk' : ∀ a o, H a = some o → ¬ Nn N L a → H' a = some o := fun a o e _ => hk a o e
  refine ⟨S1.hg, S1.sm, S1.nd, S1.bn, fun q hq => ?_, fun a => ?_⟩
  · rcases List.mem_cons.mp hq with e | h
    · subst e; exact ⟨p, vs, rfl, h0, he, r⟩
    · obtain ⟨s, v⟩ := q
      cases s with
      | un => trivial
      | sh d => obtain ⟨v, e, r⟩ := S.each _ h; exact ⟨v, e, r.mono hk' hn⟩
      | ow es =>
        obtain ⟨a, ws, e, n, h0, hh, r, _⟩ := S.own_n h
        exact ⟨a, ws, e, h0, hk a _ hh, r.mono hk' hn⟩
  · rw [hc a]
    by_cases e : a = p
    · subst e
      have : ¬ 0 < cnt a L := fun z => nf (.inr z)
      have : cnt a L = 0 := by omega
      rw [this, if_pos rfl]
      exact Nat.le_refl _
    · rw [if_neg e]; exact S.dist a
theorem Reps.ofGet {bv H N} : ∀ {ds : List D} {vs : List V}, ds.length = vs.length → (∀ (j : Nat) (d : D) (v : V), ds[j]? = some d → vs[j]? = some v → Rep bv H N d v) → Reps bv H N ds vs
  | [], [], _, _ => .nil
  | d :: ds, v :: vs, hl, h => .cons (h 0 d v rfl rfl) (Reps.ofGet (by simpa using hl) fun j d v a b => h (j + 1) d v (by simpa using a) (by simpa using b))
  | [], _ :: _, hl, _ => by simp at hl
  | _ :: _, [], hl, _ => by simp at hl
theorem SR.pairs {g : Bag} {N : Addr → Prop} {H0 H H' : Hp} {L : List En} {xs ys : List V} {ds es : List D} {p : Addr} (S : SR g N H0 L H) (np : NewPairs H H' xs ys p) (rx : Reps g.bv H (Nn N L) ds xs) (ry : Reps g.bv H (Nn N L) es ys) :
    SR g N H0 ((.ow (zipD ds es), some (.ref p)) :: L) H' := by
  obtain ⟨hk, hp, ps, he, hlen, hj⟩ := np
  have hc : ∀ a, cnt a ((Sl.ow (zipD ds es), some (V.ref p)) :: L) = cnt a L + if a = p then 1 else 0 := fun a => by
    show List.countP _ _ = _
    rw [List.countP_cons]
    by_cases e : a = p
    · subst e; simp [owns]
    · have : owns a (Sl.ow (zipD ds es), some (V.ref p)) = false := by
        simp only [owns, beq_eq_false_iff_ne, ne_eq, Option.some.injEq, V.ref.injEq]; exact fun z => e z.symm
      simp [this, e]
  have hn : ∀ a o, H a = some o → Nn N ((Sl.ow (zipD ds es), some (V.ref p)) :: L) a → Nn N L a := fun a o e z => z.elim .inl fun z => by
    rw [hc a, if_neg (ne_of_none e hp)] at z; exact .inr z
  have hk' : ∀ a o, H a = some o → ¬ Nn N L a → H' a = some o := fun a o e _ => hk a o e
  refine S.newG hp hk he (Reps.ofGet (by rw [zipD_len, hlen, rx.length, ry.length]) fun j d v hd hv => ?_)
  obtain ⟨a, b, h1, h2, rfl⟩ := zipD_get _ _ _ _ hd
  obtain ⟨x, hx, rx1⟩ := rx.get h1
  obtain ⟨y, hy, ry1⟩ := ry.get h2
  obtain ⟨T, hT, n0, hT'⟩ := hj j x y hx hy
  rw [hv] at hT; cases hT
  refine .tup hT' (fun z => ?_) (.cons (rx1.mono hk' hn) (.cons (ry1.mono hk' hn) .nil))
  rcases z with z | z
  · have := S.tracked (.inl z); rw [n0] at this; cases this
  · rw [hc] at z
    by_cases e : T = p
    · subst e; rw [he] at hT'; cases hT'
    · rw [if_neg e] at z
      have := S.tracked (.inr z); rw [n0] at this; cases this
theorem View.seq {bv N H d v xs} (h : View bv N H d v) (e : seqD d = some xs) : ∃ a vs, v = .ref a ∧ Sq H a vs ∧ Reps bv H N xs vs := by
  cases d <;> simp only [seqD] at e <;> first | cases e | skip
  · obtain ⟨a, vs, rfl, e, _, r⟩ := h.tup; exact ⟨a, vs, rfl, .inr e, r⟩
  · obtain ⟨a, vs, rfl, e, r⟩ := h; exact ⟨a, vs, rfl, .inl e, r⟩
def rLz : List V → Hp → VK → Prop := fun vs H Q => ∃ a b xs ys, vs = [.ref a, .ref b] ∧ Sq H a xs ∧ Sq H b ys ∧ ∀ p H', NewPairs H H' xs ys p → Q (.ref p) H'
theorem caS_lz : CaS rLz fLz := by
  intro g N H0 L H ds vs Qf Q S vd hq k
  unfold fLz at hq; split at hq
  · obtain ⟨v, w, rfl, h1, h2⟩ := vd.two
    split at hq
    · obtain ⟨a, xs, rfl, sa, ra⟩ := h1.seq (by assumption)
      obtain ⟨b, ys, rfl, sb, rb⟩ := h2.seq (by assumption)
      exact ⟨a, b, xs, ys, rfl, sa, sb, fun p H' np => k (.fr _) _ _ (S.pairs np ra rb) (fun _ h => nomatch h) hq⟩
    · exact hq.elim
  · exact hq.elim
def rLen0 : List V → Hp → VK → Prop := fun vs H Q => ∃ a xs, vs = [.ref a] ∧ H a = some (.lst xs) ∧ ∀ p H', NewPairs H H' ((List.range xs.length).map fun (i : Nat) => V.int (i : Int)) xs p → Q (.ref p) H'
theorem reps_num {bv H N} (n : Nat) : Reps bv H N (numD n) ((List.range n).map fun (i : Nat) => V.int (i : Int)) := by
  refine Reps.ofGet (by simp [numD]) fun j d v hd hv => ?_
  unfold numD at hd
  rw [List.getElem?_map] at hd hv
  obtain ⟨i, h1, rfl⟩ := Option.map_eq_some_iff.mp hd
  rw [h1] at hv
  cases hv
  exact .int
theorem caS_le : CaS rLen0 fLen0 := by
  intro g N H0 L H ds vs Qf Q S vd hq k
  unfold fLen0 at hq; split at hq
  · obtain ⟨v, rfl, h⟩ := vd.one
    obtain ⟨a, xs, rfl, e, r⟩ := h
    refine ⟨a, xs, rfl, e, fun p H' np => ?_⟩
    rw [← r.length] at np
    rename_i zs
    have e0 : zipD (numD zs.length) zs = enumD 0 zs := by
      unfold numD
      rw [List.range_eq_range']
      exact zipD_num zs 0
    rw [← e0] at hq
    exact k (.fr _) _ _ (S.pairs np (reps_num _) r) (fun _ h => nomatch h) hq
  · exact hq.elim
theorem le_lz {X : Cx} {a b : Expr} {wa : WA} {p p2 pos pos2 : Pos} (hc : X.calm = true) (g1 : Gl X "list") (m1 : X.mg "list" = none) (g2 : Gl X "zip") (m2 : X.mg "zip" = none) (ha : LA X [a, b] wa)
    (hp : plainE a = true) (hp2 : plainE b = true) : LE X (.Call (.Name "list" p) [.Call (.Name "zip" p2) [a, b] [] pos2] [] pos) (wCB fLz wa) := by
  obtain ⟨t, pa, l⟩ := ha.ex
  exact ⟨⟨_, pe_lzip hc g1 m1 g2 m2 pa (star_cons hp) (by rw [star_cons hp2]; rfl), let_cb caS_lz l⟩⟩
theorem le_le {X : Cx} {a : Expr} {wa : WA} {p p2 pos pos2 : Pos} (hc : X.calm = true) (g1 : Gl X "list") (m1 : X.mg "list" = none) (g2 : Gl X "enumerate") (m2 : X.mg "enumerate" = none) (ha : LA X [a] wa)
    (hp : plainE a = true) : LE X (.Call (.Name "list" p) [.Call (.Name "enumerate" p2) [a] [] pos2] [] pos) (wCB fLen0 wa) := by
  obtain ⟨t, pa, l⟩ := ha.ex
  exact ⟨⟨_, pe_lenum hc g1 m1 g2 m2 pa (star_cons hp), let_cb caS_le l⟩⟩
def fLrv : FN := fun ds Q => match ds with
  | [.lst xs] => Q (.fr xs.reverse)
  | [.tup xs] => Q (.fr xs.reverse)
  | _ => False
theorem caS_lrv {K : PySem.W.Frag} : CaS (rLrA K) fLrv := by
  intro g N H0 L H ds vs Qf Q S vd hq k
  unfold fLrv at hq; split at hq
  · obtain ⟨v, rfl, h⟩ := vd.one
    obtain ⟨a, xs, rfl, e, r⟩ := h
    exact ⟨false, a, xs, rfl, SqL.of e, fun p hp => k.fr S r.reverse hq p hp⟩
  · obtain ⟨v, rfl, h⟩ := vd.one
    obtain ⟨a, xs, rfl, e, n, r⟩ := h.tup
    exact ⟨true, a, xs, rfl, SqT.of e, fun p hp => k.fr S r.reverse hq p hp⟩
  · exact hq.elim
theorem le_lrv {X : Cx} {a : Expr} {wa : WA} {p p2 pos pos2 : Pos} (hc : X.calm = true) (g1 : Gl X "list") (m1 : X.mg "list" = none) (g2 : Gl X "reversed") (m2 : X.mg "reversed" = none) (ha : LA X [a] wa)
    (hp : plainE a = true) : LE X (.Call (.Name "list" p) [.Call (.Name "reversed" p2) [a] [] pos2] [] pos) (wCB fLrv wa) := by
  obtain ⟨t, pa, l⟩ := ha.ex
  exact ⟨⟨_, pe_lrevA hc g1 m1 g2 m2 pa (star_cons hp), let_cb caS_lrv l⟩⟩
/-! ### xs[::-1] of lists -/
def wRev (wa : WE) : WE := fun s Q => wa s fun r s1 => rdW s1 r fun d => match d with
  | .lst xs => Q (.fr xs.reverse) s1
  | _ => False
theorem le_rev {X : Cx} {a : Expr} {wa : WE} {k : Nat} {p1 p2 p3 pos : Pos} (ha : LE X a wa) : LE X (.Subscript a (.Slice none none (some (.UnaryOp .USub (.Constant (.int 1) k p1) p2)) p3) pos) (wRev wa) := by
  obtain ⟨ta, pa, la⟩ := ha.ex
  refine ⟨⟨_, pe_revL pa, fun g N H0 s σ P H Qw Q hl S h k => ?_⟩⟩
  refine la g N H0 s σ P H _ _ hl S h fun r s1 v H1 hl1 S1 rv hh => ?_
  obtain ⟨d, hq, vd⟩ := S1.rd (fun p h => List.mem_append_left _ h) hl1 (by simp) rv hh
  cases d with
  | lst xs =>
    obtain ⟨b, vs, rfl, e, r⟩ := vd
    exact ⟨b, vs, rfl, SqL.of e, fun p hp => k (.fr xs.reverse) s1 _ _ hl1 ((S1.newL hp r.reverse).mid (by simp)) (RVal.ok (fun _ e => by cases e)) hq⟩
  | _ => exact hq.elim
end LV
namespace LV
open PySem PySem.Spec PyProof.Rows L2

/-! ### the bag's cells are taken, one after the other -/
theorem ne_dist {b l : Addr} {H : Hp} {x y : HO} (n : b ≠ l) : upd (upd H l x) b y l = some x := (upd_ne (Ne.symm n)).trans upd_same
def Bag.few (g : Bag) {b l : Addr} (cells : List Int) (h1 : g.bv.1 = 1) (eb : g.bv.2 = .ref b) (n : b ≠ l) (hB : ∀ a, g.B a ↔ a = b ∨ a = l) (pos : ∀ c ∈ cells, 0 ≤ c) : Bag where
  bv := g.bv
  B := g.B
  G := fun H => ∃ (cs : List Int) (cur mixed : Int), cs <+: cells ∧ H b = some (.lst [.ref l, .int cur, .int mixed]) ∧ H l = some (.lst (cs.map V.int)) ∧ 0 ≤ cur ∧ 0 ≤ mixed ∧ mixed < 2147483647
  dom := fun H a ⟨cs, cur, mixed, _, e1, e2, _⟩ hb => by
    rcases (hB a).mp hb with rfl | rfl
    · rw [e1]; rfl
    · rw [e2]; rfl
  loc := fun H H' hs ⟨cs, cur, mixed, q, e1, e2, r⟩ => ⟨cs, cur, mixed, q, (hs b ((hB b).mpr (.inl rfl))).trans e1, (hs l ((hB l).mpr (.inr rfl))).trans e2, r⟩
  sp := ⟨fun _ => ⟨b, l, fun cs => cs <+: cells, eb, n, hB, fun cs ds p q => q.trans p, fun cs p c hc => pos c (p.subset hc), fun H => Iff.rfl⟩, fun e => by rw [h1] at e; cases e⟩
def wBagW (i j : Nat) (wt : WT) (wb : WS) : WS := fun K s => ∃ I : Sg → Prop, I s ∧ ∀ s, I s → s[i]? = some (.sh (.bag 1)) ∧ wt s fun b s1 => s1[i]? = some (.sh (.bag 1)) ∧ K.nx s1 ∧ (b = true → j < s1.length ∧ ∀ v : Int, 0 ≤ v → wb { nx := I, rt := fun _ => False } (s1.set j (.sh (.int v))))
theorem eqv_nil (cells : List Int) : PyData.eqv (.list (cells.map PyData.int)) (.list []) = cells.isEmpty := by cases cells <;> rfl
theorem dp_ints {K : PySem.W.Frag} {H : Hp} : ∀ cells : List Int, DpAll K H (cells.map V.int) (cells.map PyData.int)
  | [] => .nil
  | c :: cs => .cons (.int c) (dp_ints cs)
theorem lay_ints : ∀ cells : List Int, PyData.canLayAll0 (cells.map PyData.int) = true
  | [] => rfl
  | c :: cs => lay_ints cs
theorem dep_ints : ∀ cells : List Int, PyData.depthAll (cells.map PyData.int) = 0
  | [] => rfl
  | c :: cs => by
    show max 0 (PyData.depthAll (cs.map PyData.int)) = 0
    rw [dep_ints cs]; rfl
theorem sha_ints (cells : List Int) : SeqAt.shaped (.list (cells.map PyData.int)) = true := by
  unfold SeqAt.shaped
  refine Bool.and_eq_true_iff.mpr ⟨lay_ints cells, decide_eq_true ?_⟩
  show PyData.depthAll (cells.map PyData.int) + 1 ≤ 64
  rw [dep_ints]; omega
section
variable {X : Cx} {c1 : Expr} {x y : Str} {i j : Nat} {k1 k2 : Nat} {p1 p2 p3 p4 p5 p6 p7 p8 p9 p10 p11 q1 q2 pos : Pos} {rest : List Stmt} {wt : WT} {wb : WS} {k : Nat}
theorem ls_bagw (hr : Room k X.A) (hp : PassesOwn (model X.prog X.w) X.A X.env X.xe) (hx : ∀ p, PE X (.Name x p) (tVar i)) (hN : X.N.Nodup) (hy : X.N[j]? = some y) (hyl : L2.Loc X.env.scope y) (hfn : X.fn y = true ∨ X.env.scope.names.lookup y = some .local)
    (hc : LT X c1 wt) (hb : LSs X rest wb) (hline : (p9.endLine == p10.line) = true) :
    LS X (.While (.BoolOp .And [c1, .Compare (.Subscript (.Name x p1) (.Constant (.int 0) k1 q1) p2) [.NotEq] [.List [] p3] p4] p5)
      (.Assign [.Name y p6] (.Call (.Attribute (.Subscript (.Name x p7) (.Constant (.int 0) k2 q2) p8) "pop" p9) [] [] p10) p11 :: rest) [] pos) (wBagW i j wt wb) := by
  obtain ⟨tc, pc, lc⟩ := hc.ex
  obtain ⟨tb, pb, lb⟩ := hb.ex
  have ix : ∀ {p kk q pp}, PE X (.Subscript (.Name x p) (.Constant (.int 0) kk q) pp) (tOp (fun x y H Q => rIxL X.K x y H Q ∨ rIxT X.K x y H Q) (tVar i) (tC (.int 0))) := pe_ix (ix_list.or ix_tup) (hx _) pe_int (plainIx rfl)
  have pne : PT X (.Compare (.Subscript (.Name x p1) (.Constant (.int 0) k1 q1) p2) [.NotEq] [.List [] p3] p4) _ := pt_cmpR (op_neD hr.units) ix (pe_lst pa_nil) rfl
  have ppop := pe_bm0 (cpos := p10) PySem.F.plainAttrs_list PySem.F.slot_list_pop PySem.F.type_list_pop mt_pop (ix (p := p7) (kk := k2) (q := q2) (pp := p8)) rfl hline
  refine ⟨⟨_, ps_while hp (pw_and pc (pw_and1 pne)).pt (pss_cons (ps_set hN hy hyl ppop rfl hfn) pb), fun g N H0 s σ P H K D hl S h f => ?_⟩⟩
  obtain ⟨I, hI, step⟩ := h
  have bagAt : ∀ {g' : Bag} {s' : Sg} {σ' : L2.St} {H' : Hp}, g'.bv = g.bv → s'.length = σ'.length → SR g' N H0 (s'.zip σ' ++ P) H' → s'[i]? = some (.sh (.bag 1)) → σ'[i]? = some (some g.bv.2) ∧ g.bv.1 = 1 := fun {g' s' σ' H'} eg e S' hs => by
    obtain ⟨v, hv, hm⟩ := zip_get' e hs
    obtain ⟨w, ew, r⟩ := S'.each _ (List.mem_append_left _ hm)
    simp only at ew
    subst ew
    have r := View.of r
    have e1 := r.bag
    have e2 := r.bag2
    rw [eg] at e1 e2
    exact ⟨by rw [hv, e2], e1⟩
  obtain ⟨_, h1⟩ := bagAt (g' := g) rfl hl S (step s hI).1
  obtain ⟨b, l, CS, eb, n, hB, hpre, hpos, hG⟩ := g.sp.1 h1
  let G := fun (cells : List Int) (pos : ∀ c ∈ cells, 0 ≤ c) => g.few cells h1 eb n hB pos
  have few : ∀ {L : List En} {H' : Hp}, SR g N H0 L H' → ∃ cells pos, CS cells ∧ SR (G cells pos) N H0 L H' := fun {L H'} S' => by
    obtain ⟨cells, cur, mixed, cs, e1, e2, e3⟩ := (hG H').mp S'.hg
    exact ⟨cells, hpos cells cs, cs, ⟨cells, cur, mixed, List.prefix_refl _, e1, e2, e3⟩, S'.sm, S'.nd, S'.bn, S'.each, S'.dist⟩
  have back : ∀ {L : List En} {H' : Hp} {cells pos}, CS cells → SR (G cells pos) N H0 L H' → SR g N H0 L H' := fun {L H' cells pos} cs S' => by
    obtain ⟨ds, cur, mixed, q, e1, e2, e3⟩ := S'.hg
    exact ⟨(hG H').mpr ⟨ds, cur, mixed, hpre _ _ cs q, e1, e2, e3⟩, S'.sm, S'.nd, S'.bn, S'.each, S'.dist⟩
  obtain ⟨cells, pos, cs, S0⟩ := few S
  let W : Nat → L2.St → Hp → Prop := fun m σ' H' => ∃ s' cells pos, s'.length = σ'.length ∧ σ'.length = σ.length ∧ CS cells ∧ cells.length ≤ m ∧ SR (G cells pos) N H0 (s'.zip σ' ++ P) H' ∧ I s'
  refine ⟨W, ⟨_, s, cells, pos, hl, rfl, cs, Nat.le_refl _, S0, hI⟩, fun m σ1 H1 ⟨s1, cells, pos, e1, e2, cs, hm, S1, hI1⟩ => ?_⟩
  refine lc _ N H0 s1 σ1 P H1 _ _ e1 S1 (step s1 hI1).2 fun bt s2 H2 e3 S2 ⟨hs2, hnx, hbody⟩ => ?_
  cases bt with
  | false => exact f.nx s2 σ1 H2 e3 e2 (back cs S2) hnx
  | true =>
    obtain ⟨hj, hbody⟩ := hbody rfl
    obtain ⟨hσ, _⟩ := bagAt (g' := G cells pos) rfl e3 S2 hs2
    rw [eb] at hσ
    obtain ⟨ds, cur, mixed, hq, hb2, hl2, r1, r2, r3⟩ := S2.hg
    refine ⟨.ref b, hσ, .inl ⟨b, _, 0, .ref l, rfl, rfl, SqL.of hb2, rfl, Nat.zero_le _, fun p hp => ?_⟩⟩
    have keepP : ∀ a o, H2 a = some o → upd H2 p (.lst []) a = some o := fun a o e => (upd_ne (ne_of_none e hp)).trans e
    have S3 := S2.fresh hp (o := .lst [])
    refine ⟨_, _, .lst (SqL.of (keepP _ _ hl2)) (dp_ints ds), .lst (SqL.of upd_same) .nil, sha_ints ds, rfl, _, rfl, ?_⟩
    rw [eqv_nil]
    have hgone : ds = [] ∨ ds ≠ [] := by cases ds <;> simp
    rcases hgone with hd | hd
    · rw [hd]; exact f.nx s2 σ1 _ e3 e2 (back cs S3) hnx
    · have he : ds.isEmpty = false := by
        cases ds with
        | nil => exact absurd rfl hd
        | cons _ _ => rfl
      rw [he]
      refine ⟨fun σ' H' => ∃ m', m' < m ∧ W m' σ' H', fun σ' H' h => h, ?_⟩
      have hlast : ∃ c, ds[ds.length - 1]? = some c := ⟨_, List.getElem?_eq_getElem (by have := List.length_pos_iff.mpr hd; omega)⟩
      obtain ⟨c, hc⟩ := hlast
      have hb3 := keepP _ _ hb2
      have hl3 := keepP _ _ hl2
      refine ⟨.ref b, hσ, .inl ⟨b, _, 0, .ref l, rfl, rfl, SqL.of hb3, rfl, .inl ⟨rfl, _, SqL.of hl3⟩, l, ds.map V.int, .int c, rfl, rfl, hl3, by rw [List.length_map, List.getElem?_map, hc]; rfl, ?_⟩⟩
      have hds : ds.dropLast <+: cells := (List.dropLast_prefix ds).trans hq
      have pos' : ∀ z ∈ ds.dropLast, 0 ≤ z := fun z hz => pos z (hds.subset hz)
      have cs' : CS ds.dropLast := hpre _ _ cs hds
      have S4 : SR (G ds.dropLast pos') N H0 (s2.zip σ1 ++ P) (upd (upd H2 p (.lst [])) l (.lst (ds.map V.int).dropLast)) := by
        have S3' := back cs S3
        have q := S3'.grow (H' := upd (upd H2 p (.lst [])) l (.lst (ds.map V.int).dropLast)) ((hG _).mpr ⟨ds.dropLast, cur, mixed, cs', (upd_ne n).trans hb3, by rw [upd_same, List.map_dropLast], r1, r2, r3⟩)
          (fun a o e z => (upd_ne fun w => z ((hB a).mpr (.inr w))).trans e)
        exact ⟨⟨ds.dropLast, cur, mixed, List.prefix_refl _, (upd_ne n).trans hb3, by rw [upd_same, List.map_dropLast], r1, r2, r3⟩, q.sm, q.nd, q.bn, q.each, q.dist⟩
      have hc0 : 0 ≤ c := pos c (hq.subset (List.mem_of_getElem? hc))
      have S5 := SR.put' (P := (Sl.sh (.int c), some (V.int c)) :: P) j e3 (List.mem_cons_self ..) rfl ((S4.addSh (d := .int c) .int).mid (List.Sublist.refl _))
      have S6 := S5.drop1 (B' := P) (List.sublist_cons_self _ _)
      refine lb _ N H0 (s2.set j (.sh (.int c))) (σ1.set j (some (.int c))) P _ _ _ (by simp [e3]) S6 (hbody c hc0) ⟨fun s' σ' H' a1 a2 S' h' => ⟨ds.dropLast.length, ?_, s', ds.dropLast, pos', a1, a2.trans (by simp [e2]), cs', Nat.le_refl _, S', h'⟩, fun _ _ _ _ _ _ h => h.elim, fun _ _ _ _ _ _ h => h.elim, fun _ _ _ _ _ _ h => h.elim⟩
      have := hq.length_le
      have h0 := List.length_pos_iff.mpr hd
      rw [List.length_dropLast]
      omega
end
/-- the loop that takes the cells -/
def isZ : Expr → Bool
  | .Constant (.int i) _ _ => i == 0
  | _ => false
theorem isZ_of {e : Expr} (h : isZ e = true) : ∃ k p, e = .Constant (.int 0) k p := by
  unfold isZ at h
  split at h
  · rename_i i k p
    have : i = 0 := by simpa using h
    subst this
    exact ⟨_, _, rfl⟩
  · cases h
def bagLoop (c : Expr) (body : List Stmt) : Option (Expr × Str × Str × List Stmt) := match c, body with
  | .BoolOp .And [c1, .Compare (.Subscript (.Name x _) z1 _) [.NotEq] [.List [] _] _] _, .Assign [.Name y _] (.Call (.Attribute (.Subscript (.Name x' _) z2 _) m ap) [] [] cp) _ :: rest =>
    if isZ z1 = true ∧ isZ z2 = true ∧ x' = x ∧ m = ("pop" : Str) ∧ (ap.endLine == cp.line) = true then some (c1, x, y, rest) else none
  | _, _ => none
theorem ls_bagLoop {X : Cx} {c c1 : Expr} {body rest : List Stmt} {x y : Str} {i j k : Nat} {wt : WT} {wb : WS} {pos : Pos} (h : bagLoop c body = some (c1, x, y, rest)) (hr : Room k X.A) (hp : PassesOwn (model X.prog X.w) X.A X.env X.xe) (hx : ∀ p, PE X (.Name x p) (tVar i))
    (hN : X.N.Nodup) (hy : X.N[j]? = some y) (hyl : L2.Loc X.env.scope y) (hfn : X.fn y = true ∨ X.env.scope.names.lookup y = some .local) (hc : LT X c1 wt) (hb : LSs X rest wb) : LS X (.While c body [] pos) (wBagW i j wt wb) := by
  unfold bagLoop at h
  split at h
  · split at h
    · rename_i hh
      cases h
      obtain ⟨h1, h2, rfl, rfl, h3⟩ := hh
      obtain ⟨_, _, rfl⟩ := isZ_of h1
      obtain ⟨_, _, rfl⟩ := isZ_of h2
      exact ls_bagw hr hp hx hN hy hyl hfn hc hb h3
    · cases h
  · cases h
end LV
namespace LV
open PySem PySem.Spec PyProof.Rows L2

/-! ### math.factorial, math.comb -/
def facN (n : Nat) : Nat := (List.range n).foldl (fun (p i : Nat) => p * (i + 1)) 1
def rFac : List V → Hp → VK → Prop := fun vs H Q => ∃ n : Int, vs = [.int n] ∧ 0 ≤ n ∧ n ≤ 20000 ∧ Q (.int ((facN n.toNat : Nat) : Int)) H
theorem cr_fac {X : Cx} : CallR X (.builtin "math.factorial") rFac := by
  intro pins s σ H vs us Q I r h
  obtain ⟨n, rfl, h0, h1, q⟩ := h
  obtain ⟨u, rfl, ru⟩ := r.one
  obtain ⟨t, rfl⟩ := ru
  exact PySem.W.mc_factorial h0 h1 fun _ => ⟨.int _, H, I.tok _, ⟨_, rfl⟩, q⟩
def fFac : FN := fun ds Q => match ds with
  | [.int n] => 0 ≤ n ∧ n ≤ 20000 ∧ Q (.sh (.int ((facN n.toNat : Nat) : Int)))
  | _ => False
theorem caS_fac : CaS rFac fFac := by
  intro g N H0 L H ds vs Qf Q S vd hq k
  unfold fFac at hq; split at hq
  · obtain ⟨v, rfl, h⟩ := vd.one
    exact ⟨_, by rw [h.int], hq.1, hq.2.1, k.sh S .int hq.2.2⟩
  · exact hq.elim
def rComb : List V → Hp → VK → Prop := fun vs H Q => ∃ n m : Int, vs = [.int n, .int m] ∧ 0 ≤ n ∧ n ≤ 18000 ∧ 0 ≤ m ∧ Q (.int (PySem.W.mcComb n m)) H
theorem cr_comb {X : Cx} : CallR X (.builtin "math.comb") rComb := by
  intro pins s σ H vs us Q I r h
  obtain ⟨n, m, rfl, h0, h1, h2, q⟩ := h
  obtain ⟨t, u, rfl⟩ := Vals.int2 r
  exact PySem.W.mc_comb h0 h2 (by omega) (.inr h1) fun _ => ⟨.int _, H, I.tok _, ⟨_, rfl⟩, q⟩
def fComb : FN := fun ds Q => match ds with
  | [.int n, .int m] => 0 ≤ n ∧ n ≤ 18000 ∧ 0 ≤ m ∧ Q (.sh (.int (PySem.W.mcComb n m)))
  | _ => False
theorem caS_comb : CaS rComb fComb := by
  intro g N H0 L H ds vs Qf Q S vd hq k
  unfold fComb at hq; split at hq
  · obtain ⟨v, v', rfl, h, h'⟩ := vd.two
    exact ⟨_, _, by rw [h.int, h'.int], hq.1, hq.2.1, hq.2.2.1, k.sh S .int hq.2.2.2⟩
  · exact hq.elim

/-! ### in, not in -/
def fIn (neg : Bool) : F2 := fun a b Q => match b with
  | .lst xs => sha a ∧ sha (.lst xs) ∧ Q (.sh (.bl (if neg then !xs.any fun z => eqD z a else xs.any fun z => eqD z a)))
  | .tup xs => match a, intsOf xs with
    | .int i, some ns => Q (.sh (.bl (if neg then !ns.any fun z => z == i else ns.any fun z => z == i)))
    | _, _ => False
  | .str y => match a with
    | .str x => Q (.sh (.bl (if neg then !(!(Builtin.Str.occurrences y x 0 y.length 1).isEmpty) else !(Builtin.Str.occurrences y x 0 y.length 1).isEmpty)))
    | _ => False
  | _ => False
abbrev rInA (K : PySem.W.Frag) : R2 := fun x y H Q => rInD K x y H Q ∨ (rIn K false x y H Q ∨ (∃ i j, x = .str i ∧ y = .str j ∧ Q (.bl (!(Builtin.Str.occurrences j i 0 j.length 1).isEmpty)) H))
abbrev rNotInA (K : PySem.W.Frag) : R2 := fun x y H Q => rNotInD K x y H Q ∨ (rIn K true x y H Q ∨ (∃ i j, x = .str i ∧ y = .str j ∧ Q (.bl (!(!(Builtin.Str.occurrences j i 0 j.length 1).isEmpty))) H))
theorem op_inA {X : Cx} (hu : X.A.units + 65 < cLine) : OpR X (compareOp .In) (rInA X.K) := (op_inD hu).or (op_in_seq.or op_in_str)
theorem op_notInA {X : Cx} (hu : X.A.units + 65 < cLine) : OpR X (compareOp .NotIn) (rNotInA X.K) := (op_notInD hu).or (op_notIn_seq.or op_notin_str)
theorem toPys_any (p : PyData → Bool) : ∀ xs : List D, (toPys xs).any p = xs.any fun z => p (toPy z)
  | [] => rfl
  | x :: xs => by simp [toPys, toPys_any p xs]
theorem flat_ints : ∀ ns : List Int, (ns.map V.int).all flatV = true
  | [] => rfl
  | _ :: ns => by simp [flatV, flat_ints ns]
theorem inV_ints (i : Int) : ∀ ns : List Int, inV (.int i) (ns.map V.int) = ns.any fun z => z == i
  | [] => rfl
  | n :: ns => by
    have ih := inV_ints i ns
    unfold inV at ih ⊢
    rw [List.map_cons, List.any_cons, List.any_cons, ih]
    rfl
theorem opS_in {K : PySem.W.Frag} : OpS (rInA K) (fIn false) := by
  intro g N H0 L H da db x y Qf Q S va vb hq k
  unfold fIn at hq; split at hq
  · obtain ⟨h1, h2, q⟩ := hq
    refine .inl ⟨_, _, va.dp K h1, vb.dp K h2, h1, h2, ?_⟩
    rw [toPys_any]
    exact k.sh S .bl q
  · split at hq
    · rename_i e
      obtain ⟨a, vs, rfl, ea, na, ra⟩ := vb.tup
      rw [intsOf_eq e] at ra
      have := ra.ints; subst this
      refine .inr (.inl ⟨a, _, rfl, .inr (SqT.of ea), by rw [va.int]; rfl, flat_ints _, ?_⟩)
      rw [va.int, inV_ints]
      exact k.sh S .bl hq
    · exact hq.elim
  · split at hq
    · exact .inr (.inr ⟨_, _, va.str, vb.str, k.sh S .bl hq⟩)
    · exact hq.elim
  · exact hq.elim
theorem opS_notIn {K : PySem.W.Frag} : OpS (rNotInA K) (fIn true) := by
  intro g N H0 L H da db x y Qf Q S va vb hq k
  unfold fIn at hq; split at hq
  · obtain ⟨h1, h2, q⟩ := hq
    refine .inl ⟨_, _, va.dp K h1, vb.dp K h2, h1, h2, ?_⟩
    rw [toPys_any]
    exact k.sh S .bl q
  · split at hq
    · rename_i e
      obtain ⟨a, vs, rfl, ea, na, ra⟩ := vb.tup
      rw [intsOf_eq e] at ra
      have := ra.ints; subst this
      refine .inr (.inl ⟨a, _, rfl, .inr (SqT.of ea), by rw [va.int]; rfl, flat_ints _, ?_⟩)
      rw [va.int, inV_ints]
      exact k.sh S .bl hq
    · exact hq.elim
  · split at hq
    · exact .inr (.inr ⟨_, _, va.str, vb.str, k.sh S .bl hq⟩)
    · exact hq.elim
  · exact hq.elim

/-! ### a chain a op b op' c -/
def wChainE (f f' : F2) (wa wb wc : WE) : WE := fun s Q => wa s fun ra s1 => wb s1 fun rb s2 => rdW s2 ra fun da => rdW s2 rb fun db => f da db fun r => match r with
  | .sh (.bl k) => if k = true then wc s2 fun rc s3 => rdW s3 rb fun db => rdW s3 rc fun dc => f' db dc fun r => Q r s3 else Q (.sh (.bl false)) s2
  | _ => False
section
variable {X : Cx} {a b c e o : Expr} {wa wb wc wo : WE} {pos : Pos}
theorem let_chain {r r' : R2} {f f' : F2} {ta tb tc : TE} (ho : OpS r f) (ho' : OpS r' f') (la : LEt ta wa) (lb : LEt tb wb) (lc : LEt tc wc) : LEt (tChain r r' ta tb tc) (wChainE f f' wa wb wc) := fun g N H0 s σ P H Qw Q hl S h k => by
  refine la g N H0 s σ P H _ _ hl S h fun ra s1 x H1 hl1 S1 rx h1 => ?_
  refine lb g N H0 s1 σ ((ra.sl, some x) :: P) H1 _ _ hl1 S1 h1 fun rb s2 y H2 hl2 S2 ry h2 => ?_
  have hz : ∀ p ∈ s2.zip σ, p ∈ s2.zip σ ++ (rb.sl, some y) :: (ra.sl, some x) :: P := fun p h => List.mem_append_left _ h
  obtain ⟨da, h3, va⟩ := S2.rd hz hl2 (by simp) rx h2
  obtain ⟨db, h4, vb⟩ := S2.rd hz hl2 (by simp) ry h3
  refine ho g N H0 _ H2 da db x y _ _ S2 va vb h4 fun r v H3 S3 hr h5 => ?_
  split at h5
  · rename_i k'
    obtain ⟨w, ew, rw'⟩ := S3.each _ (List.mem_cons_self ..)
    cases ew; cases rw'
    refine ⟨k', rfl, ?_⟩
    have S4 := S3.sub (List.sublist_cons_self _ _)
    cases k' with
    | false =>
      simp only [Bool.false_eq_true, if_false] at h5 ⊢
      exact k (.sh (.bl false)) s2 _ H3 hl2 (((S4.drop1 (B' := P) ((List.sublist_cons_self _ _).trans (List.sublist_cons_self _ _))).addSh .bl).mid (List.Sublist.refl _)) trivial h5
    | true =>
      simp only [if_true] at h5 ⊢
      refine lc g N H0 s2 σ _ H3 _ _ hl2 S4 h5 fun rc s3 z H4 hl4 S5 rz h6 => ?_
      have hz : ∀ p ∈ s3.zip σ, p ∈ s3.zip σ ++ (rc.sl, some z) :: (rb.sl, some y) :: (ra.sl, some x) :: P := fun p h => List.mem_append_left _ h
      obtain ⟨db, h7, vb⟩ := S5.rd hz hl4 (by simp) ry h6
      obtain ⟨dc, h8, vc⟩ := S5.rd hz hl4 (by simp) rz h7
      exact ho' g N H0 _ H4 db dc y z _ Q S5 vb vc h8 fun r v H5 S6 hr h9 => k r s3 v H5 hl4 (S6.mid ((List.sublist_cons_self _ _).trans ((List.sublist_cons_self _ _).trans (List.sublist_cons_self _ _)))) (RVal.ok hr) h9
  · exact h5.elim
theorem le_chain {op op' : CmpOp} {r r' : R2} {f f' : F2} (ho : OpR X (compareOp op) r) (ho' : OpR X (compareOp op') r') (hf : OpS r f) (hf' : OpS r' f') (ha : LE X a wa) (hb : LE X b wb) (hc : LE X c wc) (hm : lastMarks [op, op'] [b, c] = false) :
    LE X (.Compare a [op, op'] [b, c] pos) (wChainE f f' wa wb wc) := by
  obtain ⟨ta, pa, la⟩ := ha.ex
  obtain ⟨tb, pb, lb⟩ := hb.ex
  obtain ⟨tc, pc, lc⟩ := hc.ex
  exact ⟨⟨_, pe_chain ho ho' pa pb pc hm, let_chain hf hf' la lb lc⟩⟩
theorem lt_chain {op op' : CmpOp} {r r' : R2} {f f' : F2} (ho : OpR X (compareOp op) r) (ho' : OpR X (compareOp op') r') (hf : OpS r f) (hf' : OpS r' f') (ha : LE X a wa) (hb : LE X b wb) (hc : LE X c wc) (hm : lastMarks [op, op'] [b, c] = false) :
    LT X (.Compare a [op, op'] [b, c] pos) (wTst (wChainE f f' wa wb wc)) := by
  obtain ⟨ta, pa, la⟩ := ha.ex
  obtain ⟨tb, pb, lb⟩ := hb.ex
  obtain ⟨tc, pc, lc⟩ := hc.ex
  exact ⟨⟨_, pt_chain ho ho' pa pb pc hm, ltt_of (let_chain hf hf' la lb lc)⟩⟩

/-! ### a global int -/
theorem le_gc {x : Str} {i : Int} (hg : Gl X x) (h : ∃ t, X.mg x = some (.int i t)) (hd : (x == ("__debug__" : Str)) = false) : LE X (.Name x pos) (wC (.int i)) := by
  obtain ⟨t, h⟩ := h
  exact le_c (v := .int i) (pe_glob hg h ⟨t, rfl⟩ hd) (fun _ _ _ => .int)

end
end LV
namespace LV
open PySem PySem.Spec PyProof.Rows L2

section
variable {X : Cx} {a b c e o : Expr} {wa wb wc wo : WE} {pos : Pos}
/-! ### list(range(..)) -/
def rgOk1 (j : Int) : Bool := decide (-16777216 ≤ j) && decide (j ≤ 16777216)
theorem rgOk1_of {i j : Int} (hi : rgOk1 i = true) (hj : rgOk1 j = true) : 2 * i.natAbs ≤ 33554432 ∧ (RgOk i j ∨ True) := ⟨by
  have := Bool.and_eq_true_iff.mp hi
  have h1 := of_decide_eq_true this.1
  have h2 := of_decide_eq_true this.2
  omega, .inr trivial⟩
def fRngL1 : FN := fun ds Q => match ds with
  | [.int j] => rgOk1 j = true ∧ Q (.fr (rngD 0 j.toNat))
  | _ => False
def fRngL2 : FN := fun ds Q => match ds with
  | [.int i, .int j] => decide (0 ≤ i) = true ∧ decide (i ≤ 16777216) = true ∧ decide (-16777216 ≤ j) = true ∧ decide (j ≤ 16777216) = true ∧ Q (.fr (rngD i (j - i).toNat))
  | _ => False
theorem reps_rng {bv H N} (lo : Int) (n : Nat) : Reps bv H N (rngD lo n) ((List.range n).map fun (i : Nat) => V.int (lo + (i : Int))) := by
  have e1 : rngD lo n = ((List.range n).map fun (i : Nat) => lo + (i : Int)).map D.int := by unfold rngD; rw [List.map_map]; rfl
  have e2 : ((List.range n).map fun (i : Nat) => V.int (lo + (i : Int))) = ((List.range n).map fun (i : Nat) => lo + (i : Int)).map V.int := by rw [List.map_map]; rfl
  rw [e1, e2]; exact reps_ints _
theorem le_rngL1 {wA : WE} {p p2 pos2 : Pos} (hc : X.calm = true) (g1 : Gl X "list") (m1 : X.mg "list" = none) (g2 : Gl X "range") (m2 : X.mg "range" = none) (ha : LE X a wA) (hp : plainE a = true) :
    LE X (.Call (.Name "list" p) [.Call (.Name "range" p2) [a] [] pos2] [] pos) (wCB fRngL1 (wCons wA wNil)) := by
  obtain ⟨ta, pa, la⟩ := ha.ex
  refine ⟨⟨_, pe_listRg hc g1 m1 (prg_1 g2 m2 pa (star_cons hp)) rfl, fun g N H0 s σ P H Qw Q hl S h k => ?_⟩⟩
  refine la g N H0 s σ P H _ _ hl S h fun r s1 v H1 hl1 S1 rv h1 => ?_
  obtain ⟨d, h2, vd⟩ := S1.rd (fun p h => List.mem_append_left _ h) hl1 (by simp) rv h1
  have h2 : fRngL1 [d] (fun r => Qw r s1) := h2
  unfold fRngL1 at h2
  split at h2
  · rename_i j e
    cases e
    have := vd.int; subst this
    obtain ⟨h3, q⟩ := h2
    have h3 := Bool.and_eq_true_iff.mp h3
    have a1 := of_decide_eq_true h3.1
    have a2 := of_decide_eq_true h3.2
    refine ⟨j, rfl, ⟨by omega, by omega, by omega, by omega, by omega⟩, fun q' hq' => ?_⟩
    have e : rgV 0 j = (List.range j.toNat).map fun (i : Nat) => V.int (0 + (i : Int)) := by unfold rgV; rw [Int.sub_zero]
    rw [e]
    exact k (.fr (rngD 0 j.toNat)) s1 _ _ hl1 ((S1.newL hq' (reps_rng 0 _)).mid (List.sublist_cons_self _ _)) trivial q
  · exact h2.elim
theorem le_rngL2 {wA wB : WE} {p p2 pos2 : Pos} (hc : X.calm = true) (g1 : Gl X "list") (m1 : X.mg "list" = none) (g2 : Gl X "range") (m2 : X.mg "range" = none) (ha : LE X a wA) (hb : LE X b wB) (hp : plainE a = true) (hp2 : plainE b = true) :
    LE X (.Call (.Name "list" p) [.Call (.Name "range" p2) [a, b] [] pos2] [] pos) (wCB fRngL2 (wCons wA (wCons wB wNil))) := by
  obtain ⟨ta, pa, la⟩ := ha.ex
  obtain ⟨tb, pb, lb⟩ := hb.ex
  have hpl : (backTo pos2 (starEach [b] X.env)).any (·.1) = false := by
    rw [star_cons hp2]; rfl
  refine ⟨⟨_, pe_listRg hc g1 m1 (prg_2 g2 m2 pa pb (star_cons hp) (star_cons hp2) hpl) rfl, fun g N H0 s σ P H Qw Q hl S h k => ?_⟩⟩
  refine la g N H0 s σ P H _ _ hl S h fun ra s1 v H1 hl1 S1 rv h1 => ?_
  refine lb g N H0 s1 σ _ H1 _ _ hl1 S1 h1 fun rb s2 u H2 hl2 S2 ru h2 => ?_
  have hz : ∀ p ∈ s2.zip σ, p ∈ s2.zip σ ++ (rb.sl, some u) :: (ra.sl, some v) :: P := fun p h => List.mem_append_left _ h
  obtain ⟨da, h3, va⟩ := S2.rd hz hl2 (by simp) rv h2
  obtain ⟨db, h4, vb⟩ := S2.rd hz hl2 (by simp) ru h3
  have h4 : fRngL2 [da, db] (fun r => Qw r s2) := h4
  unfold fRngL2 at h4
  split at h4
  · rename_i i j e
    cases e
    have := va.int; subst this
    have := vb.int; subst this
    obtain ⟨b1, b2, b3, b4, q⟩ := h4
    have a1 := of_decide_eq_true b1
    have a2 := of_decide_eq_true b2
    have a3 := of_decide_eq_true b3
    have a4 := of_decide_eq_true b4
    refine ⟨i, j, rfl, rfl, ⟨by omega, by omega, by omega, by omega, by omega⟩, fun q' hq' => ?_⟩
    exact k (.fr (rngD i (j - i).toNat)) s2 _ _ hl2 ((S2.newL hq' (reps_rng i _)).mid (by simp)) trivial q
  · exact h4.elim

/-! ### range of three -/
def rngC (lo c : Int) (n : Nat) : List D := (List.range n).map fun (i : Nat) => .int (lo + (i : Int) * c)
def zRng3 : ZF := fun ds => match ds with
  | [.int i, .int j, .int c] => if rgOk i = true ∧ rgOk j = true ∧ c = -1 then some (rngC i (-1) (i - j).toNat) else none
  | _ => none
theorem good_rngC {g N H0} (lo c : Int) (n : Nat) (vs : List V) (srcs : List D) : GoodJ g N H0 (Itc lo c n) vs srcs (rngC lo c n) := by
  intro L H S vw i
  refine ⟨fun d hd => ?_, fun hi => Nat.le_of_eq (by simpa [rngC] using hi : n = i)⟩
  unfold rngC at hd
  rw [List.getElem?_map] at hd
  by_cases hi : i < n
  · rw [List.getElem?_range hi] at hd
    cases hd
    refine ⟨hi, fun x H' ⟨e, hx⟩ => ?_⟩
    subst e; subst hx
    exact S.addSh .int
  · rw [List.getElem?_eq_none (by simpa using hi)] at hd; cases hd
theorem Views.three {bv N H d d' d'' vs} (h : Views bv N H [d, d', d''] vs) : ∃ v v' v'', vs = [v, v', v''] ∧ View bv N H d v ∧ View bv N H d' v' ∧ View bv N H d'' v'' := by
  cases h with
  | cons a b =>
    obtain ⟨v', v'', rfl, c, d⟩ := b.two
    exact ⟨_, _, _, rfl, a, c, d⟩
theorem li_rng3 {tg : Expr} {wA : WA} {p : Pos} (hg : Gl X "range") (hm : X.mg "range" = none) (ha : LA X [a, b, c] wA) (hp : plainE a = true) (hp2 : [b, c].all plainE = true) :
    LI X tg (.Call (.Name "range" p) [a, b, c] [] pos) wA zRng3 := by
  obtain ⟨t, pa, l⟩ := ha.ex
  refine ⟨⟨_, pi_range3 hg hm pa (star_cons hp) (star_plain hp2).1, fun g N H0 s σ P H Qw R hl S hw k => ?_⟩⟩
  refine l g N H0 s σ P H _ _ hl S hw fun rs s1 vs H1 hl1 S1 rv h1 => ?_
  obtain ⟨ds, ⟨items, hz, h2⟩, vd⟩ := S1.rds hl1 (fun p h => List.mem_append_left _ h) (fun p h => List.mem_append_right _ (List.mem_append_left _ h)) rv h1
  unfold zRng3 at hz
  split at hz
  · split at hz
    · cases hz
      obtain ⟨v, v', v'', rfl, vi, vj, vc⟩ := vd.three
      have := vi.int; subst this
      have := vj.int; subst this
      have := vc.int; subst this
      rename_i hh
      obtain ⟨b1, b2, b3⟩ := hh
      subst b3
      have h1 := rgOk_of b1
      have h2' := rgOk_of b2
      exact ⟨_, _, _, _, rfl, RgC.neg h1.1 h1.2 h2'.1 h2'.2, k rs _ _ s1 _ H1 _ hl1 S1 rv (good_rngC _ _ _ _ _) h2⟩
    · cases hz
  · cases hz

end
end LV
namespace LV
open PySem PySem.Spec PyProof.Rows L2

section
variable {X : Cx} {a b c e o : Expr} {wa wb wc wo : WE} {pos : Pos}
/-! ### pop(i), extend(ys), insert(i, y) -/
def wPopAt (wo wa : WE) : WE := fun s Q => wo s fun ro s1 => owW s1 ro (fun _ _ => True) ∧ wa s1 fun ri s2 => rdW s2 ri fun di => owW s2 ro fun i ds => match di with
  | .int j => if 0 ≤ j ∧ j < 1000000 then (match ds[j.toNat]? with
    | some d => Q (.sh d) (s2.set i (.ow (ds.eraseIdx j.toNat)))
    | none => False) else False
  | _ => False
theorem le_popAt {apos cpos : Pos} (ho : LE X o wo) (ha : LE X c wc) (hbase : attributeBase o "pop" X.env (eval o X.env) = eval o X.env)
    (hfew : ((backTo cpos (starEach [c] X.env)).all (fun x => !x.1) && (backToKw cpos (keywordEach [] X.env)).all (fun x => x.1.isSome) && decide ([c].length + ([] : List Keyword).length + (if ([] : List Keyword).isEmpty then 0 else 1) < 30)) = true)
    (hline : (apos.endLine == cpos.line) = true) (hs : starEach [c] X.env = (false, eval c X.env) :: starEach [] X.env) : LE X (.Call (.Attribute o "pop" apos) [c] [] cpos) (wPopAt wo wc) := by
  obtain ⟨to, po, lo⟩ := ho.ex
  obtain ⟨ta, pa, la⟩ := ha.ex
  refine ⟨⟨_, pe_bm PySem.F.plainAttrs_list PySem.F.slot_list_pop PySem.F.type_list_pop mt_popAt po (pa_cons pa pa_nil hs) hbase hfew hline hs rfl, fun g N H0 s σ P H Qw Q hl S h k => ?_⟩⟩
  refine lo g N H0 s σ P H _ _ hl S h fun ro s1 x H1 hl1 S1 rv h1 => ?_
  obtain ⟨h1, h2⟩ := h1
  obtain ⟨i, ds, a, vs, _, rfl, hh, _, _⟩ := SR.ow hl1 S1 rv h1
  refine ⟨.inl ⟨rfl, _, SqL.of hh⟩, ?_⟩
  refine la g N H0 s1 σ _ H1 _ _ hl1 S1 h2 fun r s2 y H2 hl2 S2 ry h3 => ?_
  obtain ⟨d, h4, vd⟩ := S2.rd (fun p h => List.mem_append_left _ h) hl2 (by simp) ry h3
  obtain ⟨i, ds, a', vs, hq, e, hh, rr, up⟩ := SR.ow hl2 S2 rv h4
  cases e
  split at hq
  · rename_i j
    split at hq
    · rename_i hj
      split at hq
      · rename_i d hd
        obtain ⟨u, hu, ru⟩ := rr.get hd
        have := vd.int; subst this
        have hlt : j.toNat < vs.length := (List.getElem?_eq_some_iff.mp hu).1
        have ix : seqIndex? j vs.length = some j.toNat := by
          have h0 : ¬ j < 0 := by omega
          have h1 : (0 : Int) ≤ j := by omega
          have h2 : j < (vs.length : Int) := by omega
          unfold seqIndex?
          simp [h0, h1, h2]
        refine ⟨a, vs, j, j.toNat, u, rfl, rfl, hh, by omega, by omega, ix, hu, ?_⟩
        have S2' := (S2.addSh ru).mid (List.Sublist.refl _)
        have rr' : Reps g.bv H2 (Nn N (s2.zip σ ++ (Sl.sh d, some u) :: (r.sl, some (V.int j)) :: (ro.sl, some (V.ref a)) :: P)) ds vs := rr.mono (fun _ _ e _ => e) fun b _ _ z => Nn.le (fun b => by
          show List.countP _ _ ≤ List.countP _ _
          simp only [List.countP_append, List.countP_cons]
          have : owns b (Sl.sh d, some u) = false := rfl
          rw [this]; simp) b z
        obtain ⟨hl3, S3⟩ := up _ _ _ S2' (rr'.eraseIdx j.toNat)
        exact k (.sh d) _ u _ hl3 (S3.drop1 (((List.sublist_cons_self _ _).trans (List.sublist_cons_self _ _)).cons_cons _)) trivial hq
      · exact hq.elim
    · exact hq.elim
  · exact hq.elim
/-- x.extend(ys), ys a list -/
def wExtend (wo wa : WE) : WE := fun s Q => wo s fun ro s1 => owW s1 ro (fun _ _ => True) ∧ wa s1 fun ri s2 => fzW s2 ri fun di s3 => owW s3 ro fun i ds => match di with
  | .lst es => ds.length + es.length < 16777216 ∧ Q (.sh .non) (s3.set i (.ow (ds ++ es)))
  | _ => False
theorem le_extend {apos cpos : Pos} (ho : LE X o wo) (ha : LE X c wc) (hbase : attributeBase o "extend" X.env (eval o X.env) = eval o X.env)
    (hfew : ((backTo cpos (starEach [c] X.env)).all (fun x => !x.1) && (backToKw cpos (keywordEach [] X.env)).all (fun x => x.1.isSome) && decide ([c].length + ([] : List Keyword).length + (if ([] : List Keyword).isEmpty then 0 else 1) < 30)) = true)
    (hline : (apos.endLine == cpos.line) = true) (hs : starEach [c] X.env = (false, eval c X.env) :: starEach [] X.env) : LE X (.Call (.Attribute o "extend" apos) [c] [] cpos) (wExtend wo wc) := by
  obtain ⟨to, po, lo⟩ := ho.ex
  obtain ⟨ta, pa, la⟩ := ha.ex
  refine ⟨⟨_, pe_bm PySem.F.plainAttrs_list PySem.F.slot_list_extend PySem.F.type_list_extend mt_extend po (pa_cons pa pa_nil hs) hbase hfew hline hs rfl, fun g N H0 s σ P H Qw Q hl S h k => ?_⟩⟩
  refine lo g N H0 s σ P H _ _ hl S h fun ro s1 x H1 hl1 S1 rv h1 => ?_
  obtain ⟨h1, h2⟩ := h1
  obtain ⟨i, ds, a, vs, _, rfl, hh, _, _⟩ := SR.ow hl1 S1 rv h1
  refine ⟨.inl ⟨rfl, _, SqL.of hh⟩, ?_⟩
  refine la g N H0 s1 σ _ H1 _ _ hl1 S1 h2 fun r s2 y H2 hl2 S2 ry h3 => ?_
  obtain ⟨d, s3, h4, hl3, S3⟩ := SR.fz (A := []) S2 hl2 ry h3
  obtain ⟨i, ds, a', vs, hq, e, hh, rr, up⟩ := SR.ow hl3 S3 rv h4
  cases e
  split at hq
  · rename_i es
    obtain ⟨w, ew, rw'⟩ := S3.each (Sl.sh (.lst es), some y) (by simp)
    cases ew
    cases rw' with
    | lst hb nb rb =>
      rename_i ws b
      refine ⟨a, b, vs, ws, rfl, rfl, hh, hb, by rw [← rr.length, ← rb.length, sizeLine_eq]; omega, ?_⟩
      obtain ⟨hl4, S4⟩ := up _ (ds ++ es) (vs ++ ws) S3 (rr.append rb)
      have S5 := S4.drop1 (B' := P) ((List.sublist_cons_self _ _).trans (List.sublist_cons_self _ _))
      exact k (.sh .non) _ .non _ hl4 ((S5.addSh .non).mid (List.Sublist.refl _)) trivial hq.2
  · exact hq.elim
end
end LV
namespace LV
open PySem PySem.Spec PyProof.Rows L2

/-! ### n.bit_length() -/
def rBits : V → List V → Hp → VK → Prop := fun x vs H Q => ∃ n : Int, x = .int n ∧ vs = [] ∧ Q (.int ((Builtin.Int.intBits n : Nat) : Int)) H
theorem mt_bits {X : Cx} : MtR X "int.bit_length" rBits := by
  intro pins s σ H x vs v us Q I rx rv h
  obtain ⟨n, rfl, rfl, q⟩ := h
  obtain ⟨t, rfl⟩ := rx
  cases rv
  exact call_int_bit_length ⟨.int _, H, I.tok _, ⟨_, rfl⟩, q⟩
def fBits : F1 := fun a Q => match a with
  | .int i => Q (.sh (.int ((Builtin.Int.intBits i : Nat) : Int)))
  | _ => False
theorem unS_bits {K : PySem.W.Frag} : UnS (fun x H Q => tyV K "int" x H ∧ rBits x [] H Q) fBits := by
  intro g N H0 L H da x Qf Q S va hq k
  unfold fBits at hq; split at hq
  · obtain rfl := va.int
    exact ⟨rfl, _, rfl, rfl, k.sh S .int hq⟩
  · exact hq.elim
/-- the base of a method's call, when it is a call itself -/
def notSup : Expr → Bool
  | .Call _ (_ :: _) _ _ => true
  | .Call .. => false
  | _ => true
theorem attrbase' {o : Expr} {a : Str} {env : Env} (h : notSup o = true) : attributeBase o a env (eval o env) = eval o env := by
  cases o with
  | Call f es ks p =>
    cases es with
    | nil => cases h
    | cons e es => unfold attributeBase; cases f <;> rfl
  | _ => rfl
section
variable {X : Cx} {o : Expr} {wo : WE}
theorem le_bits {apos cpos : Pos} (ho : LE X o wo) (hbase : attributeBase o "bit_length" X.env (eval o X.env) = eval o X.env) (hline : (apos.endLine == cpos.line) = true) : LE X (.Call (.Attribute o "bit_length" apos) [] [] cpos) (wUn fBits wo) := by
  obtain ⟨to, po, lo⟩ := ho.ex
  exact ⟨⟨_, pe_bm0 PySem.F.plainAttrs_int PySem.F.slot_int_bit_length PySem.F.type_int_bit_length mt_bits po hbase hline, let_un unS_bits lo⟩⟩
end
end LV
namespace LV
open PySem PySem.Spec PyProof.Rows L2
/-! ### slices with a step: lists xs[a:b:c], tuples t[::-1] -/
def pickV {α : Type} (xs : List α) (lo hi st : Option Int) : List α := (sliceRange (sliceBounds lo hi st xs.length).1 (sliceBounds lo hi st xs.length).2.1 (sliceBounds lo hi st xs.length).2.2).filterMap fun i => xs[i]?
theorem vals_at {xs : List V} {ys : List Value} (r : Vals xs ys) : ∀ i : Nat, (xs[i]? = none ∧ ys[i]? = none) ∨ ∃ x y, xs[i]? = some x ∧ ys[i]? = some y ∧ RelV x y := by
  induction r with
  | nil => intro i; left; simp
  | cons r1 r2 ih =>
    intro i
    cases i with
    | zero => exact .inr ⟨_, _, rfl, rfl, r1⟩
    | succ i => simpa using ih i
theorem vals_pickS {xs : List V} {ys : List Value} (r : Vals xs ys) : ∀ l : List Nat, Vals (l.filterMap fun i => xs[i]?) (l.filterMap fun i => ys[i]?)
  | [] => .nil
  | i :: l => by
    rcases vals_at r i with ⟨e1, e2⟩ | ⟨x, y, e1, e2, rx⟩
    · rw [List.filterMap_cons_none e1, List.filterMap_cons_none e2]; exact vals_pickS r l
    · rw [List.filterMap_cons_some e1, List.filterMap_cons_some e2]; exact .cons rx (vals_pickS r l)
def tStL (K : PySem.W.Frag) (te : TE) (tl th ts : TO) : TE := fun σ H Q => te σ H fun x H1 => tl σ H1 fun l H2 => th σ H2 fun u H3 => ts σ H3 fun o H4 => ∃ a xs, x = .ref a ∧ SqL K H4 a xs ∧ o ≠ some 0 ∧ ∀ p, H4 p = none → Q (.ref p) (upd H4 p (.lst (pickV xs l u o)))
theorem pe_stL {X : Cx} {e st : Expr} {te : TE} {lo hi : Option Expr} {tl th ts : TO} {p3 pos : Pos} (he : PE X e te) (hl : PO X lo tl) (hu : PO X hi th) (hs : PO X (some st) ts) (hop : ∀ v w : Value, ∃ ops, subscripted (.Slice lo hi (some st) p3) false v w = operate ops (getItem v w)) :
    PE X (.Subscript e (.Slice lo hi (some st) p3) pos) (tStL X.K te tl th ts) := by
  refine ⟨fun pins s σ H Q I h => ?_⟩
  refine Subscript_ (thn (he.run pins s σ H _ I h) fun v s1 ⟨x, H1, I1, r1, q1⟩ => ?_)
  refine wpAny_Slice (thn (hl.run pins s1 σ H1 _ I1 q1) fun vl s2 ⟨l, H2, I2, pl, q2⟩ => ?_)
  refine thn (hu.run pins s2 σ H2 _ I2 q2) fun vu s3 ⟨u, H3, I3, pu, q3⟩ => ?_
  refine thn (hs.run pins s3 σ H3 _ I3 q3) fun vs s4 ⟨o, H4, I4, ps, q4⟩ => ?_
  obtain ⟨a, xs, ex, hx, h0, q⟩ := q4
  subst ex
  cases r1
  have I5 : Inv X pins σ H4 { s4 with heap := s4.heap.push { cls := .type "slice", data := .fields #[vl, vu, vs] } } := I4.kept (t' := s4.toks) fun b ob q => Heap.get?_push_of_some _ q
  obtain ⟨its, r, ht, hz⟩ := I5.list hx
  have hlen := r.length
  show wpAny (model X.prog X.w) X.A (subscriptTail e (.Slice lo hi (some st) p3) (.ref a) (.ref s4.heap.objs.size)) (EP X pins σ Q) X.xe { s4 with heap := s4.heap.push { cls := .type "slice", data := .fields #[vl, vu, vs] } }
  obtain ⟨ops, hops⟩ := hop (.ref a) (.ref s4.heap.objs.size)
  refine tail_any (ops := ops) ht.isList.typeIs (PySem.slot_list_getitem.lookup) ?_ hops
  refine wpAny_getItem_list_slice ht.isList (Heap.IsSliceOf.new _ vl vu vs) pl pu ps h0 ?_ (by rw [List.size_toArray]; omega)
  have hsz := slicePick_size_le its.toArray l u o
  have hv : Vals (pickV xs l u o) (slicePick its.toArray l u o).toList := by
    unfold pickV slicePick
    rw [List.size_toArray, hlen]
    have e : (fun i : Nat => its.toArray[i]?) = fun i : Nat => its[i]? := by funext i; exact List.getElem?_toArray
    rw [List.toList_toArray, e]
    exact vals_pickS r _
  refine ⟨.ref _, _, I5.laid (t' := s4.toks) (o := .lst (pickV xs l u o)) (fun b ob q => Heap.get?_push_of_some _ q) (Nat.le_refl _) ?_, rfl, q _ (I5.hok.fresh (Nat.le_refl _))⟩
  refine ⟨?_, (slicePick its.toArray l u o).toList, 0, hv, Heap.get?_push_size _ ?_⟩
  · have := hv.length
    rw [this, Array.length_toList]
    have h3 : its.toArray.size = its.length := List.size_toArray ..
    omega
  · rfl
theorem sub_st {lo hi : Option Expr} {st : Expr} {p3 : Pos} (v w : Value) : ∃ ops, subscripted (.Slice lo hi (some st) p3) false v w = operate ops (getItem v w) := ⟨[v, w], by with_unfolding_all rfl⟩
theorem reps_at {bv H N} {xs : List D} {ys : List V} (r : Reps bv H N xs ys) : ∀ i : Nat, (xs[i]? = none ∧ ys[i]? = none) ∨ ∃ x y, xs[i]? = some x ∧ ys[i]? = some y ∧ Rep bv H N x y := fun i => by
  cases e : xs[i]? with
  | none =>
    left
    have h := List.getElem?_eq_none_iff.mp e
    exact ⟨rfl, List.getElem?_eq_none_iff.mpr (by rw [← r.length]; exact h)⟩
  | some x =>
    obtain ⟨y, h1, h2⟩ := r.get e
    exact .inr ⟨x, y, rfl, h1, h2⟩
theorem reps_pickS {bv H N} {xs : List D} {ys : List V} (r : Reps bv H N xs ys) : ∀ l : List Nat, Reps bv H N (l.filterMap fun i => xs[i]?) (l.filterMap fun i => ys[i]?)
  | [] => .nil
  | i :: l => by
    rcases reps_at r i with ⟨e1, e2⟩ | ⟨x, y, e1, e2, rx⟩
    · rw [List.filterMap_cons_none e1, List.filterMap_cons_none e2]; exact reps_pickS r l
    · rw [List.filterMap_cons_some e1, List.filterMap_cons_some e2]; exact .cons rx (reps_pickS r l)
theorem Reps.pick {bv H N ds vs} (r : Reps bv H N ds vs) (lo hi st : Option Int) : Reps bv H N (pickV ds lo hi st) (pickV vs lo hi st) := by
  unfold pickV
  rw [← r.length]
  exact reps_pickS r _
def wSt (wa : WE) (wl wh ws : WO) : WE := fun s Q => wa s fun ra s1 => wl s1 fun lo s2 => wh s2 fun hi s3 => ws s3 fun st s4 => rdW s4 ra fun d => match d with
  | .lst xs => st ≠ some 0 ∧ Q (.fr (pickV xs lo hi st)) s4
  | _ => False
theorem le_st {X : Cx} {a st : Expr} {lo hi : Option Expr} {wa : WE} {wl wh ws : WO} {p3 pos : Pos} (ha : LE X a wa) (hl : LO X lo wl) (hh : LO X hi wh) (hs : LO X (some st) ws) : LE X (.Subscript a (.Slice lo hi (some st) p3) pos) (wSt wa wl wh ws) := by
  obtain ⟨ta, pa, la⟩ := ha.ex
  obtain ⟨tl, pl, ll⟩ := hl.ex
  obtain ⟨th, ph, lh⟩ := hh.ex
  obtain ⟨ts, ps, ls⟩ := hs.ex
  refine ⟨⟨_, pe_stL pa pl ph ps sub_st, fun g N H0 s σ P H Qw Q hlen S h k => ?_⟩⟩
  refine la g N H0 s σ P H _ _ hlen S h fun r s1 v H1 hl1 S1 rv h1 => ?_
  refine ll g N H0 s1 σ _ H1 _ _ hl1 S1 h1 fun lo s2 H2 hl2 S2 h2 => ?_
  refine lh g N H0 s2 σ _ H2 _ _ hl2 S2 h2 fun hi s3 H3 hl3 S3 h3 => ?_
  refine ls g N H0 s3 σ _ H3 _ _ hl3 S3 h3 fun st s4 H4 hl4 S4 h4 => ?_
  obtain ⟨d, hq, vd⟩ := S4.rd (fun p h => List.mem_append_left _ h) hl4 (by simp) rv h4
  cases d with
  | lst xs =>
    obtain ⟨b, vs, rfl, e, r⟩ := vd
    exact ⟨b, vs, rfl, SqL.of e, hq.1, fun p hp => k (.fr (pickV xs lo hi st)) s4 _ _ hl4 ((S4.newL hp (r.pick lo hi st)).mid (by simp)) (RVal.ok (fun _ e => by cases e)) hq.2⟩
  | _ => exact hq.elim
/-! what they tell -/
theorem fm_congr {α β : Type} {f g : α → Option β} : ∀ {l : List α}, (∀ i ∈ l, f i = g i) → l.filterMap f = l.filterMap g
  | [], _ => rfl
  | x :: l, h => by
    have e := h x (List.mem_cons_self ..)
    have ih := fm_congr (l := l) fun i hi => h i (List.mem_cons_of_mem _ hi)
    cases hx : f x with
    | none => rw [List.filterMap_cons_none hx, List.filterMap_cons_none (e ▸ hx), ih]
    | some y => rw [List.filterMap_cons_some hx, List.filterMap_cons_some (e ▸ hx), ih]
theorem pick_m2 {α : Type} (xs : List α) : pickV xs (some (-2)) none (some (-1)) = xs.dropLast.reverse := by
  unfold pickV
  have hb : sliceBounds (some (-2)) none (some (-1)) xs.length = (max (-1) ((xs.length : Int) - 2), -1, -1) := by
    unfold sliceBounds
    simp only [Option.getD_some]
    rw [if_neg (by decide), if_pos (by decide), if_neg (by decide)]
    refine Prod.ext ?_ rfl
    simp only
    omega
  rw [hb]
  have hs : sliceRange (max (-1) ((xs.length : Int) - 2)) (-1) (-1) = (List.range (xs.length - 1)).reverse := by
    rcases Nat.eq_zero_or_pos xs.length with h0 | h0
    · rw [h0]; rfl
    · have e : max (-1) ((xs.length : Int) - 2) = ((xs.length - 1 : Nat) : Int) - 1 := by omega
      rw [e, PySem.W.krv_sliceRange, PySem.W.krv_range]
  show List.filterMap _ (sliceRange (max (-1) ((xs.length : Int) - 2)) (-1) (-1)) = _
  rw [hs, List.filterMap_reverse]
  congr 1
  have := PySem.W.krv_all xs.dropLast.toArray
  rw [List.size_toArray, List.length_dropLast, List.toList_toArray] at this
  rw [← this]
  refine fm_congr fun i hi => ?_
  have hi : i < xs.length - 1 := by simpa using hi
  rw [List.getElem?_toArray, List.dropLast_eq_take, List.getElem?_take_of_lt hi]
end LV
namespace LV
open PySem PySem.Spec PyProof.Rows L2

/-! ### a reading that a meaning makes -/
def tOf (w : WE) : TE := fun σ H Q => ∃ g N H0 s P Qw, s.length = σ.length ∧ SR g N H0 (s.zip σ ++ P) H ∧ w s Qw ∧
  ∀ r s' v H', s'.length = σ.length → SR g N H0 (s'.zip σ ++ (r.sl, some v) :: P) H' → RVal σ r v → Qw r s' → Q v H'
theorem LEt_tOf (w : WE) : LEt (tOf w) w := fun g N H0 s σ P H Qw Q hl S h k => ⟨g, N, H0, s, P, Qw, hl, S, h, k⟩
theorem LE.pe {X e w} (h : LE X e w) : PE X e (tOf w) := by
  obtain ⟨t, p, l⟩ := h.ex
  exact ⟨fun pins s σ H Q I ⟨g, N, H0, sg, P, Qw, hl, S, hw, k⟩ => p.run pins s σ H Q I (l g N H0 sg σ P H Qw Q hl S hw k)⟩
def ttOf (w : WT) : TT := fun σ H Q => ∃ g N H0 s P Qw, s.length = σ.length ∧ SR g N H0 (s.zip σ ++ P) H ∧ w s Qw ∧
  ∀ b s' H', s'.length = σ.length → SR g N H0 (s'.zip σ ++ P) H' → Qw b s' → Q b H'
theorem LTt_ttOf (w : WT) : LTt (ttOf w) w := fun g N H0 s σ P H Qw Q hl S h k => ⟨g, N, H0, s, P, Qw, hl, S, h, k⟩
theorem LTs.pts {X e w} (h : LTs X e w) : PTs X e (ttOf w) := by
  obtain ⟨t, p, l⟩ := h.ex
  exact ⟨fun pins s σ H Q I ⟨g, N, H0, sg, P, Qw, hl, S, hw, k⟩ => p.run pins s σ H Q I (l g N H0 sg σ P H Qw Q hl S hw k)⟩
def tgOf (w : WG) (T : List Nat) : TG := fun v σ H Q => ∃ g N H0 s P d Qg, s.length = σ.length ∧ SR g N H0 (s.zip σ ++ P) H ∧ (Sl.sh d, some v) ∈ P ∧ w d s Qg ∧
  ∀ s' σ' H', s'.length = σ'.length → σ'.length = σ.length → (∀ i, i ∉ T → σ'[i]? = σ[i]?) → SR g N H0 (s'.zip σ' ++ P) H' → Qg s' → Q σ' H'
theorem LGt_tgOf (w : WG) (T : List Nat) : LGt (tgOf w T) w T := fun g N H0 s σ P H d v Qg Q hl S hm h k => ⟨g, N, H0, s, P, d, Qg, hl, S, hm, h, k⟩
theorem LG.pg {X e w T} (h : LG X e w T) : PG X e (tgOf w T) := by
  obtain ⟨t, p, l⟩ := h.ex
  exact ⟨fun pins s σ H v u Q I r ⟨g, N, H0, sg, P, d, Qg, hl, S, hm, hw, k⟩ => p.run pins s σ H v u Q I r (l g N H0 sg σ P H d v Qg Q hl S hm hw k)⟩

/-! ### what is known of the names -/
structure Cxt where
  N : List Str
  sc : Scope
  fnb : Str → Bool
  fns : List (Str × List Str × VS)
  kws : List (Str × Nat × List Str)
  bl : List Str
  md : List (Str × String)
  K : PySem.W.Frag
  gc : List (Str × Int) := []
/-- the places of the keywords among what is given by name -/
def kIx (ps : List Str) (n : Nat) (ks : List Str) : List Nat := (ps.drop n).map fun p => ks.idxOf p
def KwOk (fd : FuncData) (ps : List Str) (n : Nat) (ks : List Str) : Prop := ∀ us ws : List Value, us.length = n → ws.length = ks.length → bindArgs fd ⟨us, ks.zip ws⟩ = pure (ps.zip (us ++ (kIx ps n ks).filterMap fun j => ws[j]?))
structure FnF (X : Cx) (C : Cxt) (k : Nat) (x : Str) (ps : List Str) (F : VS) : Prop where
  ex : ∃ (f : Addr) (fd : FuncData), FnG X.prog X.w X.K X.mg X.base CX0 k f fd ps (lift F) ∧ X.mg x = some (.ref f) ∧ PySem.W.keepIn X.K (.ref f) = true ∧ Binds X.K fd ps [] ∧
    ∀ q ∈ C.kws, q.1 = x → KwOk fd ps q.2.1 q.2.2
structure CF (X : Cx) (C : Cxt) (k : Nat) : Prop where
  hN : X.N = C.N
  nd : C.N.Nodup
  sc : X.env.scope = C.sc
  fn : X.fn = C.fnb
  calm : X.calm = true
  room : Room k X.A
  gd : X.A.guards = some []
  K : X.K = C.K
  bk : X.env.blockKind = .function
  bl : ∀ x ∈ C.bl, X.mg x = none
  md : ∀ p ∈ C.md, X.mg p.1 = some (.builtin p.2)
  gc : ∀ p ∈ C.gc, ∃ t, X.mg p.1 = some (.int p.2 t)
  fns : ∀ p ∈ C.fns, FnF X C k p.1 p.2.1 p.2.2
section
variable {X : Cx} {C : Cxt} {k : Nat}
/-! names -/
def okName (x : Str) : Bool := !(x == ("__debug__" : Str)) && !(x == ("__classdict__" : Str)) && !(x == ("__name__" : Str))
def visB (sc : Scope) (x : Str) : Bool := match sc.names.lookup x with
  | some .local => true
  | some .cell => true
  | some .free => true
  | _ => false
def glB (sc : Scope) (x : Str) : Bool := match sc.names.lookup x with
  | some .globalImplicit => true
  | _ => false
theorem glB_of (F : CF X C k) {x : Str} (h : glB C.sc x = true) : Gl X x := by
  unfold glB at h
  unfold Gl Env.kindOf
  rw [F.sc]
  split at h <;> first | assumption | cases h
theorem okName_of {x : Str} (h : okName x = true) : (x == ("__debug__" : Str)) = false ∧ (x == ("__classdict__" : Str)) = false ∧ x ≠ ("__name__" : Str) := by
  unfold okName at h
  simp only [Bool.and_eq_true, Bool.not_eq_true'] at h
  exact ⟨h.1.1, h.1.2, fun e => by rw [e] at h; simp at h⟩
def slotOf (C : Cxt) (x : Str) : Option Nat := if okName x && visB C.sc x then (if C.N.idxOf x < C.N.length then some (C.N.idxOf x) else none) else none
theorem idx_get {N : List Str} {x : Str} (h : N.idxOf x < N.length) : N[N.idxOf x]? = some x := by
  rw [List.getElem?_eq_getElem h, List.getElem_idxOf h]
theorem slotOf_of (F : CF X C k) {x : Str} {i : Nat} (h : slotOf C x = some i) : X.N[i]? = some x ∧ Vis X.env.scope x ∧ (x == ("__debug__" : Str)) = false ∧ (x == ("__classdict__" : Str)) = false := by
  unfold slotOf at h
  split at h
  · split at h
    · cases h
      have h0 := Bool.and_eq_true_iff.mp (by assumption)
      have hn := okName_of h0.1
      refine ⟨by rw [F.hN]; exact idx_get (by assumption), ?_, hn.1, hn.2.1⟩
      have hv := h0.2
      unfold visB at hv
      unfold Vis
      rw [F.sc]
      split at hv <;> first | (exact .inl (by assumption)) | (exact .inr (.inl (by assumption))) | (exact .inr (.inr (by assumption))) | cases hv
    · cases h
  · cases h
/-- a slot that may be stored to -/
def tgB (C : Cxt) (x : Str) : Bool := match C.sc.names.lookup x with
  | some .local => true
  | some .cell => C.fnb x
  | _ => false
theorem tgB_of (F : CF X C k) {x : Str} (h : tgB C x = true) : L2.Loc X.env.scope x ∧ (X.fn x = true ∨ X.env.scope.names.lookup x = some .local) := by
  unfold tgB at h
  unfold L2.Loc
  rw [F.sc, F.fn]
  split at h
  · exact ⟨.inl (by assumption), .inr (by assumption)⟩
  · exact ⟨.inr (by assumption), .inl h⟩
  · cases h
def tgOf? (C : Cxt) (x : Str) : Option Nat := if tgB C x = true then (if C.N.idxOf x < C.N.length then some (C.N.idxOf x) else none) else none
theorem tgOf_of (F : CF X C k) {x : Str} {i : Nat} (h : tgOf? C x = some i) : X.N.Nodup ∧ X.N[i]? = some x ∧ L2.Loc X.env.scope x ∧ (X.fn x = true ∨ X.env.scope.names.lookup x = some .local) := by
  unfold tgOf? at h
  split at h
  · split at h
    · cases h
      exact ⟨by rw [F.hN]; exact F.nd, by rw [F.hN]; exact idx_get (by assumption), tgB_of F (by assumption)⟩
    · cases h
  · cases h
end

/-! ### tables -/
def binF (op : Operator) : Option F2 := match op with
  | .Add => some fAdd
  | .Sub => some fSub
  | .Mult => some fMul
  | .FloorDiv => some fDiv
  | .Mod => some fMod
  | .Pow => some fPow
  | _ => none
theorem binF_of {X : Cx} {op : Operator} {f : F2} (h : binF op = some f) : ∃ r, OpR X (binaryOp op) r ∧ OpS r f := by
  cases op <;> first | (cases h; done) | skip
  · cases h; exact ⟨_, op_addA, opS_add⟩
  · cases h; exact ⟨_, op_sub, opS_sub⟩
  · cases h; exact ⟨_, op_mulA, opS_mul⟩
  · cases h; exact ⟨_, op_modN, opS_mod⟩
  · cases h; exact ⟨_, op_pow, opS_pow⟩
  · cases h; exact ⟨_, op_fdivA, opS_div⟩
def cmpF (op : CmpOp) : Option F2 := match op with
  | .Eq => some fEq
  | .NotEq => some fNe
  | .Lt => some fLt
  | .LtE => some fLe
  | .Gt => some fGt
  | .GtE => some fGe
  | .Is => some fIs
  | .IsNot => some fIsNot
  | .In => some (fIn false)
  | .NotIn => some (fIn true)
theorem cmpF_of {X : Cx} {k : Nat} (hr : Room k X.A) {op : CmpOp} {f : F2} (h : cmpF op = some f) : ∃ r, OpR X (compareOp op) r ∧ OpS r f := by
  cases op <;> first | (cases h; done) | skip
  · cases h; exact ⟨_, op_eqA hr.units, opS_eq⟩
  · cases h; exact ⟨_, op_neA hr.units, opS_ne⟩
  · cases h; exact ⟨_, op_lt, opS_CI⟩
  · cases h; exact ⟨_, op_le, opS_CI⟩
  · cases h; exact ⟨_, op_gt, opS_CI⟩
  · cases h; exact ⟨_, op_ge, opS_CI⟩
  · cases h; exact ⟨_, op_isA, opS_is⟩
  · cases h; exact ⟨_, op_isNotA, opS_isNot⟩
  · cases h; exact ⟨_, op_inA (by have := hr.un; omega), opS_in⟩
  · cases h; exact ⟨_, op_notInA (by have := hr.un; omega), opS_notIn⟩
def constD (c : Const) : Option D := match c with
  | .int i => some (.int i)
  | .bool b => some (.bl b)
  | .none => some .non
  | .str x => some (.str x)
  | _ => none
theorem constD_of {X : Cx} {c : Const} {d : D} (h : constD c = some d) {j pos} : ∃ v, PE X (.Constant c j pos) (tC v) ∧ ∀ bv H N, Rep bv H N d v := by
  cases c <;> first | (cases h; done) | skip
  · cases h; exact ⟨_, pe_non, fun _ _ _ => .non⟩
  · cases h; exact ⟨_, pe_bl, fun _ _ _ => .bl⟩
  · cases h; exact ⟨_, pe_int, fun _ _ _ => .int⟩
  · cases h; exact ⟨_, pe_str, fun _ _ _ => .str⟩
/-- built-ins by name -/
def bltF (x : Str) : Option FN :=
  if x = ("len" : Str) then some fLen else if x = ("abs" : Str) then some fAbs else if x = ("int" : Str) then some fInt else if x = ("list" : Str) then some fList else if x = ("tuple" : Str) then some fTuple
  else if x = ("sum" : Str) then some fSum else if x = ("max" : Str) then some fMax else if x = ("min" : Str) then some fMin else if x = ("all" : Str) then some fAll else if x = ("any" : Str) then some fAny else if x = ("repr" : Str) then some fRepr else none
theorem bltF_of {X : Cx} {k : Nat} (hc : X.calm = true) (hgd : X.A.guards = some []) (hr : Room k X.A) {x : Str} {f : FN} (h : bltF x = some f) : ∃ r, CaS r f ∧ ((∃ id, CallR X (.builtin id) r ∧ bootBuiltins x = some (.builtin id)) ∨ (∃ T, CallR X (.type T) r ∧ bootBuiltins x = some (.type T))) := by
  unfold bltF at h
  split at h
  · cases h; subst x; exact ⟨_, caS_len (K := X.K), .inl ⟨_, call_len_seq, by decide +kernel⟩⟩
  split at h
  · cases h; subst x; exact ⟨_, caS_abs, .inl ⟨_, call_abs, by decide +kernel⟩⟩
  split at h
  · cases h; subst x; exact ⟨_, caS_int, .inr ⟨_, call_int1, by decide +kernel⟩⟩
  split at h
  · cases h; subst x; exact ⟨_, caS_list (K := X.K), .inr ⟨_, call_list_of, by decide +kernel⟩⟩
  split at h
  · cases h; subst x; exact ⟨_, caS_tuple (K := X.K), .inr ⟨_, call_tuple_of, by decide +kernel⟩⟩
  split at h
  · cases h; subst x; exact ⟨_, caS_sum (K := X.K), .inl ⟨_, cr_sum hc, by decide +kernel⟩⟩
  split at h
  · cases h; subst x; exact ⟨_, caS_max (K := X.K), .inl ⟨_, (cr_max hc).or (call_max2 hc), by decide +kernel⟩⟩
  split at h
  · cases h; subst x; exact ⟨_, caS_min (K := X.K), .inl ⟨_, (cr_min hc).or (call_min2 hc), by decide +kernel⟩⟩
  split at h
  · cases h; subst x; exact ⟨_, caS_all (K := X.K), .inl ⟨_, cr_all hc, by decide +kernel⟩⟩
  split at h
  · cases h; subst x; exact ⟨_, caS_any (K := X.K), .inl ⟨_, cr_any hc, by decide +kernel⟩⟩
  split at h
  · cases h; subst x; exact ⟨_, caS_repr (K := X.K), .inl ⟨_, cr_repr hgd (by have := hr.un; omega), by decide +kernel⟩⟩
  · cases h
def mdF (id : String) : Option FN := if id = "math.gcd" then some fGcd else if id = "math.factorial" then some fFac else if id = "math.comb" then some fComb else none
theorem mdF_of {X : Cx} {id : String} {f : FN} (h : mdF id = some f) : ∃ r, CaS r f ∧ CallR X (.builtin id) r := by
  unfold mdF at h
  split at h
  · cases h; subst id; exact ⟨_, caS_gcd, cr_gcd⟩
  split at h
  · cases h; subst id; exact ⟨_, caS_fac, cr_fac⟩
  split at h
  · cases h; subst id; exact ⟨_, caS_comb, cr_comb⟩
  · cases h
end LV
namespace LV
open PySem PySem.Spec PyProof.Rows L2

/-- a call whose later arguments stand by name -/
def wCallK (F : VS) (n : Nat) (ix : List Nat) (wa : WA) : WE := fun s Q => wa s fun rs s1 => fzL s1 rs fun ds s2 => F (ds.take n ++ ix.filterMap fun j => (ds.drop n)[j]?) fun r => Q r s2
/-- what stands by place, then what stands by name -/
def wApp (wa wk : WA) : WA := fun s Q => wa s fun rs s1 => wk s1 fun zs s2 => Q (rs ++ zs) s2
def blkCxt (C : Cxt) (scope : Scope) : Cxt := { C with sc := relS scope C.sc, fnb := fun x => scope.names.lookup x == some .cell }
def ownOf (C : Cxt) (scope : Scope) : List (Str × Nat) := scope.names.filterMap fun (y, k) => if (k == .local || k == .cell) && decide (C.N.idxOf y < C.N.length) then some (y, C.N.idxOf y) else none
def isTup : Expr → Bool
  | .Tuple .. => true
  | _ => false

def cCall (C : Cxt) (x : Str) (es : List Expr) (wa : WA) : Option WE :=
  match C.fns.find? fun p => decide (p.1 = x) with
  | some (_, ps, F) => if es.length = ps.length then some (wCall F wa) else none
  | none => match es with
    | [] => none
    | _ :: _ => if x ∈ C.bl then (bltF x).map fun f => wCB f wa else match C.md.find? fun p => decide (p.1 = x) with
      | some (_, id) => (mdF id).map fun f => wCB f wa
      | none => none
def cCallK (C : Cxt) (x : Str) (es : List Expr) (kws : List Keyword) (wa wk : WA) : Option WE :=
  match C.fns.find? fun p => decide (p.1 = x) with
  | some (_, ps, F) => if 0 < kws.length ∧ (kws.filterMap (·.arg)).length = kws.length ∧ es.length + kws.length = ps.length ∧ (x, es.length, kws.filterMap (·.arg)) ∈ C.kws then some (wCallK F es.length (kIx ps es.length (kws.filterMap (·.arg))) (wApp wa wk)) else none
  | none => none
/-- isinstance(e, T) -/
def isiArgs (C : Cxt) (x : Str) (es : List Expr) : Option (Expr × TN) := match es with
  | [a, .Name y _] => if x = ("isinstance" : Str) ∧ x ∈ C.bl ∧ y ∈ C.bl ∧ glB C.sc y = true ∧ plainE a = true then (tnOf y).map fun T => (a, T) else none
  | _ => none
/-- list(zip(a, b)), list(enumerate(a)) -/
def lzArgs (C : Cxt) (x : Str) (es : List Expr) : Option (List Expr × FN) := match es with
  | [.Call (.Name y _) [a] [] _] => if x = ("list" : Str) ∧ y = ("enumerate" : Str) ∧ x ∈ C.bl ∧ y ∈ C.bl ∧ glB C.sc y = true ∧ plainE a = true then some ([a], fLen0)
    else if x = ("list" : Str) ∧ y = ("reversed" : Str) ∧ x ∈ C.bl ∧ y ∈ C.bl ∧ glB C.sc y = true ∧ plainE a = true then some ([a], fLrv) else none
  | [.Call (.Name y _) [a, b] [] _] => if x = ("list" : Str) ∧ y = ("zip" : Str) ∧ x ∈ C.bl ∧ y ∈ C.bl ∧ glB C.sc y = true ∧ plainE a = true ∧ plainE b = true then some ([a, b], fLz) else none
  | _ => none
def isM1 : Expr → Bool
  | .UnaryOp .USub (.Constant (.int i) _ _) _ => i == 1
  | _ => false
/-- a name: a slot, or an int of the module -/
def cName (C : Cxt) (x : Str) : Option WE := match slotOf C x with
  | some i => some (wV i)
  | none => if okName x = true ∧ glB C.sc x = true then (C.gc.find? fun p => decide (p.1 = x)).map fun p => wC (.int p.2) else none
/-- list(range(a)), list(range(a, b)) -/
def rgArgs (C : Cxt) (x : Str) (es : List Expr) : Option (Expr × Option Expr) := match es with
  | [.Call (.Name y _) [a] [] _] => if x = ("list" : Str) ∧ y = ("range" : Str) ∧ x ∈ C.bl ∧ y ∈ C.bl ∧ glB C.sc y = true ∧ plainE a = true then some (a, none) else none
  | [.Call (.Name y _) [a, b] [] _] => if x = ("list" : Str) ∧ y = ("range" : Str) ∧ x ∈ C.bl ∧ y ∈ C.bl ∧ glB C.sc y = true ∧ plainE a = true ∧ plainE b = true then some (a, some b) else none
  | _ => none
mutual
def cE (C : Cxt) : Nat → Expr → Option WE
  | 0, _ => none
  | n + 1, e => match e with
    | .Name x _ => cName C x
    | .Constant c _ _ => (constD c).map wC
    | .BinOp a op b _ => do
      let f ← binF op
      let wa ← cE C n a
      let wb ← cE C n b
      return wOp f wa wb
    | .UnaryOp .USub a _ => do
      let wa ← cE C n a
      return wUn fNeg wa
    | .UnaryOp .Not a _ => do
      let wa ← cE C n a
      return wNotV wa
    | .Compare a [op] [b] _ => if behindInMarks op b = true then none else do
      let f ← cmpF op
      let wa ← cE C n a
      let wb ← cE C n b
      return wOp f wa wb
    | .Compare a [op, op2] [b, c] _ => if lastMarks [op, op2] [b, c] = true then none else do
      let f ← cmpF op
      let f2 ← cmpF op2
      let wa ← cE C n a
      let wb ← cE C n b
      let wc ← cE C n c
      return wChainE f f2 wa wb wc
    | .BoolOp .And es _ => cAndV C n es
    | .BoolOp .Or es _ => cOrV C n es
    | .IfExp c a b _ => do
      let wt ← cT C n c
      let wa ← cE C n a
      let wb ← cE C n b
      return wIf wt wa wb
    | .Subscript a (.Slice lo hi none _) _ => do
      let wa ← cE C n a
      let wl ← cO C n lo
      let wh ← cO C n hi
      return wSl C.K wa wl wh
    | .Subscript a (.Slice none none (some st) _) _ => if isM1 st = true then do
        let wa ← cE C n a
        return wRev wa
      else do
        let wa ← cE C n a
        let ws ← cO C n (some st)
        return wSt wa wONone wONone ws
    | .Subscript a (.Slice lo hi (some st) _) _ => do
      let wa ← cE C n a
      let wl ← cO C n lo
      let wh ← cO C n hi
      let ws ← cO C n (some st)
      return wSt wa wl wh ws
    | .Subscript a b _ => if notSlice b = true then do
        let wa ← cE C n a
        let wb ← cE C n b
        return wOp fIx wa wb
      else none
    | .Tuple es _ _ => do
      let wa ← cA C n es
      return wTup wa
    | .List es _ => do
      let wa ← cA C n es
      return wLst wa
    | .Call (.Name x _) es [] _ => if okName x = true ∧ glB C.sc x = true then
        match isiArgs C x es with
        | some (a, T) => do
          let wa ← cE C n a
          return wIsi T wa
        | none => match lzArgs C x es with
          | some (zs, f) => (cA C n zs).bind fun wa => some (wCB f wa)
          | none => match rgArgs C x es with
            | some (a, none) => (cE C n a).bind fun wa => some (wCB fRngL1 (wCons wa wNil))
            | some (a, some b) => (cE C n a).bind fun wa => (cE C n b).bind fun wb => some (wCB fRngL2 (wCons wa (wCons wb wNil)))
            | none => (cA C n es).bind fun wa => cCall C x es wa
      else none
    | .Call (.Name x _) es kws _ => if okName x = true ∧ glB C.sc x = true then
        (cA C n es).bind fun wa => (cA C n (kws.map (·.value))).bind fun wk => cCallK C x es kws wa wk
      else none
    | .Call (.Attribute o m ap) [] [] cp => if m = ("pop" : Str) ∧ notCall o = true ∧ (ap.endLine == cp.line) = true then do
        let wo ← cE C n o
        return wPop wo
      else if m = ("bit_length" : Str) ∧ notSup o = true ∧ (ap.endLine == cp.line) = true then do
        let wo ← cE C n o
        return wUn fBits wo
      else none
    | .Call (.Attribute o m ap) [c] [] cp => if m = ("append" : Str) ∧ notCall o = true ∧ (ap.endLine == cp.line) = true ∧ plainE c = true then do
        let wo ← cE C n o
        let wa ← cE C n c
        return wAppend wo wa
      else if m = ("pop" : Str) ∧ notCall o = true ∧ (ap.endLine == cp.line) = true ∧ plainE c = true then do
        let wo ← cE C n o
        let wa ← cE C n c
        return wPopAt wo wa
      else if m = ("extend" : Str) ∧ notCall o = true ∧ (ap.endLine == cp.line) = true ∧ plainE c = true then do
        let wo ← cE C n o
        let wa ← cE C n c
        return wExtend wo wa
      else none
    | .ListComp elt [⟨tg, iter, ifs, 0⟩] scope _ => if notSet iter = true ∧ blkC C.N C.sc scope (ownOf C scope) = true then do
        let (wa, z) ← cI C n tg iter
        let (wg, T) ← cG (blkCxt C scope) n tg
        let wt ← cTs (blkCxt C scope) n ifs
        let we ← cE (blkCxt C scope) n elt
        if T.all (fun i => ((ownOf C scope).map (·.2)).contains i) then some (wLc wa z ((ownOf C scope).map (·.2)) wg wt we) else none
      else none
    | _ => none
def cO (C : Cxt) : Nat → Option Expr → Option WO
  | 0, _ => none
  | n + 1, e => match e with
    | none => some wONone
    | some e => do
      let w ← cE C n e
      return wOSome w
def cA (C : Cxt) : Nat → List Expr → Option WA
  | 0, _ => none
  | n + 1, es => match es with
    | [] => some wNil
    | e :: es => if plainE e = true then do
        let w ← cE C n e
        let u ← cA C n es
        return wCons w u
      else none
def cAndV (C : Cxt) : Nat → List Expr → Option WE
  | 0, _ => none
  | n + 1, es => match es with
    | [] => none
    | [e] => cE C n e
    | e :: es => do
      let w ← cE C n e
      let u ← cAndV C n es
      return wAndV w u
def cOrV (C : Cxt) : Nat → List Expr → Option WE
  | 0, _ => none
  | n + 1, es => match es with
    | [] => none
    | [e] => cE C n e
    | e :: es => do
      let w ← cE C n e
      let u ← cOrV C n es
      return wOrV w u
def cT (C : Cxt) : Nat → Expr → Option WT
  | 0, _ => none
  | n + 1, e => match e with
    | .Compare a [op] [b] _ => if behindInMarks op b = true then none else do
      let f ← cmpF op
      let wa ← cE C n a
      let wb ← cE C n b
      return wTst (wOp f wa wb)
    | .Compare a [op, op2] [b, c] _ => if lastMarks [op, op2] [b, c] = true then none else do
      let f ← cmpF op
      let f2 ← cmpF op2
      let wa ← cE C n a
      let wb ← cE C n b
      let wc ← cE C n c
      return wTst (wChainE f f2 wa wb wc)
    | .UnaryOp .Not a _ => do
      let w ← cT C n a
      return wNot w
    | .BoolOp .And es _ => cAnd C n es
    | .BoolOp .Or es _ => cOr C n es
    | e => if truE e = true then do
        let w ← cE C n e
        return wTru w
      else none
def cAnd (C : Cxt) : Nat → List Expr → Option WT
  | 0, _ => none
  | n + 1, es => match es with
    | [] => none
    | [e] => cT C n e
    | e :: es => do
      let w ← cT C n e
      let u ← cAnd C n es
      return wAnd w u
def cOr (C : Cxt) : Nat → List Expr → Option WT
  | 0, _ => none
  | n + 1, es => match es with
    | [] => none
    | [e] => cT C n e
    | e :: es => do
      let w ← cT C n e
      let u ← cOr C n es
      return wOr w u
def cTs (C : Cxt) : Nat → List Expr → Option WT
  | 0, _ => none
  | n + 1, es => match es with
    | [] => some wYes
    | [e] => cT C n e
    | _ => none
def cI (C : Cxt) : Nat → Expr → Expr → Option (WA × ZF)
  | 0, _, _ => none
  | n + 1, tg, e => match e with
    | .Call (.Name x _) [a] [] _ => if x = ("range" : Str) then (if glB C.sc x = true ∧ x ∈ C.bl ∧ plainE a = true then do
          let w ← cA C n [a]
          return (w, zRng1)
        else none)
      else if x = ("enumerate" : Str) then (if glB C.sc x = true ∧ x ∈ C.bl ∧ plainE a = true ∧ isTup tg = true then do
          let w ← cA C n [a]
          return (w, zEnum)
        else none)
      else do
        let w ← cE C n e
        return (w1 w, zSeq)
    | .Call (.Name x _) [a, b] [] _ => if x = ("range" : Str) then (if glB C.sc x = true ∧ x ∈ C.bl ∧ plainE a = true ∧ plainE b = true then do
          let w ← cA C n [a, b]
          return (w, zRng2)
        else none)
      else if x = ("zip" : Str) then (if glB C.sc x = true ∧ x ∈ C.bl ∧ plainE a = true ∧ plainE b = true ∧ isTup tg = true then do
          let w ← cA C n [a, b]
          return (w, zZip)
        else none)
      else do
        let w ← cE C n e
        return (w1 w, zSeq)
    | .Call (.Name x _) [a, b, c] [] _ => if x = ("range" : Str) then (if glB C.sc x = true ∧ x ∈ C.bl ∧ plainE a = true ∧ [b, c].all plainE = true then do
          let w ← cA C n [a, b, c]
          return (w, zRng3)
        else none)
      else if x = ("zip" : Str) then (if glB C.sc x = true ∧ x ∈ C.bl ∧ plainE a = true ∧ [b, c].all plainE = true ∧ isTup tg = true then do
          let w ← cA C n [a, b, c]
          return (w, zZip3)
        else none)
      else do
        let w ← cE C n e
        return (w1 w, zSeq)
    | e => do
      let w ← cE C n e
      return (w1 w, zSeq)
def cG (C : Cxt) : Nat → Expr → Option (WG × List Nat)
  | 0, _ => none
  | n + 1, e => match e with
    | .Name x _ => (tgOf? C x).map fun i => (gN i, [i])
    | .Tuple es _ _ => if es.all plainE = true then do
        let (u, T) ← cGs C n es
        return (gTu u es.length, T)
      else none
    | .Subscript o i _ => if notSlice i = true then do
        let wo ← cE C n o
        let wi ← cE C n i
        return (gIx wo wi, [])
      else none
    | _ => none
def cGs (C : Cxt) : Nat → List Expr → Option (WGs × List Nat)
  | 0, _ => none
  | n + 1, es => match es with
    | [] => some (gNi, [])
    | e :: es => do
      let (w, T) ← cG C n e
      let (u, U) ← cGs C n es
      return (gCo w u, T ++ U)
end
end LV
namespace LV
open PySem PySem.Spec PyProof.Rows L2

/-! ### calls -/
section
variable {X : Cx} {C : Cxt} {k : Nat} {pos : Pos}
/-- .. and how many -/
def LAn (n : Nat) (t : TA) (w : WA) : Prop := ∀ (g : Bag) (N : Addr → Prop) (H0 : Hp) (s : Sg) (σ : L2.St) (P : List En) (H : Hp) (Qw : List RV → Sg → Prop) (Q : List V → Hp → Prop), s.length = σ.length → SR g N H0 (s.zip σ ++ P) H → w s Qw →
  (∀ rs s' vs H', s'.length = σ.length → SR g N H0 (s'.zip σ ++ (pend rs vs ++ P)) H' → RVals σ rs vs → vs.length = n → Qw rs s' → Q vs H') → t σ H Q
theorem LAn.to {n : Nat} {t : TA} {w : WA} (h : LAn n t w) : LAt t w := fun g N H0 s σ P H Qw Q hl S hw k => h g N H0 s σ P H Qw Q hl S hw fun rs s' vs H' a b c _ d => k rs s' vs H' a b c d
structure LAs (X : Cx) (es : List Expr) (w : WA) : Prop where
  ex : ∃ t, PA X es t ∧ LAn es.length t w
theorem LAs.to {es : List Expr} {w : WA} (h : LAs X es w) : LA X es w := let ⟨t, p, l⟩ := h.ex; ⟨⟨t, p, l.to⟩⟩
structure LK' (X : Cx) (kws : List Keyword) (w : WA) : Prop where
  ex : ∃ t, PK X kws t ∧ LAn kws.length t w
theorem lan_nil : LAn 0 tNil wNil := fun g N H0 s σ P H Qw Q hl S h k => k [] s [] H hl S .nil rfl h
theorem lk_nil : LK' X [] wNil := ⟨⟨_, pk_nil, lan_nil⟩⟩
theorem las_nil : LAs X [] wNil := ⟨⟨_, pa_nil, lan_nil⟩⟩
theorem lan_cons {n : Nat} {ta : TE} {tr : TA} {wa : WE} {wr : WA} (la : LEt ta wa) (lr : LAn n tr wr) : LAn (n + 1) (tCons ta tr) (wCons wa wr) := fun g N H0 s σ P H Qw Q hl S h k => by
  refine la g N H0 s σ P H _ _ hl S h fun r s1 v H1 hl1 S1 rv h1 => ?_
  refine lr g N H0 s1 σ ((r.sl, some v) :: P) H1 _ _ hl1 S1 h1 fun rs s2 vs H2 hl2 S2 rvs hn h2 => ?_
  refine k (r :: rs) s2 (v :: vs) H2 hl2 (S2.perm ?_) (.cons rv rvs) (by simp [hn]) h2
  exact List.Perm.append_left _ (List.perm_middle)
theorem lk_cons {e : Expr} {kws : List Keyword} {nm : Option Str} {kpos : Pos} {wa : WE} {wr : WA} (ha : LE X e wa) (hr : LK' X kws wr) : LK' X (⟨nm, e, kpos⟩ :: kws) (wCons wa wr) := by
  obtain ⟨ta, pa, la⟩ := ha.ex
  obtain ⟨tr, pr, lr⟩ := hr.ex
  exact ⟨⟨_, pk_cons pa pr, lan_cons la lr⟩⟩
theorem las_cons {e : Expr} {es : List Expr} {wa : WE} {wr : WA} (ha : LE X e wa) (hr : LAs X es wr) (hs : plainE e = true) : LAs X (e :: es) (wCons wa wr) := by
  obtain ⟨ta, pa, la⟩ := ha.ex
  obtain ⟨tr, pr, lr⟩ := hr.ex
  exact ⟨⟨_, pa_cons pa pr (star_cons hs), lan_cons la lr⟩⟩
theorem pend_app : ∀ {rs rs' : List RV} {vs vs' : List V}, rs.length = vs.length → pend (rs ++ rs') (vs ++ vs') = pend rs vs ++ pend rs' vs'
  | [], _, [], _, _ => rfl
  | r :: rs, rs', v :: vs, vs', h => by simp [pend, pend_app (rs := rs) (vs := vs) (by simpa using h)]
  | [], _, _ :: _, _, h => by simp at h
  | _ :: _, _, [], _, h => by simp at h
theorem RVals.app {σ : L2.St} : ∀ {rs rs' : List RV} {vs vs' : List V}, RVals σ rs vs → RVals σ rs' vs' → RVals σ (rs ++ rs') (vs ++ vs')
  | _, _, _, _, .nil, h => h
  | _, _, _, _, .cons a b, h => .cons a (RVals.app b h)
theorem le_call0 {x : Str} {p : Pos} {ps : List Str} {F : VS} (cf : CF X C k) (hf : FnF X C k x ps F) (hn : okName x = true) (hg : glB C.sc x = true) : LE X (.Call (.Name x p) [] [] pos) (wCall F wNil) := by
  obtain ⟨f, fd, ok, mg, kp, bd, _⟩ := hf.ex
  have hn := okName_of hn
  exact ⟨⟨_, pe_callG0 ok cf.gd cf.room (glB_of cf hg) mg kp bd pass0 hn.1, let_call fun g N H0 s σ P H Qw Q hl S h kk => kk [] s [] H hl S .nil h⟩⟩
theorem le_call {x : Str} {p : Pos} {e : Expr} {es : List Expr} {ps : List Str} {F : VS} {wa : WA} (cf : CF X C k) (hf : FnF X C k x ps F) (hn : okName x = true) (hg : glB C.sc x = true) (ha : LA X (e :: es) wa) (hp : (e :: es).all plainE = true) : LE X (.Call (.Name x p) (e :: es) [] pos) (wCall F wa) := by
  obtain ⟨f, fd, ok, mg, kp, bd, _⟩ := hf.ex
  obtain ⟨t, pa, l⟩ := ha.ex
  have hn := okName_of hn
  have hp' := Bool.and_eq_true_iff.mp hp
  exact ⟨⟨_, pe_callG ok cf.gd cf.room (glB_of cf hg) mg kp bd pass0 pa hn.1 (star_cons hp'.1) (star_plain hp'.2).1, let_call l⟩⟩
/-! keywords -/
def gK {α : Type} (n m : Nat) (ix : List Nat) (us ws : List α) : List α := if us.length = n ∧ ws.length = m then us ++ ix.filterMap fun j => ws[j]? else []
theorem vals_pick {zs : List V} {ws : List Value} (r : Vals zs ws) : ∀ ix : List Nat, Vals (ix.filterMap fun j => zs[j]?) (ix.filterMap fun j => ws[j]?)
  | [] => .nil
  | j :: ix => by
    have ih := vals_pick r ix
    simp only [List.filterMap_cons]
    cases e : zs[j]? with
    | none => rw [r.none_of e]; exact ih
    | some z =>
      obtain ⟨u, h1, h2⟩ := r.get e
      rw [h1]
      exact .cons h2 ih
theorem kbinds {K : PySem.W.Frag} {fd : FuncData} {ps ks : List Str} {n : Nat} (h : KwOk fd ps n ks) (hp : 0 < ps.length) : KBinds K fd ps ks (gK n ks.length (kIx ps n ks)) (gK n ks.length (kIx ps n ks)) where
  to := fun s us ws _ hl => by
    unfold gK at hl ⊢
    split at hl
    · rw [if_pos (by assumption)]
      exact .of_eq (h us ws (by rename_i q; exact q.1) (by rename_i q; exact q.2))
    · simp at hl; omega
  rel := fun {vs us zs ws} r rz => by
    unfold gK
    rw [r.length, rz.length]
    split
    · exact r.append (vals_pick rz _)
    · exact .nil
theorem kw_all {kws : List Keyword} {env : Env} (h : (kws.filterMap (·.arg)).length = kws.length) : (backToKw pos (keywordEach kws env)).all (·.1.isSome) = true ∧ (backToKw pos (keywordEach kws env)).filterMap (·.1) = kws.filterMap (·.arg) ∧ (backToKw pos (keywordEach kws env)).any (·.1.isNone) = false := by
  induction kws with
  | nil => exact ⟨rfl, rfl, rfl⟩
  | cons q kws ih =>
    obtain ⟨a, v, p⟩ := q
    cases a with
    | none =>
      have := List.length_filterMap_le (fun x : Keyword => x.arg) kws
      simp at h; omega
    | some a =>
      have h' : (kws.filterMap (·.arg)).length = kws.length := by simpa using h
      obtain ⟨i1, i2, i3⟩ := ih h'
      obtain ⟨z, e⟩ : ∃ z, backToKw pos (keywordEach (⟨some a, v, p⟩ :: kws) env) = (some a, z) :: backToKw pos (keywordEach kws env) := ⟨_, rfl⟩
      rw [e]
      simp only [List.all_cons, List.filterMap_cons, List.any_cons, i1, i2, i3]
      simp
theorem reps_pick {bv H N} {ds : List D} {vs : List V} (r : Reps bv H N ds vs) : ∀ ix : List Nat, Reps bv H N (ix.filterMap fun j => ds[j]?) (ix.filterMap fun j => vs[j]?)
  | [] => .nil
  | j :: ix => by
    have ih := reps_pick r ix
    simp only [List.filterMap_cons]
    cases e : ds[j]? with
    | none =>
      have : vs[j]? = none := by
        have := r.length
        rw [List.getElem?_eq_none_iff] at e ⊢; omega
      rw [this]; exact ih
    | some z =>
      obtain ⟨u, h1, h2⟩ := r.get e
      rw [h1]
      exact .cons h2 ih
theorem let_callK {F : VS} {wa wk : WA} {t tk : TA} {E : XK} {n m : Nat} {ix : List Nat} (l : LAn n t wa) (lk : LAn m tk wk) :
    LEt (tCallK (lift F) (gK n m ix) E t tk) (wCallK F n ix (wApp wa wk)) := fun g N H0 s σ P H Qw Q hl S h k => by
  refine l g N H0 s σ P H _ _ hl S h fun rs s1 vs H1 hl1 S1 rv hv h1 => ?_
  refine lk g N H0 s1 σ _ H1 _ _ hl1 S1 h1 fun zs s2 ws H2 hl2 S2 rz hw h2 => ?_
  have S3 : SR g N H0 (s2.zip σ ++ ([] ++ (pend (rs ++ zs) (vs ++ ws) ++ P))) H2 := by
    rw [pend_app rv.length]
    simp only [List.nil_append, List.append_assoc]
    exact S2.perm (List.Perm.append_left _ (List.perm_append_comm_assoc _ _ _))
  obtain ⟨ds, s3, h3, hl3, hd, S4⟩ := SR.fzs (A := []) hl2 S3 (rv.app rz) h2
  have r := S4.reps hd (fun p hp => by simp [hp])
  have ev : gK n m ix vs ws = (vs ++ ws).take n ++ ix.filterMap fun j => ((vs ++ ws).drop n)[j]? := by
    unfold gK
    rw [if_pos ⟨hv, hw⟩, ← hv, List.take_left, List.drop_left]
  refine ⟨g, _, _, _, ?_, S4.hg, fun a b => .inl (S4.bn a b), fun a h => S4.tracked h, h3, fun r v H' h4 hs hg hr => ?_⟩
  · rw [ev]
    exact (r.take n).append (reps_pick (r.drop n) ix)
  · obtain ⟨S5, ha⟩ := S4.res hg hs hr
    exact k r s3 v H' hl3 (S5.mid (List.sublist_append_right (pendD ds (vs ++ ws)) P)) (RVal.ok ha) h4
theorem le_callK {x : Str} {p : Pos} {es : List Expr} {kws : List Keyword} {ps : List Str} {F : VS} {wa wk : WA} (cf : CF X C k) (hf : FnF X C k x ps F) (hn : okName x = true) (hg : glB C.sc x = true) (ha : LAs X es wa) (hp : es.all plainE = true) (hk : LK' X kws wk)
    (h0 : 0 < kws.length) (h1 : (kws.filterMap (·.arg)).length = kws.length) (h2 : es.length + kws.length = ps.length) (h3 : (x, es.length, kws.filterMap (·.arg)) ∈ C.kws) (hnil : es = [] → wa = wNil) :
    LE X (.Call (.Name x p) es kws pos) (wCallK F es.length (kIx ps es.length (kws.filterMap (·.arg))) (wApp wa wk)) := by
  obtain ⟨f, fd, ok, mg, kp, bd, hkw⟩ := hf.ex
  obtain ⟨t, pa, l⟩ := ha.ex
  obtain ⟨tk, pk, l2⟩ := hk.ex
  have hn := okName_of hn
  have kb := kbinds (K := X.K) (hkw _ h3 rfl) (by omega)
  obtain ⟨k1, k2, k3⟩ := kw_all (pos := pos) (env := X.env) h1
  rw [h1] at kb
  cases es with
  | nil =>
    have lnil : LAn 0 tNil wa := by rw [hnil rfl]; exact lan_nil
    exact ⟨⟨_, pe_callKG0 ok cf.gd cf.room (glB_of cf hg) mg kp kb pass0 pk k1 k2 k3 hn.1, let_callK lnil l2⟩⟩
  | cons e es =>
    have hp' := Bool.and_eq_true_iff.mp hp
    refine ⟨⟨_, pe_callKG ok cf.gd cf.room (glB_of cf hg) mg kp kb pass0 pa pk k1 k2 hn.1 (star_cons hp'.1) ?_, let_callK l l2⟩⟩
    rw [(star_plain hp).1, k3]; rfl
end

/-! ### the meaning is the model's -/
structure Snd (n : Nat) : Prop where
  e : ∀ {X : Cx} {C : Cxt} {k : Nat}, CF X C k → ∀ {e w}, cE C n e = some w → LE X e w
  o : ∀ {X : Cx} {C : Cxt} {k : Nat}, CF X C k → ∀ {e w}, cO C n e = some w → LO X e w
  a : ∀ {X : Cx} {C : Cxt} {k : Nat}, CF X C k → ∀ {es w}, cA C n es = some w → LAs X es w ∧ es.all plainE = true ∧ (es = [] → w = wNil)
  kw : ∀ {X : Cx} {C : Cxt} {k : Nat}, CF X C k → ∀ {kws : List Keyword} {w}, cA C n (kws.map (·.value)) = some w → LK' X kws w
  andV : ∀ {X : Cx} {C : Cxt} {k : Nat}, CF X C k → ∀ {es w}, cAndV C n es = some w → ∀ pos, LE X (.BoolOp .And es pos) w
  orV : ∀ {X : Cx} {C : Cxt} {k : Nat}, CF X C k → ∀ {es w}, cOrV C n es = some w → ∀ pos, LE X (.BoolOp .Or es pos) w
  t : ∀ {X : Cx} {C : Cxt} {k : Nat}, CF X C k → ∀ {e w}, cT C n e = some w → LT X e w
  and : ∀ {X : Cx} {C : Cxt} {k : Nat}, CF X C k → ∀ {es w}, cAnd C n es = some w → ∀ pos, LW X (.BoolOp .And es pos) w
  or : ∀ {X : Cx} {C : Cxt} {k : Nat}, CF X C k → ∀ {es w}, cOr C n es = some w → ∀ pos, LW X (.BoolOp .Or es pos) w
  ts : ∀ {X : Cx} {C : Cxt} {k : Nat}, CF X C k → ∀ {es w}, cTs C n es = some w → LTs X es w
  i : ∀ {X : Cx} {C : Cxt} {k : Nat}, CF X C k → ∀ {tg e w z}, cI C n tg e = some (w, z) → LI X tg e w z
  g : ∀ {X : Cx} {C : Cxt} {k : Nat}, CF X C k → ∀ {e w T}, cG C n e = some (w, T) → LG X e w T
  gs : ∀ {X : Cx} {C : Cxt} {k : Nat}, CF X C k → ∀ {es w T}, cGs C n es = some (w, T) → es.all plainE = true → LGs X es w T
theorem snd0 : Snd 0 where
  e := fun _ _ _ h => by cases h
  o := fun _ _ _ h => by cases h
  a := fun _ _ _ h => by cases h
  kw := fun _ _ _ h => by cases h
  andV := fun _ _ _ h => by cases h
  orV := fun _ _ _ h => by cases h
  t := fun _ _ _ h => by cases h
  and := fun _ _ _ h => by cases h
  or := fun _ _ _ h => by cases h
  ts := fun _ _ _ h => by cases h
  i := fun _ _ _ _ _ h => by cases h
  g := fun _ _ _ _ h => by cases h
  gs := fun _ _ _ _ h => by cases h
theorem bindS {α β : Type} {x : Option α} {f : α → Option β} {y : β} (h : (x >>= f) = some y) : ∃ a, x = some a ∧ f a = some y := by
  cases x with
  | none => cases h
  | some a => exact ⟨a, rfl, h⟩
theorem CF.blk {X : Cx} {C : Cxt} {k : Nat} (F : CF X C k) {scope : Scope} (hk : scope.kind = .function) (s : Shared) (H : Hp) (D : Addr) (cl : List (Str × Addr)) (fp : List Addr) : CF (X.blk s H scope (compEnvC scope cl D X.env) fp) (blkCxt C scope) k where
  hN := F.hN
  nd := F.nd
  sc := by show relS scope X.env.scope = relS scope C.sc; rw [F.sc]
  fn := rfl
  calm := F.calm
  room := F.room
  gd := F.gd
  K := F.K
  bk := by
    show (if (relS scope X.env.scope).kind.isAnnotationScope then ScopeKind.function else (relS scope X.env.scope).kind) = ScopeKind.function
    have : (relS scope X.env.scope).kind = scope.kind := rfl
    rw [this, hk]; rfl
  bl := F.bl
  md := F.md
  gc := F.gc
  fns := fun p hp => by
    obtain ⟨f, fd, h⟩ := (F.fns p hp).ex
    exact ⟨f, fd, h⟩
theorem snd_call {X : Cx} {C : Cxt} {k : Nat} {x : Str} {p pos : Pos} {es : List Expr} {wa : WA} {w : WE} (F : CF X C k) (hn : okName x = true) (hg : glB C.sc x = true) (ha : LAs X es wa) (hp : es.all plainE = true) (hnil : es = [] → wa = wNil) (h : cCall C x es wa = some w) : LE X (.Call (.Name x p) es [] pos) w := by
  unfold cCall at h
  have hok := okName_of hn
  split at h
  · rename_i x' ps Fv he
    split at h
    · cases h
      have hm := List.mem_of_find?_eq_some he
      have hx : x' = x := by simpa using List.find?_some he
      have hf := F.fns _ hm
      subst hx
      cases es with
      | nil => rw [hnil rfl]; exact le_call0 F hf hn hg
      | cons e es => exact le_call F hf hn hg ha.to hp
    · cases h
  · cases es with
    | nil => cases h
    | cons e es =>
      simp only at h
      have hp' := Bool.and_eq_true_iff.mp hp
      split at h
      · rename_i hb
        obtain ⟨f, hf, rfl⟩ := Option.map_eq_some_iff.mp h
        obtain ⟨r, hc, ⟨id, h1, h2⟩ | ⟨T, h1, h2⟩⟩ := bltF_of (X := X) F.calm F.gd F.room hf
        · exact le_callB h1 hc (glB_of F hg) (F.bl x hb) h2 ha.to hok.2.2 hok.1 (star_cons hp'.1) (star_plain hp'.2).1
        · exact le_callTy h1 hc (glB_of F hg) (F.bl x hb) h2 ha.to hok.2.2 hok.1 (star_cons hp'.1) (star_plain hp'.2).1
      · split at h
        · rename_i x' id he
          obtain ⟨f, hf, rfl⟩ := Option.map_eq_some_iff.mp h
          have hm := List.mem_of_find?_eq_some he
          have hx : x' = x := by simpa using List.find?_some he
          subst hx
          obtain ⟨r, hc, h1⟩ := mdF_of (X := X) hf
          exact le_callM h1 hc (glB_of F hg) (F.md _ hm) ha.to hok.1 (star_cons hp'.1) (star_plain hp'.2).1
        · cases h
theorem snd_callK {X : Cx} {C : Cxt} {k : Nat} {x : Str} {p pos : Pos} {es : List Expr} {kws : List Keyword} {wa wk : WA} {w : WE} (F : CF X C k) (hn : okName x = true) (hg : glB C.sc x = true) (ha : LAs X es wa) (hp : es.all plainE = true) (hnil : es = [] → wa = wNil) (hk : LK' X kws wk)
    (h : cCallK C x es kws wa wk = some w) : LE X (.Call (.Name x p) es kws pos) w := by
  unfold cCallK at h
  split at h
  · rename_i x' ps Fv he
    split at h
    · rename_i hh
      cases h
      have hm := List.mem_of_find?_eq_some he
      have hx : x' = x := by simpa using List.find?_some he
      have hf := F.fns _ hm
      subst hx
      exact le_callK F hf hn hg ha hp hk hh.1 hh.2.1 hh.2.2.1 hh.2.2.2 hnil
    · cases h
  · cases h
theorem tup_of {e : Expr} (h : isTup e = true) : ∃ es k p, e = .Tuple es k p := by
  cases e with
  | Tuple a b c => exact ⟨_, _, _, rfl⟩
  | _ => cases h
theorem all1 {X : Cx} {a : Expr} (h : plainE a = true) : starEach [a] X.env = [(false, eval a X.env)] := star_cons h
theorem pg_ixs {X : Cx} {o i : Expr} {pos : Pos} {to ti : TE} (ho : PE X o to) (hi : PE X i ti) (hs : notSlice i = true) : PG X (.Subscript o i pos) (gSub to ti rSetL) :=
  pg_sub ho hi set_list fun v => by cases i <;> first | rfl | cases hs
theorem snd_rev {X : Cx} {a st : Expr} {wa : WE} {p pos : Pos} (ha : LE X a wa) (h : isM1 st = true) : LE X (.Subscript a (.Slice none none (some st) p) pos) (wRev wa) := by
  unfold isM1 at h
  split at h
  · rename_i i _ _ _
    have : i = 1 := by simpa using h
    subst this
    exact le_rev ha
  · cases h
theorem snd_isi {X : Cx} {C : Cxt} {k : Nat} {x : Str} {p pos : Pos} {es : List Expr} {a : Expr} {T : TN} {wa : WE} (F : CF X C k) (hg : glB C.sc x = true) (h : isiArgs C x es = some (a, T)) (ha : LE X a wa) : LE X (.Call (.Name x p) es [] pos) (wIsi T wa) := by
  unfold isiArgs at h
  split at h
  · split at h
    · rename_i hh
      obtain ⟨T', hT, e⟩ := Option.map_eq_some_iff.mp h
      cases e
      obtain ⟨rfl, h1, h2, h3, h4⟩ := hh
      exact le_isi (glB_of F hg) (F.bl _ h1) hT (glB_of F h3) (F.bl _ h2) h4 ha
    · cases h
  · cases h
theorem snd_lz {X : Cx} {C : Cxt} {k : Nat} {x : Str} {p pos : Pos} {es zs : List Expr} {f : FN} {wa : WA} (F : CF X C k) (hg : glB C.sc x = true) (h : lzArgs C x es = some (zs, f)) (ha : LA X zs wa) : LE X (.Call (.Name x p) es [] pos) (wCB f wa) := by
  unfold lzArgs at h
  split at h
  · split at h
    · rename_i hh
      cases h
      obtain ⟨rfl, rfl, h1, h2, h3, h4⟩ := hh
      exact le_le F.calm (glB_of F hg) (F.bl _ h1) (glB_of F h3) (F.bl _ h2) ha h4
    · split at h
      · rename_i hh
        cases h
        obtain ⟨rfl, rfl, h1, h2, h3, h4⟩ := hh
        exact le_lrv F.calm (glB_of F hg) (F.bl _ h1) (glB_of F h3) (F.bl _ h2) ha h4
      · cases h
  · split at h
    · rename_i hh
      cases h
      obtain ⟨rfl, rfl, h1, h2, h3, h4, h5⟩ := hh
      exact le_lz F.calm (glB_of F hg) (F.bl _ h1) (glB_of F h3) (F.bl _ h2) ha h4 h5
    · cases h
  · cases h
theorem snd_name {X : Cx} {C : Cxt} {k : Nat} {x : Str} {pos : Pos} {w : WE} (F : CF X C k) (h : cName C x = some w) : LE X (.Name x pos) w := by
  unfold cName at h
  split at h
  · rename_i i hi
    cases h
    obtain ⟨h1, h2, h3, h4⟩ := slotOf_of F hi
    exact le_v (pe_var h1 h2 h3 h4)
  · split at h
    · rename_i hh
      obtain ⟨p, hp, rfl⟩ := Option.map_eq_some_iff.mp h
      have hm := List.mem_of_find?_eq_some hp
      have hx : p.1 = x := by simpa using List.find?_some hp
      subst hx
      exact le_gc (glB_of F hh.2) (F.gc p hm) (okName_of hh.1).1
    · cases h
theorem snd_rg1 {X : Cx} {C : Cxt} {k : Nat} {x : Str} {p pos : Pos} {es : List Expr} {a : Expr} {wa : WE} (F : CF X C k) (hg : glB C.sc x = true) (h : rgArgs C x es = some (a, none)) (ha : LE X a wa) : LE X (.Call (.Name x p) es [] pos) (wCB fRngL1 (wCons wa wNil)) := by
  unfold rgArgs at h
  split at h
  · split at h
    · rename_i hh
      cases h
      obtain ⟨rfl, rfl, h1, h2, h3, h4⟩ := hh
      exact le_rngL1 F.calm (glB_of F hg) (F.bl _ h1) (glB_of F h3) (F.bl _ h2) ha h4
    · cases h
  · split at h <;> cases h
  · cases h
theorem snd_rg2 {X : Cx} {C : Cxt} {k : Nat} {x : Str} {p pos : Pos} {es : List Expr} {a b : Expr} {wa wb : WE} (F : CF X C k) (hg : glB C.sc x = true) (h : rgArgs C x es = some (a, some b)) (ha : LE X a wa) (hb : LE X b wb) : LE X (.Call (.Name x p) es [] pos) (wCB fRngL2 (wCons wa (wCons wb wNil))) := by
  unfold rgArgs at h
  split at h
  · split at h <;> cases h
  · split at h
    · rename_i hh
      cases h
      obtain ⟨rfl, rfl, h1, h2, h3, h4, h5⟩ := hh
      exact le_rngL2 F.calm (glB_of F hg) (F.bl _ h1) (glB_of F h3) (F.bl _ h2) ha hb h4 h5
    · cases h
  · cases h
theorem snd_succ {n : Nat} (I : Snd n) : Snd (n + 1) where
  e := fun {X C k} F {e w} h => by
    simp only [cE] at h
    split at h
    · exact snd_name F h
    · obtain ⟨d, hd, rfl⟩ := Option.map_eq_some_iff.mp h
      obtain ⟨v, h1, h2⟩ := constD_of hd
      exact le_c h1 h2
    · obtain ⟨f, hf, h⟩ := bindS h
      obtain ⟨wa, ha, h⟩ := bindS h
      obtain ⟨wb, hb, h⟩ := bindS h
      cases h
      obtain ⟨r, h1, h2⟩ := binF_of (X := X) hf
      exact le_op h1 h2 (I.e F ha) (I.e F hb)
    · obtain ⟨wa, ha, h⟩ := bindS h
      cases h
      exact le_un un_neg unS_neg (I.e F ha)
    · obtain ⟨wa, ha, h⟩ := bindS h
      cases h
      exact le_not (I.e F ha)
    · split at h
      · cases h
      · obtain ⟨f, hf, h⟩ := bindS h
        obtain ⟨wa, ha, h⟩ := bindS h
        obtain ⟨wb, hb, h⟩ := bindS h
        cases h
        obtain ⟨r, h1, h2⟩ := cmpF_of (X := X) F.room hf
        exact le_cmp h1 h2 (I.e F ha) (I.e F hb) (Bool.eq_false_iff.mpr (by assumption))
    · split at h
      · cases h
      · obtain ⟨f, hf, h⟩ := bindS h
        obtain ⟨f2, hf2, h⟩ := bindS h
        obtain ⟨wa, ha, h⟩ := bindS h
        obtain ⟨wb, hb, h⟩ := bindS h
        obtain ⟨wc, hc, h⟩ := bindS h
        cases h
        obtain ⟨r, h1, h2⟩ := cmpF_of (X := X) F.room hf
        obtain ⟨r2, h3, h4⟩ := cmpF_of (X := X) F.room hf2
        exact le_chain h1 h3 h2 h4 (I.e F ha) (I.e F hb) (I.e F hc) (Bool.eq_false_iff.mpr (by assumption))
    · exact I.andV F h _
    · exact I.orV F h _
    · obtain ⟨wt, ht, h⟩ := bindS h
      obtain ⟨wa, ha, h⟩ := bindS h
      obtain ⟨wb, hb, h⟩ := bindS h
      cases h
      exact le_if (I.t F ht) (I.e F ha) (I.e F hb)
    · obtain ⟨wa, ha, h⟩ := bindS h
      obtain ⟨wl, hl, h⟩ := bindS h
      obtain ⟨wh, hh, h⟩ := bindS h
      cases h
      rw [← F.K]
      exact le_sl (I.e F ha) (I.o F hl) (I.o F hh)
    · split at h
      · obtain ⟨wa, ha, h⟩ := bindS h
        cases h
        exact snd_rev (I.e F ha) (by assumption)
      · obtain ⟨wa, ha, h⟩ := bindS h
        obtain ⟨ws, hs, h⟩ := bindS h
        cases h
        exact le_st (I.e F ha) lo_none lo_none (I.o F hs)
    · obtain ⟨wa, ha, h⟩ := bindS h
      obtain ⟨wl, hl, h⟩ := bindS h
      obtain ⟨wh, hh, h⟩ := bindS h
      obtain ⟨ws, hs, h⟩ := bindS h
      cases h
      exact le_st (I.e F ha) (I.o F hl) (I.o F hh) (I.o F hs)
    · split at h
      · obtain ⟨wa, ha, h⟩ := bindS h
        obtain ⟨wb, hb, h⟩ := bindS h
        cases h
        exact le_ix (I.e F ha) (I.e F hb) (plainIx (by assumption))
      · cases h
    · obtain ⟨wa, ha, h⟩ := bindS h
      cases h
      exact le_tup (I.a F ha).1.to
    · obtain ⟨wa, ha, h⟩ := bindS h
      cases h
      exact le_lst (I.a F ha).1.to
    · split at h
      · rename_i hh
        split at h
        · rename_i hi
          obtain ⟨wa, ha, h⟩ := bindS h
          cases h
          exact snd_isi F hh.2 hi (I.e F ha)
        · split at h
          · rename_i hi
            obtain ⟨wa, ha, h⟩ := bindS h
            cases h
            exact snd_lz F hh.2 hi (I.a F ha).1.to
          · split at h
            · rename_i hi
              obtain ⟨wa, ha, h⟩ := bindS h
              cases h
              exact snd_rg1 F hh.2 hi (I.e F ha)
            · rename_i hi
              obtain ⟨wa, ha, h⟩ := bindS h
              obtain ⟨wb, hb, h⟩ := bindS h
              cases h
              exact snd_rg2 F hh.2 hi (I.e F ha) (I.e F hb)
            · obtain ⟨wa, ha, h⟩ := bindS h
              obtain ⟨a1, a2, a3⟩ := I.a F ha
              exact snd_call F hh.1 hh.2 a1 a2 a3 h
      · cases h
    · split at h
      · rename_i hh
        obtain ⟨wa, ha, h⟩ := bindS h
        obtain ⟨wk, hk, h⟩ := bindS h
        obtain ⟨a1, a2, a3⟩ := I.a F ha
        exact snd_callK F hh.1 hh.2 a1 a2 a3 (I.kw F hk) h
      · cases h
    · split at h
      · rename_i hh
        obtain ⟨wo, ho, h⟩ := bindS h
        cases h
        obtain ⟨rfl, h2, h3⟩ := hh
        exact le_pop (I.e F ho) (attrbase h2) h3
      · split at h
        · rename_i hh
          obtain ⟨wo, ho, h⟩ := bindS h
          cases h
          obtain ⟨rfl, h2, h3⟩ := hh
          exact le_bits (I.e F ho) (attrbase' h2) h3
        · cases h
    · split at h
      · rename_i hh
        obtain ⟨wo, ho, h⟩ := bindS h
        obtain ⟨wa, ha, h⟩ := bindS h
        cases h
        obtain ⟨rfl, h2, h3, h4⟩ := hh
        refine le_append (I.e F ho) (I.e F ha) (attrbase h2) ?_ h3 (star_cons h4)
        rw [star_cons h4]; rfl
      · split at h
        · rename_i hh
          obtain ⟨wo, ho, h⟩ := bindS h
          obtain ⟨wa, ha, h⟩ := bindS h
          cases h
          obtain ⟨rfl, h2, h3, h4⟩ := hh
          refine le_popAt (I.e F ho) (I.e F ha) (attrbase h2) ?_ h3 (star_cons h4)
          rw [star_cons h4]; rfl
        · split at h
          · rename_i hh
            obtain ⟨wo, ho, h⟩ := bindS h
            obtain ⟨wa, ha, h⟩ := bindS h
            cases h
            obtain ⟨rfl, h2, h3, h4⟩ := hh
            refine le_extend (I.e F ho) (I.e F ha) (attrbase h2) ?_ h3 (star_cons h4)
            rw [star_cons h4]; rfl
          · cases h
    · split at h
      · rename_i hh
        obtain ⟨⟨wa, z⟩, hi, h⟩ := bindS h
        obtain ⟨⟨wg, T⟩, hg, h⟩ := bindS h
        obtain ⟨wt, ht, h⟩ := bindS h
        obtain ⟨we, he, h⟩ := bindS h
        simp only at h
        split at h
        · rename_i hT
          cases h
          have ok := blkOk_by hh.2
          have Fb := fun s H D cl fp => F.blk ok.kind s H D cl fp
          have okX := ok
          rw [← F.hN, ← F.sc] at okX
          exact le_lc F.calm (by rw [F.hN]; exact F.nd) (I.i F hi) okX ⟨_, LGt_tgOf _ _, fun s H D cl fp => (I.g (Fb s H D cl fp) hg).pg⟩ ⟨_, LTt_ttOf _, fun s H D cl fp => (I.ts (Fb s H D cl fp) ht).pts⟩
            ⟨_, LEt_tOf _, fun s H D cl fp => (I.e (Fb s H D cl fp) he).pe⟩ (fun i hi => by
              have := (List.all_eq_true.mp hT) i hi
              simpa using this) (foldset hh.1)
        · cases h
      · cases h
    · cases h
  o := fun {X C k} F {e w} h => by
    simp only [cO] at h
    split at h
    · cases h; exact lo_none
    · obtain ⟨wa, ha, h⟩ := bindS h
      cases h
      exact lo_some (I.e F ha)
  a := fun {X C k} F {es w} h => by
    simp only [cA] at h
    split at h
    · cases h; exact ⟨las_nil, rfl, fun _ => rfl⟩
    · split at h
      · obtain ⟨wa, ha, h⟩ := bindS h
        obtain ⟨wr, hr, h⟩ := bindS h
        cases h
        obtain ⟨a1, a2, a3⟩ := I.a F hr
        exact ⟨las_cons (I.e F ha) a1 (by assumption), by simp only [List.all_cons, a2, Bool.and_true]; assumption, fun e => nomatch e⟩
      · cases h
  kw := fun {X C k} F {kws w} h => by
    cases kws with
    | nil =>
      simp only [cA, List.map_nil] at h
      cases h; exact lk_nil
    | cons q kws =>
      obtain ⟨nm, v, p⟩ := q
      simp only [cA, List.map_cons] at h
      split at h
      · obtain ⟨wa, ha, h⟩ := bindS h
        obtain ⟨wr, hr, h⟩ := bindS h
        cases h
        exact lk_cons (I.e F ha) (I.kw F hr)
      · cases h
  andV := fun {X C k} F {es w} h pos => by
    simp only [cAndV] at h
    split at h
    · cases h
    · exact le_one (I.e F h)
    · rename_i e es hne
      obtain ⟨wa, ha, h⟩ := bindS h
      obtain ⟨wr, hr, h⟩ := bindS h
      cases h
      cases es with
      | nil => exact absurd rfl hne
      | cons b es => exact le_and (I.e F ha) (I.andV F hr pos)
  orV := fun {X C k} F {es w} h pos => by
    simp only [cOrV] at h
    split at h
    · cases h
    · exact le_one (I.e F h)
    · rename_i e es hne
      obtain ⟨wa, ha, h⟩ := bindS h
      obtain ⟨wr, hr, h⟩ := bindS h
      cases h
      cases es with
      | nil => exact absurd rfl hne
      | cons b es => exact le_or (I.e F ha) (I.orV F hr pos)
  t := fun {X C k} F {e w} h => by
    simp only [cT] at h
    split at h
    · split at h
      · cases h
      · obtain ⟨f, hf, h⟩ := bindS h
        obtain ⟨wa, ha, h⟩ := bindS h
        obtain ⟨wb, hb, h⟩ := bindS h
        cases h
        obtain ⟨r, h1, h2⟩ := cmpF_of (X := X) F.room hf
        exact lt_cmp h1 h2 (I.e F ha) (I.e F hb) (Bool.eq_false_iff.mpr (by assumption))
    · split at h
      · cases h
      · obtain ⟨f, hf, h⟩ := bindS h
        obtain ⟨f2, hf2, h⟩ := bindS h
        obtain ⟨wa, ha, h⟩ := bindS h
        obtain ⟨wb, hb, h⟩ := bindS h
        obtain ⟨wc, hc, h⟩ := bindS h
        cases h
        obtain ⟨r, h1, h2⟩ := cmpF_of (X := X) F.room hf
        obtain ⟨r2, h3, h4⟩ := cmpF_of (X := X) F.room hf2
        exact lt_chain h1 h3 h2 h4 (I.e F ha) (I.e F hb) (I.e F hc) (Bool.eq_false_iff.mpr (by assumption))
    · obtain ⟨wa, ha, h⟩ := bindS h
      cases h
      exact lt_not (I.t F ha)
    · exact (I.and F h _).lt
    · exact (I.or F h _).lt
    · split at h
      · obtain ⟨wa, ha, h⟩ := bindS h
        cases h
        exact lt_tru (I.e F ha) (tru_plain (by assumption))
      · cases h
  and := fun {X C k} F {es w} h pos => by
    simp only [cAnd] at h
    split at h
    · cases h
    · exact lw_and1 (I.t F h)
    · rename_i e es hne
      obtain ⟨wa, ha, h⟩ := bindS h
      obtain ⟨wr, hr, h⟩ := bindS h
      cases h
      cases es with
      | nil => exact absurd rfl hne
      | cons b es => exact lw_and (I.t F ha) (I.and F hr pos)
  or := fun {X C k} F {es w} h pos => by
    simp only [cOr] at h
    split at h
    · cases h
    · exact lw_or1 (I.t F h)
    · rename_i e es hne
      obtain ⟨wa, ha, h⟩ := bindS h
      obtain ⟨wr, hr, h⟩ := bindS h
      cases h
      cases es with
      | nil => exact absurd rfl hne
      | cons b es => exact lw_or (I.t F ha) (I.or F hr pos)
  ts := fun {X C k} F {es w} h => by
    simp only [cTs] at h
    split at h
    · cases h; exact lts_nil
    · exact lts_one (I.t F h)
    · cases h
  i := fun {X C k} F {tg e w z} h => by
    simp only [cI] at h
    split at h
    · rename_i x p a pos
      split at h
      · subst x
        split at h
        · rename_i hh
          obtain ⟨wa, ha, h⟩ := bindS h
          cases h
          exact li_rng1 (glB_of F hh.1) (F.bl _ hh.2.1) (I.a F ha).1.to (all1 hh.2.2)
        · cases h
      · split at h
        · subst x
          split at h
          · rename_i hh
            obtain ⟨wa, ha, h⟩ := bindS h
            cases h
            obtain ⟨es, kk, tp, rfl⟩ := tup_of hh.2.2.2
            exact li_enum (glB_of F hh.1) (F.bl _ hh.2.1) (I.a F ha).1.to (all1 hh.2.2.1)
          · cases h
        · obtain ⟨wa, ha, h⟩ := bindS h
          cases h
          exact li_seq (I.e F ha)
    · rename_i x p a b pos
      split at h
      · subst x
        split at h
        · rename_i hh
          obtain ⟨wa, ha, h⟩ := bindS h
          cases h
          exact li_rng2 (glB_of F hh.1) (F.bl _ hh.2.1) (I.a F ha).1.to (by rw [star_cons hh.2.2.1, all1 hh.2.2.2]) (all1 hh.2.2.2)
        · cases h
      · split at h
        · subst x
          split at h
          · rename_i hh
            obtain ⟨wa, ha, h⟩ := bindS h
            cases h
            obtain ⟨es, kk, tp, rfl⟩ := tup_of hh.2.2.2.2
            exact li_zip (glB_of F hh.1) (F.bl _ hh.2.1) (I.a F ha).1.to (star_cons hh.2.2.1) (by rw [all1 hh.2.2.2.1]; rfl)
          · cases h
        · obtain ⟨wa, ha, h⟩ := bindS h
          cases h
          exact li_seq (I.e F ha)
    · split at h
      · subst_vars
        split at h
        · rename_i hh
          obtain ⟨wa, ha, h⟩ := bindS h
          cases h
          exact li_rng3 (glB_of F hh.1) (F.bl _ hh.2.1) (I.a F ha).1.to hh.2.2.1 hh.2.2.2
        · cases h
      · split at h
        · subst_vars
          split at h
          · rename_i hh
            obtain ⟨wa, ha, h⟩ := bindS h
            cases h
            obtain ⟨es, kk, tp, rfl⟩ := tup_of hh.2.2.2.2
            exact li_zip3 (glB_of F hh.1) (F.bl _ hh.2.1) (I.a F ha).1.to (star_cons hh.2.2.1) (star_plain hh.2.2.2.1).1
          · cases h
        · obtain ⟨wa, ha, h⟩ := bindS h
          cases h
          exact li_seq (I.e F ha)
    · obtain ⟨wa, ha, h⟩ := bindS h
      cases h
      exact li_seq (I.e F ha)
  g := fun {X C k} F {e w T} h => by
    simp only [cG] at h
    split at h
    · obtain ⟨i, hi, he⟩ := Option.map_eq_some_iff.mp h
      cases he
      obtain ⟨h1, h2, h3, h4⟩ := tgOf_of F hi
      exact lg_n (pg_name h1 h2 h3 h4)
    · split at h
      · rename_i hp
        obtain ⟨⟨u, T⟩, hu, h⟩ := bindS h
        cases h
        have := asg_plain (env := X.env) hp
        exact lg_tu F.calm (I.gs F hu hp) this.1 this.2
      · cases h
    · split at h
      · obtain ⟨wo, ho, h⟩ := bindS h
        obtain ⟨wi, hi, h⟩ := bindS h
        cases h
        exact lg_ix (I.e F ho) (I.e F hi) fun p1 p2 => pg_ixs p1 p2 (by assumption)
      · cases h
    · cases h
  gs := fun {X C k} F {es w T} h hp => by
    simp only [cGs] at h
    split at h
    · cases h; exact lgs_nil
    · obtain ⟨⟨w1, T1⟩, h1, h⟩ := bindS h
      obtain ⟨⟨u, U⟩, hu, h⟩ := bindS h
      cases h
      have hp' := Bool.and_eq_true_iff.mp hp
      refine lgs_cons (I.g F h1) (I.gs F hu hp'.2) ?_
      rw [asg_cons hp'.1]; rfl
theorem snd : ∀ n, Snd n
  | 0 => snd0
  | n + 1 => snd_succ (snd n)
end LV
namespace LV
open PySem PySem.Spec PyProof.Rows L2

/-! ### several names at once -/
def gNm : List Nat → TGs
  | [] => gNil
  | i :: is => gCons (gName i) (gNm is)
theorem gNm_of : ∀ (is : List Nat) (vs : List V) (σ : L2.St) (H : Hp) (Q : L2.St → Hp → Prop), vs.length = is.length → Q (putV is vs σ) H → gNm is vs σ H Q
  | [], [], _, _, _, _, h => ⟨rfl, h⟩
  | [], _ :: _, _, _, _, e, _ => by simp at e
  | _ :: _, [], _, _, _, e, _ => by simp at e
  | i :: is, v :: vs, σ, H, Q, e, h => ⟨v, vs, rfl, gNm_of is vs _ H Q (by simpa using e) h⟩
theorem let_parG {K : PySem.W.Frag} {n : Nat} {is : List Nat} {ta : TA} {wa : WA} (hn : is.length = n) (h1000 : n ≤ 1000) (l : LAt ta wa) : LSt (tAsg (tTup ta) (gTup K n (gNm is))) (wPar is wa) := fun g N H0 s σ P H Kk D hl S h f => by
  show ta σ H fun xs H1 => xs.length ≤ sizeLine ∧ ∀ p, H1 p = none → gTup K n (gNm is) (.ref p) σ (upd H1 p (.tup xs)) D.nx
  refine l g N H0 s σ P H _ _ hl S h fun rs s1 vs H1 hl1 S1 rv h1 => ?_
  obtain ⟨rs', s2, h2, hl2, hnn, S2⟩ := SR.un (A := []) hl1 S1 rv h1
  have hv : vs.length = is.length := hnn.symm.trans h2.1
  refine ⟨le1000 (by omega), fun p hp => ⟨p, vs, rfl, SqT.of upd_same, by omega, ?_⟩⟩
  have S3 := S2.fresh hp (o := .tup vs)
  obtain ⟨e, S4⟩ := SR.puts (is := is) hl2 hnn S3
  exact gNm_of is vs σ _ _ hv (f.nx _ _ _ e (by rw [putV_length]) S4 h2.2)
def nameIx (C : Cxt) : List Expr → Option (List Nat)
  | [] => some []
  | .Name x _ :: es => do
    let i ← tgOf? C x
    let is ← nameIx C es
    return i :: is
  | _ :: _ => none
theorem nameIx_of {X : Cx} {C : Cxt} {k : Nat} (F : CF X C k) : ∀ {es : List Expr} {is : List Nat}, nameIx C es = some is → PGs X es (gNm is) ∧ es.all plainE = true ∧ is.length = es.length
  | [], is, h => by
    simp only [nameIx] at h
    cases h; exact ⟨pgs_nil, rfl, rfl⟩
  | e :: es, is, h => by
    unfold nameIx at h
    split at h
    · rename_i e1; cases e1
    · rename_i x p es' e1
      cases e1
      obtain ⟨i, hi, h⟩ := bindS h
      obtain ⟨js, hj, h⟩ := bindS h
      cases h
      obtain ⟨a, b, c⟩ := nameIx_of F hj
      obtain ⟨h1, h2, h3, h4⟩ := tgOf_of F hi
      refine ⟨pgs_cons (pg_name h1 h2 h3 h4) a (by rw [asg_cons rfl]; rfl), ?_, by simp [c]⟩
      simp only [List.all_cons, b]; rfl
    · cases h
/-- which names the model swaps (2 or 3 plain locals); none: not said -/
def swN (C : Cxt) (ts vs : List Expr) : Option (Option (List Str)) :=
  if (!(ts.length == 2 || ts.length == 3) || vs.length != ts.length) = true then some none
  else if (vs.any fun | .Starred .. => true | _ => false) = true then some none
  else
    let line := (ts.head?.map (·.pos.line)).getD 0
    let names := ts.filterMap fun
      | .Name id pos => if (C.sc.names.lookup id == some .local && pos.line == line) = true then some id else none
      | _ => none
    if (names.length != ts.length || names.eraseDups.length != names.length) = true then some none
    else if vs.all (foldedForSure 8) = true then some none
    else if vs.all (constantsAlone 8) = true then none
    else some (some names)
theorem swN_of {X : Cx} {C : Cxt} {k : Nat} (F : CF X C k) {ts vs : List Expr} {r : Option (List Str)} (h : swN C ts vs = some r) (kt pt k2 pt2) : swappedStores [.Tuple ts kt pt] (.Tuple vs k2 pt2) X.env = pure r := by
  have hk : ∀ id, X.env.kindOf id = C.sc.names.lookup id := fun id => by unfold Env.kindOf; rw [F.sc]
  unfold swN at h
  unfold swappedStores
  simp only [F.bk, hk]
  have hb : (ScopeKind.function != ScopeKind.function) = false := by decide
  simp only [hb, Bool.or_false]
  split at h
  · rw [if_pos (by assumption)]; cases h; rfl
  · rw [if_neg (by assumption)]
    split at h
    · rw [if_pos (by assumption)]; cases h; rfl
    · rw [if_neg (by assumption)]
      simp only at h
      split at h
      · rw [if_pos (by assumption)]; cases h; rfl
      · rw [if_neg (by assumption)]
        split at h
        · rw [if_pos (by assumption)]; cases h; rfl
        · rw [if_neg (by assumption)]
          split at h
          · cases h
          · rw [if_neg (by assumption)]; cases h; rfl
end LV
namespace LV
open PySem PySem.Spec PyProof.Rows L2
theorem let_par2 {i j : Nat} {ta : TA} {wa : WA} (l : LAt ta wa) : LSt (tPar i j ta) (wPar [i, j] wa) := fun g N H0 s σ P H Kk D hl S h f => by
  refine l g N H0 s σ P H _ _ hl S h fun rs s1 vs H1 hl1 S1 rv h1 => ?_
  obtain ⟨rs', s2, h2, hl2, hnn, S2⟩ := SR.un (A := []) hl1 S1 rv h1
  have hv : vs.length = 2 := hnn.symm.trans h2.1
  obtain ⟨e, S4⟩ := SR.puts (is := [i, j]) hl2 hnn S2
  match vs, hv with
  | [v, w], _ => exact ⟨v, w, rfl, f.nx _ _ _ e (by simp) S4 h2.2⟩
theorem let_par3 {i j k : Nat} {ta : TA} {wa : WA} (l : LAt ta wa) : LSt (tPar3 i j k ta) (wPar [i, j, k] wa) := fun g N H0 s σ P H Kk D hl S h f => by
  refine l g N H0 s σ P H _ _ hl S h fun rs s1 vs H1 hl1 S1 rv h1 => ?_
  obtain ⟨rs', s2, h2, hl2, hnn, S2⟩ := SR.un (A := []) hl1 S1 rv h1
  have hv : vs.length = 3 := hnn.symm.trans h2.1
  obtain ⟨e, S4⟩ := SR.puts (is := [i, j, k]) hl2 hnn S2
  match vs, hv with
  | [u, v, w], _ => exact ⟨u, v, w, rfl, f.nx _ _ _ e (by simp) S4 h2.2⟩
/-- which rule stores a tuple's display into names -/
def parOk (C : Cxt) (ts : List Expr) (is : List Nat) (r : Option (List Str)) : Bool := match r with
  | none => decide (is.length ≤ 1000)
  | some names => match ts, is with
    | [.Name x _, .Name y _], [i, j] => decide (names = [x, y]) && (C.sc.names.lookup x == some .local) && (C.sc.names.lookup y == some .local) && decide (i ≠ j)
    | [.Name x _, .Name y _, .Name z _], [i, j, k] => decide (names = [x, y, z]) && (C.sc.names.lookup x == some .local) && (C.sc.names.lookup y == some .local) && (C.sc.names.lookup z == some .local) && decide (i ≠ j) && decide (i ≠ k) && decide (j ≠ k)
    | _, _ => false
/-- is the store of a comprehension a part of it -/
def swB (C : Cxt) (e : Expr) (x : Str) (p : Pos) : Option Bool := match e with
  | .ListComp _ _ s pos => some (C.sc.names.lookup x == some .local && p.line == pos.line && !(s.names.any fun (n, k) => n == x && (k == .local || k == .cell)))
  | .SetComp .. => none
  | .DictComp .. => none
  | _ => some false
def notName : Expr → Bool
  | .Name .. => false
  | _ => true
mutual
def cS (C : Cxt) : Nat → Stmt → Option WS
  | 0, _ => none
  | n + 1, st => match st with
    | .Assign [.Name x p] e _ => do
      let i ← tgOf? C x
      let w ← cE C n e
      let _ ← swB C e x p
      return wSet i w
    | .Assign [.Tuple ts kt pt] e _ => match e with
      | .Tuple vs k2 pt2 => match nameIx C ts with
        | some is => do
          let wa ← cA C n vs
          let r ← swN C ts vs
          if parOk C ts is r = true then some (wPar is wa) else none
        | none => do
          let we ← cE C n (.Tuple vs k2 pt2)
          let (wg, _) ← cG C n (.Tuple ts kt pt)
          let r ← swN C ts vs
          if r = none then some (wAsg we wg) else none
      | e => do
        let we ← cE C n e
        let (wg, _) ← cG C n (.Tuple ts kt pt)
        return wAsg we wg
    | .Assign [.Subscript o i pt] e _ => do
      let we ← cE C n e
      let (wg, _) ← cG C n (.Subscript o i pt)
      return wAsg we wg
    | .If c a b _ => do
      let wt ← cT C n c
      let wa ← cSs C n a
      let wb ← cSs C n b
      return wIfS wt wa wb
    | .While c body [] _ => match bagLoop c body with
      | some (c1, x, y, rest) => do
        let i ← slotOf C x
        let j ← tgOf? C y
        let wt ← cT C n c1
        let wb ← cSs C n rest
        return wBagW i j wt wb
      | none => do
        let wt ← cT C n c
        let wb ← cSs C n body
        return wWhile wt wb
    | .For tg iter body [] _ => if notSet iter = true then do
        let (wa, z) ← cI C n tg iter
        let (wg, _) ← cG C n tg
        let wb ← cSs C n body
        return wFor wa z wg wb
      else none
    | .Return (some e) _ => do
      let w ← cE C n e
      return wRet w
    | .Return none _ => some wRetN
    | .Expr e _ => if notComp e = true then do
        let w ← cE C n e
        return wDrop w
      else none
    | .Pass _ => some wNext
    | .Break _ => some wBreak
    | .Continue _ => some wCont
    | .Raise .. => some wNever
    | _ => none
def cSs (C : Cxt) : Nat → List Stmt → Option WS
  | 0, _ => none
  | n + 1, sts => match sts with
    | [] => some wNext
    | [st] => cS C n st
    | st :: sts => do
      let w ← cS C n st
      let u ← cSs C n sts
      return wSeq w u
end
section
variable {X : Cx} {C : Cxt} {k : Nat}
theorem swB_of (F : CF X C k) {e : Expr} {x : Str} {p : Pos} {b : Bool} {l : Nat} (h : swB C e x p = some b) : swapsWith e (some (.Name x p)) l X.env = pure b := by
  unfold swB at h
  split at h
  · cases h
    show (pure (X.env.blockKind == .function && X.env.kindOf x == some .local && _ && _) : Sem Bool) = _
    have : X.env.kindOf x = C.sc.names.lookup x := by unfold Env.kindOf; rw [F.sc]
    rw [F.bk, this]
    rfl
  · cases h
  · cases h
  · rename_i n1 n2 n3
    cases h
    cases e <;> first | rfl | exact (n1 _ _ _ _ rfl).elim | exact (n2 _ _ _ _ rfl).elim | exact (n3 _ _ _ _ _ rfl).elim
theorem noswapT {e t : Expr} {l : Nat} {env : Env} (h : notName t = true) : swapsWith e (some t) l env = pure false := by
  cases e <;> first | rfl | (cases t <;> first | rfl | cases h)
theorem soleT {e t : Expr} {l : Nat} {env : Env} (h : notName t = true) : swapsWithSole [t] e l env = pure false := by
  rw [swapsWithSole]; exact noswapT h
theorem noStores {ts : List Expr} {kt pt} {e : Expr} {env : Env} (h : ∀ vs k p, e ≠ .Tuple vs k p) : swappedStores [.Tuple ts kt pt] e env = pure none := by
  cases e <;> first | rfl | exact absurd rfl (h _ _ _)
theorem snd_setLc {n : Nat} {y : Str} {py spos pos : Pos} {elt : Expr} {gens : List Comprehension} {scope : Scope} {w : WE} {i : Nat} (F : CF X C k) (hi : tgOf? C y = some i) (hw : cE C n (.ListComp elt gens scope pos) = some w) (hsw : swB C (.ListComp elt gens scope pos) y py = some true) :
    LS X (.Assign [.Name y py] (.ListComp elt gens scope pos) spos) (wSet i w) := by
  obtain ⟨h1, h2, h3, h4⟩ := tgOf_of F hi
  have hloc : X.env.scope.names.lookup y = some .local := by
    have : C.sc.names.lookup y == some .local := by
      unfold swB at hsw
      simp only [Option.some.injEq, Bool.and_eq_true] at hsw
      exact hsw.1.1
    rw [F.sc]; exact eq_of_beq this
  cases n with
  | zero => cases hw
  | succ n =>
    have I := snd n
    simp only [cE] at hw
    split at hw <;> first | (rename_i q; cases q; done) | skip
    · rename_i q
      cases q
      split at hw
      · rename_i hh
        obtain ⟨⟨wa, z⟩, hi, hw⟩ := bindS hw
        obtain ⟨⟨wg, T⟩, hg, hw⟩ := bindS hw
        obtain ⟨wt, ht, hw⟩ := bindS hw
        obtain ⟨we, he, hw⟩ := bindS hw
        simp only at hw
        split at hw
        · rename_i hT
          cases hw
          have ok := blkOk_by hh.2
          have Fb := fun s H D cl fp => F.blk ok.kind s H D cl fp
          have okX := ok
          rw [← F.hN, ← F.sc] at okX
          exact ls_setLc F.calm h1 h2 hloc (swB_of F hsw) (I.i F hi) okX ⟨_, LGt_tgOf _ _, fun s H D cl fp => (I.g (Fb s H D cl fp) hg).pg⟩ ⟨_, LTt_ttOf _, fun s H D cl fp => (I.ts (Fb s H D cl fp) ht).pts⟩
            ⟨_, LEt_tOf _, fun s H D cl fp => (I.e (Fb s H D cl fp) he).pe⟩ (fun i hi => by
              have := (List.all_eq_true.mp hT) i hi
              simpa using this) (foldset hh.1)
        · cases hw
      · cases hw
    · cases hw
theorem snd_set {n : Nat} {y : Str} {py spos : Pos} {e : Expr} {w : WE} {i : Nat} {b : Bool} (F : CF X C k) (hi : tgOf? C y = some i) (hw : cE C n e = some w) (hsw : swB C e y py = some b) : LS X (.Assign [.Name y py] e spos) (wSet i w) := by
  cases b with
  | true =>
    cases e with
    | ListComp elt gens scope pos => exact snd_setLc F hi hw hsw
    | _ => cases hsw
  | false =>
    obtain ⟨h1, h2, h3, h4⟩ := tgOf_of F hi
    obtain ⟨t, p, l⟩ := ((snd n).e F hw).ex
    exact ⟨⟨_, ps_set h1 h2 h3 p (swB_of F hsw) h4, let_set l⟩⟩
structure SndS (n : Nat) : Prop where
  s : ∀ {X : Cx} {C : Cxt} {k : Nat}, CF X C k → PassesOwn (model X.prog X.w) X.A X.env X.xe → ∀ {st w}, cS C n st = some w → LS X st w
  ss : ∀ {X : Cx} {C : Cxt} {k : Nat}, CF X C k → PassesOwn (model X.prog X.w) X.A X.env X.xe → ∀ {sts w}, cSs C n sts = some w → LSs X sts w
theorem snd_par {n : Nat} {ts vs : List Expr} {kt pt k2 pt2 pos} {is : List Nat} {wa : WA} {r : Option (List Str)} (F : CF X C k) (hi : nameIx C ts = some is) (ha : cA C n vs = some wa) (hr : swN C ts vs = some r) (hp : parOk C ts is r = true) :
    LS X (.Assign [.Tuple ts kt pt] (.Tuple vs k2 pt2) pos) (wPar is wa) := by
  obtain ⟨t, pa, l⟩ := (((snd n).a F ha).1.to).ex
  obtain ⟨pg, pl, ln⟩ := nameIx_of F hi
  have sw := swN_of F hr kt pt k2 pt2
  cases r with
  | none =>
    have := asg_plain (env := X.env) pl
    exact ⟨⟨_, ps_asg (pe_tup pa) (pg_tup F.calm pg this.1 this.2) (soleT rfl) sw rfl, let_parG ln (by rw [← ln]; exact of_decide_eq_true hp) l⟩⟩
  | some names =>
    simp only [parOk] at hp
    split at hp
    · rename_i x px y py i j
      simp only [Bool.and_eq_true, decide_eq_true_eq] at hp
      obtain ⟨⟨⟨e, hx⟩, hy⟩, hij⟩ := hp
      subst e
      have hx := eq_of_beq hx
      have hy := eq_of_beq hy
      simp only [nameIx] at hi
      obtain ⟨i', hi1, hi⟩ := bindS hi
      obtain ⟨js, hj, hi⟩ := bindS hi
      cases hi
      obtain ⟨j', hj1, hj⟩ := bindS hj
      obtain ⟨ks, hk, hj⟩ := bindS hj
      cases hj; cases hk
      obtain ⟨n1, a1, _, _⟩ := tgOf_of F hi1
      obtain ⟨_, b1, _, _⟩ := tgOf_of F hj1
      obtain ⟨c1, pa1⟩ : ∃ a b, vs = [a, b] := by
        unfold swN at hr
        split at hr
        · cases hr
        · rename_i hq
          simp at hq
          match vs, hq with
          | [a, b], _ => exact ⟨a, b, rfl⟩
      obtain ⟨b, rfl⟩ := pa1
      exact ⟨⟨_, ps_par F.calm n1 a1 b1 hij (by rw [F.sc]; exact hx) (by rw [F.sc]; exact hy) pa sw (soleT rfl), let_par2 l⟩⟩
    · rename_i x px y py z pz i j q
      simp only [Bool.and_eq_true, decide_eq_true_eq] at hp
      obtain ⟨⟨⟨⟨⟨⟨e, hx⟩, hy⟩, hz⟩, hij⟩, hik⟩, hjk⟩ := hp
      subst e
      have hx := eq_of_beq hx
      have hy := eq_of_beq hy
      have hz := eq_of_beq hz
      simp only [nameIx] at hi
      obtain ⟨i', hi1, hi⟩ := bindS hi
      obtain ⟨js, hj, hi⟩ := bindS hi
      cases hi
      obtain ⟨j', hj1, hj⟩ := bindS hj
      obtain ⟨ks, hk, hj⟩ := bindS hj
      cases hj
      obtain ⟨q', hq1, hk⟩ := bindS hk
      obtain ⟨ms, hm, hk⟩ := bindS hk
      cases hk; cases hm
      obtain ⟨n1, a1, _, _⟩ := tgOf_of F hi1
      obtain ⟨_, b1, _, _⟩ := tgOf_of F hj1
      obtain ⟨_, d1, _, _⟩ := tgOf_of F hq1
      obtain ⟨c1, c2, c3, rfl⟩ : ∃ a b c, vs = [a, b, c] := by
        unfold swN at hr
        split at hr
        · cases hr
        · rename_i hq
          simp at hq
          match vs, hq with
          | [a, b, c], _ => exact ⟨a, b, c, rfl⟩
      exact ⟨⟨_, ps_par3 F.calm n1 a1 b1 d1 hij hik hjk (by rw [F.sc]; exact hx) (by rw [F.sc]; exact hy) (by rw [F.sc]; exact hz) pa sw (soleT rfl), let_par3 l⟩⟩
    · cases hp
theorem snd_asg {n : Nat} {e tg : Expr} {pos : Pos} {we : WE} {wg : WG} {T : List Nat} (F : CF X C k) (he : cE C n e = some we) (hg : cG C n tg = some (wg, T)) (h1 : notName tg = true) (h2 : plainE tg = true) (hw : swappedStores [tg] e X.env = pure none) : LS X (.Assign [tg] e pos) (wAsg we wg) := by
  obtain ⟨t, p, l⟩ := ((snd n).e F he).ex
  obtain ⟨tg', pg, lg⟩ := ((snd n).g F hg).ex
  exact ⟨⟨_, ps_asg p pg (soleT h1) hw (by rw [asg_cons h2]; rfl), let_asg l lg⟩⟩
theorem sndS0 : SndS 0 where
  s := fun _ _ _ _ h => by cases h
  ss := fun _ _ _ _ h => by cases h
theorem sndS_succ {n : Nat} (J : SndS n) : SndS (n + 1) where
  s := fun {X C k} F hp {st w} h => by
    have I := snd n
    simp only [cS] at h
    split at h
    · obtain ⟨i, hi, h⟩ := bindS h
      obtain ⟨we, he, h⟩ := bindS h
      obtain ⟨b, hb, h⟩ := bindS h
      cases h
      exact snd_set F hi he hb
    · split at h
      · split at h
        · obtain ⟨wa, ha, h⟩ := bindS h
          obtain ⟨r, hr, h⟩ := bindS h
          split at h
          · cases h
            exact snd_par F (by assumption) ha hr (by assumption)
          · cases h
        · obtain ⟨we, he, h⟩ := bindS h
          obtain ⟨⟨wg, T⟩, hg, h⟩ := bindS h
          obtain ⟨r, hr, h⟩ := bindS h
          split at h
          · cases h
            subst r
            exact snd_asg F he hg rfl rfl (swN_of F hr _ _ _ _)
          · cases h
      · obtain ⟨we, he, h⟩ := bindS h
        obtain ⟨⟨wg, T⟩, hg, h⟩ := bindS h
        cases h
        exact snd_asg F he hg rfl rfl (noStores (by assumption))
    · obtain ⟨we, he, h⟩ := bindS h
      obtain ⟨⟨wg, T⟩, hg, h⟩ := bindS h
      cases h
      exact snd_asg F he hg rfl rfl rfl
    · obtain ⟨wt, ht, h⟩ := bindS h
      obtain ⟨wa, ha, h⟩ := bindS h
      obtain ⟨wb, hb, h⟩ := bindS h
      cases h
      exact ls_if (I.t F ht) (J.ss F hp ha) (J.ss F hp hb)
    · split at h
      · obtain ⟨i, hi, h⟩ := bindS h
        obtain ⟨j, hj, h⟩ := bindS h
        obtain ⟨wt, ht, h⟩ := bindS h
        obtain ⟨wb, hb, h⟩ := bindS h
        cases h
        obtain ⟨h1, h2, h3, h4⟩ := slotOf_of F hi
        obtain ⟨a1, a2, a3, a4⟩ := tgOf_of F hj
        exact ls_bagLoop (by assumption) F.room hp (fun p => pe_var h1 h2 h3 h4) a1 a2 a3 a4 (I.t F ht) (J.ss F hp hb)
      · obtain ⟨wt, ht, h⟩ := bindS h
        obtain ⟨wb, hb, h⟩ := bindS h
        cases h
        exact ls_while hp (I.t F ht) (J.ss F hp hb)
    · split at h
      · obtain ⟨⟨wa, z⟩, hi, h⟩ := bindS h
        obtain ⟨⟨wg, T⟩, hg, h⟩ := bindS h
        obtain ⟨wb, hb, h⟩ := bindS h
        cases h
        exact ls_for hp F.calm (I.i F hi) (I.g F hg) (J.ss F hp hb) (foldset (by assumption))
      · cases h
    · obtain ⟨we, he, h⟩ := bindS h
      cases h
      exact ls_ret (I.e F he)
    · cases h; exact ls_retN
    · split at h
      · obtain ⟨we, he, h⟩ := bindS h
        cases h
        exact ls_expr (I.e F he) (noswap (by assumption))
      · cases h
    · cases h; exact ls_pass
    · cases h; exact ls_break
    · cases h; exact ls_cont
    · cases h; exact ls_never
    · cases h
  ss := fun {X C k} F hp {sts w} h => by
    simp only [cSs] at h
    split at h
    · cases h; exact lss_nil
    · exact lss_one (J.s F hp h)
    · obtain ⟨w1, h1, h⟩ := bindS h
      obtain ⟨w2, h2, h⟩ := bindS h
      cases h
      exact lss_cons (J.s F hp h1) (J.ss F hp h2)
theorem sndS : ∀ n, SndS n
  | 0 => sndS0
  | n + 1 => sndS_succ (sndS n)
end
end LV
namespace LV
open PySem PySem.Spec PyProof.Rows L2

/-- the defs that are known, wherever they are called -/
structure GF (P : Program) (w : World) (K : PySem.W.Frag) (mg : Str → Option Value) (base : Heap) (C : Cxt) (k : Nat) : Prop where
  bl : ∀ x ∈ C.bl, mg x = none
  md : ∀ p ∈ C.md, mg p.1 = some (.builtin p.2)
  gc : ∀ p ∈ C.gc, ∃ t, mg p.1 = some (.int p.2 t)
  fns : ∀ p ∈ C.fns, ∃ (f : Addr) (fd : FuncData), FnG P w K mg base CX0 k f fd p.2.1 (lift p.2.2) ∧ mg p.1 = some (.ref f) ∧ PySem.W.keepIn K (.ref f) = true ∧ Binds K fd p.2.1 [] ∧
    ∀ q ∈ C.kws, q.1 = p.1 → KwOk fd p.2.1 q.2.1 q.2.2
theorem SR.base {g : Bag} {N : Addr → Prop} {H : Hp} (hg : g.G H) (hb : ∀ a, g.B a → N a) (hn : ∀ a, N a → (H a).isSome = true) : SR g N H [] H :=
  { hg := hg, sm := .refl H, nd := hn, bn := hb, each := (fun _ h => nomatch h), dist := (fun _ => Nat.zero_le _) }
theorem pendD_zip : ∀ (ds : List D) (vs : List V), ds.length = vs.length → pendD ds vs = (ds.map Sl.sh).zip (vs.map some)
  | [], [], _ => rfl
  | d :: ds, v :: vs, h => by simp [pendD, pendD_zip ds vs (by simpa using h)]
  | [], _ :: _, h => by simp at h
  | _ :: _, [], h => by simp at h
theorem SR.uns {g N H0 H} {L : List En} (S : SR g N H0 L H) : ∀ n : Nat, SR g N H0 (L ++ (List.replicate n Sl.un).zip (List.replicate n none)) H
  | 0 => by simpa using S
  | n + 1 => by
    have S1 := SR.uns S n
    have S2 := (S1.addUn (v := none)).mid (List.Sublist.refl _)
    have e : (List.replicate (n + 1) Sl.un).zip (List.replicate (n + 1) (none : Option V)) = (Sl.un, none) :: (List.replicate n Sl.un).zip (List.replicate n none) := by
      rw [List.replicate_succ, List.replicate_succ, List.zip_cons_cons]
    rw [e]; exact S2
/-- the slots at the start -/
def begin (n : Nat) (ds : List D) : Sg := ds.map Sl.sh ++ List.replicate (n - ds.length) Sl.un
theorem SR.start {g : Bag} {N : Addr → Prop} {H : Hp} {ds : List D} {vs : List V} (M : List Str) (hg : g.G H) (hb : ∀ a, g.B a → N a) (hn : ∀ a, N a → (H a).isSome = true) (r : Reps g.bv H N ds vs) :
    SR g N H ((begin M.length ds).zip (L2.start M vs) ++ []) H ∧ (begin M.length ds).length = (L2.start M vs).length := by
  have S0 := SR.base hg hb hn
  have r' : Reps g.bv H (Nn N []) ds vs := r.mono (fun _ _ e _ => e) fun a _ _ z => z.elim id fun z => absurd z (Nat.lt_irrefl 0)
  have S1 := (Reps.pends S0 r').uns (M.length - ds.length)
  unfold begin L2.start
  rw [r.length] at *
  rw [List.zip_append (by simp [r.length]), ← pendD_zip _ _ r.length]
  refine ⟨by simpa using S1, by simp [r.length]⟩
/-- a def keeps its promise, by its meaning -/
theorem def_ok {P : Program} {w : World} {K : PySem.W.Frag} {mg : Str → Option Value} {base : Heap} {x qual : Str} {st : Stmt} {f : Addr} {fd : FuncData} {C : Cxt} {n k : Nat} {F : VS} {ws : WS} {ps : List Str}
    (Fn : Fun K x qual st f fd) (S : FnScope C.N ps (defScope st)) (hsc : C.sc = defScope st) (hfn : C.fnb = fun _ => true) (hK : C.K = K) (hc : cSs C n (defBody st) = some ws) (G : GF P w K mg base C k)
    (hF : ∀ ds Qf, F ds Qf → ds.length = ps.length ∧ ws { nx := fun _ => Qf (.sh .non), rt := Qf } (begin C.N.length ds)) : FnG P w K mg base CX0 (k + 1) f fd ps (lift F) := by
  refine fnG_of Fn S (fun vs H Q E h => ?_) fun cdv A outer s H vs Q E hgd hr h => ?_
  · obtain ⟨g, N, ds, Qf, r, _, _, _, h, _⟩ := h
    rw [← r.length]; exact (hF ds Qf h).1
  · obtain ⟨g, N, ds, Qf, r, hg, hb, hn, h, hq⟩ := h
    obtain ⟨hl, hw⟩ := hF ds Qf h
    have cf : CF (cxOf CX0 P w K mg base C.N qual (defScope st) f cdv A outer s H E).nox C k :=
      { hN := rfl, nd := S.nd, sc := hsc.symm, fn := hfn.symm, calm := rfl, room := hr, gd := hgd, K := hK.symm,
        bk := by
          show (if (defScope st).kind.isAnnotationScope then ScopeKind.function else (defScope st).kind) = .function
          rw [S.kind]; rfl
        bl := G.bl, md := G.md, gc := G.gc, fns := fun p hp => ⟨G.fns p hp⟩ }
    obtain ⟨t, p, l⟩ := ((sndS n).ss cf PassesOwn.never hc).ex
    refine ⟨t, p.nox, ?_⟩
    obtain ⟨S0, e0⟩ := SR.start C.N hg hb hn r
    have fin : ∀ {r : RV} {v : V} {H' : Hp} {L' : List En}, SR g N H ((r.sl, some v) :: L') H' → (∀ i, r ≠ .al i) → Qf r → Q v H' := fun {r v H' L'} S1 ha h1 => by
      refine hq r v H' h1 S1.sm S1.hg ?_
      cases r with
      | sh d =>
        obtain ⟨u, e, rr⟩ := S1.each (Sl.sh d, some v) (List.mem_cons_self ..)
        cases e
        exact rr.mono (fun _ _ e _ => e) fun a _ _ z => .inl z
      | fr ds =>
        obtain ⟨a, vs, e, hN, h0, hh, rr, hp⟩ := S1.own_n (ds := ds) (v := some v) (List.mem_cons_self ..)
        cases e
        exact ⟨a, vs, rfl, h0, hh, rr.mono (fun _ _ e _ => e) fun b _ _ z => z.elim .inl fun z => by subst z; exact .inr hp⟩
      | al i => exact absurd rfl (ha i)
    refine l g N H (begin C.N.length ds) (L2.start C.N vs) [] H _ _ e0 S0 hw ⟨fun s' σ' H' e1 e2 S1 h1 => ?_, fun s' σ' H' _ _ _ h => h.elim, fun s' σ' H' _ _ _ h => h.elim, fun r v H' L' S1 ha h1 => fin S1 ha h1⟩
    exact fin (r := .sh .non) (S1.addSh .non) (fun _ h => nomatch h) h1
end LV
namespace LV
open PySem PySem.Spec PyProof.Rows L2

/-! ### the law's own call -/
section
variable {P : Program} {w : World} {K : PySem.W.Frag} {mg mb : Str → Option Value} {CX : CXT} {k : Nat} {fa a : Addr} {fd : FuncData} {x : Str} {sp : Sp} {s₁ : Shared} {vs : List Value} {ns : List Int}
/-- what is tracked at the start: nothing, or the script alone -/
structure Started (P : Program) (w : World) (K : PySem.W.Frag) (s₁ : Shared) (a : Addr) (ns : List Int) (H : Hp) : Prop where
  only : Only H
  script : SqL K H a (ns.map V.int)
  ok : HOk P w H s₁.heap
  at_a : ∀ b u, H b = some u → b = a
  free : ∀ u, H a = some u → K.lookup a = none
theorem started (KX : K.In s₁.heap) (ha : s₁.heap.get? a = some { cls := .type "list", data := .seq vs.toArray }) (hi : IntsAre vs ns) (hl : ns.length ≤ sizeLine) : ∃ H, Started P w K s₁ a ns H := by
  have rel : Vals (ns.map V.int) vs := vals_ints hi
  have hlen : vs.length = ns.length := hi.length
  rcases hk : K.lookup a with _ | o
  · let ob : Obj := { cls := .type "list", data := .seq vs.toArray }
    let H : Hp := fun b => if b = a then some (.frz ob (.lst (ns.map V.int))) else none
    have hA : H a = some (.frz ob (.lst (ns.map V.int))) := if_pos rfl
    have hN : ∀ b u, H b = some u → b = a ∧ u = .frz ob (.lst (ns.map V.int)) := fun b u h => by
      by_cases e : b = a
      · subst e; exact ⟨rfl, Option.some.inj (h.symm.trans hA)⟩
      · exact absurd ((if_neg e).symm.trans h) (fun z => nomatch z)
    refine ⟨H, ⟨fun b => ?_, .inl (.inr ⟨ob, hA⟩), fun b u h => ?_, fun b u h => (hN b u h).1, fun _ _ => hk⟩⟩
    · cases q : H b with
      | none => exact .inl rfl
      | some u => exact .inr ⟨_, _, by rw [(hN b u q).2]⟩
    · obtain ⟨rfl, rfl⟩ := hN b u h
      refine ⟨ha, ?_, vs, _, rel, ha⟩
      rw [List.length_map]; exact hl
  · have here := KX a o hk
    rw [ha] at here
    cases here
    refine ⟨fun _ => none, ⟨fun _ => .inl rfl, .inr ⟨_, vs.toArray, _, hk, rfl, rfl, rfl, ?_, ?_⟩, (fun _ _ h => nomatch h), (fun _ _ h => nomatch h), (fun _ h => nomatch h)⟩⟩
    · rw [List.size_toArray, hlen]; exact hl
    · simpa using rel
theorem lawG (KX : K.In s₁.heap) (hns : s₁.heap.Ns mainGlobals mg) (hb : s₁.heap.Ns builtinsNs mb) (hbb : ∀ x : Str, x ≠ "__name__" → mb x = bootBuiltins x) (hlim : s₁.heap.NoLimit) (hg : s₁.gens = #[])
    (ha : s₁.heap.get? a = some { cls := .type "list", data := .seq vs.toArray }) (hi : IntsAre vs ns) (hl : ns.length ≤ sizeLine) (hr : Room k callerA)
    (F : ∀ base : Heap, K.In base → base.Ns mainGlobals mg → FnG P w K mg base CX k fa fd [x] sp) (hbind : ∀ (s : Shared) (u : Value), BindsTo s fd ⟨[u], []⟩ [(x, u)])
    (hsp : ∀ H : Hp, Only H → SqL K H a (ns.map V.int) → sp [.ref a] H (fun v _ => v = .bl true) fun _ _ _ => False)
    (hCX : ∀ H e s', CX [] H s₁ (fun _ _ _ => False) e s' → False) :
    codeAny (model P w) callerA (.call (.ref fa) ⟨[.ref a], []⟩) (fun r s' => r = .ok (.ret (.bool true)) ∧ OldK s₁.heap s'.heap ∧ s'.os = s₁.os ∧ AllBare s'.gens) s₁ := by
  obtain ⟨H, st⟩ := started (P := P) (w := w) KX ha hi hl
  let base := hidT s₁.heap H
  have into : ∀ {b : Addr} {o : Obj}, s₁.heap.get? b = some o → H b = none → base.get? b = some o := fun e n => hidT_get e n
  have dicts : ∀ {b : Addr} {m : Str → Option Value}, s₁.heap.Ns b m → base.Ns b m := by
    rintro b m ⟨o, es, ep, e, d, r⟩
    refine ⟨o, es, ep, into e ?_, d, r⟩
    cases q : H b with
    | none => rfl
    | some u =>
      have e' := st.at_a b u q
      subst e'
      rw [ha] at e
      cases e
      cases d
  have kin : K.In base := fun b o e => into (KX b o e) (by
    cases q : H b with
    | none => rfl
    | some u =>
      have e' := st.at_a b u q
      subst e'
      rw [st.free u q] at e
      cases e)
  have e0 : Env0 P w K mg base callerA [] s₁ H := {
    frames := rfl
    mod := ⟨kin, dicts hns, ⟨mb, dicts hb, hbb⟩, by
      obtain ⟨mc, h1, h2⟩ := hlim
      exact ⟨mc, dicts h1, h2⟩⟩
    bs := fun b o e => of_hidT e
    bsz := Nat.le_of_eq (hidT_size _ _)
    funs := trivial
    frf := fun b z => nomatch z
    hok := st.ok
    bare := .of_eq hg }
  have run := (F base kin (dicts hns)).run callerA [] s₁ H ⟨[.ref a], []⟩ [.ref a] [.ref a] _ _ rfl hr e0 (hbind s₁ (.ref a)) (.cons rfl .nil) (hsp H st.only st.script)
  refine codeAny_mono run ?_
  intro r s' h
  match r, h with
  | .error e, h => exact (hCX H e s' h).elim
  | .ok .next, h => exact h.elim
  | .ok .brk, h => exact h.elim
  | .ok .cont, h => exact h.elim
  | .ok (.ret u), ⟨v, H', os, bare, un, hok', rv, hv⟩ =>
    subst hv
    cases rv
    refine ⟨rfl, OldK.of_keep ?_, os, bare⟩
    intro b o e
    rcases st.only b with n | ⟨ob, xs, fz⟩
    · exact un.keep b o e n (fun z => nomatch z) (fun z => nomatch z)
    · have before := (st.ok b _ fz).1
      have behind := (hok' b _ (un.frzs b ob _ fz)).1
      rw [e] at before
      cases before
      exact behind
end
/-- the goal that k_head leaves, out of the law's promise -/
theorem walkG {l : PySem.W.OpenLaw} {n k : Nat} {q : Program} {loose : List Str} {XP : (Str → Option Value) → Heap → Prop} {YP : World → Heap → Prop} {d : DefRec} {K : Params → PySem.W.Frag} {CX : World → CXT} {sp : World → Sp} {x : Str}
    (hn : l.most = some n) (hn2 : n ≤ sizeLine) (hdf : d.params.defaults = []) (hr : Room k callerA) (hY : ∀ (w : World) (h : Heap), YP w h → (K w.params).In h)
    (F : ∀ (w : World) (mg : Str → Option Value) (fa : Addr) (h : Heap), (K w.params).In h → h.Ns mainGlobals mg → mg d.name = some (.ref fa) →
      ∃ fd : FuncData, (∀ (s : Shared) (u : Value), BindsTo s fd ⟨[u], []⟩ [(x, u)]) ∧ ∀ base : Heap, (K w.params).In base → base.Ns mainGlobals mg → FnG l.prog w (K w.params) mg base (CX w) k fa fd [x] (sp w))
    (hsp : ∀ (w : World) (H : Hp) (a : Addr) (ns : List Int), ns.length ≤ n → Only H → SqL (K w.params) H a (ns.map V.int) → sp w [.ref a] H (fun v _ => v = .bl true) fun _ _ _ => False)
    (hCX : ∀ (w : World) (H : Hp) (s : Shared) (e : Value) (s' : Shared), CX w [] H s (fun _ _ _ => False) e s' → False) :
    PySem.W.WalkO q loose XP YP l.row.toRowW d [] (fun f vs => PySem.call f vs) := by
  refine Att.attach_call hn hdf ?_
  intro w s₀ s₁ mg mb fa o pm cd doc a vs ns G Y ho hd hcd hmg hobj hints hlen hg
  have inK := hY w _ Y
  obtain ⟨fd, binds, prom⟩ := F w mg fa _ inK G.T.g hmg
  refine lawG inK G.T.g G.T.b G.T.builtins G.T.nolimit hg hobj hints (Nat.le_trans hlen hn2) hr prom binds ?_ ?_
  · intro H only script
    exact hsp w H a ns hlen only script
  · intro H e s'
    exact hCX w H s₁ e s'
end LV
namespace LV
open PySem PySem.Spec PyProof.Rows L2

/-! ### what the top holds -/
structure Dn (K : PySem.W.Frag) (x q : Str) (st : Stmt) : Prop where
  ex : ∃ (f : Addr) (oc : Value) (od : Option Addr) (kV doc pm : Value) (an : Option Addr) (cdv ct : Value) (osl : Array (Option Value)),
    PySem.W.nsIn K mainGlobals x = some (some (.ref f)) ∧ K.lookup f = some ⟨oc, od, .func (PySem.W.fnOf q q (defArgs st) (defBody st) (defScope st) .none kV doc pm an cdv ct), osl⟩ ∧
      PySem.W.codeIn K cdv q = true ∧ PySem.W.keepIn K (.ref f) = true
structure Tp (K : PySem.W.Frag) (ds : List (Str × Str × Stmt)) (zs : List Str) (ms : List (Str × String)) (gs : List (Str × Int)) : Prop where
  dn : ∀ p ∈ ds, Dn K p.1 p.2.1 p.2.2
  zn : ∀ x ∈ zs, PySem.W.nsIn K mainGlobals x = some none
  md : ∀ p ∈ ms, PySem.W.nsIn K mainGlobals p.1 = some (some (.builtin p.2))
  gc : ∀ p ∈ gs, ∃ t, PySem.W.nsIn K mainGlobals p.1 = some (some (.int p.2 t))
section
variable {P : Program} {w : World} {K : PySem.W.Frag} {mg : Str → Option Value} {base : Heap}
structure Kn (P : Program) (w : World) (K : PySem.W.Frag) (mg : Str → Option Value) (base : Heap) (k : Nat) (x : Str) (ps : List Str) (F : VS) (kws : List (Nat × List Str)) : Prop where
  ex : ∃ (f : Addr) (fd : FuncData), FnG P w K mg base CX0 k f fd ps (lift F) ∧ mg x = some (.ref f) ∧ PySem.W.keepIn K (.ref f) = true ∧ Binds K fd ps [] ∧ ∀ q ∈ kws, KwOk fd ps q.1 q.2
def BindOk (x : Str) (st : Stmt) (ps : List Str) : Prop := ∀ (kV doc pm : Value) (an : Option Addr) (cdv ct : Value) (us : List Value), us.length = ps.length → bindArgs (PySem.W.fnOf x x (defArgs st) (defBody st) (defScope st) .none kV doc pm an cdv ct) ⟨us, []⟩ = pure (ps.zip us)
def KwsOk (x : Str) (st : Stmt) (ps : List Str) (kws : List (Nat × List Str)) : Prop := ∀ (kV doc pm : Value) (an : Option Addr) (cdv ct : Value), ∀ q ∈ kws, KwOk (PySem.W.fnOf x x (defArgs st) (defBody st) (defScope st) .none kV doc pm an cdv ct) ps q.1 q.2
theorem Kn.up {j k : Nat} {x ps F kws} (h : Kn P w K mg base j x ps F kws) (hjk : j ≤ k) : Kn P w K mg base k x ps F kws := let ⟨f, fd, a, b⟩ := h.ex; ⟨f, fd, a.up hjk, b⟩
/-- the defs that a def calls -/
def FnsOk (P : Program) (w : World) (K : PySem.W.Frag) (mg : Str → Option Value) (base : Heap) (k : Nat) (ckws : List (Str × Nat × List Str)) (fns : List (Str × List Str × VS)) : Prop := ∀ p ∈ fns, ∃ kws, Kn P w K mg base k p.1 p.2.1 p.2.2 kws ∧ ∀ q ∈ ckws, q.1 = p.1 → (q.2.1, q.2.2) ∈ kws
theorem fns_nil {k ckws} : FnsOk P w K mg base k ckws [] := fun _ h => nomatch h
theorem fns_cons {j k ckws x ps F kws fns} (h : Kn P w K mg base j x ps F kws) (hjk : j ≤ k) (hq : (ckws.all fun q => !(decide (q.1 = x)) || decide ((q.2.1, q.2.2) ∈ kws)) = true) (r : FnsOk P w K mg base k ckws fns) : FnsOk P w K mg base k ckws ((x, ps, F) :: fns) := fun p hp => by
  rcases List.mem_cons.mp hp with e | hp
  · subst e
    refine ⟨kws, h.up hjk, fun q hm e => ?_⟩
    have := List.all_eq_true.mp hq q hm
    simp only [Bool.or_eq_true, Bool.not_eq_true', decide_eq_false_iff_not, decide_eq_true_eq] at this
    exact this.resolve_left fun n => n e
  · exact r p hp
theorem gf_of {ds zs ms gs} {C : Cxt} {k : Nat} (T : Tp K ds zs ms gs) (XK : K.In base) (G : base.Ns mainGlobals mg) (hz : (C.bl.all fun x => decide (x ∈ zs)) = true) (hm : (C.md.all fun x => decide (x ∈ ms)) = true) (hgc : (C.gc.all fun x => decide (x ∈ gs)) = true) (h : FnsOk P w K mg base k C.kws C.fns) : GF P w K mg base C k where
  bl := fun x hx => PySem.W.mg_none_of XK G (T.zn x (of_decide_eq_true (List.all_eq_true.mp hz x hx)))
  md := fun p hp => PySem.W.mg_of XK G (T.md p (of_decide_eq_true (List.all_eq_true.mp hm p hp)))
  gc := fun p hp => by
    obtain ⟨t, h⟩ := T.gc p (of_decide_eq_true (List.all_eq_true.mp hgc p hp))
    exact ⟨t, PySem.W.mg_of XK G h⟩
  fns := fun p hp => by
    obtain ⟨kws, hk, hq⟩ := h p hp
    obtain ⟨f, fd, a, b, c, d, e⟩ := hk.ex
    exact ⟨f, fd, a, b, c, d, fun q hm he => e _ (hq q hm he)⟩
theorem kn_of {ds zs ms gs} {C : Cxt} {n k : Nat} {x q : Str} {st : Stmt} {ps : List Str} {F : VS} {ws : WS} {kws : List (Nat × List Str)} (T : Tp K ds zs ms gs) (hd : (x, q, st) ∈ ds) (XK : K.In base) (G : base.Ns mainGlobals mg)
    (S : FnScope C.N ps (defScope st)) (hc : cSs C n (defBody st) = some ws) (hsc : C.sc = defScope st) (hfn : C.fnb = fun _ => true) (hK : C.K = K) (gf : GF P w K mg base C k) (hb : BindOk q st ps) (hkw : KwsOk q st ps kws)
    (hF : ∀ ds Qf, F ds Qf → ds.length = ps.length ∧ ws { nx := fun _ => Qf (.sh .non), rt := Qf } (begin C.N.length ds)) : Kn P w K mg base (k + 1) x ps F kws := by
  obtain ⟨f, oc, od, kV, doc, pm, an, cdv, ct, osl, a, l, c, kp⟩ := (T.dn _ hd).ex
  have Fn : Fun K q q st f _ := ⟨⟨oc, od, kV, doc, pm, an, cdv, ct, osl, rfl, l, c⟩, kp⟩
  exact ⟨f, _, def_ok Fn S hsc hfn hK hc gf hF, PySem.W.mg_of XK G a, kp, .all (hb kV doc pm an cdv ct), hkw kV doc pm an cdv ct⟩
/-- the promise of nothing -/
theorem kn_none {ds zs ms gs} {k : Nat} {x q : Str} {st : Stmt} {ps : List Str} {kws : List (Nat × List Str)} (T : Tp K ds zs ms gs) (hd : (x, q, st) ∈ ds) (XK : K.In base) (G : base.Ns mainGlobals mg)
    (hb : BindOk q st ps) (hkw : KwsOk q st ps kws) : Kn P w K mg base k x ps (fun _ _ => False) kws := by
  obtain ⟨f, oc, od, kV, doc, pm, an, cdv, ct, osl, a, l, c, kp⟩ := (T.dn _ hd).ex
  exact ⟨f, _, ⟨fun vs H Q E h => by obtain ⟨_, _, _, _, _, _, _, _, h, _⟩ := h; exact h.elim, fun A outer s H args us vs Q E _ _ _ _ _ h => by obtain ⟨_, _, _, _, _, _, _, _, h, _⟩ := h; exact h.elim⟩, PySem.W.mg_of XK G a, kp, .all (hb kV doc pm an cdv ct), hkw kV doc pm an cdv ct⟩
end
/-! ### the law: its bag is made, and is drawn from -/
def noBag : Bag := { bv := (9, .non), B := fun _ => False, G := fun _ => True, dom := fun _ _ _ h => h.elim, loc := fun _ _ _ _ => trivial, sp := ⟨fun h => absurd h (by decide), fun h => absurd h (by decide)⟩ }
def ownBag (b l : Addr) (n : b ≠ l) : Bag where
  bv := (1, .ref b)
  B := fun a => a = b ∨ a = l
  G := fun H => ∃ (cs : List Int) (cur mixed : Int), (∀ c ∈ cs, 0 ≤ c) ∧ H b = some (.lst [.ref l, .int cur, .int mixed]) ∧ H l = some (.lst (cs.map V.int)) ∧ 0 ≤ cur ∧ 0 ≤ mixed ∧ mixed < 2147483647
  dom := fun H a ⟨cs, cur, mixed, _, e1, e2, _⟩ hb => by
    rcases hb with rfl | rfl
    · rw [e1]; rfl
    · rw [e2]; rfl
  loc := fun H H' hs ⟨cs, cur, mixed, q, e1, e2, r⟩ => ⟨cs, cur, mixed, q, (hs b (.inl rfl)).trans e1, (hs l (.inr rfl)).trans e2, r⟩
  sp := ⟨fun _ => ⟨b, l, fun cs => ∀ c ∈ cs, 0 ≤ c, rfl, n, fun a => Iff.rfl, fun cs ds p q c hc => p c (q.subset hc), fun cs p => p, fun H => Iff.rfl⟩, fun e => by cases e⟩
def lawSp (K : PySem.W.Frag) : Sp := fun vs H Q _ => ∃ (a : Addr) (ns : List Int), vs = [.ref a] ∧ ns.length ≤ 63 ∧ Only H ∧ SqL K H a (ns.map V.int) ∧ ∀ H', Q (.bl true) H'
/-- what a bag's maker keeps -/
def FOwn (K : PySem.W.Frag) : VS := fun ds Q => ds = [.scr K] ∧ ∀ (cells : List Int) (mixed : Int), (∀ c ∈ cells, 0 ≤ c) → 0 ≤ mixed → mixed < 2147483647 → Q (.fr [.lst (cells.map D.int), .int 0, .int mixed])
def FDraw : VS := fun ds Q => ∃ n : Int, ds = [.bag 1, .int n] ∧ 0 < n ∧ n.natAbs.log2 < 9000 ∧ ∀ r : Int, 0 ≤ r → r < n → Q (.sh (.int r))
theorem Rep.ofScr {bv N H} {K : PySem.W.Frag} {a : Addr} {ns : List Int} (o : Only H) (h : SqL K H a (ns.map V.int)) (hl : ns.length ≤ 63) (hn : ∀ a, ¬ N a) : Rep bv H N (.scr K) (.ref a) := by
  rcases h with (h | ⟨ob, h⟩) | h
  · rcases o a with e | ⟨_, _, e⟩ <;> rw [e] at h <;> cases h
  · exact .scrF h (hn a) hl
  · exact .scrK h hl
theorem law_ok {P : Program} {w : World} {K : PySem.W.Frag} {mg : Str → Option Value} {base : Heap} {x qual : Str} {st : Stmt} {f : Addr} {fd : FuncData} {C : Cxt} {n k ib : Nat} {w1 w2 : WS} {p : Str}
    (Fn : Fun K x qual st f fd) (S : FnScope C.N [p] (defScope st)) (hc1 : cSs C n ((defBody st).take 1) = some w1) (hc2 : cSs C n ((defBody st).drop 1) = some w2) (hsc : C.sc = defScope st) (hfn : C.fnb = fun _ => true) (hK : C.K = K) (G : GF P w K mg base C k)
    (h1 : w1 { nx := fun s => ∃ (cells : List Int) (mixed : Int), (∀ c ∈ cells, 0 ≤ c) ∧ 0 ≤ mixed ∧ mixed < 2147483647 ∧ s[ib]? = some (.ow [.lst (cells.map D.int), .int 0, .int mixed]), rt := fun _ => False } (begin C.N.length [.scr K]))
    (h2 : w2 { nx := fun _ => False, rt := fun r => r = .sh (.bl true) } ((List.replicate C.N.length .un).set ib (.sh (.bag 1)))) : FnG P w K mg base CX0 (k + 1) f fd [p] (lawSp K) := by
  refine fnG_of Fn S (fun vs H Q E h => ?_) fun cdv A outer s H vs Q E hgd hr h => ?_
  · obtain ⟨a, ns, rfl, _⟩ := h; rfl
  · obtain ⟨a, ns, rfl, hlen, only, script, hq⟩ := h
    have cf : CF (cxOf CX0 P w K mg base C.N qual (defScope st) f cdv A outer s H E).nox C k :=
      { hN := rfl, nd := S.nd, sc := hsc.symm, fn := hfn.symm, calm := rfl, room := hr, gd := hgd, K := hK.symm,
        bk := by
          show (if (defScope st).kind.isAnnotationScope then ScopeKind.function else (defScope st).kind) = .function
          rw [S.kind]; rfl
        bl := G.bl, md := G.md, gc := G.gc, fns := fun p hp => ⟨G.fns p hp⟩ }
    cases n with
    | zero => cases hc1
    | succ n =>
    cases hbd : defBody st with
    | nil =>
      rw [hbd] at hc2
      cases hc2
      exact h2.elim
    | cons s1 rest =>
      rw [hbd] at hc1 hc2
      obtain ⟨t1, p1, l1⟩ := ((sndS n).s cf PassesOwn.never (show cS C n s1 = some w1 from hc1)).ex
      obtain ⟨t2, p2, l2⟩ := ((sndS (n + 1)).ss cf PassesOwn.never (show cSs C (n + 1) rest = some w2 from hc2)).ex
      refine ⟨_, (pss_cons p1 p2).nox, ?_⟩
      have rep : Reps noBag.bv H (fun _ => False) [D.scr K] [V.ref a] := .cons (Rep.ofScr only script hlen fun _ => id) .nil
      obtain ⟨S0, e0⟩ := SR.start (g := noBag) C.N trivial (fun _ h => h) (fun _ h => h.elim) rep
      refine l1 noBag (fun _ => False) H (begin C.N.length [.scr K]) (L2.start C.N [.ref a]) [] H _ _ e0 S0 h1 ⟨fun s' σ' H1 e1 e2 S1 h => ?_, fun _ _ _ _ _ _ h => h.elim, fun _ _ _ _ _ _ h => h.elim, fun _ _ _ _ _ _ h => h.elim⟩
      obtain ⟨cells, mixed, q1, q2, q3, hs⟩ := h
      obtain ⟨v, hv, hm⟩ := zip_get' e1 hs
      obtain ⟨b, vs, e, _, _, hb, r, cb⟩ := S1.own_n (List.mem_append_left _ hm)
      subst e
      obtain ⟨l, rfl, nl, hl⟩ : ∃ l, vs = [.ref l, .int 0, .int mixed] ∧ ¬ Nn (fun _ => False) (s'.zip σ' ++ []) l ∧ H1 l = some (.lst (cells.map V.int)) := by
        cases r with
        | cons a1 r =>
          cases r with
          | cons a2 r =>
            cases r with
            | cons a3 r =>
              cases r
              cases a2
              cases a3
              cases a1 with
              | lst h1 h2 h3 => exact ⟨_, rfl, h2, by rw [h1, h3.ints]⟩
      have nbl : b ≠ l := fun z => nl (.inr (z ▸ cb))
      have hlen' : s'.length = C.N.length := by
        have := e2
        rw [e1, e2, ← e0]
        simp only [begin, List.length_append, List.length_map, List.length_replicate, List.length_cons, List.length_nil]
        have hp := congrArg List.length S.pre
        simp only [List.length_take, List.length_cons, List.length_nil] at hp
        omega
      have hib : ib < s'.length := (List.getElem?_eq_some_iff.mp hs).1
      let s2 : Sg := (List.replicate C.N.length Sl.un).set ib (.sh (.bag 1))
      have hs2 : s2.length = σ'.length := by simp [s2, ← hlen', e1]
      have zero : ∀ a, cnt a (s2.zip σ' ++ []) = 0 := fun a => by
        refine List.countP_eq_zero.mpr fun p hp => ?_
        rw [List.append_nil] at hp
        have := (List.of_mem_zip (show (p.1, p.2) ∈ s2.zip σ' from hp)).1
        rcases List.mem_or_eq_of_mem_set this with h | h
        · have := (List.mem_replicate.mp h).2
          unfold owns; rw [this]; simp
        · unfold owns; rw [h]; simp
      have S2 : SR (ownBag b l nbl) (fun a => a = b ∨ a = l) H1 (s2.zip σ' ++ []) H1 := {
        hg := ⟨cells, 0, mixed, q1, hb, hl, Int.le_refl _, q2, q3⟩
        sm := .refl _
        nd := fun a h => by
          rcases h with rfl | rfl
          · rw [hb]; rfl
          · rw [hl]; rfl
        bn := fun a h => h
        each := fun p hp => by
          rw [List.append_nil] at hp
          obtain ⟨i, hi⟩ := List.mem_iff_getElem?.mp hp
          rw [List.getElem?_zip_eq_some] at hi
          obtain ⟨i1, i2⟩ := hi
          obtain ⟨x, y⟩ := p
          by_cases hx : i = ib
          · subst hx
            rw [List.getElem?_set_self (by simp [← hlen', hib])] at i1
            rw [hv] at i2
            cases i1; cases i2
            exact ⟨_, rfl, .bag rfl⟩
          · rw [List.getElem?_set_ne (Ne.symm hx), List.getElem?_replicate] at i1
            split at i1
            · cases i1; exact trivial
            · cases i1
        dist := fun a => by rw [zero]; exact Nat.zero_le _ }
      refine l2 _ _ H1 s2 σ' [] H1 _ _ hs2 S2 h2 ⟨fun _ _ _ _ _ _ h => h.elim, fun _ _ _ _ _ _ h => h.elim, fun _ _ _ _ _ _ h => h.elim, fun r v H' L' S' _ h => ?_⟩
      subst h
      obtain ⟨u, e, rr⟩ := S'.each _ (List.mem_cons_self ..)
      cases e
      cases rr
      exact hq H'
end LV
namespace LV
open PySem PySem.Spec PyProof.Rows L2
/-! ### items, evaluated -/
section
variable {α : Type} {x y z u v : α} {xs : List α}
theorem at_0 : L2.atI (x :: xs) 0 = some x := atI_nat (j := 0) rfl
theorem at_1 : L2.atI (x :: y :: xs) 1 = some y := atI_nat (j := 1) rfl
theorem at_2 : L2.atI (x :: y :: z :: xs) 2 = some z := atI_nat (j := 2) rfl
theorem at_3 : L2.atI (x :: y :: z :: u :: xs) 3 = some u := atI_nat (j := 3) rfl
theorem at_m1a : L2.atI [x] (-1) = some x := rfl
theorem at_m1b : L2.atI [x, y] (-1) = some y := rfl
theorem at_m1c : L2.atI [x, y, z] (-1) = some z := rfl
theorem at_m1d : L2.atI [x, y, z, u] (-1) = some u := rfl
theorem at_m2b : L2.atI [x, y] (-2) = some x := rfl
theorem at_m2c : L2.atI [x, y, z] (-2) = some y := rfl
theorem at_m1 : L2.atI (xs ++ [x]) (-1) = some x := by
  unfold L2.atI
  have e : ixN (xs ++ [x]).length (-1) = some xs.length := by
    unfold ixN
    simp
    omega
  rw [e]; simp
theorem at_m2 : L2.atI (xs ++ [x, y]) (-2) = some x := by
  unfold L2.atI
  have e : ixN (xs ++ [x, y]).length (-2) = some xs.length := by
    unfold ixN
    simp
    omega
  rw [e]; simp
end
theorem eqD_int (i j : Int) : eqD (.int i) (.int j) = decide (i = j) := by
  show (i == j) = _
  exact Bool.beq_eq_decide_eq i j
theorem sha_int {i : Int} : sha (.int i) := rfl
/-! ### pairs of ints -/
abbrev fD (p : Int × Int) : D := .tup [.int p.1, .int p.2]
/-- below 2 ^ n -/
def sm (n : Nat) (i : Int) : Prop := i.natAbs < 2 ^ n
theorem toPys_map {α : Type} (f : α → D) : ∀ l : List α, toPys (l.map f) = l.map fun x => toPy (f x)
  | [] => rfl
  | x :: l => by simp [toPys, toPys_map f l]
theorem lay_pairs : ∀ l : List (Int × Int), PyData.canLayAll0 (toPys (l.map fD)) = true
  | [] => rfl
  | x :: l => lay_pairs l
theorem dep_pairs : ∀ l : List (Int × Int), PyData.depthAll (toPys (l.map fD)) ≤ 1
  | [] => Nat.zero_le _
  | x :: l => by
    have ih := dep_pairs l
    show max (PyData.depth (toPy (fD x))) (PyData.depthAll (toPys (l.map fD))) ≤ 1
    have : PyData.depth (toPy (fD x)) = 1 := rfl
    rw [this]
    exact Nat.max_le.mpr ⟨Nat.le_refl _, ih⟩
theorem sha_pairs (l : List (Int × Int)) : sha (.tup (l.map fD)) := by
  unfold sha SeqAt.shaped
  refine Bool.and_eq_true_iff.mpr ⟨lay_pairs l, decide_eq_true ?_⟩
  show PyData.depthAll (toPys (l.map fD)) + 1 ≤ 64
  have := dep_pairs l
  omega
theorem sha_pair (p : Int × Int) : sha (fD p) := rfl
theorem log_lt {i : Int} (h : sm 1900 i) : i.natAbs.log2 < 1920 := by
  by_cases e : i.natAbs = 0
  · rw [e]; decide
  · exact Nat.lt_trans ((Nat.log2_lt e).mpr h) (by decide)
theorem show_pairs : ∀ l : List (Int × Int), (∀ x ∈ l, sm 1900 x.1 ∧ sm 1900 x.2) → PyData.showableAll (toPys (l.map fD)) = true
  | [], _ => rfl
  | x :: l, h => by
    have h1 := h x (List.mem_cons_self ..)
    show ((decide (x.1.natAbs.log2 < 1920) && (decide (x.2.natAbs.log2 < 1920) && true)) && PyData.showableAll (toPys (l.map fD))) = true
    rw [show_pairs l fun y hy => h y (List.mem_cons_of_mem _ hy), decide_eq_true (log_lt h1.1), decide_eq_true (log_lt h1.2)]
    rfl
theorem int_short {a : Int} (h : sm 1900 a) : (PyData.shown (.int a)).length ≤ 1921 := by
  have e := int_text_length_le (k := 1920) (by decide) (log_lt h)
  show (Str.ofString (toString a)).length ≤ 1921
  rw [PySem.ofString_length]; omega
theorem short_pairs : ∀ l : List (Int × Int), (∀ x ∈ l, sm 1900 x.1 ∧ sm 1900 x.2) → PyData.leavesShortAll 1921 (toPys (l.map fD)) = true
  | [], _ => rfl
  | x :: l, h => by
    have h1 := h x (List.mem_cons_self ..)
    show ((decide ((PyData.shown (.int x.1)).length ≤ 1921) && (decide ((PyData.shown (.int x.2)).length ≤ 1921) && true)) && PyData.leavesShortAll 1921 (toPys (l.map fD))) = true
    rw [short_pairs l fun y hy => h y (List.mem_cons_of_mem _ hy), decide_eq_true (int_short h1.1), decide_eq_true (int_short h1.2)]
    rfl
theorem bulk_pairs : ∀ l : List (Int × Int), PyData.bulkAll (toPys (l.map fD)) = 3 * l.length
  | [] => rfl
  | x :: l => by
    show 2 + 1 + PyData.bulkAll (toPys (l.map fD)) = 3 * (l.length + 1)
    rw [bulk_pairs l]; omega
theorem len_pairs (l : List (Int × Int)) (hl : l.length ≤ 1000) (h : ∀ x ∈ l, sm 1900 x.1 ∧ sm 1900 x.2) : (toPy (.tup (l.map fD))).shown.length ≤ sizeLine := by
  have e := PyData.shown_le_bulk 1921 (by decide) (toPy (.tup (l.map fD))) (short_pairs l h)
  have b : (toPy (.tup (l.map fD))).bulk = 3 * l.length := bulk_pairs l
  rw [b] at e
  rw [sizeLine_eq]
  omega
/-- what repr asks of a tuple of pairs -/
theorem repr_pairs {l : List (Int × Int)} {Q : RV → Prop} (hl : l.length ≤ 1000) (h : ∀ x ∈ l, sm 1900 x.1 ∧ sm 1900 x.2) (q : Q (.sh (.str (toPy (.tup (l.map fD))).shown))) : fRepr [.tup (l.map fD)] Q :=
  ⟨sha_pairs l, show_pairs l h, len_pairs l hl h, q⟩
theorem repr_pair {p : Int × Int} {Q : RV → Prop} (h : sm 1900 p.1 ∧ sm 1900 p.2) (q : Q (.sh (.str (toPy (fD p)).shown))) : fRepr [fD p] Q := by
  refine ⟨sha_pair p, ?_, ?_, q⟩
  · show (decide (p.1.natAbs.log2 < 1920) && (decide (p.2.natAbs.log2 < 1920) && true)) = true
    rw [decide_eq_true (log_lt h.1), decide_eq_true (log_lt h.2)]; rfl
  · have e := PyData.shown_le_bulk 1921 (by decide) (toPy (fD p)) (by
      show (decide ((PyData.shown (.int p.1)).length ≤ 1921) && (decide ((PyData.shown (.int p.2)).length ≤ 1921) && true)) = true
      rw [decide_eq_true (int_short h.1), decide_eq_true (int_short h.2)]; rfl)
    have b : (toPy (fD p)).bulk = 2 := rfl
    rw [b] at e
    rw [sizeLine_eq]
    omega
theorem repr_bl {b : Bool} {Q : RV → Prop} (q : Q (.sh (.str (toPy (.bl b)).shown))) : fRepr [.bl b] Q := by
  refine ⟨rfl, rfl, ?_, q⟩
  rw [sizeLine_eq]
  cases b <;> decide
/-! ### small ranges, small numbers -/
theorem zr_0 : zRng1 [.int 0] = some [] := rfl
theorem zr_1 : zRng1 [.int 1] = some [.int 0] := rfl
theorem zr_2 : zRng1 [.int 2] = some [.int 0, .int 1] := rfl
theorem zr_3 : zRng1 [.int 3] = some [.int 0, .int 1, .int 2] := rfl
theorem zr_4 : zRng1 [.int 4] = some [.int 0, .int 1, .int 2, .int 3] := rfl
theorem nc_0 : ((0 : Nat) : Int) = 0 := rfl
theorem nc_1 : ((1 : Nat) : Int) = 1 := rfl
theorem nc_2 : ((2 : Nat) : Int) = 2 := rfl
theorem nc_3 : ((3 : Nat) : Int) = 3 := rfl
theorem nc_4 : ((4 : Nat) : Int) = 4 := rfl
/-! ### folds of loops -/
theorem seq_cut {a b : WS} {K : LK} {s : Sg} (J : Sg → Prop) (h1 : ∀ nx : Sg → Prop, (∀ s, J s → nx s) → a { K with nx := nx } s) (h2 : ∀ s, J s → b K s) : wSeq a b K s := h1 _ h2
theorem cut_map {α : Type} (f : α → D) (l : List α) (lo hi : Option Int) : ∃ m : List α, cutD (l.map f) lo hi = m.map f ∧ m.length ≤ l.length ∧ ∀ x ∈ m, x ∈ l := by
  unfold cutD
  rw [List.length_map, ← List.map_drop, ← List.map_take]
  refine ⟨_, rfl, ?_, fun x hx => ?_⟩
  · rw [List.length_take, List.length_drop]; omega
  · exact List.mem_of_mem_drop (List.mem_of_mem_take hx)
/-- the bag's loop, by what holds at its head -/
theorem bagw {i j : Nat} {wt : WT} {wb : WS} {K : LK} {s : Sg} (I : Sg → Prop) (hI : I s) (hb : ∀ s, I s → s[i]? = some (.sh (.bag 1))) (hn : ∀ s, I s → K.nx s) (hw : ∀ s, I s → wt s fun b s1 => (I s1 ∧ (b = true → j < s1.length ∧ ∀ v : Int, 0 ≤ v → wb { nx := I, rt := fun _ => False } (s1.set j (.sh (.int v)))))) (mono : ∀ s (Q1 Q2 : Bool → Sg → Prop), (∀ b s, Q1 b s → Q2 b s) → wt s Q1 → wt s Q2) :
    wBagW i j wt wb K s := ⟨I, hI, fun s h => ⟨hb s h, mono s _ _ (fun b s1 ⟨h1, h2⟩ => ⟨hb s1 h1, hn s1 h1, h2⟩) (hw s h)⟩⟩
/-- a loop's promise, by an invariant along the items -/
theorem forL {α : Type} {wg : WG} {wb : WS} {K : LK} (f : α → D) (J : List α → List α → Sg → Prop)
    (hs : ∀ done x rest s (nx : Sg → Prop), J done (x :: rest) s → (∀ s', J (done ++ [x]) rest s' → nx s') → wg (f x) s fun s1 => wb { K with nx := nx, ct := nx, bk := K.nx } s1) (he : ∀ done s, J done [] s → K.nx s) :
    ∀ (rest done : List α) (s : Sg), J done rest s → wForL wg wb K (rest.map f) s
  | [], done, s, h => he done s h
  | x :: rest, done, s, h => hs done x rest s _ h fun s' h' => forL f J hs he rest (done ++ [x]) s' h'
/-- .. of the items themselves -/
theorem forD {wg : WG} {wb : WS} {K : LK} (J : List D → List D → Sg → Prop)
    (hs : ∀ done x rest s (nx : Sg → Prop), J done (x :: rest) s → (∀ s', J (done ++ [x]) rest s' → nx s') → wg x s fun s1 => wb { K with nx := nx, ct := nx, bk := K.nx } s1) (he : ∀ done s, J done [] s → K.nx s) :
    ∀ (rest done : List D) (s : Sg), J done rest s → wForL wg wb K rest s
  | [], done, s, h => he done s h
  | x :: rest, done, s, h => hs done x rest s _ h fun s' h' => forD J hs he rest (done ++ [x]) s' h'
/-- .. of a comprehension without a test; the items' values may depend on what is told -/
theorem lcL {α : Type} {rs : List RV} {srcs : List D} {own : List Nat} {wg : WG} {we : WE} {Q : RV → Sg → Prop} (f : α → D) (J : List α → List α → List D → Sg → Prop)
    (hs : ∀ done x rest acc s (nx : D → Sg → Prop), J done (x :: rest) acc s → (∀ e s', J (done ++ [x]) rest (acc ++ [e]) (backS s own s') → nx e (backS s own s')) →
      rdL s rs (fun ds => ds = srcs) ∧ acc.length < 16777216 ∧ own.all (fun i => notOw (s.getD i .un)) = true ∧ wg (f x) (wipeS own s) fun s1 => we s1 fun r s3 => fzW s3 r fun e s4 => nx e (backS s own s4))
    (he : ∀ done acc s, J done [] acc s → rdL s rs (fun ds => ds = srcs) ∧ Q (.fr acc) s) :
    ∀ (rest done : List α) (acc : List D) (s : Sg), J done rest acc s → wLcL rs srcs own wg wYes we Q (rest.map f) acc s
  | [], done, acc, s, h => he done acc s h
  | x :: rest, done, acc, s, h => by
    have q := hs done x rest acc s (fun e s' => wLcL rs srcs own wg wYes we Q (rest.map f) (acc ++ [e]) s') h fun e s' h' => lcL f J hs he rest (done ++ [x]) (acc ++ [e]) _ h'
    exact ⟨q.1, q.2.1, q.2.2.1, q.2.2.2⟩
end LV
namespace LV
/-! ### fractions by themselves -/
abbrev Fr := Int × Int
/-- a / b in lowest terms -/
def low (a b : Int) : Fr := if 0 < b then (a.fdiv (Int.gcd a b), b.fdiv (Int.gcd a b)) else (a.fdiv (-(Int.gcd a b : Int)), b.fdiv (-(Int.gcd a b : Int)))
/-- x is A / B in lowest terms -/
structure Low (x : Fr) (A B : Int) : Prop where
  pos : 0 < x.2
  cop : Int.gcd x.1 x.2 = 1
  eq : x.1 * B = A * x.2
theorem cop_div {a b : Int} (h : b ≠ 0) : ∃ x y : Int, a = Int.gcd a b * x ∧ b = Int.gcd a b * y ∧ Int.gcd x y = 1 := by
  have h0 : 0 < Int.gcd a b := Int.gcd_pos_of_ne_zero_right _ h
  obtain ⟨x, hx⟩ := Int.gcd_dvd_left a b
  obtain ⟨y, hy⟩ := Int.gcd_dvd_right a b
  refine ⟨x, y, hx, hy, ?_⟩
  have h1 : Int.gcd a b = Int.gcd a b * Int.gcd x y := by
    have := Int.gcd_mul_left (Int.gcd a b : Int) x y
    rw [← hx, ← hy] at this
    simpa using this
  have : Int.gcd a b * 1 = Int.gcd a b * Int.gcd x y := by omega
  exact (Nat.eq_of_mul_eq_mul_left h0 this).symm
theorem low_ok (a b : Int) (h : b ≠ 0) : Low (low a b) a b := by
  have h0 : 0 < Int.gcd a b := Int.gcd_pos_of_ne_zero_right _ h
  obtain ⟨x, y, hx, hy, hc⟩ := cop_div (a := a) h
  have g0 : (Int.gcd a b : Int) ≠ 0 := by omega
  have gp : (0 : Int) < (Int.gcd a b : Int) := by omega
  unfold low
  generalize Int.gcd a b = g at *
  split
  · rename_i hb
    have e1 : a.fdiv g = x := by rw [hx]; exact Int.mul_fdiv_cancel_left _ g0
    have e2 : b.fdiv g = y := by rw [hy]; exact Int.mul_fdiv_cancel_left _ g0
    rw [e1, e2]
    refine ⟨?_, hc, ?_⟩
    · rw [hy] at hb
      exact Int.pos_of_mul_pos_right hb gp
    · show x * b = a * y
      rw [hx, hy]; grind
  · rename_i hb
    have e1 : a.fdiv (-(g : Int)) = -x := by
      have : a = -(g : Int) * -x := by rw [hx]; grind
      rw [this]; exact Int.mul_fdiv_cancel_left _ (by omega)
    have e2 : b.fdiv (-(g : Int)) = -y := by
      have : b = -(g : Int) * -y := by rw [hy]; grind
      rw [this]; exact Int.mul_fdiv_cancel_left _ (by omega)
    rw [e1, e2]
    refine ⟨?_, ?_, ?_⟩
    · have hb' : 0 < (g : Int) * -y := by
        have : (g : Int) * -y = -b := by rw [hy]; grind
        omega
      exact Int.pos_of_mul_pos_right hb' gp
    · show Int.gcd (-x) (-y) = 1
      rw [Int.gcd_neg, Int.neg_gcd]; exact hc
    · show -x * b = a * -y
      rw [hx, hy]; grind
theorem dvd_cop {a b c : Int} (h : a ∣ b * c) (g : Int.gcd a b = 1) : a ∣ c := by
  rw [← Int.natAbs_dvd_natAbs] at h ⊢
  rw [Int.natAbs_mul] at h
  exact Nat.Coprime.dvd_of_dvd_mul_left (show Nat.gcd a.natAbs b.natAbs = 1 from g) h
theorem Low.dvd2 {x : Fr} {A B : Int} (h : Low x A B) : x.2 ∣ B := by
  have : x.2 ∣ x.1 * B := ⟨A, by rw [h.eq]; grind⟩
  exact dvd_cop this (by rw [Int.gcd_comm]; exact h.cop)
theorem Low.dvd1 {x : Fr} {A B : Int} (h : Low x A B) : x.1 ∣ A := by
  have : x.1 ∣ A * x.2 := ⟨B, by rw [← h.eq]⟩
  rw [Int.mul_comm] at this
  exact dvd_cop this h.cop
theorem Low.le2 {x : Fr} {A B : Int} (h : Low x A B) (hB : B ≠ 0) : x.2.natAbs ≤ B.natAbs := Nat.le_of_dvd (by omega) (Int.natAbs_dvd_natAbs.mpr h.dvd2)
theorem Low.le1 {x : Fr} {A B : Int} (h : Low x A B) (hB : B ≠ 0) : x.1.natAbs ≤ A.natAbs := by
  by_cases hA : A = 0
  · have := h.eq
    rw [hA, Int.zero_mul] at this
    rcases Int.mul_eq_zero.mp this with e | e
    · rw [e]; exact Nat.zero_le _
    · exact absurd e hB
  · exact Nat.le_of_dvd (by omega) (Int.natAbs_dvd_natAbs.mpr h.dvd1)
theorem Low.uniq {x y : Fr} {A B C D : Int} (h : Low x A B) (k : Low y C D) (hB : B ≠ 0) (hD : D ≠ 0) (e : A * D = C * B) : x = y := by
  have cross : x.1 * y.2 = y.1 * x.2 := by
    have e1 := h.eq
    have e2 := k.eq
    have hBD : B * D ≠ 0 := fun z => (Int.mul_eq_zero.mp z).elim hB hD
    refine Int.eq_of_mul_eq_mul_right hBD ?_
    have : x.1 * y.2 * (B * D) = (x.1 * B) * (y.2 * D) := by grind
    rw [this, e1]
    have : A * x.2 * (y.2 * D) = (A * D) * (x.2 * y.2) := by grind
    rw [this, e]
    have : y.1 * x.2 * (B * D) = (y.1 * D) * (x.2 * B) := by grind
    rw [this, e2]; grind
  have d1 : x.2 ∣ y.2 := dvd_cop (⟨y.1, by rw [cross]; grind⟩ : x.2 ∣ x.1 * y.2) (by rw [Int.gcd_comm]; exact h.cop)
  have d2 : y.2 ∣ x.2 := dvd_cop (⟨x.1, by rw [← cross]; grind⟩ : y.2 ∣ y.1 * x.2) (by rw [Int.gcd_comm]; exact k.cop)
  have e2 : x.2 = y.2 := by
    have a1 := Int.le_of_dvd k.pos d1
    have a2 := Int.le_of_dvd h.pos d2
    omega
  have e1 : x.1 = y.1 := by
    rw [e2] at cross
    exact Int.eq_of_mul_eq_mul_right (by have := k.pos; omega) cross
  exact Prod.ext e1 e2
theorem sm.mono {n m : Nat} {i : Int} (h : sm n i) (hm : n ≤ m) : sm m i := Nat.lt_of_lt_of_le h (Nat.pow_le_pow_right (by decide) hm)
theorem sm.le {n : Nat} {i j : Int} (h : sm n i) (hj : j.natAbs ≤ i.natAbs) : sm n j := Nat.lt_of_le_of_lt hj h
theorem sm.mul {n m : Nat} {i j : Int} (h : sm n i) (k : sm m j) : sm (n + m) (i * j) := by
  unfold sm at *
  rw [Int.natAbs_mul, Nat.pow_add]
  exact Nat.mul_lt_mul_of_lt_of_lt h k
theorem sm.add {n : Nat} {i j : Int} (h : sm n i) (k : sm n j) : sm (n + 1) (i + j) := by
  unfold sm at *
  have := Int.natAbs_add_le i j
  rw [Nat.pow_succ]; omega
theorem sm.neg {n : Nat} {i : Int} (h : sm n i) : sm n (-i) := by unfold sm at *; rw [Int.natAbs_neg]; exact h
theorem sm.sub {n : Nat} {i j : Int} (h : sm n i) (k : sm n j) : sm (n + 1) (i - j) := by
  rw [Int.sub_eq_add_neg]; exact h.add k.neg
theorem sm.log {n : Nat} {i : Int} (h : sm n i) : i.natAbs.log2 ≤ n := by
  by_cases e : i.natAbs = 0
  · rw [e]; exact Nat.zero_le _
  · exact Nat.le_of_lt ((Nat.log2_lt e).mpr h)
theorem sm.of {n m : Nat} {i : Int} (h : i.natAbs < m) (hm : m ≤ 2 ^ n) : sm n i := Nat.lt_of_lt_of_le h hm
theorem sm.mulW {n m : Nat} {i j : Int} (h : sm n i) (k : sm m j) (hl : n + m < 1000000) : L2.CMulW i j := by
  have := h.log
  have := k.log
  show i.natAbs.log2 + j.natAbs.log2 < 1000000
  omega
theorem sm.divA {n : Nat} {i j : Int} (k : sm n j) (h0 : j ≠ 0) (hn : n < 9000) : CDivA i j := ⟨h0, .inl (Nat.lt_of_le_of_lt k.log hn)⟩
end LV
namespace LV
/-! ### fractions as rationals -/
abbrev fQ (q : Rat) : D := .tup [.int q.num, .int ((q.den : Nat) : Int)]
theorem den_nd (q : Rat) : q * ((q.den : Int) : Rat) = (q.num : Rat) := by
  have h := Rat.num_divInt_den q
  rw [Rat.divInt_eq_div] at h
  have hd : ((q.den : Int) : Rat) ≠ 0 := by
    have := q.den_nz
    intro e
    exact this (by simpa using e)
  have := Rat.div_mul_cancel (a := (q.num : Rat)) hd
  rw [h] at this
  exact this
theorem den_ne (q : Rat) : ((q.den : Int) : Rat) ≠ 0 := by
  have := q.den_nz
  intro e
  exact this (by simpa using e)
theorem den_ne' (q : Rat) : ((q.den : Nat) : Int) ≠ 0 := by
  have := q.den_nz
  omega
theorem den_pos' (q : Rat) : (0 : Int) < ((q.den : Nat) : Int) := by
  have := q.den_nz
  omega
theorem i2r {a b : Int} (h : (a : Rat) = (b : Rat)) : a = b := by simpa using h
theorem i2r_ne {a : Int} (h : a ≠ 0) : (a : Rat) ≠ 0 := fun e => h (by simpa using e)
theorem rat_low {q : Rat} {a b : Int} (h : q * (b : Rat) = (a : Rat)) : Low (q.num, ((q.den : Nat) : Int)) a b := by
  refine ⟨den_pos' q, q.reduced, i2r ?_⟩
  have := den_nd q
  show ((q.num * b : Int) : Rat) = ((a * (q.den : Int) : Int) : Rat)
  push_cast at this ⊢
  rw [← this, ← h]
  grind
theorem quo {a b : Int} (hb : b ≠ 0) : ((a : Rat) / (b : Rat)) * (b : Rat) = (a : Rat) := Rat.div_mul_cancel (i2r_ne hb)
theorem low_q {a b : Int} (hb : b ≠ 0) : low a b = (((a : Rat) / (b : Rat)).num, ((((a : Rat) / (b : Rat)).den : Nat) : Int)) := (low_ok a b hb).uniq (rat_low (quo hb)) hb hb rfl
/-- a quotient by what it is worth -/
theorem qeq {r : Rat} {a b : Int} (hb : b ≠ 0) (h : r * (b : Rat) = (a : Rat)) : (a : Rat) / (b : Rat) = r := by
  have := i2r_ne hb
  rw [← h]; exact Rat.mul_div_cancel this
/-- both parts below 2 ^ n -/
structure Sz (n : Nat) (q : Rat) : Prop where
  a : sm n q.num
  b : sm n ((q.den : Nat) : Int)
section
variable {n m : Nat} {p q : Rat} {a b : Int}
theorem Sz.mono (h : Sz n q) (hm : n ≤ m) : Sz m q := ⟨h.a.mono hm, h.b.mono hm⟩
theorem Sz.of (h : q * (b : Rat) = (a : Rat)) (hb : b ≠ 0) (sa : sm n a) (sb : sm n b) : Sz n q := by
  have l := rat_low h
  exact ⟨sa.le (l.le1 hb), sb.le (l.le2 hb)⟩
theorem Sz.quo (hb : b ≠ 0) (sa : sm n a) (sb : sm n b) : Sz n ((a : Rat) / (b : Rat)) := .of (LV.quo hb) hb sa sb
theorem Sz.add (h : Sz n p) (k : Sz m q) : Sz (n + m + 1) (p + q) := by
  refine .of (a := p.num * (q.den : Int) + q.num * (p.den : Int)) (b := (p.den : Int) * (q.den : Int)) ?_ (Int.mul_ne_zero (den_ne' p) (den_ne' q)) ?_ ?_
  · have h1 := den_nd p
    have h2 := den_nd q
    push_cast at *
    rw [← h1, ← h2]; grind
  · exact (h.a.mul k.b).add ((k.a.mul h.b).mono (by omega))
  · exact (h.b.mul k.b).mono (by omega)
theorem Sz.mul (h : Sz n p) (k : Sz m q) : Sz (n + m) (p * q) := by
  refine .of (a := p.num * q.num) (b := (p.den : Int) * (q.den : Int)) ?_ (Int.mul_ne_zero (den_ne' p) (den_ne' q)) (h.a.mul k.a) (h.b.mul k.b)
  have h1 := den_nd p
  have h2 := den_nd q
  push_cast at *
  rw [← h1, ← h2]; grind
theorem Sz.neg (h : Sz n p) : Sz n (-p) := ⟨h.a.neg, h.b⟩
theorem Sz.sub (h : Sz n p) (k : Sz m q) : Sz (n + m + 1) (p - q) := by
  rw [Rat.sub_eq_add_neg]; exact h.add k.neg
theorem Sz.div (h : Sz n p) (k : Sz m q) (h0 : q ≠ 0) : Sz (n + m) (p / q) := by
  have hn : q.num ≠ 0 := fun e => h0 (Rat.num_eq_zero.mp e)
  refine .of (a := p.num * (q.den : Int)) (b := (p.den : Int) * q.num) ?_ (Int.mul_ne_zero (den_ne' p) hn) (h.a.mul k.b) (h.b.mul k.a)
  have h1 := den_nd p
  have h2 := den_nd q
  have h3 := Rat.div_mul_cancel (a := p) h0
  push_cast at *
  rw [← h1, ← h2]; grind
theorem sm.one (h : 1 ≤ n) : sm n 1 := by
  have : 2 ^ 1 ≤ 2 ^ n := Nat.pow_le_pow_right (by decide) h
  show 1 < 2 ^ n
  omega
theorem Sz.int (h : sm n a) (h1 : 1 ≤ n) : Sz n (a : Rat) := ⟨h, .one h1⟩
theorem Sz.zero (h1 : 1 ≤ n) : Sz n 0 := ⟨Nat.pow_pos (by decide), .one h1⟩
end
theorem fQ_inj {p q : Rat} (h : fQ p = fQ q) : p = q := by
  injection h with h
  injection h with h1 h2
  injection h1 with h1
  injection h2 with h2 h3
  injection h2 with h2
  exact Rat.ext h1 (by omega)
/-! comparing by crosswise products -/
theorem lt_cross (p q : Rat) : p < q ↔ p.num * (q.den : Int) < q.num * (p.den : Int) := Rat.lt_iff p q
theorem le_cross (p q : Rat) : p ≤ q ↔ p.num * (q.den : Int) ≤ q.num * (p.den : Int) := Rat.le_iff p q
theorem num0 {q : Rat} : q.num = 0 ↔ q = 0 := Rat.num_eq_zero
end LV
namespace LV
open PySem PySem.Spec PyProof.Rows L2
/-! ### rows of fractions as whole numbers -/
abbrev lQ (l : List Rat) : D := .lst (l.map fQ)
abbrev tQ (l : List Rat) : D := .tup (l.map fQ)
/-- the integer below: the least that all divide -/
def wB : List Rat → Nat
  | [] => 1
  | x :: l => Nat.lcm x.den (wB l)
def wBf (b : Nat) : List Rat → Nat
  | [] => b
  | x :: l => wBf (Nat.lcm b x.den) l
theorem wBf_eq : ∀ (l : List Rat) (b : Nat), wBf b l = Nat.lcm b (wB l)
  | [], b => by simp [wBf, wB]
  | x :: l, b => by simp only [wBf, wB]; rw [wBf_eq l, Nat.lcm_assoc]
theorem wB_pos : ∀ l : List Rat, 0 < wB l
  | [] => by decide
  | x :: l => Nat.lcm_pos (Nat.pos_of_ne_zero x.den_nz) (wB_pos l)
theorem wB_dvd : ∀ {l : List Rat} {x : Rat}, x ∈ l → x.den ∣ wB l
  | y :: l, x, h => by
    rcases List.mem_cons.mp h with e | h
    · subst e; exact Nat.dvd_lcm_left _ _
    · exact Nat.dvd_trans (wB_dvd h) (Nat.dvd_lcm_right _ _)
theorem wB_least : ∀ {l : List Rat} {D : Nat}, (∀ x ∈ l, x.den ∣ D) → wB l ∣ D
  | [], D, _ => Nat.one_dvd D
  | x :: l, D, h => Nat.lcm_dvd (h x (List.mem_cons_self ..)) (wB_least fun y hy => h y (List.mem_cons_of_mem _ hy))
/-- one item as a whole number -/
def wN (B : Nat) (x : Rat) : Int := x.num * ((B / x.den : Nat) : Int)
def wI (l : List Rat) : List Int := l.map (wN (wB l))
theorem wN_ok {B : Nat} {x : Rat} (h : x.den ∣ B) : x * (B : Rat) = ((wN B x : Int) : Rat) := by
  obtain ⟨k, rfl⟩ := h
  have h1 := den_nd x
  unfold wN
  rw [Nat.mul_div_cancel_left _ (Nat.pos_of_ne_zero x.den_nz)]
  push_cast at *
  rw [← h1]; grind
theorem wN_mem {l : List Rat} {x : Rat} (h : x ∈ l) : x * (wB l : Rat) = ((wN (wB l) x : Int) : Rat) := wN_ok (wB_dvd h)
/-- all items are integers below 2 ^ n over one integer below 2 ^ n -/
def Cd (n : Nat) (l : List Rat) : Prop := sm n (wB l : Int) ∧ ∀ x ∈ l, sm n (wN (wB l) x)
theorem Cd.mono {n m : Nat} {l : List Rat} (h : Cd n l) (hm : n ≤ m) : Cd m l := ⟨h.1.mono hm, fun x hx => (h.2 x hx).mono hm⟩
/-- a common divisor: x * D is an integer, at most M -/
def Bd (D M : Nat) (l : List Rat) : Prop := ∀ x ∈ l, ∃ a : Int, x * (D : Rat) = (a : Rat) ∧ a.natAbs ≤ M
theorem dvd_of {x : Rat} {D : Nat} {a : Int} (h : x * (D : Rat) = (a : Rat)) (hD : 0 < D) : x.den ∣ D := by
  have l := rat_low (q := x) (a := a) (b := (D : Int)) (by push_cast; exact h)
  have := l.dvd2
  simpa using Int.natAbs_dvd_natAbs.mpr this
theorem Bd.cd {D M n : Nat} {l : List Rat} (h : Bd D M l) (hD : 0 < D) (h1 : D < 2 ^ n) (h2 : M < 2 ^ n) : Cd n l := by
  have hd : wB l ∣ D := wB_least fun x hx => by
    obtain ⟨a, ha, _⟩ := h x hx
    exact dvd_of ha hD
  refine ⟨?_, fun x hx => ?_⟩
  · show (wB l : Int).natAbs < 2 ^ n
    rw [Int.natAbs_natCast]
    exact Nat.lt_of_le_of_lt (Nat.le_of_dvd hD hd) h1
  · obtain ⟨k, hk⟩ := hd
    obtain ⟨a, ha, hM⟩ := h x hx
    have e := wN_mem hx
    have hk0 : 0 < k := by
      rcases Nat.eq_zero_or_pos k with z | z
      · subst z; omega
      · exact z
    have : wN (wB l) x * (k : Int) = a := i2r (by
      rw [hk] at ha
      push_cast at *
      rw [← e, ← ha]; grind)
    show (wN (wB l) x).natAbs < 2 ^ n
    have : (wN (wB l) x).natAbs * k = a.natAbs := by rw [← this, Int.natAbs_mul, Int.natAbs_natCast]
    have : (wN (wB l) x).natAbs * 1 ≤ (wN (wB l) x).natAbs * k := Nat.mul_le_mul_left _ hk0
    omega
theorem Bd.sz {D M n : Nat} {l : List Rat} (h : Bd D M l) (hD : 0 < D) (h1 : D < 2 ^ n) (h2 : M < 2 ^ n) : ∀ x ∈ l, Sz n x := fun x hx => by
  obtain ⟨a, ha, hM⟩ := h x hx
  refine .of (a := a) (b := (D : Int)) (by push_cast; exact ha) (by omega) ?_ ?_
  · exact Nat.lt_of_le_of_lt hM h2
  · show (D : Int).natAbs < 2 ^ n
    rw [Int.natAbs_natCast]; exact h1
/-- out of the sizes alone -/
theorem wB_le {n : Nat} : ∀ {l : List Rat}, (∀ x ∈ l, Sz n x) → wB l ≤ (2 ^ n) ^ l.length
  | [], _ => Nat.le_refl _
  | x :: l, h => by
    have h1 := (h x (List.mem_cons_self ..)).b
    have h1 : x.den < 2 ^ n := by simpa [sm] using h1
    have h2 := wB_le fun y hy => h y (List.mem_cons_of_mem _ hy)
    have h3 : Nat.lcm x.den (wB l) ≤ x.den * wB l := Nat.le_of_dvd (Nat.mul_pos (Nat.pos_of_ne_zero x.den_nz) (wB_pos l)) (Nat.lcm_dvd_mul _ _)
    show Nat.lcm x.den (wB l) ≤ (2 ^ n) ^ (l.length + 1)
    rw [Nat.pow_succ, Nat.mul_comm ((2 ^ n) ^ l.length)]
    exact Nat.le_trans h3 (Nat.mul_le_mul (Nat.le_of_lt h1) h2)
theorem Cd.of {n m : Nat} {l : List Rat} (h : ∀ x ∈ l, Sz n x) (hm : n * (l.length + 1) < m) : Cd m l := by
  have h1 := wB_le h
  have e : (2 ^ n) ^ l.length = 2 ^ (n * l.length) := (Nat.pow_mul 2 n l.length).symm
  rw [e] at h1
  have h2 : 2 ^ (n * l.length) < 2 ^ m := Nat.pow_lt_pow_right (by decide) (by rw [Nat.mul_add] at hm; omega)
  refine ⟨?_, fun x hx => ?_⟩
  · show (wB l : Int).natAbs < 2 ^ m
    rw [Int.natAbs_natCast]
    omega
  · have h3 : x.num.natAbs < 2 ^ n := (h x hx).a
    show (wN (wB l) x).natAbs < 2 ^ m
    unfold wN
    rw [Int.natAbs_mul, Int.natAbs_natCast]
    have h4 : wB l / x.den ≤ 2 ^ (n * l.length) := Nat.le_trans (Nat.div_le_self _ _) h1
    have h5 : x.num.natAbs * (wB l / x.den) ≤ 2 ^ n * 2 ^ (n * l.length) := Nat.mul_le_mul (Nat.le_of_lt h3) h4
    rw [← Nat.pow_add] at h5
    have h6 : 2 ^ (n + n * l.length) < 2 ^ m := Nat.pow_lt_pow_right (by decide) (by rw [Nat.mul_add] at hm; omega)
    omega
/-! sums -/
theorem sm.sum {n : Nat} : ∀ {l : List Int}, (∀ x ∈ l, sm n x) → sm (n + l.length) l.sum
  | [], _ => by show (0 : Int).natAbs < 2 ^ (n + 0); exact Nat.pow_pos (by decide)
  | x :: l, h => by
    have h1 := (h x (List.mem_cons_self ..)).mono (by omega : n ≤ n + l.length)
    have h2 := sm.sum fun y hy => h y (List.mem_cons_of_mem _ hy)
    have := h1.add h2
    rw [List.sum_cons, List.length_cons]
    exact this.mono (by omega)
theorem sum_cast : ∀ l : List Int, ((l.sum : Int) : Rat) = (l.map fun (x : Int) => (x : Rat)).sum
  | [] => rfl
  | x :: l => by simp only [List.sum_cons, List.map_cons]; push_cast; rw [sum_cast l]
theorem sum_mulr (c : Rat) : ∀ l : List Rat, (l.map fun x => x * c).sum = l.sum * c
  | [] => by simp
  | x :: l => by simp only [List.sum_cons, List.map_cons]; rw [sum_mulr c l]; grind
/-! ### loops -/
/-- a comprehension whose step tells g of the item and changes nothing -/
theorem lcMap {α : Type} {rs : List RV} {srcs : List D} {own : List Nat} {wg : WG} {we : WE} {Q : RV → Sg → Prop} (f g : α → D) (l : List α) {s : Sg} (h0 : rdL s rs (fun ds => ds = srcs)) (hl : l.length < 16777216) (hno : own.all (fun i => notOw (s.getD i .un)) = true)
    (hb : ∀ x ∈ l, ∀ R : RV → Sg → Prop, (∀ s4, backS s own s4 = s → R (.sh (g x)) s4) → wg (f x) (wipeS own s) fun s1 => we s1 R) (hQ : Q (.fr (l.map g)) s) : wLcL rs srcs own wg wYes we Q (l.map f) [] s := by
  refine lcL f (fun done rest acc s' => done ++ rest = l ∧ acc = done.map g ∧ s' = s) ?_ ?_ l [] [] s ⟨rfl, rfl, rfl⟩
  · rintro done x rest acc s' nx ⟨e, rfl, rfl⟩ hn
    refine ⟨h0, ?_, hno, ?_⟩
    · rw [List.length_map]
      have := congrArg List.length e
      rw [List.length_append] at this
      omega
    · refine hb x (by rw [← e]; simp) _ fun s4 hs => ?_
      show fzW s4 (.sh (g x)) _
      have := hn (g x) s4 ⟨by simpa using e, by simp, hs⟩
      exact this
  · rintro done acc s' ⟨e, rfl, rfl⟩
    rw [List.append_nil] at e
    subst e
    exact ⟨h0, hQ⟩
/-- .. with a test -/
theorem lcFil {α : Type} {rs : List RV} {srcs : List D} {own : List Nat} {wg : WG} {wt : WT} {we : WE} {Q : RV → Sg → Prop} (f g : α → D) (t : α → Bool) {s : Sg} (h0 : rdL s rs (fun ds => ds = srcs)) (hno : own.all (fun i => notOw (s.getD i .un)) = true) :
    ∀ (l : List α) (acc : List D), l.length + acc.length < 16777216 → (∀ x ∈ l, ∀ R R' : Sg → Prop, (∀ s4, backS s own s4 = s → R s4) → (∀ s4, backS s own s4 = s → R' s4) → wg (f x) (wipeS own s) fun s1 => wt s1 fun b s2 => if b = true then t x = true ∧ we s2 (fun r s3 => r = .sh (g x) ∧ R s3) else t x = false ∧ R' s2) →
      (∀ s1 (Q1 Q2 : Bool → Sg → Prop), (∀ b s, Q1 b s → Q2 b s) → wt s1 Q1 → wt s1 Q2) → (∀ s1 (Q1 Q2 : RV → Sg → Prop), (∀ b s, Q1 b s → Q2 b s) → we s1 Q1 → we s1 Q2) → (∀ d s1 (Q1 Q2 : Sg → Prop), (∀ s, Q1 s → Q2 s) → wg d s1 Q1 → wg d s1 Q2) →
      Q (.fr (acc ++ ((l.filter t).map g))) s → wLcL rs srcs own wg wt we Q (l.map f) acc s
  | [], acc, _, _, _, _, _, hQ => ⟨h0, by simpa using hQ⟩
  | x :: l, acc, hl, hb, mt, me, mg, hQ => by
    refine ⟨h0, by simp at hl; omega, hno, ?_⟩
    refine mg _ _ _ _ (fun s1 => mt _ _ _ fun b s2 h => ?_) (hb x (List.mem_cons_self ..) (fun s4 => backS s own s4 = s) (fun s4 => backS s own s4 = s) (fun _ h => h) fun _ h => h)
    cases b with
    | true =>
      simp only [if_true] at h ⊢
      obtain ⟨ht, h⟩ := h
      refine me _ _ _ (fun r s3 ⟨e, hs⟩ => ?_) h
      subst e
      show wLcL rs srcs own wg wt we Q (l.map f) (acc ++ [g x]) (backS s own s3)
      rw [hs]
      refine lcFil f g t h0 hno l _ (by simp at hl ⊢; omega) (fun y hy => hb y (List.mem_cons_of_mem _ hy)) mt me mg ?_
      rw [List.filter_cons_of_pos ht] at hQ
      simpa using hQ
    | false =>
      simp only [Bool.false_eq_true, if_false] at h ⊢
      obtain ⟨ht, hs⟩ := h
      rw [hs]
      refine lcFil f g t h0 hno l _ (by simp at hl ⊢; omega) (fun y hy => hb y (List.mem_cons_of_mem _ hy)) mt me mg ?_
      rw [List.filter_cons_of_neg (by simp [ht])] at hQ
      exact hQ
theorem enum_map {α : Type} (f : α → D) : ∀ (l : List α) (n : Nat), enumD n (l.map f) = (l.zipIdx n).map fun p => .tup [.int (p.2 : Nat), f p.1]
  | [], _ => rfl
  | x :: l, n => by simp [enumD, enum_map f l (n + 1)]
theorem zip_map2 {α β : Type} (f : α → D) (g : β → D) : ∀ (xs : List α) (ys : List β), zipD (xs.map f) (ys.map g) = (xs.zip ys).map fun p => .tup [f p.1, g p.2]
  | [], _ => rfl
  | _ :: _, [] => rfl
  | x :: xs, y :: ys => by simp [zipD, zip_map2 f g xs ys]
theorem rng_map (lo : Int) (n : Nat) : rngD lo n = (List.range n).map fun (i : Nat) => D.int (lo + (i : Int)) := rfl
theorem rgOk_small {i : Int} (h1 : -1000000 ≤ i) (h2 : i ≤ 1000000) : rgOk i = true := by
  unfold rgOk
  rw [decide_eq_true (by omega), decide_eq_true (by omega)]; rfl
theorem rgOk1_small {i : Int} (h1 : -1000000 ≤ i) (h2 : i ≤ 1000000) : rgOk1 i = true := by
  unfold rgOk1
  rw [decide_eq_true (by omega), decide_eq_true (by omega)]; rfl
theorem at_nat {α : Type} {xs : List α} {j : Nat} (h : j < xs.length) : L2.atI xs (j : Int) = some xs[j] := atI_nat (List.getElem?_eq_getElem h)
theorem at_int {α : Type} {xs : List α} {i : Int} {j : Nat} (e : i = (j : Int)) (h : j < xs.length) : L2.atI xs i = some xs[j] := by subst e; exact at_nat h
theorem ix_at {xs : List D} {i : Int} {Q : D → Prop} (j : Nat) (e : i = (j : Int)) (h : j < xs.length) (q : Q xs[j]) : ixD xs i Q := by
  unfold ixD; rw [at_int e h]; exact q
theorem ix_map {α : Type} {f : α → D} {xs : List α} {i : Int} {Q : D → Prop} (j : Nat) (e : i = (j : Int)) (h : j < xs.length) (q : Q (f xs[j])) : ixD (xs.map f) i Q := by
  refine ix_at j e (by rw [List.length_map]; exact h) ?_
  rw [List.getElem_map]; exact q
end LV
namespace LV
open PySem PySem.Spec PyProof.Rows L2
theorem zrng1 {i : Int} (n : Nat) (e : i = (n : Int)) (h : n ≤ 1000000) : zRng1 [.int i] = some ((List.range n).map fun (k : Nat) => D.int (0 + (k : Int))) := by
  subst e
  unfold zRng1
  simp only [rgOk_small (i := (n : Int)) (by omega) (by omega), if_true, Int.toNat_natCast]
  rfl
theorem zrng2 {i j : Int} (n : Nat) (e : (j - i).toNat = n) (h1 : -1000000 ≤ i) (h2 : i ≤ 1000000) (h3 : -1000000 ≤ j) (h4 : j ≤ 1000000) : zRng2 [.int i, .int j] = some ((List.range n).map fun (k : Nat) => D.int (i + (k : Int))) := by
  subst e
  unfold zRng2
  simp only [rgOk_small h1 h2, rgOk_small h3 h4, and_self, if_true]
  rfl
theorem intsOf_mapf {α : Type} (f : α → Int) : ∀ l : List α, intsOf (l.map fun x => D.int (f x)) = some (l.map f)
  | [] => rfl
  | x :: l => by simp [intsOf, intsOf_mapf f l]
theorem blsOf_mapf {α : Type} (f : α → Bool) : ∀ l : List α, blsOf (l.map fun x => D.bl (f x)) = some (l.map f)
  | [] => rfl
  | x :: l => by simp [blsOf, blsOf_mapf f l]
/-- an item of a row as a whole number -/
theorem ix_wI {l : List Rat} {i : Int} {Q : D → Prop} (j : Nat) (e : i = (j : Int)) (h : j < l.length) (q : Q (.int (wN (wB l) (l.getD j 0)))) : ixD ((wI l).map D.int) i Q := by
  refine ix_map j e (by unfold wI; rw [List.length_map]; exact h) ?_
  have : (wI l)[j]'(by unfold wI; rw [List.length_map]; exact h) = wN (wB l) (l.getD j 0) := by
    simp only [wI, List.getElem_map, List.getD_eq_getElem?_getD, List.getElem?_eq_getElem h, Option.getD_some]
  rw [this]; exact q
theorem ix_Q {l : List Rat} {i : Int} {Q : D → Prop} (j : Nat) (e : i = (j : Int)) (h : j < l.length) (q : Q (fQ (l.getD j 0))) : ixD (l.map fQ) i Q := by
  refine ix_map j e h ?_
  have : l[j] = l.getD j 0 := by rw [List.getD_eq_getElem?_getD, List.getElem?_eq_getElem h]; rfl
  rw [this]; exact q
theorem getD_mem {l : List Rat} {j : Nat} (h : j < l.length) : l.getD j 0 ∈ l := by
  rw [List.getD_eq_getElem?_getD, List.getElem?_eq_getElem h]
  exact List.getElem_mem h
theorem wI_len (l : List Rat) : (wI l).length = l.length := by unfold wI; rw [List.length_map]
/-- sums of whole numbers over their integer -/
theorem sum_whole (l : List Rat) : (((wI l).sum : Int) : Rat) = l.sum * (wB l : Rat) := by
  rw [sum_cast]
  have : ((wI l).map fun (x : Int) => (x : Rat)) = l.map fun x => x * (wB l : Rat) := by
    unfold wI
    rw [List.map_map]
    exact List.map_congr_left fun x hx => (wN_mem hx).symm
  rw [this, sum_mulr]
theorem wB_ne (l : List Rat) : ((wB l : Nat) : Int) ≠ 0 := by have := wB_pos l; omega
theorem quo_whole (l : List Rat) : (((wI l).sum : Int) : Rat) / (((wB l : Nat) : Int) : Rat) = l.sum := qeq (wB_ne l) (by rw [sum_whole]; push_cast; rfl)
theorem map_fQ {α : Type} (f : α → Rat) (l : List α) : (l.map fun x => fQ (f x)) = (l.map f).map fQ := by rw [List.map_map]; rfl
end LV
namespace LV
open PySem PySem.Spec PyProof.Rows L2
theorem eqD_fQ (p q : Rat) : eqD (fQ p) (fQ q) = decide (p = q) := by
  show (p.num == q.num && ((p.den : Int) == (q.den : Int) && true)) = decide (p = q)
  by_cases h : p = q
  · subst h; simp
  · rw [decide_eq_false h]
    cases h1 : (p.num == q.num) with
    | false => rfl
    | true =>
      have h1 := beq_iff_eq.mp h1
      have : ¬ ((p.den : Int) = (q.den : Int)) := fun h2 => h (Rat.ext h1 (by omega))
      simp [this]
theorem sha_fQ (p : Rat) : sha (fQ p) := rfl
theorem cut_natN (xs : List D) (i j : Nat) : cutD xs (some (i : Int)) (some (j : Int)) = (xs.drop i).take (j - i) := by
  unfold cutD
  rw [HT.sIx_nat, HT.sIx_nat]
  by_cases hi : i ≤ xs.length
  · rw [Nat.min_eq_left hi]
    by_cases hj : j ≤ xs.length
    · rw [Nat.min_eq_left hj]
    · rw [Nat.min_eq_right (by omega), List.take_of_length_le (by simp), List.take_of_length_le (by simp; omega)]
  · have e1 : xs.drop (min i xs.length) = [] := List.drop_eq_nil_of_le (by omega)
    have e2 : xs.drop i = [] := List.drop_eq_nil_of_le (by omega)
    rw [e1, e2]; simp
theorem cut_to (xs : List D) (j : Nat) : cutD xs none (some (j : Int)) = xs.take j := by
  unfold cutD
  rw [HT.sIx_nat, HT.sIx_none, List.drop_zero, Nat.sub_zero]
  by_cases hj : j ≤ xs.length
  · rw [Nat.min_eq_left hj]
  · rw [Nat.min_eq_right (by omega), List.take_of_length_le (Nat.le_refl _), List.take_of_length_le (by omega)]
theorem cut_from (xs : List D) (i : Nat) : cutD xs (some (i : Int)) none = xs.drop i := by
  unfold cutD
  rw [HT.sIx_nat, HT.sIx_none]
  by_cases hi : i ≤ xs.length
  · rw [Nat.min_eq_left hi, List.take_of_length_le (by simp)]
  · rw [List.drop_eq_nil_of_le (by omega), List.drop_eq_nil_of_le (by omega)]; simp
theorem flat_one {α : Type} (n : Nat) (d : α) : (List.replicate n [d]).flatten = List.replicate n d := by
  induction n with
  | zero => rfl
  | succ n ih => simp [List.replicate_succ, ih]
theorem toPys_tQ (l : List Rat) : toPys (l.map fQ) = l.map fun x => toPy (fQ x) := toPys_map fQ l
theorem fQ_fD' (l : List Rat) : l.map fQ = (l.map fun q => ((q.num, ((q.den : Nat) : Int)) : Int × Int)).map fD := by rw [List.map_map]; rfl
theorem sha_tQ (l : List Rat) : sha (tQ l) := by
  have := sha_pairs (l.map fun q => (q.num, ((q.den : Nat) : Int)))
  rw [← fQ_fD'] at this; exact this
theorem repr_tQ {l : List Rat} {Q : RV → Prop} (hl : l.length ≤ 1000) (h : ∀ x ∈ l, Sz 1900 x) (q : Q (.sh (.str (toPy (tQ l)).shown))) : fRepr [tQ l] Q := by
  have := repr_pairs (l := l.map fun q => ((q.num, ((q.den : Nat) : Int)) : Int × Int)) (Q := Q) (by rw [List.length_map]; exact hl) (fun x hx => by
    obtain ⟨y, hy, rfl⟩ := List.mem_map.mp hx
    exact ⟨(h y hy).a, (h y hy).b⟩) (by rw [← fQ_fD']; exact q)
  rw [← fQ_fD'] at this; exact this
theorem eqD_self (d : D) (h : PyData.eqv (toPy d) (toPy d) = true) : eqD d d = true := h
theorem eqvs_fQ : ∀ l m : List Rat, eqD (tQ l) (tQ m) = decide (l = m)
  | [], [] => rfl
  | [], _ :: _ => rfl
  | _ :: _, [] => rfl
  | x :: l, y :: m => by
    have h1 := eqD_fQ x y
    have h2 := eqvs_fQ l m
    show (PyData.eqv (toPy (fQ x)) (toPy (fQ y)) && PyData.eqvAll (toPys (l.map fQ)) (toPys (m.map fQ))) = _
    have h1 : PyData.eqv (toPy (fQ x)) (toPy (fQ y)) = decide (x = y) := h1
    have h2 : PyData.eqvAll (toPys (l.map fQ)) (toPys (m.map fQ)) = decide (l = m) := h2
    rw [h1, h2]
    simp [List.cons.injEq, Bool.decide_and]
end LV
namespace LV
open PySem PySem.Spec PyProof.Rows L2
/-- a comprehension with a test, whose step changes nothing -/
theorem lcFil2 {α : Type} {rs : List RV} {srcs : List D} {own : List Nat} {wg : WG} {wt : WT} {we : WE} {Q : RV → Sg → Prop} (f g : α → D) (t : α → Bool) {s : Sg} (h0 : rdL s rs (fun ds => ds = srcs)) (hno : own.all (fun i => notOw (s.getD i .un)) = true) :
    ∀ (l : List α) (acc : List D), l.length + acc.length < 16777216 → (∀ x ∈ l, ∀ (R : RV → Sg → Prop) (R' : Sg → Prop), (t x = true → ∀ s4, backS s own s4 = s → R (.sh (g x)) s4) → (t x = false → ∀ s4, backS s own s4 = s → R' s4) → wg (f x) (wipeS own s) fun s1 => wt s1 fun b s2 => if b = true then we s2 R else R' s2) →
      Q (.fr (acc ++ ((l.filter t).map g))) s → wLcL rs srcs own wg wt we Q (l.map f) acc s
  | [], acc, _, _, hQ => ⟨h0, by simpa using hQ⟩
  | x :: l, acc, hl, hb, hQ => by
    refine ⟨h0, by simp at hl; omega, hno, ?_⟩
    refine hb x (List.mem_cons_self ..) _ _ (fun ht s4 hs => ?_) fun ht s4 hs => ?_
    · show wLcL rs srcs own wg wt we Q (l.map f) (acc ++ [g x]) (backS s own s4)
      rw [hs]
      refine lcFil2 f g t h0 hno l _ (by simp at hl ⊢; omega) (fun y hy => hb y (List.mem_cons_of_mem _ hy)) ?_
      rw [List.filter_cons_of_pos ht] at hQ
      simpa using hQ
    · show wLcL rs srcs own wg wt we Q (l.map f) acc (backS s own s4)
      rw [hs]
      refine lcFil2 f g t h0 hno l _ (by simp at hl ⊢; omega) (fun y hy => hb y (List.mem_cons_of_mem _ hy)) ?_
      rw [List.filter_cons_of_neg (by simp [ht])] at hQ
      exact hQ
theorem eqD_nil (xs : List D) : eqD (.lst xs) (.lst []) = xs.isEmpty := by cases xs <;> rfl
theorem eqD_nilT (xs : List D) : eqD (.tup xs) (.tup []) = xs.isEmpty := by cases xs <;> rfl
theorem sha_lQ (l : List Rat) : sha (lQ l) := sha_tQ l
theorem sha_nil : sha (.lst []) := rfl
theorem sha_nilT : sha (.tup []) := rfl
end LV
namespace Q
open PySem PySem.Spec PyProof.Rows L2 LV
def topS (i : Nat) : Stmt := PySem.Challenge.pw_stepsstaycalm_k39_whole_mended_runs.main.body.getD i (.Pass ⟨0, 0, 0, 0⟩)
abbrev s_fraction_of : Stmt := topS 5
abbrev s_fraction_sum : Stmt := topS 6
abbrev s_fraction_less : Stmt := topS 7
abbrev s_fraction_times : Stmt := topS 8
abbrev s_fraction_over : Stmt := topS 9
abbrev s_evened : Stmt := topS 11
abbrev s_powers_of : Stmt := topS 12
abbrev s_added : Stmt := topS 13
abbrev s_mended_poly : Stmt := topS 14
abbrev s_told_part : Stmt := topS 16
abbrev s_mended_run : Stmt := topS 17
abbrev s__law_own_bag : Stmt := topS 19
abbrev s__law_draw : Stmt := topS 20
abbrev s__law_pick : Stmt := topS 21
abbrev s__law_gcd : Stmt := topS 22
abbrev s__law_frac : Stmt := topS 23
abbrev s__law_same : Stmt := topS 24
abbrev s__law_some_fraction : Stmt := topS 25
abbrev s__law_some_row : Stmt := topS 26
abbrev s__law_some_case : Stmt := topS 27
abbrev s__law_whole : Stmt := topS 28
abbrev s__law_room : Stmt := topS 29
abbrev s__law_begun : Stmt := topS 30
abbrev s__law_own_run : Stmt := topS 31
abbrev s__law_is_kept : Stmt := topS 32
abbrev s_law : Stmt := topS 33
def DS : List (Str × Str × Stmt) := ("fraction_of", "fraction_of", s_fraction_of) :: ("fraction_sum", "fraction_sum", s_fraction_sum) :: ("fraction_less", "fraction_less", s_fraction_less) :: ("fraction_times", "fraction_times", s_fraction_times) :: ("fraction_over", "fraction_over", s_fraction_over) :: ("evened", "evened", s_evened) :: ("powers_of", "powers_of", s_powers_of) :: ("added", "added", s_added) :: ("mended_poly", "mended_poly", s_mended_poly) :: ("told_part", "told_part", s_told_part) :: ("mended_run", "mended_run", s_mended_run) :: ("_law_own_bag", "_law_own_bag", s__law_own_bag) :: ("_law_draw", "_law_draw", s__law_draw) :: ("_law_pick", "_law_pick", s__law_pick) :: ("_law_gcd", "_law_gcd", s__law_gcd) :: ("_law_frac", "_law_frac", s__law_frac) :: ("_law_same", "_law_same", s__law_same) :: ("_law_some_fraction", "_law_some_fraction", s__law_some_fraction) :: ("_law_some_row", "_law_some_row", s__law_some_row) :: ("_law_some_case", "_law_some_case", s__law_some_case) :: ("_law_whole", "_law_whole", s__law_whole) :: ("_law_room", "_law_room", s__law_room) :: ("_law_begun", "_law_begun", s__law_begun) :: ("_law_own_run", "_law_own_run", s__law_own_run) :: ("_law_is_kept", "_law_is_kept", s__law_is_kept) :: []
def ZS : List Str := ["range", "tuple", "len", "zip", "list", "reversed", "int", "abs", "isinstance", "bool", "str", "all", "sum", "min"]
def MS : List (Str × String) := [("gcd", "math.gcd")]
def GS : List (Str × Int) := []
/-! what the defs about fractions promise -/
def F_fraction_of : VS := fun ds Q => match ds with
  | [.int a, .int b] => b ≠ 0 ∧ sm 13400 a ∧ sm 13400 b ∧ Q (.sh (fQ ((a : Rat) / (b : Rat))))
  | _ => False
def F_fraction_sum : VS := fun ds Q => ∃ p q : Rat, ds = [fQ p, fQ q] ∧ (∃ n m, Sz n p ∧ Sz m q ∧ n + m < 13399) ∧ Q (.sh (fQ (p + q)))
def F_fraction_less : VS := fun ds Q => ∃ p q : Rat, ds = [fQ p, fQ q] ∧ (∃ n m, Sz n p ∧ Sz m q ∧ n + m < 13399) ∧ Q (.sh (fQ (p - q)))
def F_fraction_times : VS := fun ds Q => ∃ p q : Rat, ds = [fQ p, fQ q] ∧ (∃ n m, Sz n p ∧ Sz m q ∧ n + m < 13399) ∧ Q (.sh (fQ (p * q)))
def F_fraction_over : VS := fun ds Q => ∃ p q : Rat, ds = [fQ p, fQ q] ∧ q ≠ 0 ∧ (∃ n m, Sz n p ∧ Sz m q ∧ n + m < 13399) ∧ Q (.sh (fQ (p / q)))
/-- integers, and the integer below -/
abbrev wD (l : List Rat) : D := .tup [.lst ((wI l).map D.int), .int ((wB l : Nat) : Int)]
def F_whole_poly : VS := fun ds Q => ∃ l : List Rat, (ds = [tQ l] ∨ ds = [lQ l]) ∧ l.length < 1000000 ∧ Cd 8900 l ∧ Q (.sh (wD l))
/-! what the defs of k39 promise -/
def dvR (x : Rat) (l : List Rat) : List Rat := l.map (· / x)
/-- a rule's two rows -/
abbrev rlD (a b : List Rat) : D := .tup [tQ a, tQ b]
abbrev lst (l : List Rat) : Rat := l.getLastD 0
def F_evened : VS := fun ds Q => ∃ a b : List Rat, ds = [rlD a b] ∧ a ≠ [] ∧ lst a ≠ 0 ∧ a.length ≤ 1000 ∧ b.length ≤ 1000 ∧ (∀ x ∈ a, Sz 60 x) ∧ (∀ x ∈ b, Sz 60 x) ∧ Q (.fr [lQ (dvR (lst a) a), lQ (dvR (lst a) b)])
def pwQ (x : Rat) : Nat → Rat
  | 0 => 1
  | n + 1 => pwQ x n * x
def F_powers_of : VS := fun ds Q => ∃ (x : Rat) (n : Nat), ds = [fQ x, .int (n : Nat)] ∧ n ≤ 10 ∧ Sz 200 x ∧ Q (.fr (((List.range (n + 1)).map (pwQ x)).map fQ))
/-- all the sums are small enough -/
def SumOk (l : List Rat) : Prop := ∃ n m, n + m < 13399 ∧ (∀ i, Sz n (l.take i).sum) ∧ ∀ x ∈ l, Sz m x
def F_added : VS := fun ds Q => ∃ l : List Rat, ds = [lQ l] ∧ l.length ≤ 1000 ∧ SumOk l ∧ Q (.sh (fQ l.sum))
/-- what each item gives -/
def tpL (f : Rat) : List Rat → List Rat → List Rat → List Rat
  | a :: as, b :: bs, v :: vs => (f * b - a) * v :: tpL f as bs vs
  | _, _, _ => []
def tpQ (a b : List Rat) (f : Rat) (v : List Rat) : Rat := (tpL f a b v).sum
def F_told_part : VS := fun ds Q => ∃ (a b : List Rat) (f : Rat) (v : List Rat), ds = [.lst [lQ a, lQ b], fQ f, lQ v] ∧ v.length ≤ 1000 ∧ (∀ x ∈ a, Sz 200 x) ∧ (∀ x ∈ b, Sz 200 x) ∧ Sz 60 f ∧ (∀ x ∈ v, Sz 6800 x) ∧ SumOk (tpL f a b v) ∧ Q (.sh (fQ (tpQ a b f v)))
/-- mending -/
def mdQ (part share v : Rat) : Nat → Rat
  | 0 => v
  | n + 1 => part + share * mdQ part share v n
def nxQ (d e a b : List Rat) (f : Rat) (m : Nat) (v : List Rat) : Rat := mdQ (tpQ a b f v) (f * lst b) (tpQ d e f v) m
/-- the last k items -/
def lastK (k : Nat) (l : List Rat) : List Rat := l.drop (l.length - k)
def runN (d e a b : List Rat) (f : Rat) (m k : Nat) (start : List Rat) : Nat → List Rat
  | 0 => start
  | n + 1 => runN d e a b f m k start n ++ [nxQ d e a b f m (lastK k (runN d e a b f m k start n))]
/-- small enough, at one turn -/
structure StepOk (d e a b : List Rat) (f : Rat) (m : Nat) (u : List Rat) : Prop where
  hv : ∀ x ∈ u, Sz 6800 x
  hd : SumOk (tpL f d e u)
  ha : SumOk (tpL f a b u)
  hm : ∃ n l, n + l < 13399 ∧ Sz n (tpQ a b f u) ∧ (∀ i ≤ m, Sz 6800 (mdQ (tpQ a b f u) (f * lst b) (tpQ d e f u) i)) ∧ ∀ i, i < m → Sz l (f * lst b * mdQ (tpQ a b f u) (f * lst b) (tpQ d e f u) i)
/-- a rule and its guess, as drawn -/
structure RuleOk (d e a b : List Rat) (f : Rat) (k : Nat) : Prop where
  la : a.length = k + 1
  lb : b.length = k + 1
  ld : d.length = k + 1
  le : e.length = k + 1
  k1 : 1 ≤ k
  k8 : k ≤ 8
  a0 : lst a ≠ 0
  d0 : lst d ≠ 0
  e0 : lst e = 0
  sa : ∀ x ∈ a, x.num.natAbs ≤ 1000 ∧ x.den ≤ 1000
  sb : ∀ x ∈ b, x.num.natAbs ≤ 1000 ∧ x.den ≤ 1000
  sd : ∀ x ∈ d, x.num.natAbs ≤ 1000 ∧ x.den ≤ 1000
  se : ∀ x ∈ e, x.num.natAbs ≤ 1000 ∧ x.den ≤ 1000
  sf : f.num.natAbs ≤ 1000 ∧ f.den ≤ 1000
/-- the run, by the rules as given -/
def runQ (d e a b : List Rat) (f : Rat) (m : Nat) (start : List Rat) (n : Nat) : List Rat := runN (dvR (lst d) d) (dvR (lst d) e) (dvR (lst a) a) (dvR (lst a) b) f m start.length start n
def F_mended_run : VS := fun ds Q => ∃ (d e a b : List Rat) (f : Rat) (m : Nat) (start : List Rat) (n : Nat), ds = [rlD d e, rlD a b, fQ f, .int (m : Nat), tQ start, .int ((start.length + n : Nat) : Int)] ∧ RuleOk d e a b f start.length ∧ m ≤ 6 ∧ n ≤ 20 ∧
  (∀ i, i < n → StepOk (dvR (lst d) d) (dvR (lst d) e) (dvR (lst a) a) (dvR (lst a) b) f m (lastK start.length (runQ d e a b f m start i))) ∧ Q (.sh (tQ (runQ d e a b f m start n)))
/-- the polynomial of the mended rule -/
def plQ (d e a b : List Rat) (f : Rat) (m : Nat) : List Rat := (List.range a.length).map fun j =>
  ((List.range m).map (pwQ (f * lst b))).sum * (a.getD j 0 - f * b.getD j 0) + pwQ (f * lst b) m * (d.getD j 0 - f * e.getD j 0)
def pl2 (d e a b : List Rat) (f : Rat) (m : Nat) : List Rat := plQ (dvR (lst d) d) (dvR (lst d) e) (dvR (lst a) a) (dvR (lst a) b) f m
def F_mended_poly : VS := fun ds Q => ∃ (d e a b : List Rat) (f : Rat) (k m : Nat), ds = [rlD d e, rlD a b, fQ f, .int (m : Nat)] ∧ RuleOk d e a b f k ∧ m ≤ 6 ∧ Q (.sh (tQ (pl2 d e a b f m)))
abbrev F__law_own_bag := FOwn
abbrev F__law_draw := FDraw
def F__law_pick : VS := fun ds Q => ∃ xs : List D, ds = [.bag 1, .lst xs] ∧ xs ≠ [] ∧ xs.length ≤ 1000 ∧ ∀ d ∈ xs, Q (.sh d)
def F__law_gcd : VS := fun ds Q => match ds with
  | [.int a, .int b] => Q (.sh (.int (Int.gcd a b)))
  | _ => False
def F__law_frac : VS := F_fraction_of
/-- alike: one thing on both sides -/
def FR__law_same : Nat → VS
  | 0 => fun _ _ => False
  | 1 => fun ds Q => ∃ i : Int, ds = [.int i, .int i] ∧ Q (.sh (.bl true))
  | 2 => fun ds Q => ∃ q : Rat, ds = [fQ q, fQ q] ∧ Q (.sh (.bl true))
  | 3 => fun ds Q => ∃ l : List Rat, ds = [tQ l, tQ l] ∧ l.length ≤ 1000 ∧ Q (.sh (.bl true))
  | _ => fun _ _ => False
def F__law_same : VS := FR__law_same 3
def F__law_some_fraction : VS := fun ds Q => ∃ m : Nat, ds = [.bag 1, .int (m : Nat)] ∧ 1 ≤ m ∧ m ≤ 1000 ∧ ∀ q : Rat, q.num.natAbs ≤ m → q.den ≤ m → Q (.sh (fQ q))
def Sm3 (x : Rat) : Prop := x.num.natAbs ≤ 1000 ∧ x.den ≤ 1000
def F__law_some_row : VS := fun ds Q => ∃ (k kind : Nat), ds = [.bag 1, .int (k : Nat), .int (kind : Nat)] ∧ 1 ≤ k ∧ k ≤ 8 ∧ kind ≤ 2 ∧ ∀ l : List Rat, l.length = k + 1 → (∀ x ∈ l, Sm3 x) → lst l ≠ 0 → Q (.fr (l.map fQ))
def csD (d e a b : List Rat) (f : Rat) (m : Nat) (s : List Rat) : D := .tup [rlD d e, rlD a b, fQ f, .int (m : Nat), tQ s]
def F__law_some_case : VS := fun ds Q => ds = [.bag 1] ∧ ∀ (d e a b : List Rat) (f : Rat) (m : Nat) (s : List Rat), RuleOk d e a b f s.length → 1 ≤ m → m ≤ 6 → (∀ x ∈ s, Sm3 x) → Q (.sh (csD d e a b f m s))
abbrev whL (W : Nat) (a : List Rat) : List Int := a.map (wN W)
def F__law_whole : VS := fun ds Q => ∃ a b : List Rat, ds = [rlD a b] ∧ a.length + b.length ≤ 20 ∧ (∀ x ∈ a ++ b, Sz 60 x) ∧ Q (.sh (.tup [.lst ((whL (wB (a ++ b)) a).map D.int), .lst ((whL (wB (a ++ b)) b).map D.int)]))
/-- how many bits a turn puts below -/
def bitsQ (d e a b : List Rat) (f : Rat) (m : Nat) : Nat := m * Builtin.Int.intBits (((f.den : Int) * wN (wB (a ++ b)) (lst a)).natAbs : Nat) + Builtin.Int.intBits (((f.den : Int) * wN (wB (d ++ e)) (lst d)).natAbs : Nat)
def F__law_room : VS := fun ds Q => ∃ (d e a b : List Rat) (f : Rat) (k m : Nat), ds = [rlD d e, rlD a b, fQ f, .int (m : Nat), .int (k : Nat)] ∧ RuleOk d e a b f k ∧ m ≤ 6 ∧ ∀ r : Nat, r ≤ 20 → (r = 0 ∨ r * r * bitsQ d e a b f m ≤ 24000) → Q (.sh (.int (r : Nat)))
def F__law_begun : VS := fun ds Q => ∃ l : List Rat, ds = [tQ l] ∧ l.length ≤ 20 ∧ (∀ x ∈ l, Sz 60 x) ∧ Q (.sh (wD l))
def F__law_own_run : VS := fun ds Q => ∃ (d e a b : List Rat) (f : Rat) (m : Nat) (s : List Rat) (n : Nat), ds = [rlD d e, rlD a b, fQ f, .int (m : Nat), tQ s, .int (n : Nat)] ∧ RuleOk d e a b f s.length ∧ m ≤ 6 ∧ (∀ x ∈ s, Sm3 x) ∧ n ≤ 20 ∧ (n = 0 ∨ n * n * bitsQ d e a b f m ≤ 24000) ∧ Q (.sh (tQ (runQ d e a b f m s n)))
def F__law_is_kept : VS := fun ds Q => ∃ p v : List Rat, ds = [tQ p, tQ v] ∧ p.length ≤ 9 ∧ lst p = 1 ∧ p ≠ [] ∧ p.length ≤ v.length + 1 ∧ v.length ≤ 40 ∧ (∀ x ∈ p, Sz 6800 x) ∧ (∀ x ∈ v, Sz 6800 x) ∧ (∀ i, i + p.length ≤ v.length → ((p.zip ((v.drop i).take p.length)).map fun q => q.1 * q.2).sum = 0) ∧ Q (.sh (.bl true))
def W_fraction_of (K : PySem.W.Frag) : WS :=
    wSeq (wSet 2 (wIf (wTst (wOp fGt (wV 1) (wC (.int 0)))) (wCB fGcd (wCons (wV 0) (wCons (wV 1) wNil))) (wUn fNeg (wCB fGcd (wCons (wV 0) (wCons (wV 1) wNil))))))
    (wRet (wTup (wCons (wOp fDiv (wV 0) (wV 2)) (wCons (wOp fDiv (wV 1) (wV 2)) wNil))))
def W_fraction_sum (K : PySem.W.Frag) : WS :=
    wRet (wCall F_fraction_of (wCons (wOp fAdd (wOp fMul (wOp fIx (wV 0) (wC (.int 0))) (wOp fIx (wV 1) (wC (.int 1)))) (wOp fMul (wOp fIx (wV 1) (wC (.int 0))) (wOp fIx (wV 0) (wC (.int 1))))) (wCons (wOp fMul (wOp fIx (wV 0) (wC (.int 1))) (wOp fIx (wV 1) (wC (.int 1)))) wNil)))
def W_fraction_less (K : PySem.W.Frag) : WS :=
    wRet (wCall F_fraction_of (wCons (wOp fSub (wOp fMul (wOp fIx (wV 0) (wC (.int 0))) (wOp fIx (wV 1) (wC (.int 1)))) (wOp fMul (wOp fIx (wV 1) (wC (.int 0))) (wOp fIx (wV 0) (wC (.int 1))))) (wCons (wOp fMul (wOp fIx (wV 0) (wC (.int 1))) (wOp fIx (wV 1) (wC (.int 1)))) wNil)))
def W_fraction_times (K : PySem.W.Frag) : WS :=
    wRet (wCall F_fraction_of (wCons (wOp fMul (wOp fIx (wV 0) (wC (.int 0))) (wOp fIx (wV 1) (wC (.int 0)))) (wCons (wOp fMul (wOp fIx (wV 0) (wC (.int 1))) (wOp fIx (wV 1) (wC (.int 1)))) wNil)))
def W_fraction_over (K : PySem.W.Frag) : WS :=
    wSeq (wIfS (wTst (wOp fEq (wOp fIx (wV 1) (wC (.int 0))) (wC (.int 0)))) (wNever) (wNext))
    (wRet (wCall F_fraction_of (wCons (wOp fMul (wOp fIx (wV 0) (wC (.int 0))) (wOp fIx (wV 1) (wC (.int 1)))) (wCons (wOp fMul (wOp fIx (wV 0) (wC (.int 1))) (wOp fIx (wV 1) (wC (.int 0)))) wNil))))
def W_evened (K : PySem.W.Frag) : WS :=
    wSeq (wSet 1 (wOp fIx (wOp fIx (wV 0) (wC (.int 0))) (wUn fNeg (wC (.int 1)))))
    (wRet (wLc (w1 (wV 0)) zSeq [3] (gN 3) (wYes) (wLc (w1 (wV 3)) zSeq [2] (gN 2) (wYes) (wCall F_fraction_over (wCons (wV 2) (wCons (wV 1) wNil))))))
def W_powers_of (K : PySem.W.Frag) : WS :=
    wSeq (wSet 2 (wLst (wCons (wTup (wCons (wC (.int 1)) (wCons (wC (.int 1)) wNil))) wNil)))
    (wSeq (wFor (wCons (wV 1) wNil) zRng1 (gN 3) (wDrop (wAppend (wV 2) (wCall F_fraction_times (wCons (wOp fIx (wV 2) (wUn fNeg (wC (.int 1)))) (wCons (wV 0) wNil))))))
    (wRet (wV 2)))
def W_added (K : PySem.W.Frag) : WS :=
    wSeq (wSet 1 (wTup (wCons (wC (.int 0)) (wCons (wC (.int 1)) wNil))))
    (wSeq (wFor (w1 (wV 0)) zSeq (gN 2) (wSet 1 (wCall F_fraction_sum (wCons (wV 1) (wCons (wV 2) wNil)))))
    (wRet (wV 1)))
def W_mended_poly (K : PySem.W.Frag) : WS :=
    wSeq (wAsg (wTup (wCons (wCall F_evened (wCons (wV 1) wNil)) (wCons (wCall F_evened (wCons (wV 0) wNil)) wNil))) (gTu (gCo (gTu (gCo (gN 4) (gCo (gN 5) gNi)) 2) (gCo (gTu (gCo (gN 6) (gCo (gN 7) gNi)) 2) gNi)) 2))
    (wSeq (wSet 8 (wCall F_powers_of (wCons (wCall F_fraction_times (wCons (wV 2) (wCons (wOp fIx (wV 5) (wUn fNeg (wC (.int 1)))) wNil))) (wCons (wV 3) wNil))))
    (wSeq (wPar [9, 10] (wCons (wCall F_added (wCons (wSl K (wV 8) wONone (wOSome (wUn fNeg (wC (.int 1))))) wNil)) (wCons (wLst (wNil)) wNil)))
    (wSeq (wFor (wCons (wCB fLen (wCons (wV 4) wNil)) wNil) zRng1 (gN 11) (wSeq (wSet 12 (wCall F_fraction_less (wCons (wOp fIx (wV 4) (wV 11)) (wCons (wCall F_fraction_times (wCons (wV 2) (wCons (wOp fIx (wV 5) (wV 11)) wNil))) wNil))))
    (wSeq (wSet 13 (wCall F_fraction_less (wCons (wOp fIx (wV 6) (wV 11)) (wCons (wCall F_fraction_times (wCons (wV 2) (wCons (wOp fIx (wV 7) (wV 11)) wNil))) wNil))))
    (wDrop (wAppend (wV 10) (wCall F_fraction_sum (wCons (wCall F_fraction_times (wCons (wV 9) (wCons (wV 12) wNil))) (wCons (wCall F_fraction_times (wCons (wOp fIx (wV 8) (wUn fNeg (wC (.int 1)))) (wCons (wV 13) wNil))) wNil))))))))
    (wRet (wCB fTuple (wCons (wV 10) wNil))))))
def W_told_part (K : PySem.W.Frag) : WS :=
    wSeq (wSet 3 (wLst (wNil)))
    (wSeq (wFor (wCons (wOp fIx (wV 0) (wC (.int 0))) (wCons (wOp fIx (wV 0) (wC (.int 1))) (wCons (wV 2) wNil))) zZip3 (gTu (gCo (gN 4) (gCo (gN 5) (gCo (gN 6) gNi))) 3) (wDrop (wAppend (wV 3) (wCall F_fraction_times (wCons (wCall F_fraction_less (wCons (wCall F_fraction_times (wCons (wV 1) (wCons (wV 5) wNil))) (wCons (wV 4) wNil))) (wCons (wV 6) wNil))))))
    (wRet (wCall F_added (wCons (wV 3) wNil))))
def W_mended_run (K : PySem.W.Frag) : WS :=
    wSeq (wPar [6, 7, 8] (wCons (wCall F_evened (wCons (wV 1) wNil)) (wCons (wCall F_evened (wCons (wV 0) wNil)) (wCons (wCB fList (wCons (wV 4) wNil)) wNil))))
    (wSeq (wSet 9 (wCall F_fraction_times (wCons (wV 2) (wCons (wOp fIx (wOp fIx (wV 6) (wC (.int 1))) (wUn fNeg (wC (.int 1)))) wNil))))
    (wSeq (wFor (wCons (wOp fSub (wV 5) (wCB fLen (wCons (wV 4) wNil))) wNil) zRng1 (gN 10) (wSeq (wSet 11 (wSl K (wV 8) (wOSome (wOp fSub (wCB fLen (wCons (wV 8) wNil)) (wCB fLen (wCons (wV 4) wNil)))) wONone))
    (wSeq (wPar [12, 13] (wCons (wCall F_told_part (wCons (wV 7) (wCons (wV 2) (wCons (wV 11) wNil)))) (wCons (wCall F_told_part (wCons (wV 6) (wCons (wV 2) (wCons (wV 11) wNil)))) wNil)))
    (wSeq (wFor (wCons (wV 3) wNil) zRng1 (gN 14) (wSet 12 (wCall F_fraction_sum (wCons (wV 13) (wCons (wCall F_fraction_times (wCons (wV 9) (wCons (wV 12) wNil))) wNil)))))
    (wDrop (wAppend (wV 8) (wV 12)))))))
    (wRet (wCB fTuple (wCons (wV 8) wNil)))))
def W__law_own_bag (K : PySem.W.Frag) : WS :=
    wSeq (wSet 1 (wLc (w1 (wSl K (wV 0) wONone (wOSome (wC (.int 63))))) zSeq [2] (gN 2) (wYes) (wOp fMod (wCB fInt (wCons (wCB fAbs (wCons (wV 2) wNil)) wNil)) (wOp fPow (wC (.int 10)) (wC (.int 60))))))
    (wSeq (wSet 3 (wOp fAdd (wC (.int 1357)) (wCB fLen (wCons (wV 1) wNil))))
    (wSeq (wFor (w1 (wV 1)) zSeq (gN 2) (wSet 3 (wOp fMod (wCB fInt (wCons (wOp fAdd (wOp fAdd (wOp fMul (wV 3) (wC (.int 48271))) (wOp fMod (wCB fInt (wCons (wV 2) wNil)) (wC (.int 2147483629)))) (wC (.int 7))) wNil)) (wC (.int 2147483647)))))
    (wRet (wLst (wCons (wCB fLrv (wCons (wV 1) wNil)) (wCons (wC (.int 0)) (wCons (wV 3) wNil)))))))
def W__law_draw (K : PySem.W.Frag) : WS :=
    wSeq (wBagW 0 2 (wTst (wOp fEq (wOp fIx (wV 0) (wC (.int 1))) (wC (.int 0)))) (wAsg (wIf (wTst (wOp fGt (wV 2) (wOp fPow (wC (.int 10)) (wC (.int 9))))) (wV 2) (wC (.int 0))) (gIx (wV 0) (wC (.int 1)))))
    (wSeq (wIfS (wTst (wOp fGt (wOp fIx (wV 0) (wC (.int 1))) (wC (.int 0)))) (wSeq (wSet 3 (wOp fMod (wCB fInt (wCons (wOp fIx (wV 0) (wC (.int 1))) wNil)) (wV 1)))
    (wSeq (wAsg (wOp fDiv (wOp fIx (wV 0) (wC (.int 1))) (wV 1)) (gIx (wV 0) (wC (.int 1))))
    (wRet (wV 3)))) (wNext))
    (wSeq (wAsg (wOp fMod (wCB fInt (wCons (wOp fAdd (wOp fMul (wOp fIx (wV 0) (wC (.int 2))) (wC (.int 48271))) (wC (.int 11))) wNil)) (wC (.int 2147483647))) (gIx (wV 0) (wC (.int 2))))
    (wRet (wOp fMod (wCB fInt (wCons (wOp fDiv (wOp fMod (wCB fInt (wCons (wOp fMul (wOp fIx (wV 0) (wC (.int 2))) (wOp fIx (wV 0) (wC (.int 2)))) wNil)) (wC (.int 2147483629))) (wC (.int 7))) wNil)) (wV 1)))))
def W__law_pick (K : PySem.W.Frag) : WS :=
    wRet (wOp fIx (wV 1) (wCall F__law_draw (wCons (wV 0) (wCons (wCB fLen (wCons (wV 1) wNil)) wNil))))
def W__law_gcd (K : PySem.W.Frag) : WS :=
    wSeq (wPar [0, 1] (wCons (wCB fAbs (wCons (wV 0) wNil)) (wCons (wCB fAbs (wCons (wV 1) wNil)) wNil)))
    (wSeq (wWhile (wTst (wOp fGt (wV 1) (wC (.int 0)))) (wSeq (wPar [0, 1] (wCons (wV 1) (wCons (wOp fMod (wCB fInt (wCons (wV 0) wNil)) (wV 1)) wNil)))
    (wSeq (wAsg (wIf (wTst (wOp fGt (wV 1) (wC (.int 0)))) (wTup (wCons (wV 1) (wCons (wOp fMod (wCB fInt (wCons (wV 0) wNil)) (wV 1)) wNil))) (wTup (wCons (wV 0) (wCons (wC (.int 0)) wNil)))) (gTu (gCo (gN 0) (gCo (gN 1) gNi)) 2))
    (wSeq (wAsg (wIf (wTst (wOp fGt (wV 1) (wC (.int 0)))) (wTup (wCons (wV 1) (wCons (wOp fMod (wCB fInt (wCons (wV 0) wNil)) (wV 1)) wNil))) (wTup (wCons (wV 0) (wCons (wC (.int 0)) wNil)))) (gTu (gCo (gN 0) (gCo (gN 1) gNi)) 2))
    (wAsg (wIf (wTst (wOp fGt (wV 1) (wC (.int 0)))) (wTup (wCons (wV 1) (wCons (wOp fMod (wCB fInt (wCons (wV 0) wNil)) (wV 1)) wNil))) (wTup (wCons (wV 0) (wCons (wC (.int 0)) wNil)))) (gTu (gCo (gN 0) (gCo (gN 1) gNi)) 2))))))
    (wRet (wV 0)))
def W__law_frac (K : PySem.W.Frag) : WS :=
    wSeq (wSet 2 (wIf (wTst (wOp fGt (wV 1) (wC (.int 0)))) (wCall F__law_gcd (wCons (wV 0) (wCons (wV 1) wNil))) (wUn fNeg (wCall F__law_gcd (wCons (wV 0) (wCons (wV 1) wNil))))))
    (wRet (wTup (wCons (wOp fDiv (wV 0) (wV 2)) (wCons (wOp fDiv (wV 1) (wV 2)) wNil))))
def W__law_same (K : PySem.W.Frag) (Fr : VS) : WS :=
    wSeq (wIfS (wOr (wTst (wOp fIs (wV 1) (wC .non))) (wOr (wTst (wOp fIs (wV 1) (wC (.bl true)))) (wTst (wOp fIs (wV 1) (wC (.bl false)))))) (wRet (wOrV (wAndV (wOp fIs (wV 1) (wC .non)) (wOp fIs (wV 0) (wC .non))) (wOrV (wAndV (wOp fIs (wV 1) (wC (.bl true))) (wOp fIs (wV 0) (wC (.bl true)))) (wAndV (wOp fIs (wV 1) (wC (.bl false))) (wOp fIs (wV 0) (wC (.bl false))))))) (wNext))
    (wSeq (wIfS (wTru (wIsi .tuple (wV 1))) (wSeq (wSet 2 (wAndV (wIsi .tuple (wV 0)) (wOp fEq (wCB fLen (wCons (wV 0) wNil)) (wCB fLen (wCons (wV 1) wNil)))))
    (wRet (wAndV (wV 2) (wCB fAll (wCons (wLc (w1 (wCB fLz (wCons (wV 0) (wCons (wV 1) wNil)))) zSeq [3, 4] (gTu (gCo (gN 3) (gCo (gN 4) gNi)) 2) (wYes) (wCall Fr (wCons (wV 3) (wCons (wV 4) wNil)))) wNil))))) (wNext))
    (wSeq (wIfS (wTru (wIsi .str (wV 1))) (wRet (wAndV (wIsi .str (wV 0)) (wOp fEq (wV 0) (wV 1)))) (wNext))
    (wRet (wAndV (wIsi .int (wV 0)) (wAndV (wNotV (wIsi .bool (wV 0))) (wOp fEq (wV 0) (wV 1)))))))
def W__law_some_fraction (K : PySem.W.Frag) : WS :=
    wSeq (wPar [2, 3] (wCons (wOp fSub (wCall F__law_draw (wCons (wV 0) (wCons (wOp fAdd (wOp fMul (wC (.int 2)) (wV 1)) (wC (.int 1))) wNil))) (wV 1)) (wCons (wOp fAdd (wC (.int 1)) (wCall F__law_draw (wCons (wV 0) (wCons (wV 1) wNil)))) wNil)))
    (wRet (wCall F__law_frac (wCons (wV 2) (wCons (wV 3) wNil))))
def W__law_some_row (K : PySem.W.Frag) : WS :=
    wSeq (wIfS (wTst (wOp fEq (wV 2) (wC (.int 0)))) (wSeq (wSet 3 (wLc (wCons (wV 1) wNil) zRng1 [4] (gN 4) (wYes) (wTup (wCons (wOp fSub (wCall F__law_draw (wCons (wV 0) (wCons (wC (.int 5)) wNil))) (wC (.int 2))) (wCons (wC (.int 1)) wNil)))))
    (wRet (wOp fAdd (wV 3) (wLst (wCons (wTup (wCons (wCall F__law_pick (wCons (wV 0) (wCons (wLst (wCons (wC (.int 1)) (wCons (wUn fNeg (wC (.int 1))) (wCons (wC (.int 1)) (wCons (wC (.int 2)) (wCons (wUn fNeg (wC (.int 2))) wNil)))))) wNil))) (wCons (wC (.int 1)) wNil))) wNil))))) (wNext))
    (wSeq (wSet 5 (wIf (wTst (wOp fEq (wV 2) (wC (.int 1)))) (wC (.int 12)) (wC (.int 1000))))
    (wSeq (wSet 3 (wLc (wCons (wOp fAdd (wV 1) (wC (.int 1))) wNil) zRng1 [4] (gN 4) (wYes) (wCall F__law_some_fraction (wCons (wV 0) (wCons (wV 5) wNil)))))
    (wSeq (wIfS (wTst (wOp fEq (wOp fIx (wOp fIx (wV 3) (wUn fNeg (wC (.int 1)))) (wC (.int 0))) (wC (.int 0)))) (wAsg (wTup (wCons (wC (.int 3)) (wCons (wC (.int 2)) wNil))) (gIx (wV 3) (wUn fNeg (wC (.int 1))))) (wNext))
    (wRet (wV 3)))))
def W__law_some_case (K : PySem.W.Frag) : WS :=
    wSeq (wPar [1, 2] (wCons (wOp fAdd (wC (.int 1)) (wCall F__law_draw (wCons (wV 0) (wCons (wC (.int 4)) wNil)))) (wCons (wCall F__law_pick (wCons (wV 0) (wCons (wLst (wCons (wC (.int 0)) (wCons (wC (.int 0)) (wCons (wC (.int 0)) (wCons (wC (.int 0)) (wCons (wC (.int 0)) (wCons (wC (.int 0)) (wCons (wC (.int 0)) (wCons (wC (.int 0)) (wCons (wC (.int 1)) (wCons (wC (.int 1)) (wCons (wC (.int 1)) (wCons (wC (.int 1)) (wCons (wC (.int 1)) (wCons (wC (.int 1)) (wCons (wC (.int 1)) (wCons (wC (.int 2)) wNil))))))))))))))))) wNil))) wNil)))
    (wSeq (wIfS (wTst (wOp fEq (wCall F__law_draw (wCons (wV 0) (wCons (wC (.int 8)) wNil))) (wC (.int 0)))) (wSet 1 (wOp fAdd (wC (.int 5)) (wCall F__law_draw (wCons (wV 0) (wCons (wC (.int 4)) wNil))))) (wNext))
    (wSeq (wPar [3, 4] (wCons (wCall F__law_some_row (wCons (wV 0) (wCons (wV 1) (wCons (wV 2) wNil)))) (wCons (wCall F__law_some_row (wCons (wV 0) (wCons (wV 1) (wCons (wV 2) wNil)))) wNil)))
    (wSeq (wSet 5 (wTup (wCons (wCB fTuple (wCons (wCall F__law_some_row (wCons (wV 0) (wCons (wV 1) (wCons (wV 2) wNil)))) wNil)) (wCons (wCB fTuple (wCons (wOp fAdd (wSl K (wCall F__law_some_row (wCons (wV 0) (wCons (wV 1) (wCons (wV 2) wNil)))) wONone (wOSome (wUn fNeg (wC (.int 1))))) (wLst (wCons (wTup (wCons (wC (.int 0)) (wCons (wC (.int 1)) wNil))) wNil))) wNil)) wNil))))
    (wSeq (wIfS (wTst (wOp fEq (wCall F__law_draw (wCons (wV 0) (wCons (wC (.int 6)) wNil))) (wC (.int 0)))) (wAsg (wTup (wCons (wC (.int 0)) (wCons (wC (.int 1)) wNil))) (gIx (wV 4) (wUn fNeg (wC (.int 1))))) (wIfS (wTst (wOp fEq (wV 2) (wC (.int 0)))) (wAsg (wCall F__law_pick (wCons (wV 0) (wCons (wLst (wCons (wTup (wCons (wC (.int 1)) (wCons (wC (.int 1)) wNil))) (wCons (wTup (wCons (wUn fNeg (wC (.int 1))) (wCons (wC (.int 1)) wNil))) (wCons (wTup (wCons (wC (.int 1)) (wCons (wC (.int 2)) wNil))) (wCons (wTup (wCons (wC (.int 2)) (wCons (wC (.int 1)) wNil))) wNil))))) wNil))) (gIx (wV 4) (wUn fNeg (wC (.int 1))))) (wNext)))
    (wSeq (wSet 6 (wCall F__law_pick (wCons (wV 0) (wCons (wLst (wCons (wTup (wCons (wC (.int 1)) (wCons (wC (.int 1)) wNil))) (wCons (wTup (wCons (wUn fNeg (wC (.int 1))) (wCons (wC (.int 1)) wNil))) (wCons (wTup (wCons (wC (.int 1)) (wCons (wC (.int 2)) wNil))) (wCons (wTup (wCons (wUn fNeg (wC (.int 1))) (wCons (wC (.int 2)) wNil))) (wCons (wTup (wCons (wUn fNeg (wC (.int 2))) (wCons (wC (.int 1)) wNil))) (wCons (wTup (wCons (wC (.int 0)) (wCons (wC (.int 1)) wNil))) wNil))))))) wNil))))
    (wSeq (wIfS (wTst (wOp fGt (wV 2) (wC (.int 0)))) (wSet 6 (wCall F__law_some_fraction (wCons (wV 0) (wCons (wIf (wTst (wOp fEq (wV 2) (wC (.int 1)))) (wC (.int 12)) (wC (.int 1000))) wNil)))) (wNext))
    (wSeq (wSet 7 (wOp fAdd (wC (.int 1)) (wCall F__law_draw (wCons (wV 0) (wCons (wC (.int 6)) wNil)))))
    (wSeq (wSet 8 (wCB fTuple (wCons (wLc (wCons (wV 1) wNil) zRng1 [9] (gN 9) (wYes) (wCall F__law_some_fraction (wCons (wV 0) (wCons (wOp fIx (wLst (wCons (wC (.int 3)) (wCons (wC (.int 12)) (wCons (wC (.int 1000)) wNil)))) (wV 2)) wNil)))) wNil)))
    (wRet (wTup (wCons (wV 5) (wCons (wTup (wCons (wCB fTuple (wCons (wV 3) wNil)) (wCons (wCB fTuple (wCons (wV 4) wNil)) wNil))) (wCons (wV 6) (wCons (wV 7) (wCons (wV 8) wNil)))))))))))))))
def W__law_whole (K : PySem.W.Frag) : WS :=
    wSeq (wSet 1 (wC (.int 1)))
    (wSeq (wFor (w1 (wOp fAdd (wOp fIx (wV 0) (wC (.int 0))) (wOp fIx (wV 0) (wC (.int 1))))) zSeq (gN 2) (wSet 1 (wOp fMul (wOp fDiv (wV 1) (wCall F__law_gcd (wCons (wV 1) (wCons (wOp fIx (wV 2) (wC (.int 1))) wNil)))) (wOp fIx (wV 2) (wC (.int 1))))))
    (wRet (wTup (wCons (wLc (w1 (wOp fIx (wV 0) (wC (.int 0)))) zSeq [2] (gN 2) (wYes) (wOp fMul (wOp fIx (wV 2) (wC (.int 0))) (wOp fDiv (wV 1) (wOp fIx (wV 2) (wC (.int 1)))))) (wCons (wLc (w1 (wOp fIx (wV 0) (wC (.int 1)))) zSeq [2] (gN 2) (wYes) (wOp fMul (wOp fIx (wV 2) (wC (.int 0))) (wOp fDiv (wV 1) (wOp fIx (wV 2) (wC (.int 1)))))) wNil)))))
def W__law_room (K : PySem.W.Frag) : WS :=
    wSeq (wAsg (wCall F__law_whole (wCons (wV 1) wNil)) (gTu (gCo (gN 5) (gCo (gN 6) gNi)) 2))
    (wSeq (wAsg (wCall F__law_whole (wCons (wV 0) wNil)) (gTu (gCo (gN 7) (gCo (gN 8) gNi)) 2))
    (wSeq (wSet 9 (wOp fAdd (wOp fMul (wV 3) (wUn fBits (wCB fInt (wCons (wCB fAbs (wCons (wOp fMul (wOp fIx (wV 2) (wC (.int 1))) (wOp fIx (wV 5) (wUn fNeg (wC (.int 1))))) wNil)) wNil)))) (wUn fBits (wCB fInt (wCons (wCB fAbs (wCons (wOp fMul (wOp fIx (wV 2) (wC (.int 1))) (wOp fIx (wV 7) (wUn fNeg (wC (.int 1))))) wNil)) wNil)))))
    (wSeq (wSet 10 (wC (.int 0)))
    (wSeq (wWhile (wAnd (wTst (wOp fLt (wV 10) (wOp fSub (wC (.int 20)) (wV 4)))) (wTst (wOp fLe (wOp fMul (wOp fMul (wOp fAdd (wV 10) (wC (.int 1))) (wOp fAdd (wV 10) (wC (.int 1)))) (wV 9)) (wC (.int 24000))))) (wSet 10 (wOp fAdd (wV 10) (wC (.int 1)))))
    (wRet (wV 10))))))
def W__law_begun (K : PySem.W.Frag) : WS :=
    wSeq (wSet 1 (wC (.int 1)))
    (wSeq (wFor (w1 (wV 0)) zSeq (gN 2) (wSet 1 (wOp fMul (wOp fDiv (wV 1) (wCall F__law_gcd (wCons (wV 1) (wCons (wOp fIx (wV 2) (wC (.int 1))) wNil)))) (wOp fIx (wV 2) (wC (.int 1))))))
    (wRet (wTup (wCons (wLc (w1 (wV 0)) zSeq [2] (gN 2) (wYes) (wOp fMul (wOp fIx (wV 2) (wC (.int 0))) (wOp fDiv (wV 1) (wOp fIx (wV 2) (wC (.int 1)))))) (wCons (wV 1) wNil)))))
def W__law_own_run (K : PySem.W.Frag) : WS :=
    wSeq (wAsg (wCall F__law_whole (wCons (wV 1) wNil)) (gTu (gCo (gN 6) (gCo (gN 7) gNi)) 2))
    (wSeq (wAsg (wCall F__law_whole (wCons (wV 0) wNil)) (gTu (gCo (gN 8) (gCo (gN 9) gNi)) 2))
    (wSeq (wAsg (wV 2) (gTu (gCo (gN 10) (gCo (gN 11) gNi)) 2))
    (wSeq (wSet 12 (wLc (w1 (wCB fLz (wCons (wV 8) (wCons (wV 9) wNil)))) zSeq [13, 14] (gTu (gCo (gN 13) (gCo (gN 14) gNi)) 2) (wYes) (wOp fSub (wOp fMul (wV 10) (wV 14)) (wOp fMul (wV 11) (wV 13)))))
    (wSeq (wSet 15 (wLc (w1 (wCB fLz (wCons (wV 6) (wCons (wV 7) wNil)))) zSeq [13, 14] (gTu (gCo (gN 13) (gCo (gN 14) gNi)) 2) (wYes) (wOp fSub (wOp fMul (wV 10) (wV 14)) (wOp fMul (wV 11) (wV 13)))))
    (wSeq (wAsg (wCall F__law_begun (wCons (wV 4) wNil)) (gTu (gCo (gN 16) (gCo (gN 17) gNi)) 2))
    (wSeq (wSet 18 (wCB fList (wCons (wV 4) wNil)))
    (wSeq (wFor (wCons (wV 5) wNil) zRng1 (gN 19) (wSeq (wSet 20 (wCB fSum (wCons (wLc (w1 (wCB fLz (wCons (wV 12) (wCons (wV 16) wNil)))) zSeq [13, 14] (gTu (gCo (gN 13) (gCo (gN 14) gNi)) 2) (wYes) (wOp fMul (wV 13) (wV 14))) wNil)))
    (wSeq (wSet 21 (wCB fSum (wCons (wLc (w1 (wCB fLz (wCons (wV 15) (wCons (wV 16) wNil)))) zSeq [13, 14] (gTu (gCo (gN 13) (gCo (gN 14) gNi)) 2) (wYes) (wOp fMul (wV 13) (wV 14))) wNil)))
    (wSeq (wSet 22 (wOp fMul (wV 11) (wOp fIx (wV 8) (wUn fNeg (wC (.int 1))))))
    (wSeq (wFor (wCons (wV 3) wNil) zRng1 (gN 23) (wPar [20, 22] (wCons (wOp fAdd (wOp fMul (wOp fMul (wV 10) (wOp fIx (wV 7) (wUn fNeg (wC (.int 1))))) (wV 20)) (wOp fMul (wV 21) (wV 22))) (wCons (wOp fMul (wOp fMul (wV 11) (wOp fIx (wV 6) (wUn fNeg (wC (.int 1))))) (wV 22)) wNil))))
    (wSeq (wIfS (wTst (wOp fLt (wV 22) (wC (.int 0)))) (wPar [20, 22] (wCons (wUn fNeg (wV 20)) (wCons (wUn fNeg (wV 22)) wNil))) (wNext))
    (wSeq (wPar [16, 17] (wCons (wOp fAdd (wLc (w1 (wSl K (wV 16) (wOSome (wC (.int 1))) wONone)) zSeq [13] (gN 13) (wYes) (wOp fMul (wV 13) (wV 22))) (wLst (wCons (wV 20) wNil))) (wCons (wOp fMul (wV 17) (wV 22)) wNil)))
    (wSeq (wSet 24 (wCall F__law_gcd (wCons (wV 17) (wCons (wV 20) wNil))))
    (wSeq (wDrop (wAppend (wV 18) (wTup (wCons (wOp fDiv (wV 20) (wV 24)) (wCons (wOp fDiv (wV 17) (wV 24)) wNil)))))
    (wSeq (wFor (w1 (wSl K (wV 16) wONone (wOSome (wUn fNeg (wC (.int 1)))))) zSeq (gN 13) (wSet 24 (wIf (wTst (wOp fGt (wV 24) (wC (.int 1)))) (wCall F__law_gcd (wCons (wV 24) (wCons (wV 13) wNil))) (wC (.int 1)))))
    (wPar [16, 17] (wCons (wLc (w1 (wV 16)) zSeq [13] (gN 13) (wYes) (wOp fDiv (wV 13) (wV 24))) (wCons (wOp fDiv (wV 17) (wV 24)) wNil)))))))))))))
    (wRet (wCB fTuple (wCons (wV 18) wNil))))))))))
def W__law_is_kept (K : PySem.W.Frag) : WS :=
    wSeq (wIfS (wNot (wTru (wIsi .tuple (wV 0)))) (wRet (wC (.bl false))) (wNext))
    (wSeq (wFor (w1 (wV 0)) zSeq (gN 2) (wSeq (wIfS (wOr (wNot (wTru (wIsi .tuple (wV 2)))) (wTst (wOp fNe (wCB fLen (wCons (wV 2) wNil)) (wC (.int 2))))) (wRet (wC (.bl false))) (wNext))
    (wIfS (wOr (wNot (wTru (wCB fAll (wCons (wLc (w1 (wV 2)) zSeq [3] (gN 3) (wYes) (wAndV (wIsi .int (wV 3)) (wNotV (wIsi .bool (wV 3))))) wNil)))) (wTst (wOp fLt (wOp fIx (wV 2) (wC (.int 1))) (wC (.int 1))))) (wRet (wC (.bl false))) (wNext))))
    (wSeq (wIfS (wOr (wTst (wOp fEq (wV 0) (wTup (wNil)))) (wTst (wOp fNe (wOp fIx (wV 0) (wUn fNeg (wC (.int 1)))) (wTup (wCons (wC (.int 1)) (wCons (wC (.int 1)) wNil)))))) (wRet (wC (.bl false))) (wNext))
    (wSeq (wFor (wCons (wOp fSub (wOp fAdd (wCB fLen (wCons (wV 1) wNil)) (wC (.int 1))) (wCB fLen (wCons (wV 0) wNil))) wNil) zRng1 (gN 4) (wSeq (wPar [5, 6] (wCons (wC (.int 0)) (wCons (wC (.int 1)) wNil)))
    (wSeq (wFor (w1 (wCB fLz (wCons (wV 0) (wCons (wSl K (wV 1) (wOSome (wV 4)) (wOSome (wOp fAdd (wV 4) (wCB fLen (wCons (wV 0) wNil))))) wNil)))) zSeq (gTu (gCo (gN 2) (gCo (gN 7) gNi)) 2) (wPar [5, 6] (wCons (wOp fAdd (wOp fMul (wOp fMul (wV 5) (wOp fIx (wV 2) (wC (.int 1)))) (wOp fIx (wV 7) (wC (.int 1)))) (wOp fMul (wOp fMul (wOp fIx (wV 2) (wC (.int 0))) (wOp fIx (wV 7) (wC (.int 0)))) (wV 6))) (wCons (wOp fMul (wOp fMul (wV 6) (wOp fIx (wV 2) (wC (.int 1)))) (wOp fIx (wV 7) (wC (.int 1)))) wNil))))
    (wIfS (wTst (wOp fNe (wV 5) (wC (.int 0)))) (wRet (wC (.bl false))) (wNext)))))
    (wRet (wC (.bl true))))))
def W_law1 (K : PySem.W.Frag) : WS :=
    wSet 1 (wCall (F__law_own_bag K) (wCons (wV 0) wNil))
def W_law2 (K : PySem.W.Frag) : WS :=
    wSeq (wSet 2 (wLst (wNil)))
    (wSeq (wFor (wCons (wC (.int 2)) wNil) zRng1 (gN 3) (wSeq (wAsg (wCall F__law_some_case (wCons (wV 1) wNil)) (gTu (gCo (gN 4) (gCo (gN 5) (gCo (gN 6) (gCo (gN 7) (gCo (gN 8) gNi))))) 5))
    (wSeq (wPar [9, 10] (wCons (wCall F__law_room (wCons (wV 4) (wCons (wV 5) (wCons (wV 6) (wCons (wV 7) (wCons (wCB fLen (wCons (wV 8) wNil)) wNil)))))) (wCons (wCB fLen (wCons (wV 8) wNil)) wNil)))
    (wSeq (wSet 11 (wIf (wTst (wOp fGt (wCall F__law_draw (wCons (wV 1) (wCons (wC (.int 3)) wNil))) (wC (.int 0)))) (wV 9) (wCall F__law_draw (wCons (wV 1) (wCons (wOp fAdd (wV 9) (wC (.int 1))) wNil)))))
    (wDrop (wAppend (wV 2) (wTup (wCons (wV 4) (wCons (wV 5) (wCons (wV 6) (wCons (wV 7) (wCons (wV 8) (wCons (wCall F__law_own_run (wCons (wV 4) (wCons (wV 5) (wCons (wV 6) (wCons (wV 7) (wCons (wV 8) (wCons (wV 11) wNil))))))) wNil)))))))))))))
    (wSeq (wFor (wCons (wC (.int 4)) wNil) zRng1 (gN 12) (wFor (w1 (wV 2)) zSeq (gTu (gCo (gN 4) (gCo (gN 5) (gCo (gN 6) (gCo (gN 7) (gCo (gN 8) (gCo (gN 13) gNi)))))) 6) (wSeq (wIfS (wTst (wOp fEq (wV 12) (wC (.int 1)))) (wSet 14 (wCallK F_mended_run 0 [5, 4, 3, 2, 1, 0] (wApp (wNil) (wCons (wCB fLen (wCons (wV 13) wNil)) (wCons (wV 8) (wCons (wV 7) (wCons (wV 6) (wCons (wV 5) (wCons (wV 4) wNil))))))))) (wIfS (wTst (wOp fEq (wV 12) (wC (.int 2)))) (wSeq (wSet 15 (wCall F_mended_poly (wCons (wV 4) (wCons (wV 5) (wCons (wV 6) (wCons (wV 7) wNil))))))
    (wSeq (wSet 14 (wV 13))
    (wIfS (wOr (wNot (wTru (wIsi .tuple (wV 15)))) (wOr (wTst (wOp fNe (wCB fLen (wCons (wV 15) wNil)) (wOp fAdd (wCB fLen (wCons (wV 8) wNil)) (wC (.int 1))))) (wNot (wTru (wCall F__law_is_kept (wCons (wV 15) (wCons (wV 13) wNil))))))) (wRet (wC (.bl false))) (wNext)))) (wSet 14 (wCall F_mended_run (wCons (wV 4) (wCons (wV 5) (wCons (wV 6) (wCons (wV 7) (wCons (wV 8) (wCons (wCB fLen (wCons (wV 13) wNil)) wNil))))))))))
    (wIfS (wNot (wTru (wCall F__law_same (wCons (wV 14) (wCons (wV 13) wNil))))) (wRet (wC (.bl false))) (wNext)))))
    (wSeq (wFor (w1 (wV 2)) zSeq (gTu (gCo (gN 4) (gCo (gN 5) (gCo (gN 6) (gCo (gN 7) (gCo (gN 8) (gCo (gN 13) gNi)))))) 6) (wSeq (wSet 16 (wCB fMin (wCons (wCB fLen (wCons (wV 13) wNil)) (wCons (wOp fAdd (wCB fLen (wCons (wV 8) wNil)) (wCall F__law_draw (wCons (wV 1) (wCons (wC (.int 2)) wNil)))) wNil))))
    (wIfS (wNot (wTru (wCall F__law_same (wCons (wCall F_mended_run (wCons (wV 4) (wCons (wV 5) (wCons (wV 6) (wCons (wV 7) (wCons (wV 8) (wCons (wV 16) wNil))))))) (wCons (wSl K (wV 13) wONone (wOSome (wV 16))) wNil))))) (wRet (wC (.bl false))) (wNext))))
    (wRet (wC (.bl true))))))
theorem sm10 {i : Int} (h1 : -1000 ≤ i) (h2 : i ≤ 1000) : sm 10 i := by
  show i.natAbs < 2 ^ 10
  omega
theorem log_small {n : Int} (h1 : 0 ≤ n) (h2 : n ≤ 100000) : n.natAbs.log2 < 9000 := by
  have : sm 17 n := by
    show n.natAbs < 2 ^ 17
    omega
  exact Nat.lt_of_le_of_lt this.log (by decide)
theorem sm_gcd {n : Nat} {a b : Int} (hb : sm n b) (h0 : b ≠ 0) : sm n (Int.gcd a b : Int) := by
  refine hb.le ?_
  rw [Int.natAbs_natCast]
  exact Nat.le_of_dvd (by omega) (Nat.gcd_dvd_right _ _)
theorem divB {n : Nat} {a b : Int} (ha : sm n a) (h0 : b ≠ 0) (hn : n ≤ 13400) : CDivA a b := ⟨h0, .inr (Nat.lt_of_le_of_lt ha.log (by omega))⟩
theorem p_fraction_of {K : PySem.W.Frag} : ∀ ds Qf, F_fraction_of ds Qf → ds.length = 2 ∧ W_fraction_of K { nx := fun _ => Qf (.sh .non), rt := Qf } (begin 3 ds) := by
  intro ds Qf h
  unfold F_fraction_of at h; split at h
  · rename_i a b
    obtain ⟨h0, ha, hb, hq⟩ := h
    refine ⟨rfl, ?_⟩
    have g0 : 0 < Int.gcd a b := Int.gcd_pos_of_ne_zero_right _ h0
    simp only [W_fraction_of, LV.begin, at_0, at_1, at_2, at_3, at_m1a, at_m1b, at_m1c, at_m1d, at_m2b, at_m2c, decide_true, eq_self, Int.reduceEq, true_and, and_true, false_and, and_false, or_false, false_or, Int.reduceNeg, gIx, decide_false, Bool.and_true, Bool.true_and, Bool.or_true, wSeq, wSet, wAsg, wPar, wIf, wIfS, wTst, LV.wTru, LV.wNot, wAnd, wOr, wAndV, wOrV, wNotV, wOp, wUn, wV, wC, fCI, fAdd, fSub, fMul, fDiv, fMod, fPow, fNeg, fIx, fIs, fIsNot, fEq, fNe, fLt, fLe, fGt, fGe, wCB, wCons, wNil, w1, wApp, wIsi, isiB, bagD, isNonD, fLen, fAbs, fInt, fGcd, fList, fTuple, fRepr, fLz, fLen0, fLrv, fSum, fMax, fMin, fAll, fAny, seqD, rdL, rdW, fzL, fzW, unL, putS, RV.sl, wRet, wRetN, wNever, wNext, wDrop, wTup, wLst, outW, placeW, gN, gTu, gCo, gNi, wFor, zSeq, zr_0, zr_1, zr_2, zr_3, zr_4, nc_0, nc_1, nc_2, nc_3, nc_4, zEnum, zZip, zZip3, ixD, tru, wCall, wCallK, wApp, wAppend, wPopAt, wExtend, wChainE, fIn, fBits, fFac, fComb, fRngL1, fRngL2, owW, wSl, fSl, wONone, wOSome, wLc, wYes, List.map, List.replicate, List.length, List.append, List.set, List.take, List.drop, List.getLast?, List.dropLast, List.filterMap, List.getElem?_cons_zero, List.getElem?_cons_succ, List.getElem?_nil, Nat.reduceAdd, Nat.reduceSub, Nat.reduceLT, List.cons_append, List.nil_append, Option.some.injEq, reduceCtorEq, reduceIte, Bool.not_true, Bool.not_false, Bool.false_eq_true, List.isEmpty]
    have e : Nat.gcd a.natAbs b.natAbs = Int.gcd a b := rfl
    rw [e]
    have e2 := low_q (a := a) h0
    have hq : Qf (.sh (.tup [.int (low a b).1, .int (low a b).2])) := by rw [e2]; exact hq
    unfold low at hq
    by_cases c : 0 < b
    · rw [if_pos c] at hq
      simp only [decide_eq_true c, ↓reduceIte, List.set, List.length, Nat.reduceAdd]
      exact ⟨divB ha (by omega) (by omega), divB hb (by omega) (by omega), by omega, hq⟩
    · rw [if_neg c] at hq
      simp only [decide_eq_false c, Bool.false_eq_true, ↓reduceIte, List.set, List.length, Nat.reduceAdd]
      exact ⟨divB ha (by omega) (by omega), divB hb (by omega) (by omega), by omega, hq⟩
  · exact h.elim
theorem p_fraction_times {K : PySem.W.Frag} : ∀ ds Qf, F_fraction_times ds Qf → ds.length = 2 ∧ W_fraction_times K { nx := fun _ => Qf (.sh .non), rt := Qf } (begin 2 ds) := by
  intro ds Qf h
  obtain ⟨p, q, rfl, ⟨n, m, h1, h2, h3⟩, hq⟩ := h
  refine ⟨rfl, ?_⟩
  simp only [W_fraction_times, F_fraction_of, LV.begin, at_0, at_1, at_2, at_3, at_m1a, at_m1b, at_m1c, at_m1d, at_m2b, at_m2c, decide_true, eq_self, Int.reduceEq, true_and, and_true, false_and, and_false, or_false, false_or, Int.reduceNeg, gIx, decide_false, Bool.and_true, Bool.true_and, Bool.or_true, wSeq, wSet, wAsg, wPar, wIf, wIfS, wTst, LV.wTru, LV.wNot, wAnd, wOr, wAndV, wOrV, wNotV, wOp, wUn, wV, wC, fCI, fAdd, fSub, fMul, fDiv, fMod, fPow, fNeg, fIx, fIs, fIsNot, fEq, fNe, fLt, fLe, fGt, fGe, wCB, wCons, wNil, w1, wApp, wIsi, isiB, bagD, isNonD, fLen, fAbs, fInt, fGcd, fList, fTuple, fRepr, fLz, fLen0, fLrv, fSum, fMax, fMin, fAll, fAny, seqD, rdL, rdW, fzL, fzW, unL, putS, RV.sl, wRet, wRetN, wNever, wNext, wDrop, wTup, wLst, outW, placeW, gN, gTu, gCo, gNi, wFor, zSeq, zr_0, zr_1, zr_2, zr_3, zr_4, nc_0, nc_1, nc_2, nc_3, nc_4, zEnum, zZip, zZip3, ixD, tru, wCall, wCallK, wApp, wAppend, wPopAt, wExtend, wChainE, fIn, fBits, fFac, fComb, fRngL1, fRngL2, owW, wSl, fSl, wONone, wOSome, wLc, wYes, List.map, List.replicate, List.length, List.append, List.set, List.take, List.drop, List.getLast?, List.dropLast, List.filterMap, List.getElem?_cons_zero, List.getElem?_cons_succ, List.getElem?_nil, Nat.reduceAdd, Nat.reduceSub, Nat.reduceLT, List.cons_append, List.nil_append, Option.some.injEq, reduceCtorEq, reduceIte, Bool.not_true, Bool.not_false, Bool.false_eq_true, List.isEmpty]
  refine ⟨h1.a.mulW h2.a (by omega), h1.b.mulW h2.b (by omega), Int.mul_ne_zero (den_ne' p) (den_ne' q), (h1.a.mul h2.a).mono (by omega), (h1.b.mul h2.b).mono (by omega), ?_⟩
  have e : (((p.num * q.num : Int) : Rat) / ((((p.den : Nat) : Int) * ((q.den : Nat) : Int) : Int) : Rat)) = p * q := qeq (Int.mul_ne_zero (den_ne' p) (den_ne' q)) (by
    have e1 := den_nd p
    have e2 := den_nd q
    push_cast at *
    rw [← e1, ← e2]; grind)
  rw [e]; exact hq
theorem p_fraction_over {K : PySem.W.Frag} : ∀ ds Qf, F_fraction_over ds Qf → ds.length = 2 ∧ W_fraction_over K { nx := fun _ => Qf (.sh .non), rt := Qf } (begin 2 ds) := by
  intro ds Qf h
  obtain ⟨p, q, rfl, h0, ⟨n, m, h1, h2, h3⟩, hq⟩ := h
  refine ⟨rfl, ?_⟩
  have hn : q.num ≠ 0 := fun e => h0 (Rat.num_eq_zero.mp e)
  simp only [W_fraction_over, F_fraction_of, LV.begin, at_0, at_1, at_2, at_3, at_m1a, at_m1b, at_m1c, at_m1d, at_m2b, at_m2c, decide_true, eq_self, Int.reduceEq, true_and, and_true, false_and, and_false, or_false, false_or, Int.reduceNeg, gIx, decide_false, Bool.and_true, Bool.true_and, Bool.or_true, wSeq, wSet, wAsg, wPar, wIf, wIfS, wTst, LV.wTru, LV.wNot, wAnd, wOr, wAndV, wOrV, wNotV, wOp, wUn, wV, wC, fCI, fAdd, fSub, fMul, fDiv, fMod, fPow, fNeg, fIx, fIs, fIsNot, fEq, fNe, fLt, fLe, fGt, fGe, wCB, wCons, wNil, w1, wApp, wIsi, isiB, bagD, isNonD, fLen, fAbs, fInt, fGcd, fList, fTuple, fRepr, fLz, fLen0, fLrv, fSum, fMax, fMin, fAll, fAny, seqD, rdL, rdW, fzL, fzW, unL, putS, RV.sl, wRet, wRetN, wNever, wNext, wDrop, wTup, wLst, outW, placeW, gN, gTu, gCo, gNi, wFor, zSeq, zr_0, zr_1, zr_2, zr_3, zr_4, nc_0, nc_1, nc_2, nc_3, nc_4, zEnum, zZip, zZip3, ixD, tru, wCall, wCallK, wApp, wAppend, wPopAt, wExtend, wChainE, fIn, fBits, fFac, fComb, fRngL1, fRngL2, owW, wSl, fSl, wONone, wOSome, wLc, wYes, List.map, List.replicate, List.length, List.append, List.set, List.take, List.drop, List.getLast?, List.dropLast, List.filterMap, List.getElem?_cons_zero, List.getElem?_cons_succ, List.getElem?_nil, Nat.reduceAdd, Nat.reduceSub, Nat.reduceLT, List.cons_append, List.nil_append, Option.some.injEq, reduceCtorEq, reduceIte, Bool.not_true, Bool.not_false, Bool.false_eq_true, List.isEmpty, decide_eq_false hn]
  refine ⟨h1.a.mulW h2.b (by omega), h1.b.mulW h2.a (by omega), Int.mul_ne_zero (den_ne' p) hn, (h1.a.mul h2.b).mono (by omega), (h1.b.mul h2.a).mono (by omega), ?_⟩
  have e : (((p.num * ((q.den : Nat) : Int) : Int) : Rat) / ((((p.den : Nat) : Int) * q.num : Int) : Rat)) = p / q := qeq (Int.mul_ne_zero (den_ne' p) hn) (by
    have e1 := den_nd p
    have e2 := den_nd q
    have e3 := Rat.div_mul_cancel (a := p) h0
    push_cast at *
    rw [← e1, ← e2]; grind)
  rw [e]; exact hq
theorem p_fraction_sum {K : PySem.W.Frag} : ∀ ds Qf, F_fraction_sum ds Qf → ds.length = 2 ∧ W_fraction_sum K { nx := fun _ => Qf (.sh .non), rt := Qf } (begin 2 ds) := by
  intro ds Qf h
  obtain ⟨p, q, rfl, ⟨n, m, h1, h2, h3⟩, hq⟩ := h
  refine ⟨rfl, ?_⟩
  simp only [W_fraction_sum, F_fraction_of, LV.begin, at_0, at_1, at_2, at_3, at_m1a, at_m1b, at_m1c, at_m1d, at_m2b, at_m2c, decide_true, eq_self, Int.reduceEq, true_and, and_true, false_and, and_false, or_false, false_or, Int.reduceNeg, gIx, decide_false, Bool.and_true, Bool.true_and, Bool.or_true, wSeq, wSet, wAsg, wPar, wIf, wIfS, wTst, LV.wTru, LV.wNot, wAnd, wOr, wAndV, wOrV, wNotV, wOp, wUn, wV, wC, fCI, fAdd, fSub, fMul, fDiv, fMod, fPow, fNeg, fIx, fIs, fIsNot, fEq, fNe, fLt, fLe, fGt, fGe, wCB, wCons, wNil, w1, wApp, wIsi, isiB, bagD, isNonD, fLen, fAbs, fInt, fGcd, fList, fTuple, fRepr, fLz, fLen0, fLrv, fSum, fMax, fMin, fAll, fAny, seqD, rdL, rdW, fzL, fzW, unL, putS, RV.sl, wRet, wRetN, wNever, wNext, wDrop, wTup, wLst, outW, placeW, gN, gTu, gCo, gNi, wFor, zSeq, zr_0, zr_1, zr_2, zr_3, zr_4, nc_0, nc_1, nc_2, nc_3, nc_4, zEnum, zZip, zZip3, ixD, tru, wCall, wCallK, wApp, wAppend, wPopAt, wExtend, wChainE, fIn, fBits, fFac, fComb, fRngL1, fRngL2, owW, wSl, fSl, wONone, wOSome, wLc, wYes, List.map, List.replicate, List.length, List.append, List.set, List.take, List.drop, List.getLast?, List.dropLast, List.filterMap, List.getElem?_cons_zero, List.getElem?_cons_succ, List.getElem?_nil, Nat.reduceAdd, Nat.reduceSub, Nat.reduceLT, List.cons_append, List.nil_append, Option.some.injEq, reduceCtorEq, reduceIte, Bool.not_true, Bool.not_false, Bool.false_eq_true, List.isEmpty]
  refine ⟨h1.a.mulW h2.b (by omega), h2.a.mulW h1.b (by omega), h1.b.mulW h2.b (by omega), Int.mul_ne_zero (den_ne' p) (den_ne' q), ((h1.a.mul h2.b).add ((h2.a.mul h1.b).mono (by omega))).mono (by omega), (h1.b.mul h2.b).mono (by omega), ?_⟩
  have e : (((p.num * ((q.den : Nat) : Int) + q.num * ((p.den : Nat) : Int) : Int) : Rat) / ((((p.den : Nat) : Int) * ((q.den : Nat) : Int) : Int) : Rat)) = p + q := qeq (Int.mul_ne_zero (den_ne' p) (den_ne' q)) (by
    have e1 := den_nd p
    have e2 := den_nd q
    push_cast at *
    rw [← e1, ← e2]; grind)
  rw [e]; exact hq
theorem p_fraction_less {K : PySem.W.Frag} : ∀ ds Qf, F_fraction_less ds Qf → ds.length = 2 ∧ W_fraction_less K { nx := fun _ => Qf (.sh .non), rt := Qf } (begin 2 ds) := by
  intro ds Qf h
  obtain ⟨p, q, rfl, ⟨n, m, h1, h2, h3⟩, hq⟩ := h
  refine ⟨rfl, ?_⟩
  simp only [W_fraction_less, F_fraction_of, LV.begin, at_0, at_1, at_2, at_3, at_m1a, at_m1b, at_m1c, at_m1d, at_m2b, at_m2c, decide_true, eq_self, Int.reduceEq, true_and, and_true, false_and, and_false, or_false, false_or, Int.reduceNeg, gIx, decide_false, Bool.and_true, Bool.true_and, Bool.or_true, wSeq, wSet, wAsg, wPar, wIf, wIfS, wTst, LV.wTru, LV.wNot, wAnd, wOr, wAndV, wOrV, wNotV, wOp, wUn, wV, wC, fCI, fAdd, fSub, fMul, fDiv, fMod, fPow, fNeg, fIx, fIs, fIsNot, fEq, fNe, fLt, fLe, fGt, fGe, wCB, wCons, wNil, w1, wApp, wIsi, isiB, bagD, isNonD, fLen, fAbs, fInt, fGcd, fList, fTuple, fRepr, fLz, fLen0, fLrv, fSum, fMax, fMin, fAll, fAny, seqD, rdL, rdW, fzL, fzW, unL, putS, RV.sl, wRet, wRetN, wNever, wNext, wDrop, wTup, wLst, outW, placeW, gN, gTu, gCo, gNi, wFor, zSeq, zr_0, zr_1, zr_2, zr_3, zr_4, nc_0, nc_1, nc_2, nc_3, nc_4, zEnum, zZip, zZip3, ixD, tru, wCall, wCallK, wApp, wAppend, wPopAt, wExtend, wChainE, fIn, fBits, fFac, fComb, fRngL1, fRngL2, owW, wSl, fSl, wONone, wOSome, wLc, wYes, List.map, List.replicate, List.length, List.append, List.set, List.take, List.drop, List.getLast?, List.dropLast, List.filterMap, List.getElem?_cons_zero, List.getElem?_cons_succ, List.getElem?_nil, Nat.reduceAdd, Nat.reduceSub, Nat.reduceLT, List.cons_append, List.nil_append, Option.some.injEq, reduceCtorEq, reduceIte, Bool.not_true, Bool.not_false, Bool.false_eq_true, List.isEmpty]
  refine ⟨h1.a.mulW h2.b (by omega), h2.a.mulW h1.b (by omega), h1.b.mulW h2.b (by omega), Int.mul_ne_zero (den_ne' p) (den_ne' q), ((h1.a.mul h2.b).sub ((h2.a.mul h1.b).mono (by omega))).mono (by omega), (h1.b.mul h2.b).mono (by omega), ?_⟩
  have e : (((p.num * ((q.den : Nat) : Int) - q.num * ((p.den : Nat) : Int) : Int) : Rat) / ((((p.den : Nat) : Int) * ((q.den : Nat) : Int) : Int) : Rat)) = p - q := qeq (Int.mul_ne_zero (den_ne' p) (den_ne' q)) (by
    have e1 := den_nd p
    have e2 := den_nd q
    push_cast at *
    rw [← e1, ← e2]; grind)
  rw [e]; exact hq
theorem lcm_div (a b : Nat) : (((a : Int) * (b : Int)).fdiv ((Nat.gcd a b : Nat) : Int)) = ((Nat.lcm a b : Nat) : Int) := by
  rw [Int.fdiv_eq_ediv_of_nonneg _ (by omega)]
  rfl
theorem fdiv_nat (a b : Nat) : ((a : Int)).fdiv (b : Int) = ((a / b : Nat) : Int) := by
  rw [Int.fdiv_eq_ediv_of_nonneg _ (by omega)]; rfl
theorem sm_nat {n a : Nat} (h : a < 2 ^ n) : sm n (a : Int) := by
  show (a : Int).natAbs < 2 ^ n
  rw [Int.natAbs_natCast]; exact h
theorem nat_sm {n a : Nat} (h : sm n (a : Int)) : a < 2 ^ n := by
  have h : (a : Int).natAbs < 2 ^ n := h
  rwa [Int.natAbs_natCast] at h
theorem fmod_rg {a b : Int} (hb : 0 < b) : 0 ≤ a.fmod b ∧ a.fmod b < b := ⟨Int.fmod_nonneg_of_pos a hb, Int.fmod_lt_of_pos a hb⟩
theorem sm31 {v : Int} (h0 : 0 ≤ v) (h1 : v < 2147483647) : sm 31 v := by
  show v.natAbs < 2 ^ 31
  omega
theorem fdiv_nn {a b : Int} (ha : 0 ≤ a) (hb : 0 < b) : 0 ≤ a.fdiv b := Int.fdiv_nonneg ha (by omega)
theorem p__law_own_bag {K : PySem.W.Frag} : ∀ ds Qf, F__law_own_bag K ds Qf → ds.length = 1 ∧ W__law_own_bag K { nx := fun _ => Qf (.sh .non), rt := Qf } (begin 4 ds) := by
  intro ds Qf h
  obtain ⟨rfl, hq⟩ := h
  refine ⟨rfl, ?_⟩
  unfold W__law_own_bag
  refine seq_cut (fun s => ∃ cells : List Int, (∀ c ∈ cells, 0 ≤ c) ∧ cells.length ≤ 63 ∧ s = [.sh (.scr K), .ow (cells.map D.int), .un, .un]) (fun nx hn => ?_) ?_
  · simp only [LV.begin, at_0, at_1, at_2, at_3, at_m1a, at_m1b, at_m1c, at_m1d, at_m2b, at_m2c, decide_true, eq_self, Int.reduceEq, true_and, and_true, false_and, and_false, or_false, false_or, Int.reduceNeg, gIx, decide_false, Bool.and_true, Bool.true_and, Bool.or_true, wSeq, wSet, wAsg, wPar, wIf, wIfS, wTst, LV.wTru, LV.wNot, wAnd, wOr, wAndV, wOrV, wNotV, wOp, wUn, wV, wC, fCI, fAdd, fSub, fMul, fDiv, fMod, fPow, fNeg, fIx, fIs, fIsNot, fEq, fNe, fLt, fLe, fGt, fGe, wCB, wCons, wNil, w1, wApp, wIsi, isiB, bagD, isNonD, fLen, fAbs, fInt, fGcd, fList, fTuple, fRepr, fLz, fLen0, fLrv, fSum, fMax, fMin, fAll, fAny, seqD, rdL, rdW, fzL, fzW, unL, putS, RV.sl, wRet, wRetN, wNever, wNext, wDrop, wTup, wLst, outW, placeW, gN, gTu, gCo, gNi, wFor, zSeq, zr_0, zr_1, zr_2, zr_3, zr_4, nc_0, nc_1, nc_2, nc_3, nc_4, zEnum, zZip, zZip3, ixD, tru, wCall, wCallK, wApp, wAppend, wPopAt, wExtend, wChainE, fIn, fBits, fFac, fComb, fRngL1, fRngL2, owW, wSl, fSl, wONone, wOSome, wLc, wYes, List.map, List.replicate, List.length, List.append, List.set, List.take, List.drop, List.getLast?, List.dropLast, List.filterMap, List.getElem?_cons_zero, List.getElem?_cons_succ, List.getElem?_nil, Nat.reduceAdd, Nat.reduceSub, Nat.reduceLT, List.cons_append, List.nil_append, Option.some.injEq, reduceCtorEq, reduceIte, Bool.not_true, Bool.not_false, Bool.false_eq_true, List.isEmpty]
    intro ns hns
    obtain ⟨ms, e, hl, _⟩ := cut_map D.int ns none (some 63)
    refine ⟨_, rfl, ?_⟩
    rw [e]
    refine lcL D.int (fun done rest acc s => ∃ cells : List Int, acc = cells.map D.int ∧ (∀ c ∈ cells, 0 ≤ c) ∧ cells.length + rest.length = ms.length ∧ s = [.sh (.scr K), .un, .un, .un]) ?_ ?_ ms [] [] _ ⟨[], rfl, (fun _ h => nomatch h), by simp, rfl⟩
    · rintro done x rest acc s nx2 ⟨cells, rfl, hc, hlen, rfl⟩ hnx
      refine ⟨?_, by simp at hlen ⊢; omega, rfl, ?_⟩
      · simp only [LV.begin, at_0, at_1, at_2, at_3, at_m1a, at_m1b, at_m1c, at_m1d, at_m2b, at_m2c, decide_true, eq_self, Int.reduceEq, true_and, and_true, false_and, and_false, or_false, false_or, Int.reduceNeg, gIx, decide_false, Bool.and_true, Bool.true_and, Bool.or_true, wSeq, wSet, wAsg, wPar, wIf, wIfS, wTst, LV.wTru, LV.wNot, wAnd, wOr, wAndV, wOrV, wNotV, wOp, wUn, wV, wC, fCI, fAdd, fSub, fMul, fDiv, fMod, fPow, fNeg, fIx, fIs, fIsNot, fEq, fNe, fLt, fLe, fGt, fGe, wCB, wCons, wNil, w1, wApp, wIsi, isiB, bagD, isNonD, fLen, fAbs, fInt, fGcd, fList, fTuple, fRepr, fLz, fLen0, fLrv, fSum, fMax, fMin, fAll, fAny, seqD, rdL, rdW, fzL, fzW, unL, putS, RV.sl, wRet, wRetN, wNever, wNext, wDrop, wTup, wLst, outW, placeW, gN, gTu, gCo, gNi, wFor, zSeq, zr_0, zr_1, zr_2, zr_3, zr_4, nc_0, nc_1, nc_2, nc_3, nc_4, zEnum, zZip, zZip3, ixD, tru, wCall, wCallK, wApp, wAppend, wPopAt, wExtend, wChainE, fIn, fBits, fFac, fComb, fRngL1, fRngL2, owW, wSl, fSl, wONone, wOSome, wLc, wYes, List.map, List.replicate, List.length, List.append, List.set, List.take, List.drop, List.getLast?, List.dropLast, List.filterMap, List.getElem?_cons_zero, List.getElem?_cons_succ, List.getElem?_nil, Nat.reduceAdd, Nat.reduceSub, Nat.reduceLT, List.cons_append, List.nil_append, Option.some.injEq, reduceCtorEq, reduceIte, Bool.not_true, Bool.not_false, Bool.false_eq_true, List.isEmpty]
      · simp only [wipeS, LV.begin, at_0, at_1, at_2, at_3, at_m1a, at_m1b, at_m1c, at_m1d, at_m2b, at_m2c, decide_true, eq_self, Int.reduceEq, true_and, and_true, false_and, and_false, or_false, false_or, Int.reduceNeg, gIx, decide_false, Bool.and_true, Bool.true_and, Bool.or_true, wSeq, wSet, wAsg, wPar, wIf, wIfS, wTst, LV.wTru, LV.wNot, wAnd, wOr, wAndV, wOrV, wNotV, wOp, wUn, wV, wC, fCI, fAdd, fSub, fMul, fDiv, fMod, fPow, fNeg, fIx, fIs, fIsNot, fEq, fNe, fLt, fLe, fGt, fGe, wCB, wCons, wNil, w1, wApp, wIsi, isiB, bagD, isNonD, fLen, fAbs, fInt, fGcd, fList, fTuple, fRepr, fLz, fLen0, fLrv, fSum, fMax, fMin, fAll, fAny, seqD, rdL, rdW, fzL, fzW, unL, putS, RV.sl, wRet, wRetN, wNever, wNext, wDrop, wTup, wLst, outW, placeW, gN, gTu, gCo, gNi, wFor, zSeq, zr_0, zr_1, zr_2, zr_3, zr_4, nc_0, nc_1, nc_2, nc_3, nc_4, zEnum, zZip, zZip3, ixD, tru, wCall, wCallK, wApp, wAppend, wPopAt, wExtend, wChainE, fIn, fBits, fFac, fComb, fRngL1, fRngL2, owW, wSl, fSl, wONone, wOSome, wLc, wYes, List.map, List.replicate, List.length, List.append, List.set, List.take, List.drop, List.getLast?, List.dropLast, List.filterMap, List.getElem?_cons_zero, List.getElem?_cons_succ, List.getElem?_nil, Nat.reduceAdd, Nat.reduceSub, Nat.reduceLT, List.cons_append, List.nil_append, Option.some.injEq, reduceCtorEq, reduceIte, Bool.not_true, Bool.not_false, Bool.false_eq_true, List.isEmpty]
        refine ⟨⟨by decide, by decide, by decide⟩, by decide, hnx _ _ ⟨cells ++ [(if x < 0 then -x else x).fmod (10 ^ Int.toNat 60)], by simp, fun c h => ?_, by simp at hlen ⊢; omega, rfl⟩⟩
        rcases List.mem_append.mp h with h | h
        · exact hc c h
        · rw [List.mem_singleton.mp h]
          exact (fmod_rg (by decide)).1
    · rintro done acc s ⟨cells, rfl, hc, hlen, rfl⟩
      refine ⟨?_, ?_⟩
      · simp only [LV.begin, at_0, at_1, at_2, at_3, at_m1a, at_m1b, at_m1c, at_m1d, at_m2b, at_m2c, decide_true, eq_self, Int.reduceEq, true_and, and_true, false_and, and_false, or_false, false_or, Int.reduceNeg, gIx, decide_false, Bool.and_true, Bool.true_and, Bool.or_true, wSeq, wSet, wAsg, wPar, wIf, wIfS, wTst, LV.wTru, LV.wNot, wAnd, wOr, wAndV, wOrV, wNotV, wOp, wUn, wV, wC, fCI, fAdd, fSub, fMul, fDiv, fMod, fPow, fNeg, fIx, fIs, fIsNot, fEq, fNe, fLt, fLe, fGt, fGe, wCB, wCons, wNil, w1, wApp, wIsi, isiB, bagD, isNonD, fLen, fAbs, fInt, fGcd, fList, fTuple, fRepr, fLz, fLen0, fLrv, fSum, fMax, fMin, fAll, fAny, seqD, rdL, rdW, fzL, fzW, unL, putS, RV.sl, wRet, wRetN, wNever, wNext, wDrop, wTup, wLst, outW, placeW, gN, gTu, gCo, gNi, wFor, zSeq, zr_0, zr_1, zr_2, zr_3, zr_4, nc_0, nc_1, nc_2, nc_3, nc_4, zEnum, zZip, zZip3, ixD, tru, wCall, wCallK, wApp, wAppend, wPopAt, wExtend, wChainE, fIn, fBits, fFac, fComb, fRngL1, fRngL2, owW, wSl, fSl, wONone, wOSome, wLc, wYes, List.map, List.replicate, List.length, List.append, List.set, List.take, List.drop, List.getLast?, List.dropLast, List.filterMap, List.getElem?_cons_zero, List.getElem?_cons_succ, List.getElem?_nil, Nat.reduceAdd, Nat.reduceSub, Nat.reduceLT, List.cons_append, List.nil_append, Option.some.injEq, reduceCtorEq, reduceIte, Bool.not_true, Bool.not_false, Bool.false_eq_true, List.isEmpty]
      · simp only [LV.begin, at_0, at_1, at_2, at_3, at_m1a, at_m1b, at_m1c, at_m1d, at_m2b, at_m2c, decide_true, eq_self, Int.reduceEq, true_and, and_true, false_and, and_false, or_false, false_or, Int.reduceNeg, gIx, decide_false, Bool.and_true, Bool.true_and, Bool.or_true, wSeq, wSet, wAsg, wPar, wIf, wIfS, wTst, LV.wTru, LV.wNot, wAnd, wOr, wAndV, wOrV, wNotV, wOp, wUn, wV, wC, fCI, fAdd, fSub, fMul, fDiv, fMod, fPow, fNeg, fIx, fIs, fIsNot, fEq, fNe, fLt, fLe, fGt, fGe, wCB, wCons, wNil, w1, wApp, wIsi, isiB, bagD, isNonD, fLen, fAbs, fInt, fGcd, fList, fTuple, fRepr, fLz, fLen0, fLrv, fSum, fMax, fMin, fAll, fAny, seqD, rdL, rdW, fzL, fzW, unL, putS, RV.sl, wRet, wRetN, wNever, wNext, wDrop, wTup, wLst, outW, placeW, gN, gTu, gCo, gNi, wFor, zSeq, zr_0, zr_1, zr_2, zr_3, zr_4, nc_0, nc_1, nc_2, nc_3, nc_4, zEnum, zZip, zZip3, ixD, tru, wCall, wCallK, wApp, wAppend, wPopAt, wExtend, wChainE, fIn, fBits, fFac, fComb, fRngL1, fRngL2, owW, wSl, fSl, wONone, wOSome, wLc, wYes, List.map, List.replicate, List.length, List.append, List.set, List.take, List.drop, List.getLast?, List.dropLast, List.filterMap, List.getElem?_cons_zero, List.getElem?_cons_succ, List.getElem?_nil, Nat.reduceAdd, Nat.reduceSub, Nat.reduceLT, List.cons_append, List.nil_append, Option.some.injEq, reduceCtorEq, reduceIte, Bool.not_true, Bool.not_false, Bool.false_eq_true, List.isEmpty]
        exact hn _ ⟨cells, hc, by simp at hlen; omega, rfl⟩
  · rintro s ⟨cells, hc, hl, rfl⟩
    simp only [LV.begin, at_0, at_1, at_2, at_3, at_m1a, at_m1b, at_m1c, at_m1d, at_m2b, at_m2c, decide_true, eq_self, Int.reduceEq, true_and, and_true, false_and, and_false, or_false, false_or, Int.reduceNeg, gIx, decide_false, Bool.and_true, Bool.true_and, Bool.or_true, wSeq, wSet, wAsg, wPar, wIf, wIfS, wTst, LV.wTru, LV.wNot, wAnd, wOr, wAndV, wOrV, wNotV, wOp, wUn, wV, wC, fCI, fAdd, fSub, fMul, fDiv, fMod, fPow, fNeg, fIx, fIs, fIsNot, fEq, fNe, fLt, fLe, fGt, fGe, wCB, wCons, wNil, w1, wApp, wIsi, isiB, bagD, isNonD, fLen, fAbs, fInt, fGcd, fList, fTuple, fRepr, fLz, fLen0, fLrv, fSum, fMax, fMin, fAll, fAny, seqD, rdL, rdW, fzL, fzW, unL, putS, RV.sl, wRet, wRetN, wNever, wNext, wDrop, wTup, wLst, outW, placeW, gN, gTu, gCo, gNi, wFor, zSeq, zr_0, zr_1, zr_2, zr_3, zr_4, nc_0, nc_1, nc_2, nc_3, nc_4, zEnum, zZip, zZip3, ixD, tru, wCall, wCallK, wApp, wAppend, wPopAt, wExtend, wChainE, fIn, fBits, fFac, fComb, fRngL1, fRngL2, owW, wSl, fSl, wONone, wOSome, wLc, wYes, List.map, List.replicate, List.length, List.append, List.set, List.take, List.drop, List.getLast?, List.dropLast, List.filterMap, List.getElem?_cons_zero, List.getElem?_cons_succ, List.getElem?_nil, Nat.reduceAdd, Nat.reduceSub, Nat.reduceLT, List.cons_append, List.nil_append, Option.some.injEq, reduceCtorEq, reduceIte, Bool.not_true, Bool.not_false, Bool.false_eq_true, List.isEmpty]
    refine ⟨_, rfl, ?_⟩
    refine forL D.int (fun done rest s => ∃ (x : Sl) (m : Int), 0 ≤ m ∧ sm 31 m ∧ (rest ≠ [] ∨ m < 2147483647) ∧ s = [.sh (.scr K), .sh (.lst (cells.map D.int)), x, .sh (.int m)]) ?_ ?_ cells [] _ ⟨_, _, by omega, ?_, ?_, rfl⟩
    · rintro done x rest s nx2 ⟨y, m, h1, h2, h3, rfl⟩ hnx
      simp only [LV.begin, at_0, at_1, at_2, at_3, at_m1a, at_m1b, at_m1c, at_m1d, at_m2b, at_m2c, decide_true, eq_self, Int.reduceEq, true_and, and_true, false_and, and_false, or_false, false_or, Int.reduceNeg, gIx, decide_false, Bool.and_true, Bool.true_and, Bool.or_true, wSeq, wSet, wAsg, wPar, wIf, wIfS, wTst, LV.wTru, LV.wNot, wAnd, wOr, wAndV, wOrV, wNotV, wOp, wUn, wV, wC, fCI, fAdd, fSub, fMul, fDiv, fMod, fPow, fNeg, fIx, fIs, fIsNot, fEq, fNe, fLt, fLe, fGt, fGe, wCB, wCons, wNil, w1, wApp, wIsi, isiB, bagD, isNonD, fLen, fAbs, fInt, fGcd, fList, fTuple, fRepr, fLz, fLen0, fLrv, fSum, fMax, fMin, fAll, fAny, seqD, rdL, rdW, fzL, fzW, unL, putS, RV.sl, wRet, wRetN, wNever, wNext, wDrop, wTup, wLst, outW, placeW, gN, gTu, gCo, gNi, wFor, zSeq, zr_0, zr_1, zr_2, zr_3, zr_4, nc_0, nc_1, nc_2, nc_3, nc_4, zEnum, zZip, zZip3, ixD, tru, wCall, wCallK, wApp, wAppend, wPopAt, wExtend, wChainE, fIn, fBits, fFac, fComb, fRngL1, fRngL2, owW, wSl, fSl, wONone, wOSome, wLc, wYes, List.map, List.replicate, List.length, List.append, List.set, List.take, List.drop, List.getLast?, List.dropLast, List.filterMap, List.getElem?_cons_zero, List.getElem?_cons_succ, List.getElem?_nil, Nat.reduceAdd, Nat.reduceSub, Nat.reduceLT, List.cons_append, List.nil_append, Option.some.injEq, reduceCtorEq, reduceIte, Bool.not_true, Bool.not_false, Bool.false_eq_true, List.isEmpty]
      refine ⟨h2.mulW (sm31 (v := 48271) (by decide) (by decide)) (by omega), by decide, by decide, hnx _ ⟨_, _, (fmod_rg (by decide)).1, sm31 (fmod_rg (by decide)).1 (fmod_rg (by decide)).2, .inr (fmod_rg (by decide)).2, rfl⟩⟩
    · rintro done s ⟨y, m, h1, h2, h3, rfl⟩
      simp only [LV.begin, at_0, at_1, at_2, at_3, at_m1a, at_m1b, at_m1c, at_m1d, at_m2b, at_m2c, decide_true, eq_self, Int.reduceEq, true_and, and_true, false_and, and_false, or_false, false_or, Int.reduceNeg, gIx, decide_false, Bool.and_true, Bool.true_and, Bool.or_true, wSeq, wSet, wAsg, wPar, wIf, wIfS, wTst, LV.wTru, LV.wNot, wAnd, wOr, wAndV, wOrV, wNotV, wOp, wUn, wV, wC, fCI, fAdd, fSub, fMul, fDiv, fMod, fPow, fNeg, fIx, fIs, fIsNot, fEq, fNe, fLt, fLe, fGt, fGe, wCB, wCons, wNil, w1, wApp, wIsi, isiB, bagD, isNonD, fLen, fAbs, fInt, fGcd, fList, fTuple, fRepr, fLz, fLen0, fLrv, fSum, fMax, fMin, fAll, fAny, seqD, rdL, rdW, fzL, fzW, unL, putS, RV.sl, wRet, wRetN, wNever, wNext, wDrop, wTup, wLst, outW, placeW, gN, gTu, gCo, gNi, wFor, zSeq, zr_0, zr_1, zr_2, zr_3, zr_4, nc_0, nc_1, nc_2, nc_3, nc_4, zEnum, zZip, zZip3, ixD, tru, wCall, wCallK, wApp, wAppend, wPopAt, wExtend, wChainE, fIn, fBits, fFac, fComb, fRngL1, fRngL2, owW, wSl, fSl, wONone, wOSome, wLc, wYes, List.map, List.replicate, List.length, List.append, List.set, List.take, List.drop, List.getLast?, List.dropLast, List.filterMap, List.getElem?_cons_zero, List.getElem?_cons_succ, List.getElem?_nil, Nat.reduceAdd, Nat.reduceSub, Nat.reduceLT, List.cons_append, List.nil_append, Option.some.injEq, reduceCtorEq, reduceIte, Bool.not_true, Bool.not_false, Bool.false_eq_true, List.isEmpty]
      rw [← List.map_reverse]
      exact ⟨by omega, hq cells.reverse m (fun c h => hc c (List.mem_reverse.mp h)) h1 (h3.resolve_left fun n => n rfl)⟩
    · rw [List.length_map]
      exact sm31 (by omega) (by omega)
    · rw [List.length_map]
      exact .inr (by omega)
theorem p__law_draw {K : PySem.W.Frag} : ∀ ds Qf, F__law_draw ds Qf → ds.length = 2 ∧ W__law_draw K { nx := fun _ => Qf (.sh .non), rt := Qf } (begin 4 ds) := by
  intro ds Qf h
  obtain ⟨n, rfl, hn, hl, hq⟩ := h
  refine ⟨rfl, ?_⟩
  simp only [W__law_draw, wSeq]
  refine ⟨fun s => ∃ x, s = [.sh (.bag 1), .sh (.int n), x, .un], ⟨.un, rfl⟩, ?_⟩
  rintro s ⟨x, rfl⟩
  refine ⟨rfl, ?_⟩
  simp only [LV.begin, at_0, at_1, at_2, at_3, at_m1a, at_m1b, at_m1c, at_m1d, at_m2b, at_m2c, decide_true, eq_self, Int.reduceEq, true_and, and_true, false_and, and_false, or_false, false_or, Int.reduceNeg, gIx, decide_false, Bool.and_true, Bool.true_and, Bool.or_true, wSeq, wSet, wAsg, wPar, wIf, wIfS, wTst, LV.wTru, LV.wNot, wAnd, wOr, wAndV, wOrV, wNotV, wOp, wUn, wV, wC, fCI, fAdd, fSub, fMul, fDiv, fMod, fPow, fNeg, fIx, fIs, fIsNot, fEq, fNe, fLt, fLe, fGt, fGe, wCB, wCons, wNil, w1, wApp, wIsi, isiB, bagD, isNonD, fLen, fAbs, fInt, fGcd, fList, fTuple, fRepr, fLz, fLen0, fLrv, fSum, fMax, fMin, fAll, fAny, seqD, rdL, rdW, fzL, fzW, unL, putS, RV.sl, wRet, wRetN, wNever, wNext, wDrop, wTup, wLst, outW, placeW, gN, gTu, gCo, gNi, wFor, zSeq, zr_0, zr_1, zr_2, zr_3, zr_4, nc_0, nc_1, nc_2, nc_3, nc_4, zEnum, zZip, zZip3, ixD, tru, wCall, wCallK, wApp, wAppend, wPopAt, wExtend, wChainE, fIn, fBits, fFac, fComb, fRngL1, fRngL2, owW, wSl, fSl, wONone, wOSome, wLc, wYes, List.map, List.replicate, List.length, List.append, List.set, List.take, List.drop, List.getLast?, List.dropLast, List.filterMap, List.getElem?_cons_zero, List.getElem?_cons_succ, List.getElem?_nil, Nat.reduceAdd, Nat.reduceSub, Nat.reduceLT, List.cons_append, List.nil_append, Option.some.injEq, reduceCtorEq, reduceIte, Bool.not_true, Bool.not_false, Bool.false_eq_true, List.isEmpty]
  intro v hv
  refine ⟨?_, ?_⟩
  · intro v hv
    split
    · exact fun v hv => ⟨by omega, fun u hu => ⟨⟨by omega, .inl hl⟩, fdiv_nn hu hn, hq _ (fmod_rg hn).1 (fmod_rg hn).2⟩⟩
    · refine fun v h1 h2 => ⟨(sm31 h1 h2).mulW (sm31 (v := 48271) (by decide) (by decide)) (by omega), by decide, fmod_rg (by decide), fun u h3 h4 z h5 h6 => ⟨(sm31 h3 h4).mulW (sm31 h5 h6) (by omega), by decide, ⟨by decide, .inl (by decide)⟩, by omega, hq _ (fmod_rg hn).1 (fmod_rg hn).2⟩⟩
  · intro hv0
    intro u hu
    refine ⟨⟨by decide, by decide, by decide⟩, ?_⟩
    split
    · exact ⟨hu, _, rfl⟩
    · exact ⟨by decide, _, rfl⟩
theorem p__law_pick {K : PySem.W.Frag} : ∀ ds Qf, F__law_pick ds Qf → ds.length = 2 ∧ W__law_pick K { nx := fun _ => Qf (.sh .non), rt := Qf } (begin 2 ds) := by
  intro ds Qf h
  obtain ⟨xs, rfl, hne, hl, hq⟩ := h
  refine ⟨rfl, ?_⟩
  have hp := List.length_pos_iff.mpr hne
  simp only [W__law_pick, FDraw, LV.begin, at_0, at_1, at_2, at_3, at_m1a, at_m1b, at_m1c, at_m1d, at_m2b, at_m2c, decide_true, eq_self, Int.reduceEq, true_and, and_true, false_and, and_false, or_false, false_or, Int.reduceNeg, gIx, decide_false, Bool.and_true, Bool.true_and, Bool.or_true, wSeq, wSet, wAsg, wPar, wIf, wIfS, wTst, LV.wTru, LV.wNot, wAnd, wOr, wAndV, wOrV, wNotV, wOp, wUn, wV, wC, fCI, fAdd, fSub, fMul, fDiv, fMod, fPow, fNeg, fIx, fIs, fIsNot, fEq, fNe, fLt, fLe, fGt, fGe, wCB, wCons, wNil, w1, wApp, wIsi, isiB, bagD, isNonD, fLen, fAbs, fInt, fGcd, fList, fTuple, fRepr, fLz, fLen0, fLrv, fSum, fMax, fMin, fAll, fAny, seqD, rdL, rdW, fzL, fzW, unL, putS, RV.sl, wRet, wRetN, wNever, wNext, wDrop, wTup, wLst, outW, placeW, gN, gTu, gCo, gNi, wFor, zSeq, zr_0, zr_1, zr_2, zr_3, zr_4, nc_0, nc_1, nc_2, nc_3, nc_4, zEnum, zZip, zZip3, ixD, tru, wCall, wCallK, wApp, wAppend, wPopAt, wExtend, wChainE, fIn, fBits, fFac, fComb, fRngL1, fRngL2, owW, wSl, fSl, wONone, wOSome, wLc, wYes, List.map, List.replicate, List.length, List.append, List.set, List.take, List.drop, List.getLast?, List.dropLast, List.filterMap, List.getElem?_cons_zero, List.getElem?_cons_succ, List.getElem?_nil, Nat.reduceAdd, Nat.reduceSub, Nat.reduceLT, List.cons_append, List.nil_append, Option.some.injEq, reduceCtorEq, reduceIte, Bool.not_true, Bool.not_false, Bool.false_eq_true, List.isEmpty]
  refine ⟨_, rfl, by omega, ?_, fun r h0 h1 => ?_⟩
  · have : sm 10 (xs.length : Int) := sm10 (by omega) (by omega)
    exact Nat.lt_of_le_of_lt this.log (by decide)
  · have hr : r.toNat < xs.length := by omega
    obtain ⟨j, rfl⟩ : ∃ j : Nat, r = (j : Int) := ⟨r.toNat, by omega⟩
    have e : atI xs (j : Int) = some xs[((j : Int)).toNat] := atI_nat (List.getElem?_eq_getElem hr)
    simp only [e]
    exact hq _ (List.getElem_mem hr)
theorem abs_nat (i : Int) : (if i < 0 then -i else i) = ((i.natAbs : Nat) : Int) := by split <;> omega
theorem gcd_loop4 {K : LK} {wb : WS} {wt : WT} (ht : ∀ (a b : Nat) (Q : Bool → Sg → Prop), Q (decide (0 < b)) [.sh (.int a), .sh (.int b)] → wt [.sh (.int a), .sh (.int b)] Q)
    (hb : ∀ (a b : Nat) (K : LK), 0 < b → (∀ a' b' : Nat, Nat.gcd a' b' = Nat.gcd a b → b' < b → K.nx [.sh (.int a'), .sh (.int b')]) → wb K [.sh (.int a), .sh (.int b)]) :
    ∀ (n : Nat) (a b : Nat), b < n → K.nx [.sh (.int (Nat.gcd a b)), .sh (.int 0)] → wWhileN wt wb K n [.sh (.int a), .sh (.int b)]
  | 0, a, b, h, _ => absurd h (Nat.not_lt_zero _)
  | n + 1, a, b, h, hk => by
    refine ht _ _ _ ?_
    by_cases h0 : b = 0
    · subst h0
      rw [Nat.gcd_zero_right] at hk
      exact hk
    · rw [decide_eq_true (Nat.pos_of_ne_zero h0)]
      refine hb _ _ _ (Nat.pos_of_ne_zero h0) fun a' b' e hlt => ?_
      exact gcd_loop4 ht hb n a' b' (by omega) (by rw [e]; exact hk)
theorem fmod_nat (a b : Nat) : (a : Int).fmod (b : Int) = ((a % b : Nat) : Int) := by
  rw [Int.fmod_eq_emod_of_nonneg _ (by omega)]; rfl
theorem gcd_step (a b : Nat) : Nat.gcd b (a % b) = Nat.gcd a b := by rw [Nat.gcd_comm b, ← Nat.gcd_rec, Nat.gcd_comm]
theorem gcd_in {K : LK} (a b : Nat) (h : ∀ a' b' : Nat, Nat.gcd a' b' = Nat.gcd a b → b' ≤ b → K.nx [.sh (.int a'), .sh (.int b')]) :
    wAsg (wIf (wTst (wOp fGt (wV 1) (wC (.int 0)))) (wTup (wCons (wV 1) (wCons (wOp fMod (wCB fInt (wCons (wV 0) wNil)) (wV 1)) wNil))) (wTup (wCons (wV 0) (wCons (wC (.int 0)) wNil)))) (gTu (gCo (gN 0) (gCo (gN 1) gNi)) 2) K [.sh (.int a), .sh (.int b)] := by
  simp only [LV.begin, Nat.reduceLeDiff, ne_eq, not_false_eq_true, not_true_eq_false, Int.reduceLE, Int.reduceLT, Nat.zero_le, at_0, at_1, at_2, at_3, at_m1a, at_m1b, at_m1c, at_m1d, at_m2b, at_m2c, decide_true, eq_self, Int.reduceEq, true_and, and_true, false_and, and_false, or_false, false_or, Int.reduceNeg, gIx, decide_false, Bool.and_true, Bool.true_and, Bool.or_true, wSeq, wSet, wAsg, wPar, wIf, wIfS, wTst, LV.wTru, LV.wNot, wAnd, wOr, wAndV, wOrV, wNotV, wOp, wUn, wV, wC, fCI, fAdd, fSub, fMul, fDiv, fMod, fPow, fNeg, fIx, fIs, fIsNot, fEq, fNe, fLt, fLe, fGt, fGe, wCB, wCons, wNil, w1, wApp, wIsi, isiB, bagD, isNonD, fLen, fAbs, fInt, fGcd, fList, fTuple, fRepr, fLz, fLen0, fLrv, fSum, fMax, fMin, fAll, fAny, seqD, rdL, rdW, fzL, fzW, unL, putS, RV.sl, wRet, wRetN, wNever, wNext, wDrop, wTup, wLst, outW, placeW, gN, gTu, gCo, gNi, wFor, zSeq, zr_0, zr_1, zr_2, zr_3, zr_4, nc_0, nc_1, nc_2, nc_3, nc_4, zEnum, zZip, zZip3, ixD, tru, wCall, wCallK, wApp, wAppend, wPopAt, wExtend, wChainE, fIn, fBits, fFac, fComb, fRngL1, fRngL2, owW, wSl, fSl, wONone, wOSome, wLc, wYes, List.map, List.replicate, List.length, List.append, List.set, List.take, List.drop, List.getLast?, List.dropLast, List.filterMap, List.getElem?_cons_zero, List.getElem?_cons_succ, List.getElem?_nil, Nat.reduceAdd, Nat.reduceSub, Nat.reduceLT, List.cons_append, List.nil_append, Option.some.injEq, reduceCtorEq, reduceIte, Bool.not_true, Bool.not_false, Bool.false_eq_true, List.isEmpty]
  by_cases hb : b = 0
  · subst hb
    have : decide ((0 : Int) < ((0 : Nat) : Int)) = false := rfl
    simp only [LV.begin, Nat.reduceLeDiff, ne_eq, not_false_eq_true, not_true_eq_false, Int.reduceLE, Int.reduceLT, Nat.zero_le, at_0, at_1, at_2, at_3, at_m1a, at_m1b, at_m1c, at_m1d, at_m2b, at_m2c, decide_true, eq_self, Int.reduceEq, true_and, and_true, false_and, and_false, or_false, false_or, Int.reduceNeg, gIx, decide_false, Bool.and_true, Bool.true_and, Bool.or_true, wSeq, wSet, wAsg, wPar, wIf, wIfS, wTst, LV.wTru, LV.wNot, wAnd, wOr, wAndV, wOrV, wNotV, wOp, wUn, wV, wC, fCI, fAdd, fSub, fMul, fDiv, fMod, fPow, fNeg, fIx, fIs, fIsNot, fEq, fNe, fLt, fLe, fGt, fGe, wCB, wCons, wNil, w1, wApp, wIsi, isiB, bagD, isNonD, fLen, fAbs, fInt, fGcd, fList, fTuple, fRepr, fLz, fLen0, fLrv, fSum, fMax, fMin, fAll, fAny, seqD, rdL, rdW, fzL, fzW, unL, putS, RV.sl, wRet, wRetN, wNever, wNext, wDrop, wTup, wLst, outW, placeW, gN, gTu, gCo, gNi, wFor, zSeq, zr_0, zr_1, zr_2, zr_3, zr_4, nc_0, nc_1, nc_2, nc_3, nc_4, zEnum, zZip, zZip3, ixD, tru, wCall, wCallK, wApp, wAppend, wPopAt, wExtend, wChainE, fIn, fBits, fFac, fComb, fRngL1, fRngL2, owW, wSl, fSl, wONone, wOSome, wLc, wYes, List.map, List.replicate, List.length, List.append, List.set, List.take, List.drop, List.getLast?, List.dropLast, List.filterMap, List.getElem?_cons_zero, List.getElem?_cons_succ, List.getElem?_nil, Nat.reduceAdd, Nat.reduceSub, Nat.reduceLT, List.cons_append, List.nil_append, Option.some.injEq, reduceCtorEq, reduceIte, Bool.not_true, Bool.not_false, Bool.false_eq_true, List.isEmpty, this]
    exact h a 0 rfl (Nat.le_refl _)
  · have hb0 : (0 : Int) < (b : Int) := by omega
    simp only [LV.begin, Nat.reduceLeDiff, ne_eq, not_false_eq_true, not_true_eq_false, Int.reduceLE, Int.reduceLT, Nat.zero_le, at_0, at_1, at_2, at_3, at_m1a, at_m1b, at_m1c, at_m1d, at_m2b, at_m2c, decide_true, eq_self, Int.reduceEq, true_and, and_true, false_and, and_false, or_false, false_or, Int.reduceNeg, gIx, decide_false, Bool.and_true, Bool.true_and, Bool.or_true, wSeq, wSet, wAsg, wPar, wIf, wIfS, wTst, LV.wTru, LV.wNot, wAnd, wOr, wAndV, wOrV, wNotV, wOp, wUn, wV, wC, fCI, fAdd, fSub, fMul, fDiv, fMod, fPow, fNeg, fIx, fIs, fIsNot, fEq, fNe, fLt, fLe, fGt, fGe, wCB, wCons, wNil, w1, wApp, wIsi, isiB, bagD, isNonD, fLen, fAbs, fInt, fGcd, fList, fTuple, fRepr, fLz, fLen0, fLrv, fSum, fMax, fMin, fAll, fAny, seqD, rdL, rdW, fzL, fzW, unL, putS, RV.sl, wRet, wRetN, wNever, wNext, wDrop, wTup, wLst, outW, placeW, gN, gTu, gCo, gNi, wFor, zSeq, zr_0, zr_1, zr_2, zr_3, zr_4, nc_0, nc_1, nc_2, nc_3, nc_4, zEnum, zZip, zZip3, ixD, tru, wCall, wCallK, wApp, wAppend, wPopAt, wExtend, wChainE, fIn, fBits, fFac, fComb, fRngL1, fRngL2, owW, wSl, fSl, wONone, wOSome, wLc, wYes, List.map, List.replicate, List.length, List.append, List.set, List.take, List.drop, List.getLast?, List.dropLast, List.filterMap, List.getElem?_cons_zero, List.getElem?_cons_succ, List.getElem?_nil, Nat.reduceAdd, Nat.reduceSub, Nat.reduceLT, List.cons_append, List.nil_append, Option.some.injEq, reduceCtorEq, reduceIte, Bool.not_true, Bool.not_false, Bool.false_eq_true, List.isEmpty, decide_eq_true hb0, fmod_nat]
    exact ⟨by omega, h b (a % b) (gcd_step a b) (Nat.le_of_lt (Nat.mod_lt a (Nat.pos_of_ne_zero hb)))⟩
theorem p__law_gcd {K : PySem.W.Frag} : ∀ ds Qf, F__law_gcd ds Qf → ds.length = 2 ∧ W__law_gcd K { nx := fun _ => Qf (.sh .non), rt := Qf } (begin 2 ds) := by
  intro ds Qf h
  unfold F__law_gcd at h; split at h
  · rename_i a b
    refine ⟨rfl, ?_⟩
    unfold W__law_gcd
    refine seq_cut (fun s => s = [.sh (.int (a.natAbs : Nat)), .sh (.int (b.natAbs : Nat))]) (fun nx hn => ?_) ?_
    · simp only [abs_nat, LV.begin, at_0, at_1, at_2, at_3, at_m1a, at_m1b, at_m1c, at_m1d, at_m2b, at_m2c, decide_true, eq_self, Int.reduceEq, true_and, and_true, false_and, and_false, or_false, false_or, Int.reduceNeg, gIx, decide_false, Bool.and_true, Bool.true_and, Bool.or_true, wSeq, wSet, wAsg, wPar, wIf, wIfS, wTst, LV.wTru, LV.wNot, wAnd, wOr, wAndV, wOrV, wNotV, wOp, wUn, wV, wC, fCI, fAdd, fSub, fMul, fDiv, fMod, fPow, fNeg, fIx, fIs, fIsNot, fEq, fNe, fLt, fLe, fGt, fGe, wCB, wCons, wNil, w1, wApp, wIsi, isiB, bagD, isNonD, fLen, fAbs, fInt, fGcd, fList, fTuple, fRepr, fLz, fLen0, fLrv, fSum, fMax, fMin, fAll, fAny, seqD, rdL, rdW, fzL, fzW, unL, putS, RV.sl, wRet, wRetN, wNever, wNext, wDrop, wTup, wLst, outW, placeW, gN, gTu, gCo, gNi, wFor, zSeq, zr_0, zr_1, zr_2, zr_3, zr_4, nc_0, nc_1, nc_2, nc_3, nc_4, zEnum, zZip, zZip3, ixD, tru, wCall, wCallK, wApp, wAppend, wPopAt, wExtend, wChainE, fIn, fBits, fFac, fComb, fRngL1, fRngL2, owW, wSl, fSl, wONone, wOSome, wLc, wYes, List.map, List.replicate, List.length, List.append, List.set, List.take, List.drop, List.getLast?, List.dropLast, List.filterMap, List.getElem?_cons_zero, List.getElem?_cons_succ, List.getElem?_nil, Nat.reduceAdd, Nat.reduceSub, Nat.reduceLT, List.cons_append, List.nil_append, Option.some.injEq, reduceCtorEq, reduceIte, Bool.not_true, Bool.not_false, Bool.false_eq_true, List.isEmpty]
      exact hn _ rfl
    rintro s rfl
    refine seq_cut (fun s => s = [.sh (.int (Int.gcd a b)), .sh (.int 0)]) (fun nx hn => ?_) ?_
    · refine ⟨b.natAbs + 1, gcd_loop4 (fun a b Q h => ?_) (fun a b K h0 h => ?_) _ _ _ (Nat.lt_succ_self _) (hn _ rfl)⟩
      · simp only [LV.begin, Nat.reduceLeDiff, ne_eq, not_false_eq_true, not_true_eq_false, Int.reduceLE, Int.reduceLT, Nat.zero_le, at_0, at_1, at_2, at_3, at_m1a, at_m1b, at_m1c, at_m1d, at_m2b, at_m2c, decide_true, eq_self, Int.reduceEq, true_and, and_true, false_and, and_false, or_false, false_or, Int.reduceNeg, gIx, decide_false, Bool.and_true, Bool.true_and, Bool.or_true, wSeq, wSet, wAsg, wPar, wIf, wIfS, wTst, LV.wTru, LV.wNot, wAnd, wOr, wAndV, wOrV, wNotV, wOp, wUn, wV, wC, fCI, fAdd, fSub, fMul, fDiv, fMod, fPow, fNeg, fIx, fIs, fIsNot, fEq, fNe, fLt, fLe, fGt, fGe, wCB, wCons, wNil, w1, wApp, wIsi, isiB, bagD, isNonD, fLen, fAbs, fInt, fGcd, fList, fTuple, fRepr, fLz, fLen0, fLrv, fSum, fMax, fMin, fAll, fAny, seqD, rdL, rdW, fzL, fzW, unL, putS, RV.sl, wRet, wRetN, wNever, wNext, wDrop, wTup, wLst, outW, placeW, gN, gTu, gCo, gNi, wFor, zSeq, zr_0, zr_1, zr_2, zr_3, zr_4, nc_0, nc_1, nc_2, nc_3, nc_4, zEnum, zZip, zZip3, ixD, tru, wCall, wCallK, wApp, wAppend, wPopAt, wExtend, wChainE, fIn, fBits, fFac, fComb, fRngL1, fRngL2, owW, wSl, fSl, wONone, wOSome, wLc, wYes, List.map, List.replicate, List.length, List.append, List.set, List.take, List.drop, List.getLast?, List.dropLast, List.filterMap, List.getElem?_cons_zero, List.getElem?_cons_succ, List.getElem?_nil, Nat.reduceAdd, Nat.reduceSub, Nat.reduceLT, List.cons_append, List.nil_append, Option.some.injEq, reduceCtorEq, reduceIte, Bool.not_true, Bool.not_false, Bool.false_eq_true, List.isEmpty]
        by_cases hb : 0 < b
        · rw [decide_eq_true hb] at h
          rw [decide_eq_true (show (0 : Int) < (b : Int) by omega)]; exact h
        · rw [decide_eq_false hb] at h
          rw [decide_eq_false (show ¬ (0 : Int) < (b : Int) by omega)]; exact h
      · refine seq_cut (fun s => s = [.sh (.int (b : Nat)), .sh (.int ((a % b : Nat) : Int))]) (fun nx hn => ?_) ?_
        · simp only [LV.begin, Nat.reduceLeDiff, ne_eq, not_false_eq_true, not_true_eq_false, Int.reduceLE, Int.reduceLT, Nat.zero_le, at_0, at_1, at_2, at_3, at_m1a, at_m1b, at_m1c, at_m1d, at_m2b, at_m2c, decide_true, eq_self, Int.reduceEq, true_and, and_true, false_and, and_false, or_false, false_or, Int.reduceNeg, gIx, decide_false, Bool.and_true, Bool.true_and, Bool.or_true, wSeq, wSet, wAsg, wPar, wIf, wIfS, wTst, LV.wTru, LV.wNot, wAnd, wOr, wAndV, wOrV, wNotV, wOp, wUn, wV, wC, fCI, fAdd, fSub, fMul, fDiv, fMod, fPow, fNeg, fIx, fIs, fIsNot, fEq, fNe, fLt, fLe, fGt, fGe, wCB, wCons, wNil, w1, wApp, wIsi, isiB, bagD, isNonD, fLen, fAbs, fInt, fGcd, fList, fTuple, fRepr, fLz, fLen0, fLrv, fSum, fMax, fMin, fAll, fAny, seqD, rdL, rdW, fzL, fzW, unL, putS, RV.sl, wRet, wRetN, wNever, wNext, wDrop, wTup, wLst, outW, placeW, gN, gTu, gCo, gNi, wFor, zSeq, zr_0, zr_1, zr_2, zr_3, zr_4, nc_0, nc_1, nc_2, nc_3, nc_4, zEnum, zZip, zZip3, ixD, tru, wCall, wCallK, wApp, wAppend, wPopAt, wExtend, wChainE, fIn, fBits, fFac, fComb, fRngL1, fRngL2, owW, wSl, fSl, wONone, wOSome, wLc, wYes, List.map, List.replicate, List.length, List.append, List.set, List.take, List.drop, List.getLast?, List.dropLast, List.filterMap, List.getElem?_cons_zero, List.getElem?_cons_succ, List.getElem?_nil, Nat.reduceAdd, Nat.reduceSub, Nat.reduceLT, List.cons_append, List.nil_append, Option.some.injEq, reduceCtorEq, reduceIte, Bool.not_true, Bool.not_false, Bool.false_eq_true, List.isEmpty, fmod_nat]
          exact ⟨by omega, hn _ rfl⟩
        rintro s rfl
        have hlt := Nat.mod_lt a h0
        refine gcd_in b (a % b) fun a1 b1 e1 l1 => gcd_in a1 b1 fun a2 b2 e2 l2 => gcd_in a2 b2 fun a3 b3 e3 l3 => h a3 b3 (by rw [e3, e2, e1, gcd_step]) (by omega)
    rintro s rfl
    simp only [LV.begin, Nat.reduceLeDiff, ne_eq, not_false_eq_true, not_true_eq_false, Int.reduceLE, Int.reduceLT, Nat.zero_le, at_0, at_1, at_2, at_3, at_m1a, at_m1b, at_m1c, at_m1d, at_m2b, at_m2c, decide_true, eq_self, Int.reduceEq, true_and, and_true, false_and, and_false, or_false, false_or, Int.reduceNeg, gIx, decide_false, Bool.and_true, Bool.true_and, Bool.or_true, wSeq, wSet, wAsg, wPar, wIf, wIfS, wTst, LV.wTru, LV.wNot, wAnd, wOr, wAndV, wOrV, wNotV, wOp, wUn, wV, wC, fCI, fAdd, fSub, fMul, fDiv, fMod, fPow, fNeg, fIx, fIs, fIsNot, fEq, fNe, fLt, fLe, fGt, fGe, wCB, wCons, wNil, w1, wApp, wIsi, isiB, bagD, isNonD, fLen, fAbs, fInt, fGcd, fList, fTuple, fRepr, fLz, fLen0, fLrv, fSum, fMax, fMin, fAll, fAny, seqD, rdL, rdW, fzL, fzW, unL, putS, RV.sl, wRet, wRetN, wNever, wNext, wDrop, wTup, wLst, outW, placeW, gN, gTu, gCo, gNi, wFor, zSeq, zr_0, zr_1, zr_2, zr_3, zr_4, nc_0, nc_1, nc_2, nc_3, nc_4, zEnum, zZip, zZip3, ixD, tru, wCall, wCallK, wApp, wAppend, wPopAt, wExtend, wChainE, fIn, fBits, fFac, fComb, fRngL1, fRngL2, owW, wSl, fSl, wONone, wOSome, wLc, wYes, List.map, List.replicate, List.length, List.append, List.set, List.take, List.drop, List.getLast?, List.dropLast, List.filterMap, List.getElem?_cons_zero, List.getElem?_cons_succ, List.getElem?_nil, Nat.reduceAdd, Nat.reduceSub, Nat.reduceLT, List.cons_append, List.nil_append, Option.some.injEq, reduceCtorEq, reduceIte, Bool.not_true, Bool.not_false, Bool.false_eq_true, List.isEmpty]
    exact h
  · exact h.elim
theorem p__law_frac {K : PySem.W.Frag} : ∀ ds Qf, F__law_frac ds Qf → ds.length = 2 ∧ W__law_frac K { nx := fun _ => Qf (.sh .non), rt := Qf } (begin 3 ds) := by
  intro ds Qf h
  unfold F__law_frac F_fraction_of at h; split at h
  · rename_i a b
    obtain ⟨h0, ha, hb, hq⟩ := h
    refine ⟨rfl, ?_⟩
    have g0 : 0 < Int.gcd a b := Int.gcd_pos_of_ne_zero_right _ h0
    simp only [W__law_frac, F__law_gcd, LV.begin, at_0, at_1, at_2, at_3, at_m1a, at_m1b, at_m1c, at_m1d, at_m2b, at_m2c, decide_true, eq_self, Int.reduceEq, true_and, and_true, false_and, and_false, or_false, false_or, Int.reduceNeg, gIx, decide_false, Bool.and_true, Bool.true_and, Bool.or_true, wSeq, wSet, wAsg, wPar, wIf, wIfS, wTst, LV.wTru, LV.wNot, wAnd, wOr, wAndV, wOrV, wNotV, wOp, wUn, wV, wC, fCI, fAdd, fSub, fMul, fDiv, fMod, fPow, fNeg, fIx, fIs, fIsNot, fEq, fNe, fLt, fLe, fGt, fGe, wCB, wCons, wNil, w1, wApp, wIsi, isiB, bagD, isNonD, fLen, fAbs, fInt, fGcd, fList, fTuple, fRepr, fLz, fLen0, fLrv, fSum, fMax, fMin, fAll, fAny, seqD, rdL, rdW, fzL, fzW, unL, putS, RV.sl, wRet, wRetN, wNever, wNext, wDrop, wTup, wLst, outW, placeW, gN, gTu, gCo, gNi, wFor, zSeq, zr_0, zr_1, zr_2, zr_3, zr_4, nc_0, nc_1, nc_2, nc_3, nc_4, zEnum, zZip, zZip3, ixD, tru, wCall, wCallK, wApp, wAppend, wPopAt, wExtend, wChainE, fIn, fBits, fFac, fComb, fRngL1, fRngL2, owW, wSl, fSl, wONone, wOSome, wLc, wYes, List.map, List.replicate, List.length, List.append, List.set, List.take, List.drop, List.getLast?, List.dropLast, List.filterMap, List.getElem?_cons_zero, List.getElem?_cons_succ, List.getElem?_nil, Nat.reduceAdd, Nat.reduceSub, Nat.reduceLT, List.cons_append, List.nil_append, Option.some.injEq, reduceCtorEq, reduceIte, Bool.not_true, Bool.not_false, Bool.false_eq_true, List.isEmpty]
    have e2 := low_q (a := a) h0
    have hq : Qf (.sh (.tup [.int (low a b).1, .int (low a b).2])) := by rw [e2]; exact hq
    unfold low at hq
    by_cases c : 0 < b
    · rw [if_pos c] at hq
      simp only [decide_eq_true c, ↓reduceIte, List.set, List.length, Nat.reduceAdd]
      exact ⟨divB ha (by omega) (by omega), divB hb (by omega) (by omega), by omega, hq⟩
    · rw [if_neg c] at hq
      simp only [decide_eq_false c, Bool.false_eq_true, ↓reduceIte, List.set, List.length, Nat.reduceAdd]
      exact ⟨divB ha (by omega) (by omega), divB hb (by omega) (by omega), by omega, hq⟩
  · exact h.elim
theorem rng_len {done rest : List Nat} {k n : Nat} (e : done ++ k :: rest = List.range n) : k = done.length ∧ done.length < n ∧ done ++ [k] = List.range (done.length + 1) ∧ done = List.range done.length := by
  have hl := congrArg List.length e
  simp at hl
  have h1 : (List.range n)[done.length]? = some k := by rw [← e, List.getElem?_append_right (Nat.le_refl _)]; simp
  rw [List.getElem?_range (by omega)] at h1
  have hk : k = done.length := by cases h1; rfl
  have hd : done = List.range done.length := by
    have := congrArg (List.take done.length) e
    rw [List.take_left, List.take_range, Nat.min_eq_left (by omega)] at this
    exact this
  refine ⟨hk, by omega, ?_, hd⟩
  rw [List.range_succ, ← hd, hk]
theorem lst_split {l : List Rat} (h : l ≠ []) : l = l.dropLast ++ [lst l] := by
  unfold lst
  rw [List.getLastD_eq_getLast?, List.getLast?_eq_getLast h]
  exact (List.dropLast_concat_getLast h).symm
theorem at_lst {l : List Rat} (h : l ≠ []) : atI (l.map fQ) (-1) = some (fQ (lst l)) := by
  conv => lhs; rw [lst_split h, List.map_append]
  exact at_m1
theorem lst_mem {l : List Rat} (h : l ≠ []) : lst l ∈ l := by
  have := lst_split h
  rw [this]
  simp only [lst, List.getLastD_eq_getLast?, List.getLast?_append, List.getLast?_singleton]
  simp
/-- a comprehension whose step tells a new list of the item -/
theorem lcMapF {α : Type} {rs : List RV} {srcs : List D} {own : List Nat} {wg : WG} {we : WE} {Q : RV → Sg → Prop} (f : α → D) (g : α → List D) (l : List α) {s : Sg} (h0 : rdL s rs (fun ds => ds = srcs)) (hl : l.length < 16777216) (hno : own.all (fun i => notOw (s.getD i .un)) = true)
    (hb : ∀ x ∈ l, ∀ R : RV → Sg → Prop, (∀ s4, backS s own s4 = s → R (.fr (g x)) s4) → wg (f x) (wipeS own s) fun s1 => we s1 R) (hQ : Q (.fr (l.map fun x => D.lst (g x))) s) : wLcL rs srcs own wg wYes we Q (l.map f) [] s := by
  refine lcL f (fun done rest acc s' => done ++ rest = l ∧ acc = (done.map fun x => D.lst (g x)) ∧ s' = s) ?_ ?_ l [] [] s ⟨rfl, rfl, rfl⟩
  · rintro done x rest acc s' nx ⟨e, rfl, rfl⟩ hn
    refine ⟨h0, ?_, hno, ?_⟩
    · rw [List.length_map]
      have := congrArg List.length e
      rw [List.length_append] at this
      omega
    · refine hb x (by rw [← e]; simp) _ fun s4 hs => ?_
      show fzW s4 (.fr (g x)) _
      have := hn (.lst (g x)) s4 ⟨by simpa using e, by simp, hs⟩
      exact this
  · rintro done acc s' ⟨e, rfl, rfl⟩
    rw [List.append_nil] at e
    subst e
    exact ⟨h0, hQ⟩
theorem p_evened {K : PySem.W.Frag} : ∀ ds Qf, F_evened ds Qf → ds.length = 1 ∧ W_evened K { nx := fun _ => Qf (.sh .non), rt := Qf } (begin 4 ds) := by
  intro ds Qf h
  obtain ⟨a, b, rfl, ha, h0, hla, hlb, za, zb, hq⟩ := h
  refine ⟨rfl, ?_⟩
  unfold W_evened rlD
  refine seq_cut (fun s => s = [.sh (rlD a b), .sh (fQ (lst a)), .un, .un]) (fun nx hn => ?_) ?_
  · simp only [LV.begin, Nat.reduceLeDiff, ne_eq, not_false_eq_true, not_true_eq_false, Int.reduceLE, Int.reduceLT, Nat.zero_le, at_0, at_1, at_2, at_3, at_m1a, at_m1b, at_m1c, at_m1d, at_m2b, at_m2c, decide_true, eq_self, Int.reduceEq, true_and, and_true, false_and, and_false, or_false, false_or, Int.reduceNeg, gIx, decide_false, Bool.and_true, Bool.true_and, Bool.or_true, wSeq, wSet, wAsg, wPar, wIf, wIfS, wTst, LV.wTru, LV.wNot, wAnd, wOr, wAndV, wOrV, wNotV, wOp, wUn, wV, wC, fCI, fAdd, fSub, fMul, fDiv, fMod, fPow, fNeg, fIx, fIs, fIsNot, fEq, fNe, fLt, fLe, fGt, fGe, wCB, wCons, wNil, w1, wApp, wIsi, isiB, bagD, isNonD, fLen, fAbs, fInt, fGcd, fList, fTuple, fRepr, fLz, fLen0, fLrv, fSum, fMax, fMin, fAll, fAny, seqD, rdL, rdW, fzL, fzW, unL, putS, RV.sl, wRet, wRetN, wNever, wNext, wDrop, wTup, wLst, outW, placeW, gN, gTu, gCo, gNi, wFor, zSeq, zr_0, zr_1, zr_2, zr_3, zr_4, nc_0, nc_1, nc_2, nc_3, nc_4, zEnum, zZip, zZip3, ixD, tru, wCall, wCallK, wApp, wAppend, wPopAt, wExtend, wChainE, fIn, fBits, fFac, fComb, fRngL1, fRngL2, owW, wSl, fSl, wONone, wOSome, wLc, wYes, List.map, List.replicate, List.length, List.append, List.set, List.take, List.drop, List.getLast?, List.dropLast, List.filterMap, List.getElem?_cons_zero, List.getElem?_cons_succ, List.getElem?_nil, Nat.reduceAdd, Nat.reduceSub, Nat.reduceLT, List.cons_append, List.nil_append, Option.some.injEq, reduceCtorEq, reduceIte, Bool.not_true, Bool.not_false, Bool.false_eq_true, List.isEmpty, tQ, at_lst ha]
    exact hn _ rfl
  rintro s rfl
  simp only [LV.begin, Nat.reduceLeDiff, ne_eq, not_false_eq_true, not_true_eq_false, Int.reduceLE, Int.reduceLT, Nat.zero_le, at_0, at_1, at_2, at_3, at_m1a, at_m1b, at_m1c, at_m1d, at_m2b, at_m2c, decide_true, eq_self, Int.reduceEq, true_and, and_true, false_and, and_false, or_false, false_or, Int.reduceNeg, gIx, decide_false, Bool.and_true, Bool.true_and, Bool.or_true, wSeq, wSet, wAsg, wPar, wIf, wIfS, wTst, LV.wTru, LV.wNot, wAnd, wOr, wAndV, wOrV, wNotV, wOp, wUn, wV, wC, fCI, fAdd, fSub, fMul, fDiv, fMod, fPow, fNeg, fIx, fIs, fIsNot, fEq, fNe, fLt, fLe, fGt, fGe, wCB, wCons, wNil, w1, wApp, wIsi, isiB, bagD, isNonD, fLen, fAbs, fInt, fGcd, fList, fTuple, fRepr, fLz, fLen0, fLrv, fSum, fMax, fMin, fAll, fAny, seqD, rdL, rdW, fzL, fzW, unL, putS, RV.sl, wRet, wRetN, wNever, wNext, wDrop, wTup, wLst, outW, placeW, gN, gTu, gCo, gNi, wFor, zSeq, zr_0, zr_1, zr_2, zr_3, zr_4, nc_0, nc_1, nc_2, nc_3, nc_4, zEnum, zZip, zZip3, ixD, tru, wCall, wCallK, wApp, wAppend, wPopAt, wExtend, wChainE, fIn, fBits, fFac, fComb, fRngL1, fRngL2, owW, wSl, fSl, wONone, wOSome, wLc, wYes, List.map, List.replicate, List.length, List.append, List.set, List.take, List.drop, List.getLast?, List.dropLast, List.filterMap, List.getElem?_cons_zero, List.getElem?_cons_succ, List.getElem?_nil, Nat.reduceAdd, Nat.reduceSub, Nat.reduceLT, List.cons_append, List.nil_append, Option.some.injEq, reduceCtorEq, reduceIte, Bool.not_true, Bool.not_false, Bool.false_eq_true, List.isEmpty]
  refine ⟨_, rfl, ?_⟩
  refine lcMapF tQ (fun l => (dvR (lst a) l).map fQ) [a, b] ?_ (by simp) rfl (fun l hl R hR => ?_) ?_
  · rfl
  · simp only [wipeS, LV.begin, Nat.reduceLeDiff, ne_eq, not_false_eq_true, not_true_eq_false, Int.reduceLE, Int.reduceLT, Nat.zero_le, at_0, at_1, at_2, at_3, at_m1a, at_m1b, at_m1c, at_m1d, at_m2b, at_m2c, decide_true, eq_self, Int.reduceEq, true_and, and_true, false_and, and_false, or_false, false_or, Int.reduceNeg, gIx, decide_false, Bool.and_true, Bool.true_and, Bool.or_true, wSeq, wSet, wAsg, wPar, wIf, wIfS, wTst, LV.wTru, LV.wNot, wAnd, wOr, wAndV, wOrV, wNotV, wOp, wUn, wV, wC, fCI, fAdd, fSub, fMul, fDiv, fMod, fPow, fNeg, fIx, fIs, fIsNot, fEq, fNe, fLt, fLe, fGt, fGe, wCB, wCons, wNil, w1, wApp, wIsi, isiB, bagD, isNonD, fLen, fAbs, fInt, fGcd, fList, fTuple, fRepr, fLz, fLen0, fLrv, fSum, fMax, fMin, fAll, fAny, seqD, rdL, rdW, fzL, fzW, unL, putS, RV.sl, wRet, wRetN, wNever, wNext, wDrop, wTup, wLst, outW, placeW, gN, gTu, gCo, gNi, wFor, zSeq, zr_0, zr_1, zr_2, zr_3, zr_4, nc_0, nc_1, nc_2, nc_3, nc_4, zEnum, zZip, zZip3, ixD, tru, wCall, wCallK, wApp, wAppend, wPopAt, wExtend, wChainE, fIn, fBits, fFac, fComb, fRngL1, fRngL2, owW, wSl, fSl, wONone, wOSome, wLc, wYes, List.map, List.replicate, List.length, List.append, List.set, List.take, List.drop, List.getLast?, List.dropLast, List.filterMap, List.getElem?_cons_zero, List.getElem?_cons_succ, List.getElem?_nil, Nat.reduceAdd, Nat.reduceSub, Nat.reduceLT, List.cons_append, List.nil_append, Option.some.injEq, reduceCtorEq, reduceIte, Bool.not_true, Bool.not_false, Bool.false_eq_true, List.isEmpty]
    have hz : l.length ≤ 1000 ∧ ∀ x ∈ l, Sz 60 x := by
      simp only [List.mem_cons, List.not_mem_nil, or_false] at hl
      rcases hl with rfl | rfl
      · exact ⟨hla, za⟩
      · exact ⟨hlb, zb⟩
    refine ⟨_, rfl, ?_⟩
    refine lcMap fQ (fun x => fQ (x / lst a)) l ?_ (by omega) rfl (fun x hx R2 hR2 => ?_) ?_
    · rfl
    · simp only [wipeS, LV.begin, Nat.reduceLeDiff, ne_eq, not_false_eq_true, not_true_eq_false, Int.reduceLE, Int.reduceLT, Nat.zero_le, at_0, at_1, at_2, at_3, at_m1a, at_m1b, at_m1c, at_m1d, at_m2b, at_m2c, decide_true, eq_self, Int.reduceEq, true_and, and_true, false_and, and_false, or_false, false_or, Int.reduceNeg, gIx, decide_false, Bool.and_true, Bool.true_and, Bool.or_true, wSeq, wSet, wAsg, wPar, wIf, wIfS, wTst, LV.wTru, LV.wNot, wAnd, wOr, wAndV, wOrV, wNotV, wOp, wUn, wV, wC, fCI, fAdd, fSub, fMul, fDiv, fMod, fPow, fNeg, fIx, fIs, fIsNot, fEq, fNe, fLt, fLe, fGt, fGe, wCB, wCons, wNil, w1, wApp, wIsi, isiB, bagD, isNonD, fLen, fAbs, fInt, fGcd, fList, fTuple, fRepr, fLz, fLen0, fLrv, fSum, fMax, fMin, fAll, fAny, seqD, rdL, rdW, fzL, fzW, unL, putS, RV.sl, wRet, wRetN, wNever, wNext, wDrop, wTup, wLst, outW, placeW, gN, gTu, gCo, gNi, wFor, zSeq, zr_0, zr_1, zr_2, zr_3, zr_4, nc_0, nc_1, nc_2, nc_3, nc_4, zEnum, zZip, zZip3, ixD, tru, wCall, wCallK, wApp, wAppend, wPopAt, wExtend, wChainE, fIn, fBits, fFac, fComb, fRngL1, fRngL2, owW, wSl, fSl, wONone, wOSome, wLc, wYes, List.map, List.replicate, List.length, List.append, List.set, List.take, List.drop, List.getLast?, List.dropLast, List.filterMap, List.getElem?_cons_zero, List.getElem?_cons_succ, List.getElem?_nil, Nat.reduceAdd, Nat.reduceSub, Nat.reduceLT, List.cons_append, List.nil_append, Option.some.injEq, reduceCtorEq, reduceIte, Bool.not_true, Bool.not_false, Bool.false_eq_true, List.isEmpty, F_fraction_over]
      exact ⟨x, lst a, rfl, h0, ⟨60, 60, hz.2 x hx, za _ (lst_mem ha), by omega⟩, hR2 _ rfl⟩
    · have e : (l.map fun x => fQ (x / lst a)) = (dvR (lst a) l).map fQ := by rw [dvR, List.map_map]; rfl
      rw [e]
      exact hR [.sh (rlD a b), .sh (fQ (lst a)), .un, .sh (tQ l)] rfl
  · simp only [LV.begin, Nat.reduceLeDiff, ne_eq, not_false_eq_true, not_true_eq_false, Int.reduceLE, Int.reduceLT, Nat.zero_le, at_0, at_1, at_2, at_3, at_m1a, at_m1b, at_m1c, at_m1d, at_m2b, at_m2c, decide_true, eq_self, Int.reduceEq, true_and, and_true, false_and, and_false, or_false, false_or, Int.reduceNeg, gIx, decide_false, Bool.and_true, Bool.true_and, Bool.or_true, wSeq, wSet, wAsg, wPar, wIf, wIfS, wTst, LV.wTru, LV.wNot, wAnd, wOr, wAndV, wOrV, wNotV, wOp, wUn, wV, wC, fCI, fAdd, fSub, fMul, fDiv, fMod, fPow, fNeg, fIx, fIs, fIsNot, fEq, fNe, fLt, fLe, fGt, fGe, wCB, wCons, wNil, w1, wApp, wIsi, isiB, bagD, isNonD, fLen, fAbs, fInt, fGcd, fList, fTuple, fRepr, fLz, fLen0, fLrv, fSum, fMax, fMin, fAll, fAny, seqD, rdL, rdW, fzL, fzW, unL, putS, RV.sl, wRet, wRetN, wNever, wNext, wDrop, wTup, wLst, outW, placeW, gN, gTu, gCo, gNi, wFor, zSeq, zr_0, zr_1, zr_2, zr_3, zr_4, nc_0, nc_1, nc_2, nc_3, nc_4, zEnum, zZip, zZip3, ixD, tru, wCall, wCallK, wApp, wAppend, wPopAt, wExtend, wChainE, fIn, fBits, fFac, fComb, fRngL1, fRngL2, owW, wSl, fSl, wONone, wOSome, wLc, wYes, List.map, List.replicate, List.length, List.append, List.set, List.take, List.drop, List.getLast?, List.dropLast, List.filterMap, List.getElem?_cons_zero, List.getElem?_cons_succ, List.getElem?_nil, Nat.reduceAdd, Nat.reduceSub, Nat.reduceLT, List.cons_append, List.nil_append, Option.some.injEq, reduceCtorEq, reduceIte, Bool.not_true, Bool.not_false, Bool.false_eq_true, List.isEmpty]
    exact hq
theorem pwQ_sz {x : Rat} {s : Nat} (h : Sz s x) : ∀ n, Sz (s * n + 1) (pwQ x n)
  | 0 => Sz.int (n := s * 0 + 1) (a := 1) (by show (1 : Int).natAbs < 2 ^ _; simp) (by omega)
  | n + 1 => ((pwQ_sz h n).mul h).mono (by rw [Nat.mul_succ]; omega)
theorem map_range_succ {α : Type} (f : Nat → α) (n : Nat) : (List.range (n + 1)).map f = (List.range n).map f ++ [f n] := by rw [List.range_succ, List.map_append]; rfl
theorem p_powers_of {K : PySem.W.Frag} : ∀ ds Qf, F_powers_of ds Qf → ds.length = 2 ∧ W_powers_of K { nx := fun _ => Qf (.sh .non), rt := Qf } (begin 4 ds) := by
  intro ds Qf h
  obtain ⟨x, n, rfl, hn10, hz, hq⟩ := h
  refine ⟨rfl, ?_⟩
  unfold W_powers_of
  refine seq_cut (fun s => s = [.sh (fQ x), .sh (.int (n : Nat)), .ow [fQ 1], .un]) (fun nx hn => by simp only [LV.begin, Nat.reduceLeDiff, ne_eq, not_false_eq_true, not_true_eq_false, Int.reduceLE, Int.reduceLT, Nat.zero_le, at_0, at_1, at_2, at_3, at_m1a, at_m1b, at_m1c, at_m1d, at_m2b, at_m2c, decide_true, eq_self, Int.reduceEq, true_and, and_true, false_and, and_false, or_false, false_or, Int.reduceNeg, gIx, decide_false, Bool.and_true, Bool.true_and, Bool.or_true, wSeq, wSet, wAsg, wPar, wIf, wIfS, wTst, LV.wTru, LV.wNot, wAnd, wOr, wAndV, wOrV, wNotV, wOp, wUn, wV, wC, fCI, fAdd, fSub, fMul, fDiv, fMod, fPow, fNeg, fIx, fIs, fIsNot, fEq, fNe, fLt, fLe, fGt, fGe, wCB, wCons, wNil, w1, wApp, wIsi, isiB, bagD, isNonD, fLen, fAbs, fInt, fGcd, fList, fTuple, fRepr, fLz, fLen0, fLrv, fSum, fMax, fMin, fAll, fAny, seqD, rdL, rdW, fzL, fzW, unL, putS, RV.sl, wRet, wRetN, wNever, wNext, wDrop, wTup, wLst, outW, placeW, gN, gTu, gCo, gNi, wFor, zSeq, zr_0, zr_1, zr_2, zr_3, zr_4, nc_0, nc_1, nc_2, nc_3, nc_4, zEnum, zZip, zZip3, ixD, tru, wCall, wCallK, wApp, wAppend, wPopAt, wExtend, wChainE, fIn, fBits, fFac, fComb, fRngL1, fRngL2, owW, wSl, fSl, wONone, wOSome, wLc, wYes, List.map, List.replicate, List.length, List.append, List.set, List.take, List.drop, List.getLast?, List.dropLast, List.filterMap, List.getElem?_cons_zero, List.getElem?_cons_succ, List.getElem?_nil, Nat.reduceAdd, Nat.reduceSub, Nat.reduceLT, List.cons_append, List.nil_append, Option.some.injEq, reduceCtorEq, reduceIte, Bool.not_true, Bool.not_false, Bool.false_eq_true, List.isEmpty]; exact hn _ rfl) ?_
  rintro s rfl
  refine seq_cut (fun s => ∃ y, s = [.sh (fQ x), .sh (.int (n : Nat)), .ow (((List.range (n + 1)).map (pwQ x)).map fQ), y]) (fun nx hn => ?_) ?_
  · simp only [LV.begin, Nat.reduceLeDiff, ne_eq, not_false_eq_true, not_true_eq_false, Int.reduceLE, Int.reduceLT, Nat.zero_le, at_0, at_1, at_2, at_3, at_m1a, at_m1b, at_m1c, at_m1d, at_m2b, at_m2c, decide_true, eq_self, Int.reduceEq, true_and, and_true, false_and, and_false, or_false, false_or, Int.reduceNeg, gIx, decide_false, Bool.and_true, Bool.true_and, Bool.or_true, wSeq, wSet, wAsg, wPar, wIf, wIfS, wTst, LV.wTru, LV.wNot, wAnd, wOr, wAndV, wOrV, wNotV, wOp, wUn, wV, wC, fCI, fAdd, fSub, fMul, fDiv, fMod, fPow, fNeg, fIx, fIs, fIsNot, fEq, fNe, fLt, fLe, fGt, fGe, wCB, wCons, wNil, w1, wApp, wIsi, isiB, bagD, isNonD, fLen, fAbs, fInt, fGcd, fList, fTuple, fRepr, fLz, fLen0, fLrv, fSum, fMax, fMin, fAll, fAny, seqD, rdL, rdW, fzL, fzW, unL, putS, RV.sl, wRet, wRetN, wNever, wNext, wDrop, wTup, wLst, outW, placeW, gN, gTu, gCo, gNi, wFor, zSeq, zr_0, zr_1, zr_2, zr_3, zr_4, nc_0, nc_1, nc_2, nc_3, nc_4, zEnum, zZip, zZip3, ixD, tru, wCall, wCallK, wApp, wAppend, wPopAt, wExtend, wChainE, fIn, fBits, fFac, fComb, fRngL1, fRngL2, owW, wSl, fSl, wONone, wOSome, wLc, wYes, List.map, List.replicate, List.length, List.append, List.set, List.take, List.drop, List.getLast?, List.dropLast, List.filterMap, List.getElem?_cons_zero, List.getElem?_cons_succ, List.getElem?_nil, Nat.reduceAdd, Nat.reduceSub, Nat.reduceLT, List.cons_append, List.nil_append, Option.some.injEq, reduceCtorEq, reduceIte, Bool.not_true, Bool.not_false, Bool.false_eq_true, List.isEmpty]
    refine ⟨_, zrng1 n rfl (by omega), ?_⟩
    refine forL (fun (k : Nat) => D.int (0 + (k : Int))) (fun done rest s => done ++ rest = List.range n ∧ ∃ y, s = [.sh (fQ x), .sh (.int (n : Nat)), .ow (((List.range (done.length + 1)).map (pwQ x)).map fQ), y]) ?_ ?_ (List.range n) [] _ ⟨rfl, _, rfl⟩
    · rintro done k rest s nx2 ⟨e, y, rfl⟩ hn2
      obtain ⟨hk, hk2, _, _⟩ := rng_len e
      have e1 : ((List.range (done.length + 1)).map (pwQ x)).map fQ = ((List.range done.length).map (pwQ x)).map fQ ++ [fQ (pwQ x done.length)] := by rw [map_range_succ, List.map_append]; rfl
      have e2 : ((List.range ((done ++ [k]).length + 1)).map (pwQ x)).map fQ = ((List.range (done.length + 1)).map (pwQ x)).map fQ ++ [fQ (pwQ x done.length * x)] := by rw [List.length_append, List.length_singleton, map_range_succ _ (done.length + 1), List.map_append]; rfl
      have e3 : atI (((List.range (done.length + 1)).map (pwQ x)).map fQ) (-1) = some (fQ (pwQ x done.length)) := by rw [e1]; exact at_m1
      simp only [LV.begin, Nat.reduceLeDiff, ne_eq, not_false_eq_true, not_true_eq_false, Int.reduceLE, Int.reduceLT, Nat.zero_le, at_0, at_1, at_2, at_3, at_m1a, at_m1b, at_m1c, at_m1d, at_m2b, at_m2c, decide_true, eq_self, Int.reduceEq, true_and, and_true, false_and, and_false, or_false, false_or, Int.reduceNeg, gIx, decide_false, Bool.and_true, Bool.true_and, Bool.or_true, wSeq, wSet, wAsg, wPar, wIf, wIfS, wTst, LV.wTru, LV.wNot, wAnd, wOr, wAndV, wOrV, wNotV, wOp, wUn, wV, wC, fCI, fAdd, fSub, fMul, fDiv, fMod, fPow, fNeg, fIx, fIs, fIsNot, fEq, fNe, fLt, fLe, fGt, fGe, wCB, wCons, wNil, w1, wApp, wIsi, isiB, bagD, isNonD, fLen, fAbs, fInt, fGcd, fList, fTuple, fRepr, fLz, fLen0, fLrv, fSum, fMax, fMin, fAll, fAny, seqD, rdL, rdW, fzL, fzW, unL, putS, RV.sl, wRet, wRetN, wNever, wNext, wDrop, wTup, wLst, outW, placeW, gN, gTu, gCo, gNi, wFor, zSeq, zr_0, zr_1, zr_2, zr_3, zr_4, nc_0, nc_1, nc_2, nc_3, nc_4, zEnum, zZip, zZip3, ixD, tru, wCall, wCallK, wApp, wAppend, wPopAt, wExtend, wChainE, fIn, fBits, fFac, fComb, fRngL1, fRngL2, owW, wSl, fSl, wONone, wOSome, wLc, wYes, List.map, List.replicate, List.length, List.append, List.set, List.take, List.drop, List.getLast?, List.dropLast, List.filterMap, List.getElem?_cons_zero, List.getElem?_cons_succ, List.getElem?_nil, Nat.reduceAdd, Nat.reduceSub, Nat.reduceLT, List.cons_append, List.nil_append, Option.some.injEq, reduceCtorEq, reduceIte, Bool.not_true, Bool.not_false, Bool.false_eq_true, List.isEmpty, e3, F_fraction_times]
      refine ⟨pwQ x done.length, x, rfl, ⟨_, _, pwQ_sz hz _, hz, by omega⟩, ?_⟩
      refine ⟨by rw [List.length_map, List.length_map, List.length_range]; omega, hn2 _ ⟨by simpa using e, .sh (.int (0 + (k : Int))), ?_⟩⟩
      rw [e2]
    · rintro done s ⟨e, y, rfl⟩
      rw [List.append_nil] at e
      subst e
      rw [List.length_range]
      exact hn _ ⟨_, rfl⟩
  rintro s ⟨y, rfl⟩
  simp only [LV.begin, Nat.reduceLeDiff, ne_eq, not_false_eq_true, not_true_eq_false, Int.reduceLE, Int.reduceLT, Nat.zero_le, at_0, at_1, at_2, at_3, at_m1a, at_m1b, at_m1c, at_m1d, at_m2b, at_m2c, decide_true, eq_self, Int.reduceEq, true_and, and_true, false_and, and_false, or_false, false_or, Int.reduceNeg, gIx, decide_false, Bool.and_true, Bool.true_and, Bool.or_true, wSeq, wSet, wAsg, wPar, wIf, wIfS, wTst, LV.wTru, LV.wNot, wAnd, wOr, wAndV, wOrV, wNotV, wOp, wUn, wV, wC, fCI, fAdd, fSub, fMul, fDiv, fMod, fPow, fNeg, fIx, fIs, fIsNot, fEq, fNe, fLt, fLe, fGt, fGe, wCB, wCons, wNil, w1, wApp, wIsi, isiB, bagD, isNonD, fLen, fAbs, fInt, fGcd, fList, fTuple, fRepr, fLz, fLen0, fLrv, fSum, fMax, fMin, fAll, fAny, seqD, rdL, rdW, fzL, fzW, unL, putS, RV.sl, wRet, wRetN, wNever, wNext, wDrop, wTup, wLst, outW, placeW, gN, gTu, gCo, gNi, wFor, zSeq, zr_0, zr_1, zr_2, zr_3, zr_4, nc_0, nc_1, nc_2, nc_3, nc_4, zEnum, zZip, zZip3, ixD, tru, wCall, wCallK, wApp, wAppend, wPopAt, wExtend, wChainE, fIn, fBits, fFac, fComb, fRngL1, fRngL2, owW, wSl, fSl, wONone, wOSome, wLc, wYes, List.map, List.replicate, List.length, List.append, List.set, List.take, List.drop, List.getLast?, List.dropLast, List.filterMap, List.getElem?_cons_zero, List.getElem?_cons_succ, List.getElem?_nil, Nat.reduceAdd, Nat.reduceSub, Nat.reduceLT, List.cons_append, List.nil_append, Option.some.injEq, reduceCtorEq, reduceIte, Bool.not_true, Bool.not_false, Bool.false_eq_true, List.isEmpty]
  exact hq
theorem p_added {K : PySem.W.Frag} : ∀ ds Qf, F_added ds Qf → ds.length = 1 ∧ W_added K { nx := fun _ => Qf (.sh .non), rt := Qf } (begin 3 ds) := by
  intro ds Qf h
  obtain ⟨l, rfl, hl, ⟨n, m, hnm, hs, hm⟩, hq⟩ := h
  refine ⟨rfl, ?_⟩
  unfold W_added
  refine seq_cut (fun s => s = [.sh (lQ l), .sh (fQ 0), .un]) (fun nx hn => by simp only [LV.begin, Nat.reduceLeDiff, ne_eq, not_false_eq_true, not_true_eq_false, Int.reduceLE, Int.reduceLT, Nat.zero_le, at_0, at_1, at_2, at_3, at_m1a, at_m1b, at_m1c, at_m1d, at_m2b, at_m2c, decide_true, eq_self, Int.reduceEq, true_and, and_true, false_and, and_false, or_false, false_or, Int.reduceNeg, gIx, decide_false, Bool.and_true, Bool.true_and, Bool.or_true, wSeq, wSet, wAsg, wPar, wIf, wIfS, wTst, LV.wTru, LV.wNot, wAnd, wOr, wAndV, wOrV, wNotV, wOp, wUn, wV, wC, fCI, fAdd, fSub, fMul, fDiv, fMod, fPow, fNeg, fIx, fIs, fIsNot, fEq, fNe, fLt, fLe, fGt, fGe, wCB, wCons, wNil, w1, wApp, wIsi, isiB, bagD, isNonD, fLen, fAbs, fInt, fGcd, fList, fTuple, fRepr, fLz, fLen0, fLrv, fSum, fMax, fMin, fAll, fAny, seqD, rdL, rdW, fzL, fzW, unL, putS, RV.sl, wRet, wRetN, wNever, wNext, wDrop, wTup, wLst, outW, placeW, gN, gTu, gCo, gNi, wFor, zSeq, zr_0, zr_1, zr_2, zr_3, zr_4, nc_0, nc_1, nc_2, nc_3, nc_4, zEnum, zZip, zZip3, ixD, tru, wCall, wCallK, wApp, wAppend, wPopAt, wExtend, wChainE, fIn, fBits, fFac, fComb, fRngL1, fRngL2, owW, wSl, fSl, wONone, wOSome, wLc, wYes, List.map, List.replicate, List.length, List.append, List.set, List.take, List.drop, List.getLast?, List.dropLast, List.filterMap, List.getElem?_cons_zero, List.getElem?_cons_succ, List.getElem?_nil, Nat.reduceAdd, Nat.reduceSub, Nat.reduceLT, List.cons_append, List.nil_append, Option.some.injEq, reduceCtorEq, reduceIte, Bool.not_true, Bool.not_false, Bool.false_eq_true, List.isEmpty]; exact hn _ rfl) ?_
  rintro s rfl
  refine seq_cut (fun s => ∃ y, s = [.sh (lQ l), .sh (fQ l.sum), y]) (fun nx hn => ?_) ?_
  · simp only [LV.begin, Nat.reduceLeDiff, ne_eq, not_false_eq_true, not_true_eq_false, Int.reduceLE, Int.reduceLT, Nat.zero_le, at_0, at_1, at_2, at_3, at_m1a, at_m1b, at_m1c, at_m1d, at_m2b, at_m2c, decide_true, eq_self, Int.reduceEq, true_and, and_true, false_and, and_false, or_false, false_or, Int.reduceNeg, gIx, decide_false, Bool.and_true, Bool.true_and, Bool.or_true, wSeq, wSet, wAsg, wPar, wIf, wIfS, wTst, LV.wTru, LV.wNot, wAnd, wOr, wAndV, wOrV, wNotV, wOp, wUn, wV, wC, fCI, fAdd, fSub, fMul, fDiv, fMod, fPow, fNeg, fIx, fIs, fIsNot, fEq, fNe, fLt, fLe, fGt, fGe, wCB, wCons, wNil, w1, wApp, wIsi, isiB, bagD, isNonD, fLen, fAbs, fInt, fGcd, fList, fTuple, fRepr, fLz, fLen0, fLrv, fSum, fMax, fMin, fAll, fAny, seqD, rdL, rdW, fzL, fzW, unL, putS, RV.sl, wRet, wRetN, wNever, wNext, wDrop, wTup, wLst, outW, placeW, gN, gTu, gCo, gNi, wFor, zSeq, zr_0, zr_1, zr_2, zr_3, zr_4, nc_0, nc_1, nc_2, nc_3, nc_4, zEnum, zZip, zZip3, ixD, tru, wCall, wCallK, wApp, wAppend, wPopAt, wExtend, wChainE, fIn, fBits, fFac, fComb, fRngL1, fRngL2, owW, wSl, fSl, wONone, wOSome, wLc, wYes, List.map, List.replicate, List.length, List.append, List.set, List.take, List.drop, List.getLast?, List.dropLast, List.filterMap, List.getElem?_cons_zero, List.getElem?_cons_succ, List.getElem?_nil, Nat.reduceAdd, Nat.reduceSub, Nat.reduceLT, List.cons_append, List.nil_append, Option.some.injEq, reduceCtorEq, reduceIte, Bool.not_true, Bool.not_false, Bool.false_eq_true, List.isEmpty, lQ]
    refine ⟨_, rfl, ?_⟩
    refine forL fQ (fun done rest s => done ++ rest = l ∧ ∃ y, s = [.sh (lQ l), .sh (fQ done.sum), y]) ?_ ?_ l [] _ ⟨rfl, _, rfl⟩
    · rintro done x rest s nx2 ⟨e, y, rfl⟩ hn2
      have hx : x ∈ l := by rw [← e]; simp
      have hd : done = l.take done.length := by rw [← e, List.take_left]
      simp only [LV.begin, Nat.reduceLeDiff, ne_eq, not_false_eq_true, not_true_eq_false, Int.reduceLE, Int.reduceLT, Nat.zero_le, at_0, at_1, at_2, at_3, at_m1a, at_m1b, at_m1c, at_m1d, at_m2b, at_m2c, decide_true, eq_self, Int.reduceEq, true_and, and_true, false_and, and_false, or_false, false_or, Int.reduceNeg, gIx, decide_false, Bool.and_true, Bool.true_and, Bool.or_true, wSeq, wSet, wAsg, wPar, wIf, wIfS, wTst, LV.wTru, LV.wNot, wAnd, wOr, wAndV, wOrV, wNotV, wOp, wUn, wV, wC, fCI, fAdd, fSub, fMul, fDiv, fMod, fPow, fNeg, fIx, fIs, fIsNot, fEq, fNe, fLt, fLe, fGt, fGe, wCB, wCons, wNil, w1, wApp, wIsi, isiB, bagD, isNonD, fLen, fAbs, fInt, fGcd, fList, fTuple, fRepr, fLz, fLen0, fLrv, fSum, fMax, fMin, fAll, fAny, seqD, rdL, rdW, fzL, fzW, unL, putS, RV.sl, wRet, wRetN, wNever, wNext, wDrop, wTup, wLst, outW, placeW, gN, gTu, gCo, gNi, wFor, zSeq, zr_0, zr_1, zr_2, zr_3, zr_4, nc_0, nc_1, nc_2, nc_3, nc_4, zEnum, zZip, zZip3, ixD, tru, wCall, wCallK, wApp, wAppend, wPopAt, wExtend, wChainE, fIn, fBits, fFac, fComb, fRngL1, fRngL2, owW, wSl, fSl, wONone, wOSome, wLc, wYes, List.map, List.replicate, List.length, List.append, List.set, List.take, List.drop, List.getLast?, List.dropLast, List.filterMap, List.getElem?_cons_zero, List.getElem?_cons_succ, List.getElem?_nil, Nat.reduceAdd, Nat.reduceSub, Nat.reduceLT, List.cons_append, List.nil_append, Option.some.injEq, reduceCtorEq, reduceIte, Bool.not_true, Bool.not_false, Bool.false_eq_true, List.isEmpty, F_fraction_sum]
      refine ⟨done.sum, x, rfl, ⟨n, m, by rw [hd]; exact hs _, hm x hx, hnm⟩, ?_⟩
      refine hn2 _ ⟨by simpa using e, .sh (fQ x), ?_⟩
      rw [List.sum_append, List.sum_singleton]
    · rintro done s ⟨e, y, rfl⟩
      rw [List.append_nil] at e
      subst e
      exact hn _ ⟨_, rfl⟩
  rintro s ⟨y, rfl⟩
  simp only [LV.begin, Nat.reduceLeDiff, ne_eq, not_false_eq_true, not_true_eq_false, Int.reduceLE, Int.reduceLT, Nat.zero_le, at_0, at_1, at_2, at_3, at_m1a, at_m1b, at_m1c, at_m1d, at_m2b, at_m2c, decide_true, eq_self, Int.reduceEq, true_and, and_true, false_and, and_false, or_false, false_or, Int.reduceNeg, gIx, decide_false, Bool.and_true, Bool.true_and, Bool.or_true, wSeq, wSet, wAsg, wPar, wIf, wIfS, wTst, LV.wTru, LV.wNot, wAnd, wOr, wAndV, wOrV, wNotV, wOp, wUn, wV, wC, fCI, fAdd, fSub, fMul, fDiv, fMod, fPow, fNeg, fIx, fIs, fIsNot, fEq, fNe, fLt, fLe, fGt, fGe, wCB, wCons, wNil, w1, wApp, wIsi, isiB, bagD, isNonD, fLen, fAbs, fInt, fGcd, fList, fTuple, fRepr, fLz, fLen0, fLrv, fSum, fMax, fMin, fAll, fAny, seqD, rdL, rdW, fzL, fzW, unL, putS, RV.sl, wRet, wRetN, wNever, wNext, wDrop, wTup, wLst, outW, placeW, gN, gTu, gCo, gNi, wFor, zSeq, zr_0, zr_1, zr_2, zr_3, zr_4, nc_0, nc_1, nc_2, nc_3, nc_4, zEnum, zZip, zZip3, ixD, tru, wCall, wCallK, wApp, wAppend, wPopAt, wExtend, wChainE, fIn, fBits, fFac, fComb, fRngL1, fRngL2, owW, wSl, fSl, wONone, wOSome, wLc, wYes, List.map, List.replicate, List.length, List.append, List.set, List.take, List.drop, List.getLast?, List.dropLast, List.filterMap, List.getElem?_cons_zero, List.getElem?_cons_succ, List.getElem?_nil, Nat.reduceAdd, Nat.reduceSub, Nat.reduceLT, List.cons_append, List.nil_append, Option.some.injEq, reduceCtorEq, reduceIte, Bool.not_true, Bool.not_false, Bool.false_eq_true, List.isEmpty]
  exact hq
def tri : List Rat → List Rat → List Rat → List (Rat × Rat × Rat)
  | a :: as, b :: bs, v :: vs => (a, b, v) :: tri as bs vs
  | _, _, _ => []
theorem zip3_tri : ∀ a b v : List Rat, zip3D (a.map fQ) (b.map fQ) (v.map fQ) = (tri a b v).map fun p => .tup [fQ p.1, fQ p.2.1, fQ p.2.2]
  | [], _, _ => rfl
  | _ :: _, [], _ => rfl
  | _ :: _, _ :: _, [] => rfl
  | a :: as, b :: bs, v :: vs => by simp only [List.map_cons, zip3D, tri, zip3_tri as bs vs]
theorem tpL_tri (f : Rat) : ∀ a b v : List Rat, tpL f a b v = (tri a b v).map fun p => (f * p.2.1 - p.1) * p.2.2
  | [], _, _ => rfl
  | _ :: _, [], _ => rfl
  | _ :: _, _ :: _, [] => rfl
  | a :: as, b :: bs, v :: vs => by simp only [List.map_cons, tpL, tri, tpL_tri f as bs vs]
theorem tri_mem : ∀ {a b v : List Rat} {p : Rat × Rat × Rat}, p ∈ tri a b v → p.1 ∈ a ∧ p.2.1 ∈ b ∧ p.2.2 ∈ v
  | [], _, _, _, h => by simp [tri] at h
  | _ :: _, [], _, _, h => by simp [tri] at h
  | _ :: _, _ :: _, [], _, h => by simp [tri] at h
  | a :: as, b :: bs, v :: vs, p, h => by
    rcases List.mem_cons.mp h with rfl | h
    · simp
    · have := tri_mem h
      exact ⟨List.mem_cons_of_mem _ this.1, List.mem_cons_of_mem _ this.2.1, List.mem_cons_of_mem _ this.2.2⟩
theorem tri_len : ∀ (a b v : List Rat), (tri a b v).length ≤ v.length
  | [], _, _ => by simp [tri]
  | _ :: _, [], _ => by simp [tri]
  | _ :: _, _ :: _, [] => by simp [tri]
  | a :: as, b :: bs, v :: vs => by simp only [tri, List.length_cons]; have := tri_len as bs vs; omega
theorem p_told_part {K : PySem.W.Frag} : ∀ ds Qf, F_told_part ds Qf → ds.length = 3 ∧ W_told_part K { nx := fun _ => Qf (.sh .non), rt := Qf } (begin 7 ds) := by
  intro ds Qf h
  obtain ⟨a, b, f, v, rfl, hl, za, zb, zf, zv, ok, hq⟩ := h
  refine ⟨rfl, ?_⟩
  unfold W_told_part
  refine seq_cut (fun s => s = [.sh (.lst [lQ a, lQ b]), .sh (fQ f), .sh (lQ v), .ow [], .un, .un, .un]) (fun nx hn => by simp only [LV.begin, Nat.reduceLeDiff, ne_eq, not_false_eq_true, not_true_eq_false, Int.reduceLE, Int.reduceLT, Nat.zero_le, at_0, at_1, at_2, at_3, at_m1a, at_m1b, at_m1c, at_m1d, at_m2b, at_m2c, decide_true, eq_self, Int.reduceEq, true_and, and_true, false_and, and_false, or_false, false_or, Int.reduceNeg, gIx, decide_false, Bool.and_true, Bool.true_and, Bool.or_true, wSeq, wSet, wAsg, wPar, wIf, wIfS, wTst, LV.wTru, LV.wNot, wAnd, wOr, wAndV, wOrV, wNotV, wOp, wUn, wV, wC, fCI, fAdd, fSub, fMul, fDiv, fMod, fPow, fNeg, fIx, fIs, fIsNot, fEq, fNe, fLt, fLe, fGt, fGe, wCB, wCons, wNil, w1, wApp, wIsi, isiB, bagD, isNonD, fLen, fAbs, fInt, fGcd, fList, fTuple, fRepr, fLz, fLen0, fLrv, fSum, fMax, fMin, fAll, fAny, seqD, rdL, rdW, fzL, fzW, unL, putS, RV.sl, wRet, wRetN, wNever, wNext, wDrop, wTup, wLst, outW, placeW, gN, gTu, gCo, gNi, wFor, zSeq, zr_0, zr_1, zr_2, zr_3, zr_4, nc_0, nc_1, nc_2, nc_3, nc_4, zEnum, zZip, zZip3, ixD, tru, wCall, wCallK, wApp, wAppend, wPopAt, wExtend, wChainE, fIn, fBits, fFac, fComb, fRngL1, fRngL2, owW, wSl, fSl, wONone, wOSome, wLc, wYes, List.map, List.replicate, List.length, List.append, List.set, List.take, List.drop, List.getLast?, List.dropLast, List.filterMap, List.getElem?_cons_zero, List.getElem?_cons_succ, List.getElem?_nil, Nat.reduceAdd, Nat.reduceSub, Nat.reduceLT, List.cons_append, List.nil_append, Option.some.injEq, reduceCtorEq, reduceIte, Bool.not_true, Bool.not_false, Bool.false_eq_true, List.isEmpty]; exact hn _ rfl) ?_
  rintro s rfl
  refine seq_cut (fun s => ∃ x y z, s = [.sh (.lst [lQ a, lQ b]), .sh (fQ f), .sh (lQ v), .ow ((tpL f a b v).map fQ), x, y, z]) (fun nx hn => ?_) ?_
  · simp only [LV.begin, Nat.reduceLeDiff, ne_eq, not_false_eq_true, not_true_eq_false, Int.reduceLE, Int.reduceLT, Nat.zero_le, at_0, at_1, at_2, at_3, at_m1a, at_m1b, at_m1c, at_m1d, at_m2b, at_m2c, decide_true, eq_self, Int.reduceEq, true_and, and_true, false_and, and_false, or_false, false_or, Int.reduceNeg, gIx, decide_false, Bool.and_true, Bool.true_and, Bool.or_true, wSeq, wSet, wAsg, wPar, wIf, wIfS, wTst, LV.wTru, LV.wNot, wAnd, wOr, wAndV, wOrV, wNotV, wOp, wUn, wV, wC, fCI, fAdd, fSub, fMul, fDiv, fMod, fPow, fNeg, fIx, fIs, fIsNot, fEq, fNe, fLt, fLe, fGt, fGe, wCB, wCons, wNil, w1, wApp, wIsi, isiB, bagD, isNonD, fLen, fAbs, fInt, fGcd, fList, fTuple, fRepr, fLz, fLen0, fLrv, fSum, fMax, fMin, fAll, fAny, seqD, rdL, rdW, fzL, fzW, unL, putS, RV.sl, wRet, wRetN, wNever, wNext, wDrop, wTup, wLst, outW, placeW, gN, gTu, gCo, gNi, wFor, zSeq, zr_0, zr_1, zr_2, zr_3, zr_4, nc_0, nc_1, nc_2, nc_3, nc_4, zEnum, zZip, zZip3, ixD, tru, wCall, wCallK, wApp, wAppend, wPopAt, wExtend, wChainE, fIn, fBits, fFac, fComb, fRngL1, fRngL2, owW, wSl, fSl, wONone, wOSome, wLc, wYes, List.map, List.replicate, List.length, List.append, List.set, List.take, List.drop, List.getLast?, List.dropLast, List.filterMap, List.getElem?_cons_zero, List.getElem?_cons_succ, List.getElem?_nil, Nat.reduceAdd, Nat.reduceSub, Nat.reduceLT, List.cons_append, List.nil_append, Option.some.injEq, reduceCtorEq, reduceIte, Bool.not_true, Bool.not_false, Bool.false_eq_true, List.isEmpty, lQ, zip3_tri]
    refine ⟨_, rfl, ?_⟩
    refine forL (fun p : Rat × Rat × Rat => D.tup [fQ p.1, fQ p.2.1, fQ p.2.2]) (fun done rest s => done ++ rest = tri a b v ∧ ∃ x y z, s = [.sh (.lst [lQ a, lQ b]), .sh (fQ f), .sh (lQ v), .ow ((done.map fun p => (f * p.2.1 - p.1) * p.2.2).map fQ), x, y, z]) ?_ ?_ (tri a b v) [] _ ⟨rfl, _, _, _, rfl⟩
    · rintro done p rest s nx2 ⟨e, x, y, z, rfl⟩ hn2
      have hp : p ∈ tri a b v := by rw [← e]; simp
      obtain ⟨ma, mb, mv⟩ := tri_mem hp
      have hlen : done.length < 100000 := by have := congrArg List.length e; have := tri_len a b v; simp at *; omega
      have s1 : Sz 260 (f * p.2.1) := (zf.mul (zb _ mb)).mono (by omega)
      simp only [LV.begin, Nat.reduceLeDiff, ne_eq, not_false_eq_true, not_true_eq_false, Int.reduceLE, Int.reduceLT, Nat.zero_le, at_0, at_1, at_2, at_3, at_m1a, at_m1b, at_m1c, at_m1d, at_m2b, at_m2c, decide_true, eq_self, Int.reduceEq, true_and, and_true, false_and, and_false, or_false, false_or, Int.reduceNeg, gIx, decide_false, Bool.and_true, Bool.true_and, Bool.or_true, wSeq, wSet, wAsg, wPar, wIf, wIfS, wTst, LV.wTru, LV.wNot, wAnd, wOr, wAndV, wOrV, wNotV, wOp, wUn, wV, wC, fCI, fAdd, fSub, fMul, fDiv, fMod, fPow, fNeg, fIx, fIs, fIsNot, fEq, fNe, fLt, fLe, fGt, fGe, wCB, wCons, wNil, w1, wApp, wIsi, isiB, bagD, isNonD, fLen, fAbs, fInt, fGcd, fList, fTuple, fRepr, fLz, fLen0, fLrv, fSum, fMax, fMin, fAll, fAny, seqD, rdL, rdW, fzL, fzW, unL, putS, RV.sl, wRet, wRetN, wNever, wNext, wDrop, wTup, wLst, outW, placeW, gN, gTu, gCo, gNi, wFor, zSeq, zr_0, zr_1, zr_2, zr_3, zr_4, nc_0, nc_1, nc_2, nc_3, nc_4, zEnum, zZip, zZip3, ixD, tru, wCall, wCallK, wApp, wAppend, wPopAt, wExtend, wChainE, fIn, fBits, fFac, fComb, fRngL1, fRngL2, owW, wSl, fSl, wONone, wOSome, wLc, wYes, List.map, List.replicate, List.length, List.append, List.set, List.take, List.drop, List.getLast?, List.dropLast, List.filterMap, List.getElem?_cons_zero, List.getElem?_cons_succ, List.getElem?_nil, Nat.reduceAdd, Nat.reduceSub, Nat.reduceLT, List.cons_append, List.nil_append, Option.some.injEq, reduceCtorEq, reduceIte, Bool.not_true, Bool.not_false, Bool.false_eq_true, List.isEmpty, F_fraction_times, F_fraction_less]
      refine ⟨f, p.2.1, rfl, ⟨60, 200, zf, zb _ mb, by omega⟩, ?_⟩
      refine ⟨f * p.2.1, p.1, rfl, ⟨260, 200, s1, za _ ma, by omega⟩, ?_⟩
      refine ⟨f * p.2.1 - p.1, p.2.2, rfl, ⟨461, 6800, (s1.sub (za _ ma)).mono (by omega), zv _ mv, by omega⟩, ?_⟩
      refine ⟨by simp; omega, hn2 _ ⟨by simpa using e, fQ p.1 |> .sh, fQ p.2.1 |> .sh, fQ p.2.2 |> .sh, ?_⟩⟩
      rw [List.map_append, List.map_append]; rfl
    · rintro done s ⟨e, x, y, z, rfl⟩
      rw [List.append_nil] at e
      subst e
      rw [← tpL_tri]
      exact hn _ ⟨_, _, _, rfl⟩
  rintro s ⟨x, y, z, rfl⟩
  simp only [LV.begin, Nat.reduceLeDiff, ne_eq, not_false_eq_true, not_true_eq_false, Int.reduceLE, Int.reduceLT, Nat.zero_le, at_0, at_1, at_2, at_3, at_m1a, at_m1b, at_m1c, at_m1d, at_m2b, at_m2c, decide_true, eq_self, Int.reduceEq, true_and, and_true, false_and, and_false, or_false, false_or, Int.reduceNeg, gIx, decide_false, Bool.and_true, Bool.true_and, Bool.or_true, wSeq, wSet, wAsg, wPar, wIf, wIfS, wTst, LV.wTru, LV.wNot, wAnd, wOr, wAndV, wOrV, wNotV, wOp, wUn, wV, wC, fCI, fAdd, fSub, fMul, fDiv, fMod, fPow, fNeg, fIx, fIs, fIsNot, fEq, fNe, fLt, fLe, fGt, fGe, wCB, wCons, wNil, w1, wApp, wIsi, isiB, bagD, isNonD, fLen, fAbs, fInt, fGcd, fList, fTuple, fRepr, fLz, fLen0, fLrv, fSum, fMax, fMin, fAll, fAny, seqD, rdL, rdW, fzL, fzW, unL, putS, RV.sl, wRet, wRetN, wNever, wNext, wDrop, wTup, wLst, outW, placeW, gN, gTu, gCo, gNi, wFor, zSeq, zr_0, zr_1, zr_2, zr_3, zr_4, nc_0, nc_1, nc_2, nc_3, nc_4, zEnum, zZip, zZip3, ixD, tru, wCall, wCallK, wApp, wAppend, wPopAt, wExtend, wChainE, fIn, fBits, fFac, fComb, fRngL1, fRngL2, owW, wSl, fSl, wONone, wOSome, wLc, wYes, List.map, List.replicate, List.length, List.append, List.set, List.take, List.drop, List.getLast?, List.dropLast, List.filterMap, List.getElem?_cons_zero, List.getElem?_cons_succ, List.getElem?_nil, Nat.reduceAdd, Nat.reduceSub, Nat.reduceLT, List.cons_append, List.nil_append, Option.some.injEq, reduceCtorEq, reduceIte, Bool.not_true, Bool.not_false, Bool.false_eq_true, List.isEmpty, F_added]
  refine ⟨tpL f a b v, rfl, ?_, ok, hq⟩
  rw [tpL_tri, List.length_map]
  exact Nat.le_trans (tri_len a b v) hl
theorem Sm3.sz {x : Rat} (h : x.num.natAbs ≤ 1000 ∧ x.den ≤ 1000) : Sz 10 x := ⟨Nat.lt_of_le_of_lt h.1 (by decide), sm_nat (Nat.lt_of_le_of_lt h.2 (by decide))⟩
theorem dv_sz {l : List Rat} {x : Rat} (hl : ∀ y ∈ l, y.num.natAbs ≤ 1000 ∧ y.den ≤ 1000) (hx : x.num.natAbs ≤ 1000 ∧ x.den ≤ 1000) (h0 : x ≠ 0) : ∀ y ∈ dvR x l, Sz 20 y := fun y hy => by
  obtain ⟨z, hz, rfl⟩ := List.mem_map.mp hy
  exact (Sm3.sz (hl z hz)).div (Sm3.sz hx) h0
theorem dv_len (x : Rat) (l : List Rat) : (dvR x l).length = l.length := by simp [dvR]
theorem ne_of_len {l : List Rat} {k : Nat} (h : l.length = k + 1) : l ≠ [] := fun e => by rw [e] at h; cases h
theorem cut_lastK (l : List Rat) (k : Nat) {i : Int} (hk : k ≤ l.length) (e : i = (l.length : Int) - (k : Int)) : cutD (l.map fQ) (some i) none = (lastK k l).map fQ := by
  have : i = ((l.length - k : Nat) : Int) := by omega
  rw [this, cut_from, lastK, List.map_drop]
theorem runN_len (d e a b : List Rat) (f : Rat) (m k : Nat) (s : List Rat) : ∀ n, (runN d e a b f m k s n).length = s.length + n
  | 0 => rfl
  | n + 1 => by rw [runN, List.length_append, runN_len d e a b f m k s n, List.length_singleton]; omega
theorem ev_of {d e a b : List Rat} {f : Rat} {k : Nat} (ok : RuleOk d e a b f k) {Q : RV → Prop} (h : Q (.fr [lQ (dvR (lst a) a), lQ (dvR (lst a) b)])) : F_evened [rlD a b] Q :=
  ⟨a, b, rfl, ne_of_len ok.la, ok.a0, by have := ok.la; have := ok.k8; omega, by have := ok.lb; have := ok.k8; omega, fun x hx => (Sm3.sz (ok.sa x hx)).mono (by omega), fun x hx => (Sm3.sz (ok.sb x hx)).mono (by omega), h⟩
theorem ev_of2 {d e a b : List Rat} {f : Rat} {k : Nat} (ok : RuleOk d e a b f k) {Q : RV → Prop} (h : Q (.fr [lQ (dvR (lst d) d), lQ (dvR (lst d) e)])) : F_evened [rlD d e] Q :=
  ⟨d, e, rfl, ne_of_len ok.ld, ok.d0, by have := ok.ld; have := ok.k8; omega, by have := ok.le; have := ok.k8; omega, fun x hx => (Sm3.sz (ok.sd x hx)).mono (by omega), fun x hx => (Sm3.sz (ok.se x hx)).mono (by omega), h⟩
theorem lastK_len (k : Nat) (l : List Rat) (h : k ≤ l.length) : (lastK k l).length = k := by unfold lastK; rw [List.length_drop]; omega
theorem p_mended_run {K : PySem.W.Frag} : ∀ ds Qf, F_mended_run ds Qf → ds.length = 6 ∧ W_mended_run K { nx := fun _ => Qf (.sh .non), rt := Qf } (begin 15 ds) := by
  intro ds Qf h
  obtain ⟨d, e, a, b, f, m, start, n, rfl, ok, hm6, hn20, st, hq⟩ := h
  refine ⟨rfl, ?_⟩
  have k8 := ok.k8
  obtain ⟨a', ea⟩ : ∃ l, l = dvR (lst a) a := ⟨_, rfl⟩
  obtain ⟨b', eb⟩ : ∃ l, l = dvR (lst a) b := ⟨_, rfl⟩
  obtain ⟨d', ed⟩ : ∃ l, l = dvR (lst d) d := ⟨_, rfl⟩
  obtain ⟨e', ee⟩ : ∃ l, l = dvR (lst d) e := ⟨_, rfl⟩
  have za : ∀ x ∈ a', Sz 200 x := by rw [ea]; exact fun x hx => (dv_sz ok.sa (ok.sa _ (lst_mem (ne_of_len ok.la))) ok.a0 x hx).mono (by omega)
  have zb : ∀ x ∈ b', Sz 200 x := by rw [eb]; exact fun x hx => (dv_sz ok.sb (ok.sa _ (lst_mem (ne_of_len ok.la))) ok.a0 x hx).mono (by omega)
  have zd : ∀ x ∈ d', Sz 200 x := by rw [ed]; exact fun x hx => (dv_sz ok.sd (ok.sd _ (lst_mem (ne_of_len ok.ld))) ok.d0 x hx).mono (by omega)
  have ze : ∀ x ∈ e', Sz 200 x := by rw [ee]; exact fun x hx => (dv_sz ok.se (ok.sd _ (lst_mem (ne_of_len ok.ld))) ok.d0 x hx).mono (by omega)
  have zf : Sz 60 f := (Sm3.sz ok.sf).mono (by omega)
  have hb' : b' ≠ [] := by rw [eb]; exact ne_of_len ((dv_len _ _).trans ok.lb)
  unfold runQ at st hq
  rw [← ea, ← eb, ← ed, ← ee] at st hq
  obtain ⟨g, eg⟩ : ∃ g : D, g = rlD d e := ⟨_, rfl⟩
  obtain ⟨r, er⟩ : ∃ g : D, g = rlD a b := ⟨_, rfl⟩
  obtain ⟨p, ep⟩ : ∃ g : D, g = .int ((start.length + n : Nat) : Int) := ⟨_, rfl⟩
  unfold W_mended_run
  refine seq_cut (fun s => s = [.sh g, .sh r, .sh (fQ f), .sh (.int (m : Nat)), .sh (tQ start), .sh p, .ow [lQ a', lQ b'], .ow [lQ d', lQ e'], .ow (start.map fQ), .un, .un, .un, .un, .un, .un]) (fun nx hn => ?_) ?_
  · simp only [LV.begin, Nat.reduceLeDiff, ne_eq, not_false_eq_true, not_true_eq_false, Int.reduceLE, Int.reduceLT, Nat.zero_le, at_0, at_1, at_2, at_3, at_m1a, at_m1b, at_m1c, at_m1d, at_m2b, at_m2c, decide_true, eq_self, Int.reduceEq, true_and, and_true, false_and, and_false, or_false, false_or, Int.reduceNeg, gIx, decide_false, Bool.and_true, Bool.true_and, Bool.or_true, wSeq, wSet, wAsg, wPar, wIf, wIfS, wTst, LV.wTru, LV.wNot, wAnd, wOr, wAndV, wOrV, wNotV, wOp, wUn, wV, wC, fCI, fAdd, fSub, fMul, fDiv, fMod, fPow, fNeg, fIx, fIs, fIsNot, fEq, fNe, fLt, fLe, fGt, fGe, wCB, wCons, wNil, w1, wApp, wIsi, isiB, bagD, isNonD, fLen, fAbs, fInt, fGcd, fList, fTuple, fRepr, fLz, fLen0, fLrv, fSum, fMax, fMin, fAll, fAny, seqD, rdL, rdW, fzL, fzW, unL, putS, RV.sl, wRet, wRetN, wNever, wNext, wDrop, wTup, wLst, outW, placeW, gN, gTu, gCo, gNi, wFor, zSeq, zr_0, zr_1, zr_2, zr_3, zr_4, nc_0, nc_1, nc_2, nc_3, nc_4, zEnum, zZip, zZip3, ixD, tru, wCall, wCallK, wApp, wAppend, wPopAt, wExtend, wChainE, fIn, fBits, fFac, fComb, fRngL1, fRngL2, owW, wSl, fSl, wONone, wOSome, wLc, wYes, List.map, List.replicate, List.length, List.append, List.set, List.take, List.drop, List.getLast?, List.dropLast, List.filterMap, List.getElem?_cons_zero, List.getElem?_cons_succ, List.getElem?_nil, Nat.reduceAdd, Nat.reduceSub, Nat.reduceLT, List.cons_append, List.nil_append, Option.some.injEq, reduceCtorEq, reduceIte, Bool.not_true, Bool.not_false, Bool.false_eq_true, List.isEmpty]
    refine ev_of ok ?_
    simp only [LV.begin, Nat.reduceLeDiff, ne_eq, not_false_eq_true, not_true_eq_false, Int.reduceLE, Int.reduceLT, Nat.zero_le, at_0, at_1, at_2, at_3, at_m1a, at_m1b, at_m1c, at_m1d, at_m2b, at_m2c, decide_true, eq_self, Int.reduceEq, true_and, and_true, false_and, and_false, or_false, false_or, Int.reduceNeg, gIx, decide_false, Bool.and_true, Bool.true_and, Bool.or_true, wSeq, wSet, wAsg, wPar, wIf, wIfS, wTst, LV.wTru, LV.wNot, wAnd, wOr, wAndV, wOrV, wNotV, wOp, wUn, wV, wC, fCI, fAdd, fSub, fMul, fDiv, fMod, fPow, fNeg, fIx, fIs, fIsNot, fEq, fNe, fLt, fLe, fGt, fGe, wCB, wCons, wNil, w1, wApp, wIsi, isiB, bagD, isNonD, fLen, fAbs, fInt, fGcd, fList, fTuple, fRepr, fLz, fLen0, fLrv, fSum, fMax, fMin, fAll, fAny, seqD, rdL, rdW, fzL, fzW, unL, putS, RV.sl, wRet, wRetN, wNever, wNext, wDrop, wTup, wLst, outW, placeW, gN, gTu, gCo, gNi, wFor, zSeq, zr_0, zr_1, zr_2, zr_3, zr_4, nc_0, nc_1, nc_2, nc_3, nc_4, zEnum, zZip, zZip3, ixD, tru, wCall, wCallK, wApp, wAppend, wPopAt, wExtend, wChainE, fIn, fBits, fFac, fComb, fRngL1, fRngL2, owW, wSl, fSl, wONone, wOSome, wLc, wYes, List.map, List.replicate, List.length, List.append, List.set, List.take, List.drop, List.getLast?, List.dropLast, List.filterMap, List.getElem?_cons_zero, List.getElem?_cons_succ, List.getElem?_nil, Nat.reduceAdd, Nat.reduceSub, Nat.reduceLT, List.cons_append, List.nil_append, Option.some.injEq, reduceCtorEq, reduceIte, Bool.not_true, Bool.not_false, Bool.false_eq_true, List.isEmpty]
    refine ev_of2 ok ?_
    simp only [LV.begin, Nat.reduceLeDiff, ne_eq, not_false_eq_true, not_true_eq_false, Int.reduceLE, Int.reduceLT, Nat.zero_le, at_0, at_1, at_2, at_3, at_m1a, at_m1b, at_m1c, at_m1d, at_m2b, at_m2c, decide_true, eq_self, Int.reduceEq, true_and, and_true, false_and, and_false, or_false, false_or, Int.reduceNeg, gIx, decide_false, Bool.and_true, Bool.true_and, Bool.or_true, wSeq, wSet, wAsg, wPar, wIf, wIfS, wTst, LV.wTru, LV.wNot, wAnd, wOr, wAndV, wOrV, wNotV, wOp, wUn, wV, wC, fCI, fAdd, fSub, fMul, fDiv, fMod, fPow, fNeg, fIx, fIs, fIsNot, fEq, fNe, fLt, fLe, fGt, fGe, wCB, wCons, wNil, w1, wApp, wIsi, isiB, bagD, isNonD, fLen, fAbs, fInt, fGcd, fList, fTuple, fRepr, fLz, fLen0, fLrv, fSum, fMax, fMin, fAll, fAny, seqD, rdL, rdW, fzL, fzW, unL, putS, RV.sl, wRet, wRetN, wNever, wNext, wDrop, wTup, wLst, outW, placeW, gN, gTu, gCo, gNi, wFor, zSeq, zr_0, zr_1, zr_2, zr_3, zr_4, nc_0, nc_1, nc_2, nc_3, nc_4, zEnum, zZip, zZip3, ixD, tru, wCall, wCallK, wApp, wAppend, wPopAt, wExtend, wChainE, fIn, fBits, fFac, fComb, fRngL1, fRngL2, owW, wSl, fSl, wONone, wOSome, wLc, wYes, List.map, List.replicate, List.length, List.append, List.set, List.take, List.drop, List.getLast?, List.dropLast, List.filterMap, List.getElem?_cons_zero, List.getElem?_cons_succ, List.getElem?_nil, Nat.reduceAdd, Nat.reduceSub, Nat.reduceLT, List.cons_append, List.nil_append, Option.some.injEq, reduceCtorEq, reduceIte, Bool.not_true, Bool.not_false, Bool.false_eq_true, List.isEmpty, tQ]
    rw [← ea, ← eb, ← ed, ← ee, ← eg, ← er, ← ep]
    exact hn _ rfl
  rintro s rfl
  refine seq_cut (fun s => s = [.sh g, .sh r, .sh (fQ f), .sh (.int (m : Nat)), .sh (tQ start), .sh p, .ow [lQ a', lQ b'], .ow [lQ d', lQ e'], .ow (start.map fQ), .sh (fQ (f * lst b')), .un, .un, .un, .un, .un]) (fun nx hn => ?_) ?_
  · simp only [LV.begin, Nat.reduceLeDiff, ne_eq, not_false_eq_true, not_true_eq_false, Int.reduceLE, Int.reduceLT, Nat.zero_le, at_0, at_1, at_2, at_3, at_m1a, at_m1b, at_m1c, at_m1d, at_m2b, at_m2c, decide_true, eq_self, Int.reduceEq, true_and, and_true, false_and, and_false, or_false, false_or, Int.reduceNeg, gIx, decide_false, Bool.and_true, Bool.true_and, Bool.or_true, wSeq, wSet, wAsg, wPar, wIf, wIfS, wTst, LV.wTru, LV.wNot, wAnd, wOr, wAndV, wOrV, wNotV, wOp, wUn, wV, wC, fCI, fAdd, fSub, fMul, fDiv, fMod, fPow, fNeg, fIx, fIs, fIsNot, fEq, fNe, fLt, fLe, fGt, fGe, wCB, wCons, wNil, w1, wApp, wIsi, isiB, bagD, isNonD, fLen, fAbs, fInt, fGcd, fList, fTuple, fRepr, fLz, fLen0, fLrv, fSum, fMax, fMin, fAll, fAny, seqD, rdL, rdW, fzL, fzW, unL, putS, RV.sl, wRet, wRetN, wNever, wNext, wDrop, wTup, wLst, outW, placeW, gN, gTu, gCo, gNi, wFor, zSeq, zr_0, zr_1, zr_2, zr_3, zr_4, nc_0, nc_1, nc_2, nc_3, nc_4, zEnum, zZip, zZip3, ixD, tru, wCall, wCallK, wApp, wAppend, wPopAt, wExtend, wChainE, fIn, fBits, fFac, fComb, fRngL1, fRngL2, owW, wSl, fSl, wONone, wOSome, wLc, wYes, List.map, List.replicate, List.length, List.append, List.set, List.take, List.drop, List.getLast?, List.dropLast, List.filterMap, List.getElem?_cons_zero, List.getElem?_cons_succ, List.getElem?_nil, Nat.reduceAdd, Nat.reduceSub, Nat.reduceLT, List.cons_append, List.nil_append, Option.some.injEq, reduceCtorEq, reduceIte, Bool.not_true, Bool.not_false, Bool.false_eq_true, List.isEmpty, lQ, at_lst hb', F_fraction_times]
    exact ⟨f, lst b', rfl, ⟨60, 200, zf, zb _ (lst_mem hb'), by omega⟩, hn _ rfl⟩
  rintro s rfl
  refine seq_cut (fun s => ∃ s6 s7 x10 x11 x12 x13 x14, s = [.sh g, .sh r, .sh (fQ f), .sh (.int (m : Nat)), .sh (tQ start), .sh p, s6, s7, .ow ((runN d' e' a' b' f m start.length start n).map fQ), .sh (fQ (f * lst b')), x10, x11, x12, x13, x14]) (fun nx hn => ?_) ?_
  · have en : ((start.length + n : Nat) : Int) - ((start.map fQ).length : Int) = (n : Int) := by rw [List.length_map]; omega
    simp only [LV.begin, Nat.reduceLeDiff, ne_eq, not_false_eq_true, not_true_eq_false, Int.reduceLE, Int.reduceLT, Nat.zero_le, at_0, at_1, at_2, at_3, at_m1a, at_m1b, at_m1c, at_m1d, at_m2b, at_m2c, decide_true, eq_self, Int.reduceEq, true_and, and_true, false_and, and_false, or_false, false_or, Int.reduceNeg, gIx, decide_false, Bool.and_true, Bool.true_and, Bool.or_true, wSeq, wSet, wAsg, wPar, wIf, wIfS, wTst, LV.wTru, LV.wNot, wAnd, wOr, wAndV, wOrV, wNotV, wOp, wUn, wV, wC, fCI, fAdd, fSub, fMul, fDiv, fMod, fPow, fNeg, fIx, fIs, fIsNot, fEq, fNe, fLt, fLe, fGt, fGe, wCB, wCons, wNil, w1, wApp, wIsi, isiB, bagD, isNonD, fLen, fAbs, fInt, fGcd, fList, fTuple, fRepr, fLz, fLen0, fLrv, fSum, fMax, fMin, fAll, fAny, seqD, rdL, rdW, fzL, fzW, unL, putS, RV.sl, wRet, wRetN, wNever, wNext, wDrop, wTup, wLst, outW, placeW, gN, gTu, gCo, gNi, wFor, zSeq, zr_0, zr_1, zr_2, zr_3, zr_4, nc_0, nc_1, nc_2, nc_3, nc_4, zEnum, zZip, zZip3, ixD, tru, wCall, wCallK, wApp, wAppend, wPopAt, wExtend, wChainE, fIn, fBits, fFac, fComb, fRngL1, fRngL2, owW, wSl, fSl, wONone, wOSome, wLc, wYes, List.map, List.replicate, List.length, List.append, List.set, List.take, List.drop, List.getLast?, List.dropLast, List.filterMap, List.getElem?_cons_zero, List.getElem?_cons_succ, List.getElem?_nil, Nat.reduceAdd, Nat.reduceSub, Nat.reduceLT, List.cons_append, List.nil_append, Option.some.injEq, reduceCtorEq, reduceIte, Bool.not_true, Bool.not_false, Bool.false_eq_true, List.isEmpty, ep, tQ, en]
    refine ⟨_, zrng1 n rfl (by omega), ?_⟩
    rw [← ep]
    refine forL (fun (k : Nat) => D.int (0 + (k : Int))) (fun done rest s => done ++ rest = List.range n ∧ ∃ s6 s7 x10 x11 x12 x13 x14, (s6 = .ow [lQ a', lQ b'] ∨ s6 = .sh (.lst [lQ a', lQ b'])) ∧ (s7 = .ow [lQ d', lQ e'] ∨ s7 = .sh (.lst [lQ d', lQ e'])) ∧
      s = [.sh g, .sh r, .sh (fQ f), .sh (.int (m : Nat)), .sh (tQ start), .sh p, s6, s7, .ow ((runN d' e' a' b' f m start.length start done.length).map fQ), .sh (fQ (f * lst b')), x10, x11, x12, x13, x14]) ?_ ?_ (List.range n) [] _ ⟨rfl, _, _, _, _, _, _, _, .inl rfl, .inl rfl, rfl⟩
    · rintro done k rest s nx2 ⟨e0, s6, s7, x10, x11, x12, x13, x14, h6, h7, rfl⟩ hn2
      obtain ⟨hk, hk2, _, _⟩ := rng_len e0
      have so := st done.length hk2
      obtain ⟨acc, eacc⟩ : ∃ l, l = runN d' e' a' b' f m start.length start done.length := ⟨_, rfl⟩
      have hacc : acc.length = start.length + done.length := by rw [eacc]; exact runN_len ..
      rw [← eacc] at so ⊢
      obtain ⟨v, ev⟩ : ∃ l, l = lastK start.length acc := ⟨_, rfl⟩
      rw [← ev] at so
      have hv : v.length = start.length := by rw [ev]; exact lastK_len _ _ (by omega)
      obtain ⟨y10, e10⟩ : ∃ y : Sl, y = .sh (.int (0 + (k : Int))) := ⟨_, rfl⟩
      simp only [gN, List.set]
      rw [← e10]
      refine seq_cut (fun s => s = [.sh g, .sh r, .sh (fQ f), .sh (.int (m : Nat)), .sh (tQ start), .sh p, s6, s7, .ow (acc.map fQ), .sh (fQ (f * lst b')), y10, .ow (v.map fQ), x12, x13, x14]) (fun nx hn => ?_) ?_
      · simp only [LV.begin, Nat.reduceLeDiff, ne_eq, not_false_eq_true, not_true_eq_false, Int.reduceLE, Int.reduceLT, Nat.zero_le, at_0, at_1, at_2, at_3, at_m1a, at_m1b, at_m1c, at_m1d, at_m2b, at_m2c, decide_true, eq_self, Int.reduceEq, true_and, and_true, false_and, and_false, or_false, false_or, Int.reduceNeg, gIx, decide_false, Bool.and_true, Bool.true_and, Bool.or_true, wSeq, wSet, wAsg, wPar, wIf, wIfS, wTst, LV.wTru, LV.wNot, wAnd, wOr, wAndV, wOrV, wNotV, wOp, wUn, wV, wC, fCI, fAdd, fSub, fMul, fDiv, fMod, fPow, fNeg, fIx, fIs, fIsNot, fEq, fNe, fLt, fLe, fGt, fGe, wCB, wCons, wNil, w1, wApp, wIsi, isiB, bagD, isNonD, fLen, fAbs, fInt, fGcd, fList, fTuple, fRepr, fLz, fLen0, fLrv, fSum, fMax, fMin, fAll, fAny, seqD, rdL, rdW, fzL, fzW, unL, putS, RV.sl, wRet, wRetN, wNever, wNext, wDrop, wTup, wLst, outW, placeW, gN, gTu, gCo, gNi, wFor, zSeq, zr_0, zr_1, zr_2, zr_3, zr_4, nc_0, nc_1, nc_2, nc_3, nc_4, zEnum, zZip, zZip3, ixD, tru, wCall, wCallK, wApp, wAppend, wPopAt, wExtend, wChainE, fIn, fBits, fFac, fComb, fRngL1, fRngL2, owW, wSl, fSl, wONone, wOSome, wLc, wYes, List.map, List.replicate, List.length, List.append, List.set, List.take, List.drop, List.getLast?, List.dropLast, List.filterMap, List.getElem?_cons_zero, List.getElem?_cons_succ, List.getElem?_nil, Nat.reduceAdd, Nat.reduceSub, Nat.reduceLT, List.cons_append, List.nil_append, Option.some.injEq, reduceCtorEq, reduceIte, Bool.not_true, Bool.not_false, Bool.false_eq_true, List.isEmpty, tQ]
        rw [cut_lastK acc start.length (by omega) (by simp), ← ev]
        exact hn _ rfl
      rintro s rfl
      refine seq_cut (fun s => s = [.sh g, .sh r, .sh (fQ f), .sh (.int (m : Nat)), .sh (tQ start), .sh p, .sh (.lst [lQ a', lQ b']), .sh (.lst [lQ d', lQ e']), .ow (acc.map fQ), .sh (fQ (f * lst b')), y10, .sh (lQ v), .sh (fQ (tpQ d' e' f v)), .sh (fQ (tpQ a' b' f v)), x14]) (fun nx hn => ?_) ?_
      · have t1 : ∀ Q : RV → Prop, Q (.sh (fQ (tpQ d' e' f v))) → F_told_part [.lst [lQ d', lQ e'], fQ f, lQ v] Q := fun Q h => ⟨d', e', f, v, rfl, by omega, zd, ze, zf, so.hv, so.hd, h⟩
        have t2 : ∀ Q : RV → Prop, Q (.sh (fQ (tpQ a' b' f v))) → F_told_part [.lst [lQ a', lQ b'], fQ f, lQ v] Q := fun Q h => ⟨a', b', f, v, rfl, by omega, za, zb, zf, so.hv, so.ha, h⟩
        rcases h6 with rfl | rfl <;> rcases h7 with rfl | rfl
        all_goals
          simp only [LV.begin, Nat.reduceLeDiff, ne_eq, not_false_eq_true, not_true_eq_false, Int.reduceLE, Int.reduceLT, Nat.zero_le, at_0, at_1, at_2, at_3, at_m1a, at_m1b, at_m1c, at_m1d, at_m2b, at_m2c, decide_true, eq_self, Int.reduceEq, true_and, and_true, false_and, and_false, or_false, false_or, Int.reduceNeg, gIx, decide_false, Bool.and_true, Bool.true_and, Bool.or_true, wSeq, wSet, wAsg, wPar, wIf, wIfS, wTst, LV.wTru, LV.wNot, wAnd, wOr, wAndV, wOrV, wNotV, wOp, wUn, wV, wC, fCI, fAdd, fSub, fMul, fDiv, fMod, fPow, fNeg, fIx, fIs, fIsNot, fEq, fNe, fLt, fLe, fGt, fGe, wCB, wCons, wNil, w1, wApp, wIsi, isiB, bagD, isNonD, fLen, fAbs, fInt, fGcd, fList, fTuple, fRepr, fLz, fLen0, fLrv, fSum, fMax, fMin, fAll, fAny, seqD, rdL, rdW, fzL, fzW, unL, putS, RV.sl, wRet, wRetN, wNever, wNext, wDrop, wTup, wLst, outW, placeW, gN, gTu, gCo, gNi, wFor, zSeq, zr_0, zr_1, zr_2, zr_3, zr_4, nc_0, nc_1, nc_2, nc_3, nc_4, zEnum, zZip, zZip3, ixD, tru, wCall, wCallK, wApp, wAppend, wPopAt, wExtend, wChainE, fIn, fBits, fFac, fComb, fRngL1, fRngL2, owW, wSl, fSl, wONone, wOSome, wLc, wYes, List.map, List.replicate, List.length, List.append, List.set, List.take, List.drop, List.getLast?, List.dropLast, List.filterMap, List.getElem?_cons_zero, List.getElem?_cons_succ, List.getElem?_nil, Nat.reduceAdd, Nat.reduceSub, Nat.reduceLT, List.cons_append, List.nil_append, Option.some.injEq, reduceCtorEq, reduceIte, Bool.not_true, Bool.not_false, Bool.false_eq_true, List.isEmpty]
          refine t1 _ ?_
          simp only [LV.begin, Nat.reduceLeDiff, ne_eq, not_false_eq_true, not_true_eq_false, Int.reduceLE, Int.reduceLT, Nat.zero_le, at_0, at_1, at_2, at_3, at_m1a, at_m1b, at_m1c, at_m1d, at_m2b, at_m2c, decide_true, eq_self, Int.reduceEq, true_and, and_true, false_and, and_false, or_false, false_or, Int.reduceNeg, gIx, decide_false, Bool.and_true, Bool.true_and, Bool.or_true, wSeq, wSet, wAsg, wPar, wIf, wIfS, wTst, LV.wTru, LV.wNot, wAnd, wOr, wAndV, wOrV, wNotV, wOp, wUn, wV, wC, fCI, fAdd, fSub, fMul, fDiv, fMod, fPow, fNeg, fIx, fIs, fIsNot, fEq, fNe, fLt, fLe, fGt, fGe, wCB, wCons, wNil, w1, wApp, wIsi, isiB, bagD, isNonD, fLen, fAbs, fInt, fGcd, fList, fTuple, fRepr, fLz, fLen0, fLrv, fSum, fMax, fMin, fAll, fAny, seqD, rdL, rdW, fzL, fzW, unL, putS, RV.sl, wRet, wRetN, wNever, wNext, wDrop, wTup, wLst, outW, placeW, gN, gTu, gCo, gNi, wFor, zSeq, zr_0, zr_1, zr_2, zr_3, zr_4, nc_0, nc_1, nc_2, nc_3, nc_4, zEnum, zZip, zZip3, ixD, tru, wCall, wCallK, wApp, wAppend, wPopAt, wExtend, wChainE, fIn, fBits, fFac, fComb, fRngL1, fRngL2, owW, wSl, fSl, wONone, wOSome, wLc, wYes, List.map, List.replicate, List.length, List.append, List.set, List.take, List.drop, List.getLast?, List.dropLast, List.filterMap, List.getElem?_cons_zero, List.getElem?_cons_succ, List.getElem?_nil, Nat.reduceAdd, Nat.reduceSub, Nat.reduceLT, List.cons_append, List.nil_append, Option.some.injEq, reduceCtorEq, reduceIte, Bool.not_true, Bool.not_false, Bool.false_eq_true, List.isEmpty]
          refine t2 _ ?_
          simp only [LV.begin, Nat.reduceLeDiff, ne_eq, not_false_eq_true, not_true_eq_false, Int.reduceLE, Int.reduceLT, Nat.zero_le, at_0, at_1, at_2, at_3, at_m1a, at_m1b, at_m1c, at_m1d, at_m2b, at_m2c, decide_true, eq_self, Int.reduceEq, true_and, and_true, false_and, and_false, or_false, false_or, Int.reduceNeg, gIx, decide_false, Bool.and_true, Bool.true_and, Bool.or_true, wSeq, wSet, wAsg, wPar, wIf, wIfS, wTst, LV.wTru, LV.wNot, wAnd, wOr, wAndV, wOrV, wNotV, wOp, wUn, wV, wC, fCI, fAdd, fSub, fMul, fDiv, fMod, fPow, fNeg, fIx, fIs, fIsNot, fEq, fNe, fLt, fLe, fGt, fGe, wCB, wCons, wNil, w1, wApp, wIsi, isiB, bagD, isNonD, fLen, fAbs, fInt, fGcd, fList, fTuple, fRepr, fLz, fLen0, fLrv, fSum, fMax, fMin, fAll, fAny, seqD, rdL, rdW, fzL, fzW, unL, putS, RV.sl, wRet, wRetN, wNever, wNext, wDrop, wTup, wLst, outW, placeW, gN, gTu, gCo, gNi, wFor, zSeq, zr_0, zr_1, zr_2, zr_3, zr_4, nc_0, nc_1, nc_2, nc_3, nc_4, zEnum, zZip, zZip3, ixD, tru, wCall, wCallK, wApp, wAppend, wPopAt, wExtend, wChainE, fIn, fBits, fFac, fComb, fRngL1, fRngL2, owW, wSl, fSl, wONone, wOSome, wLc, wYes, List.map, List.replicate, List.length, List.append, List.set, List.take, List.drop, List.getLast?, List.dropLast, List.filterMap, List.getElem?_cons_zero, List.getElem?_cons_succ, List.getElem?_nil, Nat.reduceAdd, Nat.reduceSub, Nat.reduceLT, List.cons_append, List.nil_append, Option.some.injEq, reduceCtorEq, reduceIte, Bool.not_true, Bool.not_false, Bool.false_eq_true, List.isEmpty]
          exact hn _ rfl
      rintro s rfl
      obtain ⟨n1, l1, hnl, zp, zi, zs⟩ := so.hm
      refine seq_cut (fun s => ∃ x14, s = [.sh g, .sh r, .sh (fQ f), .sh (.int (m : Nat)), .sh (tQ start), .sh p, .sh (.lst [lQ a', lQ b']), .sh (.lst [lQ d', lQ e']), .ow (acc.map fQ), .sh (fQ (f * lst b')), y10, .sh (lQ v), .sh (fQ (mdQ (tpQ a' b' f v) (f * lst b') (tpQ d' e' f v) m)), .sh (fQ (tpQ a' b' f v)), x14]) (fun nx hn => ?_) ?_
      · simp only [LV.begin, Nat.reduceLeDiff, ne_eq, not_false_eq_true, not_true_eq_false, Int.reduceLE, Int.reduceLT, Nat.zero_le, at_0, at_1, at_2, at_3, at_m1a, at_m1b, at_m1c, at_m1d, at_m2b, at_m2c, decide_true, eq_self, Int.reduceEq, true_and, and_true, false_and, and_false, or_false, false_or, Int.reduceNeg, gIx, decide_false, Bool.and_true, Bool.true_and, Bool.or_true, wSeq, wSet, wAsg, wPar, wIf, wIfS, wTst, LV.wTru, LV.wNot, wAnd, wOr, wAndV, wOrV, wNotV, wOp, wUn, wV, wC, fCI, fAdd, fSub, fMul, fDiv, fMod, fPow, fNeg, fIx, fIs, fIsNot, fEq, fNe, fLt, fLe, fGt, fGe, wCB, wCons, wNil, w1, wApp, wIsi, isiB, bagD, isNonD, fLen, fAbs, fInt, fGcd, fList, fTuple, fRepr, fLz, fLen0, fLrv, fSum, fMax, fMin, fAll, fAny, seqD, rdL, rdW, fzL, fzW, unL, putS, RV.sl, wRet, wRetN, wNever, wNext, wDrop, wTup, wLst, outW, placeW, gN, gTu, gCo, gNi, wFor, zSeq, zr_0, zr_1, zr_2, zr_3, zr_4, nc_0, nc_1, nc_2, nc_3, nc_4, zEnum, zZip, zZip3, ixD, tru, wCall, wCallK, wApp, wAppend, wPopAt, wExtend, wChainE, fIn, fBits, fFac, fComb, fRngL1, fRngL2, owW, wSl, fSl, wONone, wOSome, wLc, wYes, List.map, List.replicate, List.length, List.append, List.set, List.take, List.drop, List.getLast?, List.dropLast, List.filterMap, List.getElem?_cons_zero, List.getElem?_cons_succ, List.getElem?_nil, Nat.reduceAdd, Nat.reduceSub, Nat.reduceLT, List.cons_append, List.nil_append, Option.some.injEq, reduceCtorEq, reduceIte, Bool.not_true, Bool.not_false, Bool.false_eq_true, List.isEmpty]
        refine ⟨_, zrng1 m rfl (by omega), ?_⟩
        refine forL (fun (k : Nat) => D.int (0 + (k : Int))) (fun done rest s => done ++ rest = List.range m ∧ ∃ x14, s = [.sh g, .sh r, .sh (fQ f), .sh (.int (m : Nat)), .sh (tQ start), .sh p, .sh (.lst [lQ a', lQ b']), .sh (.lst [lQ d', lQ e']), .ow (acc.map fQ), .sh (fQ (f * lst b')), y10, .sh (lQ v), .sh (fQ (mdQ (tpQ a' b' f v) (f * lst b') (tpQ d' e' f v) done.length)), .sh (fQ (tpQ a' b' f v)), x14]) ?_ ?_ (List.range m) [] _ ⟨rfl, _, rfl⟩
        · rintro done2 k2 rest2 s nx3 ⟨e2, y14, rfl⟩ hn3
          obtain ⟨hk', hk2', _, _⟩ := rng_len e2
          simp only [LV.begin, Nat.reduceLeDiff, ne_eq, not_false_eq_true, not_true_eq_false, Int.reduceLE, Int.reduceLT, Nat.zero_le, at_0, at_1, at_2, at_3, at_m1a, at_m1b, at_m1c, at_m1d, at_m2b, at_m2c, decide_true, eq_self, Int.reduceEq, true_and, and_true, false_and, and_false, or_false, false_or, Int.reduceNeg, gIx, decide_false, Bool.and_true, Bool.true_and, Bool.or_true, wSeq, wSet, wAsg, wPar, wIf, wIfS, wTst, LV.wTru, LV.wNot, wAnd, wOr, wAndV, wOrV, wNotV, wOp, wUn, wV, wC, fCI, fAdd, fSub, fMul, fDiv, fMod, fPow, fNeg, fIx, fIs, fIsNot, fEq, fNe, fLt, fLe, fGt, fGe, wCB, wCons, wNil, w1, wApp, wIsi, isiB, bagD, isNonD, fLen, fAbs, fInt, fGcd, fList, fTuple, fRepr, fLz, fLen0, fLrv, fSum, fMax, fMin, fAll, fAny, seqD, rdL, rdW, fzL, fzW, unL, putS, RV.sl, wRet, wRetN, wNever, wNext, wDrop, wTup, wLst, outW, placeW, gN, gTu, gCo, gNi, wFor, zSeq, zr_0, zr_1, zr_2, zr_3, zr_4, nc_0, nc_1, nc_2, nc_3, nc_4, zEnum, zZip, zZip3, ixD, tru, wCall, wCallK, wApp, wAppend, wPopAt, wExtend, wChainE, fIn, fBits, fFac, fComb, fRngL1, fRngL2, owW, wSl, fSl, wONone, wOSome, wLc, wYes, List.map, List.replicate, List.length, List.append, List.set, List.take, List.drop, List.getLast?, List.dropLast, List.filterMap, List.getElem?_cons_zero, List.getElem?_cons_succ, List.getElem?_nil, Nat.reduceAdd, Nat.reduceSub, Nat.reduceLT, List.cons_append, List.nil_append, Option.some.injEq, reduceCtorEq, reduceIte, Bool.not_true, Bool.not_false, Bool.false_eq_true, List.isEmpty, F_fraction_times, F_fraction_sum]
          refine ⟨f * lst b', mdQ (tpQ a' b' f v) (f * lst b') (tpQ d' e' f v) done2.length, rfl, ⟨260, 6800, (zf.mul (zb _ (lst_mem hb'))).mono (by omega), zi _ (by omega), by omega⟩, ?_⟩
          refine ⟨tpQ a' b' f v, f * lst b' * mdQ (tpQ a' b' f v) (f * lst b') (tpQ d' e' f v) done2.length, rfl, ⟨n1, l1, zp, zs _ (by omega), hnl⟩, ?_⟩
          refine hn3 _ ⟨by simpa using e2, .sh (.int (0 + (k2 : Int))), ?_⟩
          rw [List.length_append, List.length_singleton, mdQ]
        · rintro done2 s ⟨e2, y14, rfl⟩
          rw [List.append_nil] at e2
          subst e2
          rw [List.length_range]
          exact hn _ ⟨_, rfl⟩
      rintro s ⟨y14, rfl⟩
      simp only [LV.begin, Nat.reduceLeDiff, ne_eq, not_false_eq_true, not_true_eq_false, Int.reduceLE, Int.reduceLT, Nat.zero_le, at_0, at_1, at_2, at_3, at_m1a, at_m1b, at_m1c, at_m1d, at_m2b, at_m2c, decide_true, eq_self, Int.reduceEq, true_and, and_true, false_and, and_false, or_false, false_or, Int.reduceNeg, gIx, decide_false, Bool.and_true, Bool.true_and, Bool.or_true, wSeq, wSet, wAsg, wPar, wIf, wIfS, wTst, LV.wTru, LV.wNot, wAnd, wOr, wAndV, wOrV, wNotV, wOp, wUn, wV, wC, fCI, fAdd, fSub, fMul, fDiv, fMod, fPow, fNeg, fIx, fIs, fIsNot, fEq, fNe, fLt, fLe, fGt, fGe, wCB, wCons, wNil, w1, wApp, wIsi, isiB, bagD, isNonD, fLen, fAbs, fInt, fGcd, fList, fTuple, fRepr, fLz, fLen0, fLrv, fSum, fMax, fMin, fAll, fAny, seqD, rdL, rdW, fzL, fzW, unL, putS, RV.sl, wRet, wRetN, wNever, wNext, wDrop, wTup, wLst, outW, placeW, gN, gTu, gCo, gNi, wFor, zSeq, zr_0, zr_1, zr_2, zr_3, zr_4, nc_0, nc_1, nc_2, nc_3, nc_4, zEnum, zZip, zZip3, ixD, tru, wCall, wCallK, wApp, wAppend, wPopAt, wExtend, wChainE, fIn, fBits, fFac, fComb, fRngL1, fRngL2, owW, wSl, fSl, wONone, wOSome, wLc, wYes, List.map, List.replicate, List.length, List.append, List.set, List.take, List.drop, List.getLast?, List.dropLast, List.filterMap, List.getElem?_cons_zero, List.getElem?_cons_succ, List.getElem?_nil, Nat.reduceAdd, Nat.reduceSub, Nat.reduceLT, List.cons_append, List.nil_append, Option.some.injEq, reduceCtorEq, reduceIte, Bool.not_true, Bool.not_false, Bool.false_eq_true, List.isEmpty]
      refine ⟨by rw [List.length_map]; omega, ?_⟩
      refine hn2 _ ⟨by simpa using e0, .sh (.lst [lQ a', lQ b']), .sh (.lst [lQ d', lQ e']), y10, .sh (lQ v), .sh (fQ (mdQ (tpQ a' b' f v) (f * lst b') (tpQ d' e' f v) m)), .sh (fQ (tpQ a' b' f v)), y14, .inr rfl, .inr rfl, ?_⟩
      rw [List.length_append, List.length_singleton, runN, ← eacc, ← ev, List.map_append]; rfl
    · rintro done s ⟨e0, s6, s7, x10, x11, x12, x13, x14, h6, h7, rfl⟩
      rw [List.append_nil] at e0
      subst e0
      rw [List.length_range]
      exact hn _ ⟨_, _, _, _, _, _, _, rfl⟩
  rintro s ⟨s6, s7, x10, x11, x12, x13, x14, rfl⟩
  simp only [LV.begin, Nat.reduceLeDiff, ne_eq, not_false_eq_true, not_true_eq_false, Int.reduceLE, Int.reduceLT, Nat.zero_le, at_0, at_1, at_2, at_3, at_m1a, at_m1b, at_m1c, at_m1d, at_m2b, at_m2c, decide_true, eq_self, Int.reduceEq, true_and, and_true, false_and, and_false, or_false, false_or, Int.reduceNeg, gIx, decide_false, Bool.and_true, Bool.true_and, Bool.or_true, wSeq, wSet, wAsg, wPar, wIf, wIfS, wTst, LV.wTru, LV.wNot, wAnd, wOr, wAndV, wOrV, wNotV, wOp, wUn, wV, wC, fCI, fAdd, fSub, fMul, fDiv, fMod, fPow, fNeg, fIx, fIs, fIsNot, fEq, fNe, fLt, fLe, fGt, fGe, wCB, wCons, wNil, w1, wApp, wIsi, isiB, bagD, isNonD, fLen, fAbs, fInt, fGcd, fList, fTuple, fRepr, fLz, fLen0, fLrv, fSum, fMax, fMin, fAll, fAny, seqD, rdL, rdW, fzL, fzW, unL, putS, RV.sl, wRet, wRetN, wNever, wNext, wDrop, wTup, wLst, outW, placeW, gN, gTu, gCo, gNi, wFor, zSeq, zr_0, zr_1, zr_2, zr_3, zr_4, nc_0, nc_1, nc_2, nc_3, nc_4, zEnum, zZip, zZip3, ixD, tru, wCall, wCallK, wApp, wAppend, wPopAt, wExtend, wChainE, fIn, fBits, fFac, fComb, fRngL1, fRngL2, owW, wSl, fSl, wONone, wOSome, wLc, wYes, List.map, List.replicate, List.length, List.append, List.set, List.take, List.drop, List.getLast?, List.dropLast, List.filterMap, List.getElem?_cons_zero, List.getElem?_cons_succ, List.getElem?_nil, Nat.reduceAdd, Nat.reduceSub, Nat.reduceLT, List.cons_append, List.nil_append, Option.some.injEq, reduceCtorEq, reduceIte, Bool.not_true, Bool.not_false, Bool.false_eq_true, List.isEmpty]
  exact hq
theorem cut_m1 (xs : List D) (x : D) : LV.cutD (xs ++ [x]) none (some (-1)) = xs := by
  unfold LV.cutD
  rw [HT.sIx_none, List.drop_zero, Nat.sub_zero]
  have : HT.sIx (xs ++ [x]).length (xs ++ [x]).length (some (-1)) = xs.length := by
    unfold HT.sIx
    simp
    omega
  rw [this, List.take_left]
theorem sum_sz {s : Nat} : ∀ {l : List Rat}, (∀ x ∈ l, Sz s x) → Sz ((s + 1) * l.length + 1) l.sum
  | [], _ => Sz.zero (by omega)
  | x :: l, h => by
    rw [List.sum_cons]
    exact ((h x (List.mem_cons_self ..)).add (sum_sz fun y hy => h y (List.mem_cons_of_mem _ hy))).mono (by rw [List.length_cons, Nat.mul_succ]; omega)
theorem sumOk_of {s k : Nat} {l : List Rat} (h : ∀ x ∈ l, Sz s x) (hl : l.length ≤ k) (hb : (s + 1) * k + 1 + s < 13399) : SumOk l := by
  refine ⟨(s + 1) * k + 1, s, hb, fun i => ?_, h⟩
  refine (sum_sz fun x hx => h x (List.mem_of_mem_take hx)).mono ?_
  have : (l.take i).length ≤ k := Nat.le_trans (by rw [List.length_take]; omega) hl
  exact Nat.succ_le_succ (Nat.mul_le_mul_left _ this)
theorem fQ_get {l : List Rat} {j : Nat} (h : j < l.length) : l.getD j 0 ∈ l := getD_mem h
theorem p_mended_poly {K : PySem.W.Frag} : ∀ ds Qf, F_mended_poly ds Qf → ds.length = 4 ∧ W_mended_poly K { nx := fun _ => Qf (.sh .non), rt := Qf } (begin 14 ds) := by
  intro ds Qf h
  obtain ⟨d, e, a, b, f, k, m, rfl, ok, hm6, hq⟩ := h
  refine ⟨rfl, ?_⟩
  have k8 := ok.k8
  obtain ⟨a', ea⟩ : ∃ l, l = dvR (lst a) a := ⟨_, rfl⟩
  obtain ⟨b', eb⟩ : ∃ l, l = dvR (lst a) b := ⟨_, rfl⟩
  obtain ⟨d', ed⟩ : ∃ l, l = dvR (lst d) d := ⟨_, rfl⟩
  obtain ⟨e', ee⟩ : ∃ l, l = dvR (lst d) e := ⟨_, rfl⟩
  have za : ∀ x ∈ a', Sz 20 x := by rw [ea]; exact dv_sz ok.sa (ok.sa _ (lst_mem (ne_of_len ok.la))) ok.a0
  have zb : ∀ x ∈ b', Sz 20 x := by rw [eb]; exact dv_sz ok.sb (ok.sa _ (lst_mem (ne_of_len ok.la))) ok.a0
  have zd : ∀ x ∈ d', Sz 20 x := by rw [ed]; exact dv_sz ok.sd (ok.sd _ (lst_mem (ne_of_len ok.ld))) ok.d0
  have ze : ∀ x ∈ e', Sz 20 x := by rw [ee]; exact dv_sz ok.se (ok.sd _ (lst_mem (ne_of_len ok.ld))) ok.d0
  have la : a'.length = k + 1 := by rw [ea]; exact (dv_len _ _).trans ok.la
  have lb : b'.length = k + 1 := by rw [eb]; exact (dv_len _ _).trans ok.lb
  have ld : d'.length = k + 1 := by rw [ed]; exact (dv_len _ _).trans ok.ld
  have le : e'.length = k + 1 := by rw [ee]; exact (dv_len _ _).trans ok.le
  have zf : Sz 10 f := Sm3.sz ok.sf
  have hb' : b' ≠ [] := ne_of_len lb
  unfold pl2 at hq
  rw [← ea, ← eb, ← ed, ← ee] at hq
  obtain ⟨g, eg⟩ : ∃ g : D, g = rlD d e := ⟨_, rfl⟩
  obtain ⟨r, er⟩ : ∃ g : D, g = rlD a b := ⟨_, rfl⟩
  have zx : Sz 30 (f * lst b') := (zf.mul (zb _ (lst_mem hb'))).mono (by omega)
  obtain ⟨x, ex⟩ : ∃ x, x = f * lst b' := ⟨_, rfl⟩
  rw [← ex] at zx
  have zp : ∀ i ≤ 6, Sz 181 (pwQ x i) := fun i hi => (pwQ_sz zx i).mono (by omega)
  obtain ⟨sh, esh⟩ : ∃ x', x' = ((List.range m).map (pwQ x)).sum := ⟨_, rfl⟩
  have zl : ∀ y ∈ (List.range m).map (pwQ x), Sz 181 y := fun y hy => by
    obtain ⟨i, hi, rfl⟩ := List.mem_map.mp hy
    have : i < m := by simpa using hi
    exact zp i (by omega)
  have zs : Sz 1100 sh := by
    rw [esh]
    exact (sum_sz zl).mono (by rw [List.length_map, List.length_range]; omega)
  unfold W_mended_poly
  refine seq_cut (fun s => s = [.sh g, .sh r, .sh (fQ f), .sh (.int (m : Nat)), .sh (lQ a'), .sh (lQ b'), .sh (lQ d'), .sh (lQ e'), .un, .un, .un, .un, .un, .un]) (fun nx hn => ?_) ?_
  · simp only [LV.begin, Nat.reduceLeDiff, ne_eq, not_false_eq_true, not_true_eq_false, Int.reduceLE, Int.reduceLT, Nat.zero_le, at_0, at_1, at_2, at_3, at_m1a, at_m1b, at_m1c, at_m1d, at_m2b, at_m2c, decide_true, eq_self, Int.reduceEq, true_and, and_true, false_and, and_false, or_false, false_or, Int.reduceNeg, gIx, decide_false, Bool.and_true, Bool.true_and, Bool.or_true, wSeq, wSet, wAsg, wPar, wIf, wIfS, wTst, LV.wTru, LV.wNot, wAnd, wOr, wAndV, wOrV, wNotV, wOp, wUn, wV, wC, fCI, fAdd, fSub, fMul, fDiv, fMod, fPow, fNeg, fIx, fIs, fIsNot, fEq, fNe, fLt, fLe, fGt, fGe, wCB, wCons, wNil, w1, wApp, wIsi, isiB, bagD, isNonD, fLen, fAbs, fInt, fGcd, fList, fTuple, fRepr, fLz, fLen0, fLrv, fSum, fMax, fMin, fAll, fAny, seqD, rdL, rdW, fzL, fzW, unL, putS, RV.sl, wRet, wRetN, wNever, wNext, wDrop, wTup, wLst, outW, placeW, gN, gTu, gCo, gNi, wFor, zSeq, zr_0, zr_1, zr_2, zr_3, zr_4, nc_0, nc_1, nc_2, nc_3, nc_4, zEnum, zZip, zZip3, ixD, tru, wCall, wCallK, wApp, wAppend, wPopAt, wExtend, wChainE, fIn, fBits, fFac, fComb, fRngL1, fRngL2, owW, wSl, fSl, wONone, wOSome, wLc, wYes, List.map, List.replicate, List.length, List.append, List.set, List.take, List.drop, List.getLast?, List.dropLast, List.filterMap, List.getElem?_cons_zero, List.getElem?_cons_succ, List.getElem?_nil, Nat.reduceAdd, Nat.reduceSub, Nat.reduceLT, List.cons_append, List.nil_append, Option.some.injEq, reduceCtorEq, reduceIte, Bool.not_true, Bool.not_false, Bool.false_eq_true, List.isEmpty]
    refine ev_of ok ?_
    simp only [LV.begin, Nat.reduceLeDiff, ne_eq, not_false_eq_true, not_true_eq_false, Int.reduceLE, Int.reduceLT, Nat.zero_le, at_0, at_1, at_2, at_3, at_m1a, at_m1b, at_m1c, at_m1d, at_m2b, at_m2c, decide_true, eq_self, Int.reduceEq, true_and, and_true, false_and, and_false, or_false, false_or, Int.reduceNeg, gIx, decide_false, Bool.and_true, Bool.true_and, Bool.or_true, wSeq, wSet, wAsg, wPar, wIf, wIfS, wTst, LV.wTru, LV.wNot, wAnd, wOr, wAndV, wOrV, wNotV, wOp, wUn, wV, wC, fCI, fAdd, fSub, fMul, fDiv, fMod, fPow, fNeg, fIx, fIs, fIsNot, fEq, fNe, fLt, fLe, fGt, fGe, wCB, wCons, wNil, w1, wApp, wIsi, isiB, bagD, isNonD, fLen, fAbs, fInt, fGcd, fList, fTuple, fRepr, fLz, fLen0, fLrv, fSum, fMax, fMin, fAll, fAny, seqD, rdL, rdW, fzL, fzW, unL, putS, RV.sl, wRet, wRetN, wNever, wNext, wDrop, wTup, wLst, outW, placeW, gN, gTu, gCo, gNi, wFor, zSeq, zr_0, zr_1, zr_2, zr_3, zr_4, nc_0, nc_1, nc_2, nc_3, nc_4, zEnum, zZip, zZip3, ixD, tru, wCall, wCallK, wApp, wAppend, wPopAt, wExtend, wChainE, fIn, fBits, fFac, fComb, fRngL1, fRngL2, owW, wSl, fSl, wONone, wOSome, wLc, wYes, List.map, List.replicate, List.length, List.append, List.set, List.take, List.drop, List.getLast?, List.dropLast, List.filterMap, List.getElem?_cons_zero, List.getElem?_cons_succ, List.getElem?_nil, Nat.reduceAdd, Nat.reduceSub, Nat.reduceLT, List.cons_append, List.nil_append, Option.some.injEq, reduceCtorEq, reduceIte, Bool.not_true, Bool.not_false, Bool.false_eq_true, List.isEmpty]
    refine ev_of2 ok ?_
    simp only [LV.begin, Nat.reduceLeDiff, ne_eq, not_false_eq_true, not_true_eq_false, Int.reduceLE, Int.reduceLT, Nat.zero_le, at_0, at_1, at_2, at_3, at_m1a, at_m1b, at_m1c, at_m1d, at_m2b, at_m2c, decide_true, eq_self, Int.reduceEq, true_and, and_true, false_and, and_false, or_false, false_or, Int.reduceNeg, gIx, decide_false, Bool.and_true, Bool.true_and, Bool.or_true, wSeq, wSet, wAsg, wPar, wIf, wIfS, wTst, LV.wTru, LV.wNot, wAnd, wOr, wAndV, wOrV, wNotV, wOp, wUn, wV, wC, fCI, fAdd, fSub, fMul, fDiv, fMod, fPow, fNeg, fIx, fIs, fIsNot, fEq, fNe, fLt, fLe, fGt, fGe, wCB, wCons, wNil, w1, wApp, wIsi, isiB, bagD, isNonD, fLen, fAbs, fInt, fGcd, fList, fTuple, fRepr, fLz, fLen0, fLrv, fSum, fMax, fMin, fAll, fAny, seqD, rdL, rdW, fzL, fzW, unL, putS, RV.sl, wRet, wRetN, wNever, wNext, wDrop, wTup, wLst, outW, placeW, gN, gTu, gCo, gNi, wFor, zSeq, zr_0, zr_1, zr_2, zr_3, zr_4, nc_0, nc_1, nc_2, nc_3, nc_4, zEnum, zZip, zZip3, ixD, tru, wCall, wCallK, wApp, wAppend, wPopAt, wExtend, wChainE, fIn, fBits, fFac, fComb, fRngL1, fRngL2, owW, wSl, fSl, wONone, wOSome, wLc, wYes, List.map, List.replicate, List.length, List.append, List.set, List.take, List.drop, List.getLast?, List.dropLast, List.filterMap, List.getElem?_cons_zero, List.getElem?_cons_succ, List.getElem?_nil, Nat.reduceAdd, Nat.reduceSub, Nat.reduceLT, List.cons_append, List.nil_append, Option.some.injEq, reduceCtorEq, reduceIte, Bool.not_true, Bool.not_false, Bool.false_eq_true, List.isEmpty]
    rw [← ea, ← eb, ← ed, ← ee, ← eg, ← er]
    exact hn _ rfl
  rintro s rfl
  refine seq_cut (fun s => s = [.sh g, .sh r, .sh (fQ f), .sh (.int (m : Nat)), .sh (lQ a'), .sh (lQ b'), .sh (lQ d'), .sh (lQ e'), .ow (((List.range (m + 1)).map (pwQ x)).map fQ), .un, .un, .un, .un, .un]) (fun nx hn => ?_) ?_
  · simp only [LV.begin, Nat.reduceLeDiff, ne_eq, not_false_eq_true, not_true_eq_false, Int.reduceLE, Int.reduceLT, Nat.zero_le, at_0, at_1, at_2, at_3, at_m1a, at_m1b, at_m1c, at_m1d, at_m2b, at_m2c, decide_true, eq_self, Int.reduceEq, true_and, and_true, false_and, and_false, or_false, false_or, Int.reduceNeg, gIx, decide_false, Bool.and_true, Bool.true_and, Bool.or_true, wSeq, wSet, wAsg, wPar, wIf, wIfS, wTst, LV.wTru, LV.wNot, wAnd, wOr, wAndV, wOrV, wNotV, wOp, wUn, wV, wC, fCI, fAdd, fSub, fMul, fDiv, fMod, fPow, fNeg, fIx, fIs, fIsNot, fEq, fNe, fLt, fLe, fGt, fGe, wCB, wCons, wNil, w1, wApp, wIsi, isiB, bagD, isNonD, fLen, fAbs, fInt, fGcd, fList, fTuple, fRepr, fLz, fLen0, fLrv, fSum, fMax, fMin, fAll, fAny, seqD, rdL, rdW, fzL, fzW, unL, putS, RV.sl, wRet, wRetN, wNever, wNext, wDrop, wTup, wLst, outW, placeW, gN, gTu, gCo, gNi, wFor, zSeq, zr_0, zr_1, zr_2, zr_3, zr_4, nc_0, nc_1, nc_2, nc_3, nc_4, zEnum, zZip, zZip3, ixD, tru, wCall, wCallK, wApp, wAppend, wPopAt, wExtend, wChainE, fIn, fBits, fFac, fComb, fRngL1, fRngL2, owW, wSl, fSl, wONone, wOSome, wLc, wYes, List.map, List.replicate, List.length, List.append, List.set, List.take, List.drop, List.getLast?, List.dropLast, List.filterMap, List.getElem?_cons_zero, List.getElem?_cons_succ, List.getElem?_nil, Nat.reduceAdd, Nat.reduceSub, Nat.reduceLT, List.cons_append, List.nil_append, Option.some.injEq, reduceCtorEq, reduceIte, Bool.not_true, Bool.not_false, Bool.false_eq_true, List.isEmpty, lQ, at_lst hb', F_fraction_times, F_powers_of]
    refine ⟨f, lst b', rfl, ⟨10, 20, zf, zb _ (lst_mem hb'), by omega⟩, ?_⟩
    rw [← ex]
    exact ⟨x, m, rfl, by omega, zx.mono (by omega), hn _ rfl⟩
  rintro s rfl
  have epw : ((List.range (m + 1)).map (pwQ x)).map fQ = ((List.range m).map (pwQ x)).map fQ ++ [fQ (pwQ x m)] := by rw [map_range_succ, List.map_append]; rfl
  rw [epw]
  refine seq_cut (fun s => s = [.sh g, .sh r, .sh (fQ f), .sh (.int (m : Nat)), .sh (lQ a'), .sh (lQ b'), .sh (lQ d'), .sh (lQ e'), .ow (((List.range m).map (pwQ x)).map fQ ++ [fQ (pwQ x m)]), .sh (fQ sh), .ow [], .un, .un, .un]) (fun nx hn => ?_) ?_
  · simp only [LV.begin, Nat.reduceLeDiff, ne_eq, not_false_eq_true, not_true_eq_false, Int.reduceLE, Int.reduceLT, Nat.zero_le, at_0, at_1, at_2, at_3, at_m1a, at_m1b, at_m1c, at_m1d, at_m2b, at_m2c, decide_true, eq_self, Int.reduceEq, true_and, and_true, false_and, and_false, or_false, false_or, Int.reduceNeg, gIx, decide_false, Bool.and_true, Bool.true_and, Bool.or_true, wSeq, wSet, wAsg, wPar, wIf, wIfS, wTst, LV.wTru, LV.wNot, wAnd, wOr, wAndV, wOrV, wNotV, wOp, wUn, wV, wC, fCI, fAdd, fSub, fMul, fDiv, fMod, fPow, fNeg, fIx, fIs, fIsNot, fEq, fNe, fLt, fLe, fGt, fGe, wCB, wCons, wNil, w1, wApp, wIsi, isiB, bagD, isNonD, fLen, fAbs, fInt, fGcd, fList, fTuple, fRepr, fLz, fLen0, fLrv, fSum, fMax, fMin, fAll, fAny, seqD, rdL, rdW, fzL, fzW, unL, putS, RV.sl, wRet, wRetN, wNever, wNext, wDrop, wTup, wLst, outW, placeW, gN, gTu, gCo, gNi, wFor, zSeq, zr_0, zr_1, zr_2, zr_3, zr_4, nc_0, nc_1, nc_2, nc_3, nc_4, zEnum, zZip, zZip3, ixD, tru, wCall, wCallK, wApp, wAppend, wPopAt, wExtend, wChainE, fIn, fBits, fFac, fComb, fRngL1, fRngL2, owW, wSl, fSl, wONone, wOSome, wLc, wYes, List.map, List.replicate, List.length, List.append, List.set, List.take, List.drop, List.getLast?, List.dropLast, List.filterMap, List.getElem?_cons_zero, List.getElem?_cons_succ, List.getElem?_nil, Nat.reduceAdd, Nat.reduceSub, Nat.reduceLT, List.cons_append, List.nil_append, Option.some.injEq, reduceCtorEq, reduceIte, Bool.not_true, Bool.not_false, Bool.false_eq_true, List.isEmpty, cut_m1, F_added]
    refine ⟨(List.range m).map (pwQ x), rfl, by rw [List.length_map, List.length_range]; omega, sumOk_of zl (k := 6) (by rw [List.length_map, List.length_range]; omega) (by omega), ?_⟩
    rw [← esh]
    exact hn _ rfl
  rintro s rfl
  obtain ⟨plj, epl⟩ : ∃ p : Nat → Rat, p = fun j => sh * (a'.getD j 0 - f * b'.getD j 0) + pwQ x m * (d'.getD j 0 - f * e'.getD j 0) := ⟨_, rfl⟩
  have hq : Qf (.sh (tQ ((List.range (k + 1)).map plj))) := by
    rw [epl, esh, ex, ← la]; exact hq
  refine seq_cut (fun s => ∃ x1 x2 x3, s = [.sh g, .sh r, .sh (fQ f), .sh (.int (m : Nat)), .sh (lQ a'), .sh (lQ b'), .sh (lQ d'), .sh (lQ e'), .ow (((List.range m).map (pwQ x)).map fQ ++ [fQ (pwQ x m)]), .sh (fQ sh), .ow (((List.range (k + 1)).map plj).map fQ), x1, x2, x3]) (fun nx hn => ?_) ?_
  · simp only [LV.begin, Nat.reduceLeDiff, ne_eq, not_false_eq_true, not_true_eq_false, Int.reduceLE, Int.reduceLT, Nat.zero_le, at_0, at_1, at_2, at_3, at_m1a, at_m1b, at_m1c, at_m1d, at_m2b, at_m2c, decide_true, eq_self, Int.reduceEq, true_and, and_true, false_and, and_false, or_false, false_or, Int.reduceNeg, gIx, decide_false, Bool.and_true, Bool.true_and, Bool.or_true, wSeq, wSet, wAsg, wPar, wIf, wIfS, wTst, LV.wTru, LV.wNot, wAnd, wOr, wAndV, wOrV, wNotV, wOp, wUn, wV, wC, fCI, fAdd, fSub, fMul, fDiv, fMod, fPow, fNeg, fIx, fIs, fIsNot, fEq, fNe, fLt, fLe, fGt, fGe, wCB, wCons, wNil, w1, wApp, wIsi, isiB, bagD, isNonD, fLen, fAbs, fInt, fGcd, fList, fTuple, fRepr, fLz, fLen0, fLrv, fSum, fMax, fMin, fAll, fAny, seqD, rdL, rdW, fzL, fzW, unL, putS, RV.sl, wRet, wRetN, wNever, wNext, wDrop, wTup, wLst, outW, placeW, gN, gTu, gCo, gNi, wFor, zSeq, zr_0, zr_1, zr_2, zr_3, zr_4, nc_0, nc_1, nc_2, nc_3, nc_4, zEnum, zZip, zZip3, ixD, tru, wCall, wCallK, wApp, wAppend, wPopAt, wExtend, wChainE, fIn, fBits, fFac, fComb, fRngL1, fRngL2, owW, wSl, fSl, wONone, wOSome, wLc, wYes, List.map, List.replicate, List.length, List.append, List.set, List.take, List.drop, List.getLast?, List.dropLast, List.filterMap, List.getElem?_cons_zero, List.getElem?_cons_succ, List.getElem?_nil, Nat.reduceAdd, Nat.reduceSub, Nat.reduceLT, List.cons_append, List.nil_append, Option.some.injEq, reduceCtorEq, reduceIte, Bool.not_true, Bool.not_false, Bool.false_eq_true, List.isEmpty, lQ, List.length_map, la]
    refine ⟨_, zrng1 (k + 1) rfl (by omega), ?_⟩
    refine forL (fun (k : Nat) => D.int (0 + (k : Int))) (fun done rest s => done ++ rest = List.range (k + 1) ∧ ∃ x1 x2 x3, s = [.sh g, .sh r, .sh (fQ f), .sh (.int (m : Nat)), .sh (lQ a'), .sh (lQ b'), .sh (lQ d'), .sh (lQ e'), .ow (((List.range m).map (pwQ x)).map fQ ++ [fQ (pwQ x m)]), .sh (fQ sh), .ow ((done.map plj).map fQ), x1, x2, x3]) ?_ ?_ (List.range (k + 1)) [] _ ⟨rfl, _, _, _, rfl⟩
    · rintro done j rest s nx2 ⟨e0, x1, x2, x3, rfl⟩ hn2
      obtain ⟨hj, hj2, _, _⟩ := rng_len e0
      have hjk : j < k + 1 := by omega
      obtain ⟨A, eA⟩ : ∃ y, y = a'.getD j 0 := ⟨_, rfl⟩
      obtain ⟨B, eB⟩ : ∃ y, y = b'.getD j 0 := ⟨_, rfl⟩
      obtain ⟨C, eC⟩ : ∃ y, y = d'.getD j 0 := ⟨_, rfl⟩
      obtain ⟨E, eE⟩ : ∃ y, y = e'.getD j 0 := ⟨_, rfl⟩
      have zA : Sz 20 A := by rw [eA]; exact za _ (fQ_get (by omega))
      have zB : Sz 20 B := by rw [eB]; exact zb _ (fQ_get (by omega))
      have zC : Sz 20 C := by rw [eC]; exact zd _ (fQ_get (by omega))
      have zE : Sz 20 E := by rw [eE]; exact ze _ (fQ_get (by omega))
      obtain ⟨y1, e1⟩ : ∃ y : Sl, y = .sh (.int (0 + (j : Int))) := ⟨_, rfl⟩
      refine seq_cut (fun s => s = [.sh g, .sh r, .sh (fQ f), .sh (.int (m : Nat)), .sh (lQ a'), .sh (lQ b'), .sh (lQ d'), .sh (lQ e'), .ow (((List.range m).map (pwQ x)).map fQ ++ [fQ (pwQ x m)]), .sh (fQ sh), .ow ((done.map plj).map fQ), y1, .sh (fQ (A - f * B)), x3]) (fun nx hn => ?_) ?_
      · simp only [LV.begin, Nat.reduceLeDiff, ne_eq, not_false_eq_true, not_true_eq_false, Int.reduceLE, Int.reduceLT, Nat.zero_le, at_0, at_1, at_2, at_3, at_m1a, at_m1b, at_m1c, at_m1d, at_m2b, at_m2c, decide_true, eq_self, Int.reduceEq, true_and, and_true, false_and, and_false, or_false, false_or, Int.reduceNeg, gIx, decide_false, Bool.and_true, Bool.true_and, Bool.or_true, wSeq, wSet, wAsg, wPar, wIf, wIfS, wTst, LV.wTru, LV.wNot, wAnd, wOr, wAndV, wOrV, wNotV, wOp, wUn, wV, wC, fCI, fAdd, fSub, fMul, fDiv, fMod, fPow, fNeg, fIx, fIs, fIsNot, fEq, fNe, fLt, fLe, fGt, fGe, wCB, wCons, wNil, w1, wApp, wIsi, isiB, bagD, isNonD, fLen, fAbs, fInt, fGcd, fList, fTuple, fRepr, fLz, fLen0, fLrv, fSum, fMax, fMin, fAll, fAny, seqD, rdL, rdW, fzL, fzW, unL, putS, RV.sl, wRet, wRetN, wNever, wNext, wDrop, wTup, wLst, outW, placeW, gN, gTu, gCo, gNi, wFor, zSeq, zr_0, zr_1, zr_2, zr_3, zr_4, nc_0, nc_1, nc_2, nc_3, nc_4, zEnum, zZip, zZip3, ixD, tru, wCall, wCallK, wApp, wAppend, wPopAt, wExtend, wChainE, fIn, fBits, fFac, fComb, fRngL1, fRngL2, owW, wSl, fSl, wONone, wOSome, wLc, wYes, List.map, List.replicate, List.length, List.append, List.set, List.take, List.drop, List.getLast?, List.dropLast, List.filterMap, List.getElem?_cons_zero, List.getElem?_cons_succ, List.getElem?_nil, Nat.reduceAdd, Nat.reduceSub, Nat.reduceLT, List.cons_append, List.nil_append, Option.some.injEq, reduceCtorEq, reduceIte, Bool.not_true, Bool.not_false, Bool.false_eq_true, List.isEmpty, F_fraction_less, F_fraction_times]
        refine ix_Q j (by omega) (by omega) ?_
        refine ix_Q j (by omega) (by omega) ?_
        rw [← eA, ← eB]
        refine ⟨f, B, rfl, ⟨10, 20, zf, zB, by omega⟩, ?_⟩
        refine ⟨A, f * B, rfl, ⟨20, 30, zA, zf.mul zB, by omega⟩, ?_⟩
        rw [← e1]
        exact hn _ rfl
      rintro s rfl
      refine seq_cut (fun s => s = [.sh g, .sh r, .sh (fQ f), .sh (.int (m : Nat)), .sh (lQ a'), .sh (lQ b'), .sh (lQ d'), .sh (lQ e'), .ow (((List.range m).map (pwQ x)).map fQ ++ [fQ (pwQ x m)]), .sh (fQ sh), .ow ((done.map plj).map fQ), y1, .sh (fQ (A - f * B)), .sh (fQ (C - f * E))]) (fun nx hn => ?_) ?_
      · simp only [LV.begin, Nat.reduceLeDiff, ne_eq, not_false_eq_true, not_true_eq_false, Int.reduceLE, Int.reduceLT, Nat.zero_le, at_0, at_1, at_2, at_3, at_m1a, at_m1b, at_m1c, at_m1d, at_m2b, at_m2c, decide_true, eq_self, Int.reduceEq, true_and, and_true, false_and, and_false, or_false, false_or, Int.reduceNeg, gIx, decide_false, Bool.and_true, Bool.true_and, Bool.or_true, wSeq, wSet, wAsg, wPar, wIf, wIfS, wTst, LV.wTru, LV.wNot, wAnd, wOr, wAndV, wOrV, wNotV, wOp, wUn, wV, wC, fCI, fAdd, fSub, fMul, fDiv, fMod, fPow, fNeg, fIx, fIs, fIsNot, fEq, fNe, fLt, fLe, fGt, fGe, wCB, wCons, wNil, w1, wApp, wIsi, isiB, bagD, isNonD, fLen, fAbs, fInt, fGcd, fList, fTuple, fRepr, fLz, fLen0, fLrv, fSum, fMax, fMin, fAll, fAny, seqD, rdL, rdW, fzL, fzW, unL, putS, RV.sl, wRet, wRetN, wNever, wNext, wDrop, wTup, wLst, outW, placeW, gN, gTu, gCo, gNi, wFor, zSeq, zr_0, zr_1, zr_2, zr_3, zr_4, nc_0, nc_1, nc_2, nc_3, nc_4, zEnum, zZip, zZip3, ixD, tru, wCall, wCallK, wApp, wAppend, wPopAt, wExtend, wChainE, fIn, fBits, fFac, fComb, fRngL1, fRngL2, owW, wSl, fSl, wONone, wOSome, wLc, wYes, List.map, List.replicate, List.length, List.append, List.set, List.take, List.drop, List.getLast?, List.dropLast, List.filterMap, List.getElem?_cons_zero, List.getElem?_cons_succ, List.getElem?_nil, Nat.reduceAdd, Nat.reduceSub, Nat.reduceLT, List.cons_append, List.nil_append, Option.some.injEq, reduceCtorEq, reduceIte, Bool.not_true, Bool.not_false, Bool.false_eq_true, List.isEmpty, F_fraction_less, F_fraction_times, e1]
        refine ix_Q j (by omega) (by omega) ?_
        refine ix_Q j (by omega) (by omega) ?_
        rw [← eC, ← eE]
        refine ⟨f, E, rfl, ⟨10, 20, zf, zE, by omega⟩, ?_⟩
        refine ⟨C, f * E, rfl, ⟨20, 30, zC, zf.mul zE, by omega⟩, ?_⟩
        rw [← e1]
        exact hn _ rfl
      rintro s rfl
      have s1 : Sz 51 (A - f * B) := (zA.sub (zf.mul zB)).mono (by omega)
      have s2 : Sz 51 (C - f * E) := (zC.sub (zf.mul zE)).mono (by omega)
      simp only [LV.begin, Nat.reduceLeDiff, ne_eq, not_false_eq_true, not_true_eq_false, Int.reduceLE, Int.reduceLT, Nat.zero_le, at_0, at_1, at_2, at_3, at_m1a, at_m1b, at_m1c, at_m1d, at_m2b, at_m2c, decide_true, eq_self, Int.reduceEq, true_and, and_true, false_and, and_false, or_false, false_or, Int.reduceNeg, gIx, decide_false, Bool.and_true, Bool.true_and, Bool.or_true, wSeq, wSet, wAsg, wPar, wIf, wIfS, wTst, LV.wTru, LV.wNot, wAnd, wOr, wAndV, wOrV, wNotV, wOp, wUn, wV, wC, fCI, fAdd, fSub, fMul, fDiv, fMod, fPow, fNeg, fIx, fIs, fIsNot, fEq, fNe, fLt, fLe, fGt, fGe, wCB, wCons, wNil, w1, wApp, wIsi, isiB, bagD, isNonD, fLen, fAbs, fInt, fGcd, fList, fTuple, fRepr, fLz, fLen0, fLrv, fSum, fMax, fMin, fAll, fAny, seqD, rdL, rdW, fzL, fzW, unL, putS, RV.sl, wRet, wRetN, wNever, wNext, wDrop, wTup, wLst, outW, placeW, gN, gTu, gCo, gNi, wFor, zSeq, zr_0, zr_1, zr_2, zr_3, zr_4, nc_0, nc_1, nc_2, nc_3, nc_4, zEnum, zZip, zZip3, ixD, tru, wCall, wCallK, wApp, wAppend, wPopAt, wExtend, wChainE, fIn, fBits, fFac, fComb, fRngL1, fRngL2, owW, wSl, fSl, wONone, wOSome, wLc, wYes, List.map, List.replicate, List.length, List.append, List.set, List.take, List.drop, List.getLast?, List.dropLast, List.filterMap, List.getElem?_cons_zero, List.getElem?_cons_succ, List.getElem?_nil, Nat.reduceAdd, Nat.reduceSub, Nat.reduceLT, List.cons_append, List.nil_append, Option.some.injEq, reduceCtorEq, reduceIte, Bool.not_true, Bool.not_false, Bool.false_eq_true, List.isEmpty, F_fraction_times, F_fraction_sum, at_m1]
      refine ⟨sh, A - f * B, rfl, ⟨1100, 51, zs, s1, by omega⟩, ?_⟩
      refine ⟨pwQ x m, C - f * E, rfl, ⟨181, 51, zp m hm6, s2, by omega⟩, ?_⟩
      refine ⟨sh * (A - f * B), pwQ x m * (C - f * E), rfl, ⟨1151, 232, (zs.mul s1).mono (by omega), ((zp m hm6).mul s2).mono (by omega), by omega⟩, ?_⟩
      refine ⟨by rw [List.length_map, List.length_map]; omega, hn2 _ ⟨by simpa using e0, y1, .sh (fQ (A - f * B)), .sh (fQ (C - f * E)), ?_⟩⟩
      rw [List.map_append, List.map_append, eA, eB, eC, eE, epl]; rfl
    · rintro done s ⟨e0, x1, x2, x3, rfl⟩
      rw [List.append_nil] at e0
      subst e0
      exact hn _ ⟨_, _, _, rfl⟩
  rintro s ⟨x1, x2, x3, rfl⟩
  simp only [LV.begin, Nat.reduceLeDiff, ne_eq, not_false_eq_true, not_true_eq_false, Int.reduceLE, Int.reduceLT, Nat.zero_le, at_0, at_1, at_2, at_3, at_m1a, at_m1b, at_m1c, at_m1d, at_m2b, at_m2c, decide_true, eq_self, Int.reduceEq, true_and, and_true, false_and, and_false, or_false, false_or, Int.reduceNeg, gIx, decide_false, Bool.and_true, Bool.true_and, Bool.or_true, wSeq, wSet, wAsg, wPar, wIf, wIfS, wTst, LV.wTru, LV.wNot, wAnd, wOr, wAndV, wOrV, wNotV, wOp, wUn, wV, wC, fCI, fAdd, fSub, fMul, fDiv, fMod, fPow, fNeg, fIx, fIs, fIsNot, fEq, fNe, fLt, fLe, fGt, fGe, wCB, wCons, wNil, w1, wApp, wIsi, isiB, bagD, isNonD, fLen, fAbs, fInt, fGcd, fList, fTuple, fRepr, fLz, fLen0, fLrv, fSum, fMax, fMin, fAll, fAny, seqD, rdL, rdW, fzL, fzW, unL, putS, RV.sl, wRet, wRetN, wNever, wNext, wDrop, wTup, wLst, outW, placeW, gN, gTu, gCo, gNi, wFor, zSeq, zr_0, zr_1, zr_2, zr_3, zr_4, nc_0, nc_1, nc_2, nc_3, nc_4, zEnum, zZip, zZip3, ixD, tru, wCall, wCallK, wApp, wAppend, wPopAt, wExtend, wChainE, fIn, fBits, fFac, fComb, fRngL1, fRngL2, owW, wSl, fSl, wONone, wOSome, wLc, wYes, List.map, List.replicate, List.length, List.append, List.set, List.take, List.drop, List.getLast?, List.dropLast, List.filterMap, List.getElem?_cons_zero, List.getElem?_cons_succ, List.getElem?_nil, Nat.reduceAdd, Nat.reduceSub, Nat.reduceLT, List.cons_append, List.nil_append, Option.some.injEq, reduceCtorEq, reduceIte, Bool.not_true, Bool.not_false, Bool.false_eq_true, List.isEmpty]
  exact hq
theorem zip_self {α : Type} (f : α → D) : ∀ l : List α, zipD (l.map f) (l.map f) = l.map fun x => .tup [f x, f x]
  | [] => rfl
  | x :: l => by simp only [List.map_cons, zipD, zip_self f l]
theorem bls_true {α : Type} : ∀ ws : List α, blsOf (ws.map fun _ => D.bl true) = some (ws.map fun _ => true)
  | [] => rfl
  | _ :: ws => by simp only [List.map_cons, blsOf, bls_true ws]; rfl
theorem all_true {α : Type} (ws : List α) : (ws.map fun _ => true).all id = true := by simp
theorem p__law_same {K : PySem.W.Frag} : ∀ (i : Nat) ds Qf, FR__law_same (i + 1) ds Qf → ds.length = 2 ∧ W__law_same K (FR__law_same i) { nx := fun _ => Qf (.sh .non), rt := Qf } (begin 5 ds) := by
  intro i ds Qf h
  match i, h with
  | 0, h =>
    obtain ⟨n, rfl, hq⟩ := h
    refine ⟨rfl, ?_⟩
    simp only [W__law_same, LV.begin, Nat.reduceLeDiff, ne_eq, not_false_eq_true, not_true_eq_false, Int.reduceLE, Int.reduceLT, Nat.zero_le, at_0, at_1, at_2, at_3, at_m1a, at_m1b, at_m1c, at_m1d, at_m2b, at_m2c, decide_true, eq_self, Int.reduceEq, true_and, and_true, false_and, and_false, or_false, false_or, Int.reduceNeg, gIx, decide_false, Bool.and_true, Bool.true_and, Bool.or_true, wSeq, wSet, wAsg, wPar, wIf, wIfS, wTst, LV.wTru, LV.wNot, wAnd, wOr, wAndV, wOrV, wNotV, wOp, wUn, wV, wC, fCI, fAdd, fSub, fMul, fDiv, fMod, fPow, fNeg, fIx, fIs, fIsNot, fEq, fNe, fLt, fLe, fGt, fGe, wCB, wCons, wNil, w1, wApp, wIsi, isiB, bagD, isNonD, fLen, fAbs, fInt, fGcd, fList, fTuple, fRepr, fLz, fLen0, fLrv, fSum, fMax, fMin, fAll, fAny, seqD, rdL, rdW, fzL, fzW, unL, putS, RV.sl, wRet, wRetN, wNever, wNext, wDrop, wTup, wLst, outW, placeW, gN, gTu, gCo, gNi, wFor, zSeq, zr_0, zr_1, zr_2, zr_3, zr_4, nc_0, nc_1, nc_2, nc_3, nc_4, zEnum, zZip, zZip3, ixD, tru, wCall, wCallK, wApp, wAppend, wPopAt, wExtend, wChainE, fIn, fBits, fFac, fComb, fRngL1, fRngL2, owW, wSl, fSl, wONone, wOSome, wLc, wYes, List.map, List.replicate, List.length, List.append, List.set, List.take, List.drop, List.getLast?, List.dropLast, List.filterMap, List.getElem?_cons_zero, List.getElem?_cons_succ, List.getElem?_nil, Nat.reduceAdd, Nat.reduceSub, Nat.reduceLT, List.cons_append, List.nil_append, Option.some.injEq, reduceCtorEq, reduceIte, Bool.not_true, Bool.not_false, Bool.false_eq_true, List.isEmpty]
    exact hq
  | 1, h =>
    obtain ⟨q, rfl, hq⟩ := h
    refine ⟨rfl, ?_⟩
    simp only [W__law_same, fQ, LV.begin, Nat.reduceLeDiff, ne_eq, not_false_eq_true, not_true_eq_false, Int.reduceLE, Int.reduceLT, Nat.zero_le, at_0, at_1, at_2, at_3, at_m1a, at_m1b, at_m1c, at_m1d, at_m2b, at_m2c, decide_true, eq_self, Int.reduceEq, true_and, and_true, false_and, and_false, or_false, false_or, Int.reduceNeg, gIx, decide_false, Bool.and_true, Bool.true_and, Bool.or_true, wSeq, wSet, wAsg, wPar, wIf, wIfS, wTst, LV.wTru, LV.wNot, wAnd, wOr, wAndV, wOrV, wNotV, wOp, wUn, wV, wC, fCI, fAdd, fSub, fMul, fDiv, fMod, fPow, fNeg, fIx, fIs, fIsNot, fEq, fNe, fLt, fLe, fGt, fGe, wCB, wCons, wNil, w1, wApp, wIsi, isiB, bagD, isNonD, fLen, fAbs, fInt, fGcd, fList, fTuple, fRepr, fLz, fLen0, fLrv, fSum, fMax, fMin, fAll, fAny, seqD, rdL, rdW, fzL, fzW, unL, putS, RV.sl, wRet, wRetN, wNever, wNext, wDrop, wTup, wLst, outW, placeW, gN, gTu, gCo, gNi, wFor, zSeq, zr_0, zr_1, zr_2, zr_3, zr_4, nc_0, nc_1, nc_2, nc_3, nc_4, zEnum, zZip, zZip3, ixD, tru, wCall, wCallK, wApp, wAppend, wPopAt, wExtend, wChainE, fIn, fBits, fFac, fComb, fRngL1, fRngL2, owW, wSl, fSl, wONone, wOSome, wLc, wYes, List.map, List.replicate, List.length, List.append, List.set, List.take, List.drop, List.getLast?, List.dropLast, List.filterMap, List.getElem?_cons_zero, List.getElem?_cons_succ, List.getElem?_nil, Nat.reduceAdd, Nat.reduceSub, Nat.reduceLT, List.cons_append, List.nil_append, Option.some.injEq, reduceCtorEq, reduceIte, Bool.not_true, Bool.not_false, Bool.false_eq_true, List.isEmpty]
    refine ⟨_, rfl, ?_⟩
    refine lcMap (fun n : Int => D.tup [.int n, .int n]) (fun _ => D.bl true) [q.num, (q.den : Int)] ?_ (by simp) rfl (fun n hn R hR => ?_) ?_
    · rfl
    · simp only [wipeS, LV.begin, Nat.reduceLeDiff, ne_eq, not_false_eq_true, not_true_eq_false, Int.reduceLE, Int.reduceLT, Nat.zero_le, at_0, at_1, at_2, at_3, at_m1a, at_m1b, at_m1c, at_m1d, at_m2b, at_m2c, decide_true, eq_self, Int.reduceEq, true_and, and_true, false_and, and_false, or_false, false_or, Int.reduceNeg, gIx, decide_false, Bool.and_true, Bool.true_and, Bool.or_true, wSeq, wSet, wAsg, wPar, wIf, wIfS, wTst, LV.wTru, LV.wNot, wAnd, wOr, wAndV, wOrV, wNotV, wOp, wUn, wV, wC, fCI, fAdd, fSub, fMul, fDiv, fMod, fPow, fNeg, fIx, fIs, fIsNot, fEq, fNe, fLt, fLe, fGt, fGe, wCB, wCons, wNil, w1, wApp, wIsi, isiB, bagD, isNonD, fLen, fAbs, fInt, fGcd, fList, fTuple, fRepr, fLz, fLen0, fLrv, fSum, fMax, fMin, fAll, fAny, seqD, rdL, rdW, fzL, fzW, unL, putS, RV.sl, wRet, wRetN, wNever, wNext, wDrop, wTup, wLst, outW, placeW, gN, gTu, gCo, gNi, wFor, zSeq, zr_0, zr_1, zr_2, zr_3, zr_4, nc_0, nc_1, nc_2, nc_3, nc_4, zEnum, zZip, zZip3, ixD, tru, wCall, wCallK, wApp, wAppend, wPopAt, wExtend, wChainE, fIn, fBits, fFac, fComb, fRngL1, fRngL2, owW, wSl, fSl, wONone, wOSome, wLc, wYes, List.map, List.replicate, List.length, List.append, List.set, List.take, List.drop, List.getLast?, List.dropLast, List.filterMap, List.getElem?_cons_zero, List.getElem?_cons_succ, List.getElem?_nil, Nat.reduceAdd, Nat.reduceSub, Nat.reduceLT, List.cons_append, List.nil_append, Option.some.injEq, reduceCtorEq, reduceIte, Bool.not_true, Bool.not_false, Bool.false_eq_true, List.isEmpty, FR__law_same]
      exact ⟨n, rfl, hR _ rfl⟩
    · simp only [LV.begin, Nat.reduceLeDiff, ne_eq, not_false_eq_true, not_true_eq_false, Int.reduceLE, Int.reduceLT, Nat.zero_le, at_0, at_1, at_2, at_3, at_m1a, at_m1b, at_m1c, at_m1d, at_m2b, at_m2c, decide_true, eq_self, Int.reduceEq, true_and, and_true, false_and, and_false, or_false, false_or, Int.reduceNeg, gIx, decide_false, Bool.and_true, Bool.true_and, Bool.or_true, wSeq, wSet, wAsg, wPar, wIf, wIfS, wTst, LV.wTru, LV.wNot, wAnd, wOr, wAndV, wOrV, wNotV, wOp, wUn, wV, wC, fCI, fAdd, fSub, fMul, fDiv, fMod, fPow, fNeg, fIx, fIs, fIsNot, fEq, fNe, fLt, fLe, fGt, fGe, wCB, wCons, wNil, w1, wApp, wIsi, isiB, bagD, isNonD, fLen, fAbs, fInt, fGcd, fList, fTuple, fRepr, fLz, fLen0, fLrv, fSum, fMax, fMin, fAll, fAny, seqD, rdL, rdW, fzL, fzW, unL, putS, RV.sl, wRet, wRetN, wNever, wNext, wDrop, wTup, wLst, outW, placeW, gN, gTu, gCo, gNi, wFor, zSeq, zr_0, zr_1, zr_2, zr_3, zr_4, nc_0, nc_1, nc_2, nc_3, nc_4, zEnum, zZip, zZip3, ixD, tru, wCall, wCallK, wApp, wAppend, wPopAt, wExtend, wChainE, fIn, fBits, fFac, fComb, fRngL1, fRngL2, owW, wSl, fSl, wONone, wOSome, wLc, wYes, List.map, List.replicate, List.length, List.append, List.set, List.take, List.drop, List.getLast?, List.dropLast, List.filterMap, List.getElem?_cons_zero, List.getElem?_cons_succ, List.getElem?_nil, Nat.reduceAdd, Nat.reduceSub, Nat.reduceLT, List.cons_append, List.nil_append, Option.some.injEq, reduceCtorEq, reduceIte, Bool.not_true, Bool.not_false, Bool.false_eq_true, List.isEmpty]
      exact hq
  | 2, h =>
    obtain ⟨l, rfl, hl, hq⟩ := h
    refine ⟨rfl, ?_⟩
    simp only [W__law_same, tQ, LV.begin, Nat.reduceLeDiff, ne_eq, not_false_eq_true, not_true_eq_false, Int.reduceLE, Int.reduceLT, Nat.zero_le, at_0, at_1, at_2, at_3, at_m1a, at_m1b, at_m1c, at_m1d, at_m2b, at_m2c, decide_true, eq_self, Int.reduceEq, true_and, and_true, false_and, and_false, or_false, false_or, Int.reduceNeg, gIx, decide_false, Bool.and_true, Bool.true_and, Bool.or_true, wSeq, wSet, wAsg, wPar, wIf, wIfS, wTst, LV.wTru, LV.wNot, wAnd, wOr, wAndV, wOrV, wNotV, wOp, wUn, wV, wC, fCI, fAdd, fSub, fMul, fDiv, fMod, fPow, fNeg, fIx, fIs, fIsNot, fEq, fNe, fLt, fLe, fGt, fGe, wCB, wCons, wNil, w1, wApp, wIsi, isiB, bagD, isNonD, fLen, fAbs, fInt, fGcd, fList, fTuple, fRepr, fLz, fLen0, fLrv, fSum, fMax, fMin, fAll, fAny, seqD, rdL, rdW, fzL, fzW, unL, putS, RV.sl, wRet, wRetN, wNever, wNext, wDrop, wTup, wLst, outW, placeW, gN, gTu, gCo, gNi, wFor, zSeq, zr_0, zr_1, zr_2, zr_3, zr_4, nc_0, nc_1, nc_2, nc_3, nc_4, zEnum, zZip, zZip3, ixD, tru, wCall, wCallK, wApp, wAppend, wPopAt, wExtend, wChainE, fIn, fBits, fFac, fComb, fRngL1, fRngL2, owW, wSl, fSl, wONone, wOSome, wLc, wYes, List.map, List.replicate, List.length, List.append, List.set, List.take, List.drop, List.getLast?, List.dropLast, List.filterMap, List.getElem?_cons_zero, List.getElem?_cons_succ, List.getElem?_nil, Nat.reduceAdd, Nat.reduceSub, Nat.reduceLT, List.cons_append, List.nil_append, Option.some.injEq, reduceCtorEq, reduceIte, Bool.not_true, Bool.not_false, Bool.false_eq_true, List.isEmpty, zip_self]
    refine ⟨_, rfl, ?_⟩
    refine lcMap (fun q : Rat => D.tup [fQ q, fQ q]) (fun _ => D.bl true) l ?_ (by omega) rfl (fun q hq R hR => ?_) ?_
    · rfl
    · simp only [wipeS, LV.begin, Nat.reduceLeDiff, ne_eq, not_false_eq_true, not_true_eq_false, Int.reduceLE, Int.reduceLT, Nat.zero_le, at_0, at_1, at_2, at_3, at_m1a, at_m1b, at_m1c, at_m1d, at_m2b, at_m2c, decide_true, eq_self, Int.reduceEq, true_and, and_true, false_and, and_false, or_false, false_or, Int.reduceNeg, gIx, decide_false, Bool.and_true, Bool.true_and, Bool.or_true, wSeq, wSet, wAsg, wPar, wIf, wIfS, wTst, LV.wTru, LV.wNot, wAnd, wOr, wAndV, wOrV, wNotV, wOp, wUn, wV, wC, fCI, fAdd, fSub, fMul, fDiv, fMod, fPow, fNeg, fIx, fIs, fIsNot, fEq, fNe, fLt, fLe, fGt, fGe, wCB, wCons, wNil, w1, wApp, wIsi, isiB, bagD, isNonD, fLen, fAbs, fInt, fGcd, fList, fTuple, fRepr, fLz, fLen0, fLrv, fSum, fMax, fMin, fAll, fAny, seqD, rdL, rdW, fzL, fzW, unL, putS, RV.sl, wRet, wRetN, wNever, wNext, wDrop, wTup, wLst, outW, placeW, gN, gTu, gCo, gNi, wFor, zSeq, zr_0, zr_1, zr_2, zr_3, zr_4, nc_0, nc_1, nc_2, nc_3, nc_4, zEnum, zZip, zZip3, ixD, tru, wCall, wCallK, wApp, wAppend, wPopAt, wExtend, wChainE, fIn, fBits, fFac, fComb, fRngL1, fRngL2, owW, wSl, fSl, wONone, wOSome, wLc, wYes, List.map, List.replicate, List.length, List.append, List.set, List.take, List.drop, List.getLast?, List.dropLast, List.filterMap, List.getElem?_cons_zero, List.getElem?_cons_succ, List.getElem?_nil, Nat.reduceAdd, Nat.reduceSub, Nat.reduceLT, List.cons_append, List.nil_append, Option.some.injEq, reduceCtorEq, reduceIte, Bool.not_true, Bool.not_false, Bool.false_eq_true, List.isEmpty, FR__law_same]
      exact ⟨q, rfl, hR _ rfl⟩
    · simp only [LV.begin, Nat.reduceLeDiff, ne_eq, not_false_eq_true, not_true_eq_false, Int.reduceLE, Int.reduceLT, Nat.zero_le, at_0, at_1, at_2, at_3, at_m1a, at_m1b, at_m1c, at_m1d, at_m2b, at_m2c, decide_true, eq_self, Int.reduceEq, true_and, and_true, false_and, and_false, or_false, false_or, Int.reduceNeg, gIx, decide_false, Bool.and_true, Bool.true_and, Bool.or_true, wSeq, wSet, wAsg, wPar, wIf, wIfS, wTst, LV.wTru, LV.wNot, wAnd, wOr, wAndV, wOrV, wNotV, wOp, wUn, wV, wC, fCI, fAdd, fSub, fMul, fDiv, fMod, fPow, fNeg, fIx, fIs, fIsNot, fEq, fNe, fLt, fLe, fGt, fGe, wCB, wCons, wNil, w1, wApp, wIsi, isiB, bagD, isNonD, fLen, fAbs, fInt, fGcd, fList, fTuple, fRepr, fLz, fLen0, fLrv, fSum, fMax, fMin, fAll, fAny, seqD, rdL, rdW, fzL, fzW, unL, putS, RV.sl, wRet, wRetN, wNever, wNext, wDrop, wTup, wLst, outW, placeW, gN, gTu, gCo, gNi, wFor, zSeq, zr_0, zr_1, zr_2, zr_3, zr_4, nc_0, nc_1, nc_2, nc_3, nc_4, zEnum, zZip, zZip3, ixD, tru, wCall, wCallK, wApp, wAppend, wPopAt, wExtend, wChainE, fIn, fBits, fFac, fComb, fRngL1, fRngL2, owW, wSl, fSl, wONone, wOSome, wLc, wYes, List.map, List.replicate, List.length, List.append, List.set, List.take, List.drop, List.getLast?, List.dropLast, List.filterMap, List.getElem?_cons_zero, List.getElem?_cons_succ, List.getElem?_nil, Nat.reduceAdd, Nat.reduceSub, Nat.reduceLT, List.cons_append, List.nil_append, Option.some.injEq, reduceCtorEq, reduceIte, Bool.not_true, Bool.not_false, Bool.false_eq_true, List.isEmpty, bls_true, all_true]
      exact hq
  | n + 3, h => exact h.elim
theorem sm_i {a : Int} (h : a.natAbs < 2 ^ 12) : sm 13400 a := Nat.lt_of_lt_of_le h (Nat.pow_le_pow_right (by decide) (by decide))
theorem num_le {a b : Int} (hb : b ≠ 0) : ((a : Rat) / (b : Rat)).num.natAbs ≤ a.natAbs := (LV.rat_low (LV.quo hb)).le1 hb
theorem den_le {a b : Int} (hb : b ≠ 0) : ((a : Rat) / (b : Rat)).den ≤ b.natAbs := by
  have := (LV.rat_low (LV.quo (a := a) hb)).le2 hb
  simpa using this
theorem p__law_some_fraction {K : PySem.W.Frag} : ∀ ds Qf, F__law_some_fraction ds Qf → ds.length = 2 ∧ W__law_some_fraction K { nx := fun _ => Qf (.sh .non), rt := Qf } (begin 4 ds) := by
  intro ds Qf h
  obtain ⟨m, rfl, h1, h2, hq⟩ := h
  refine ⟨rfl, ?_⟩
  simp only [W__law_some_fraction, LV.begin, Nat.reduceLeDiff, ne_eq, not_false_eq_true, not_true_eq_false, Int.reduceLE, Int.reduceLT, Nat.zero_le, at_0, at_1, at_2, at_3, at_m1a, at_m1b, at_m1c, at_m1d, at_m2b, at_m2c, decide_true, eq_self, Int.reduceEq, true_and, and_true, false_and, and_false, or_false, false_or, Int.reduceNeg, gIx, decide_false, Bool.and_true, Bool.true_and, Bool.or_true, wSeq, wSet, wAsg, wPar, wIf, wIfS, wTst, LV.wTru, LV.wNot, wAnd, wOr, wAndV, wOrV, wNotV, wOp, wUn, wV, wC, fCI, fAdd, fSub, fMul, fDiv, fMod, fPow, fNeg, fIx, fIs, fIsNot, fEq, fNe, fLt, fLe, fGt, fGe, wCB, wCons, wNil, w1, wApp, wIsi, isiB, bagD, isNonD, fLen, fAbs, fInt, fGcd, fList, fTuple, fRepr, fLz, fLen0, fLrv, fSum, fMax, fMin, fAll, fAny, seqD, rdL, rdW, fzL, fzW, unL, putS, RV.sl, wRet, wRetN, wNever, wNext, wDrop, wTup, wLst, outW, placeW, gN, gTu, gCo, gNi, wFor, zSeq, zr_0, zr_1, zr_2, zr_3, zr_4, nc_0, nc_1, nc_2, nc_3, nc_4, zEnum, zZip, zZip3, ixD, tru, wCall, wCallK, wApp, wAppend, wPopAt, wExtend, wChainE, fIn, fBits, fFac, fComb, fRngL1, fRngL2, owW, wSl, fSl, wONone, wOSome, wLc, wYes, List.map, List.replicate, List.length, List.append, List.set, List.take, List.drop, List.getLast?, List.dropLast, List.filterMap, List.getElem?_cons_zero, List.getElem?_cons_succ, List.getElem?_nil, Nat.reduceAdd, Nat.reduceSub, Nat.reduceLT, List.cons_append, List.nil_append, Option.some.injEq, reduceCtorEq, reduceIte, Bool.not_true, Bool.not_false, Bool.false_eq_true, List.isEmpty, FDraw, F__law_frac, F_fraction_of]
  refine ⟨(show sm 12 (2 : Int) from by show (2 : Int).natAbs < 4096; decide).mulW (show sm 12 (m : Int) from by show (m : Int).natAbs < 4096; omega) (by omega), _, rfl, by omega, log_small (by omega) (by omega), fun r h5 h6 => ⟨_, rfl, by omega, log_small (by omega) (by omega), fun r2 h7 h8 => ⟨by omega, sm_i (by omega), sm_i (by omega), ?_⟩⟩⟩
  refine hq _ ?_ ?_
  · exact Nat.le_trans (num_le (by omega)) (by omega)
  · exact Nat.le_trans (den_le (by omega)) (by omega)
theorem lst_concat (l : List Rat) (x : Rat) : lst (l ++ [x]) = x := by simp [lst]
theorem ixN_last (n : Nat) : ixN (n + 1) (-1) = some n := by
  unfold ixN
  simp
  omega
theorem set_last {l : List Rat} {k : Nat} (h : l.length = k + 1) (q : Rat) : (l.map fQ).set k (fQ q) = (l.dropLast ++ [q]).map fQ := by
  have e := lst_split (ne_of_len h)
  have hd : l.dropLast.length = k := by rw [List.length_dropLast, h]; rfl
  conv => lhs; rw [e]
  rw [← List.map_set, ← hd, List.set_append_right _ _ (Nat.le_refl _)]
  simp
theorem dl_len {l : List Rat} {k : Nat} (h : l.length = k + 1) (q : Rat) : (l.dropLast ++ [q]).length = k + 1 := by simp [h]
theorem dl_mem {l : List Rat} {q : Rat} {P : Rat → Prop} (h : ∀ x ∈ l, P x) (hq : P q) : ∀ x ∈ l.dropLast ++ [q], P x := fun x hx => by
  rcases List.mem_append.mp hx with hx | hx
  · exact h x ((List.dropLast_subset l) hx)
  · rw [List.mem_singleton.mp hx]; exact hq
theorem p__law_some_row {K : PySem.W.Frag} : ∀ ds Qf, F__law_some_row ds Qf → ds.length = 3 ∧ W__law_some_row K { nx := fun _ => Qf (.sh .non), rt := Qf } (begin 6 ds) := by
  intro ds Qf h
  obtain ⟨k, kind, rfl, k1, k8, kk, hq⟩ := h
  refine ⟨rfl, ?_⟩
  unfold W__law_some_row
  by_cases h0 : kind = 0
  · subst h0
    simp only [LV.begin, Nat.reduceLeDiff, ne_eq, not_false_eq_true, not_true_eq_false, Int.reduceLE, Int.reduceLT, Nat.zero_le, at_0, at_1, at_2, at_3, at_m1a, at_m1b, at_m1c, at_m1d, at_m2b, at_m2c, decide_true, eq_self, Int.reduceEq, true_and, and_true, false_and, and_false, or_false, false_or, Int.reduceNeg, gIx, decide_false, Bool.and_true, Bool.true_and, Bool.or_true, wSeq, wSet, wAsg, wPar, wIf, wIfS, wTst, LV.wTru, LV.wNot, wAnd, wOr, wAndV, wOrV, wNotV, wOp, wUn, wV, wC, fCI, fAdd, fSub, fMul, fDiv, fMod, fPow, fNeg, fIx, fIs, fIsNot, fEq, fNe, fLt, fLe, fGt, fGe, wCB, wCons, wNil, w1, wApp, wIsi, isiB, bagD, isNonD, fLen, fAbs, fInt, fGcd, fList, fTuple, fRepr, fLz, fLen0, fLrv, fSum, fMax, fMin, fAll, fAny, seqD, rdL, rdW, fzL, fzW, unL, putS, RV.sl, wRet, wRetN, wNever, wNext, wDrop, wTup, wLst, outW, placeW, gN, gTu, gCo, gNi, wFor, zSeq, zr_0, zr_1, zr_2, zr_3, zr_4, nc_0, nc_1, nc_2, nc_3, nc_4, zEnum, zZip, zZip3, ixD, tru, wCall, wCallK, wApp, wAppend, wPopAt, wExtend, wChainE, fIn, fBits, fFac, fComb, fRngL1, fRngL2, owW, wSl, fSl, wONone, wOSome, wLc, wYes, List.map, List.replicate, List.length, List.append, List.set, List.take, List.drop, List.getLast?, List.dropLast, List.filterMap, List.getElem?_cons_zero, List.getElem?_cons_succ, List.getElem?_nil, Nat.reduceAdd, Nat.reduceSub, Nat.reduceLT, List.cons_append, List.nil_append, Option.some.injEq, reduceCtorEq, reduceIte, Bool.not_true, Bool.not_false, Bool.false_eq_true, List.isEmpty]
    refine ⟨_, zrng1 k rfl (by omega), ?_⟩
    refine lcL (fun (k : Nat) => D.int (0 + (k : Int))) (fun done rest acc s => done ++ rest = List.range k ∧ ∃ l : List Rat, acc = l.map fQ ∧ l.length = done.length ∧ (∀ x ∈ l, Sm3 x) ∧ s = [.sh (.bag 1), .sh (.int (k : Nat)), .sh (.int 0), .un, .un, .un]) ?_ ?_ (List.range k) [] [] _ ⟨rfl, [], rfl, rfl, (fun _ h => nomatch h), rfl⟩
    · rintro done j rest acc s nx ⟨e, l, rfl, hl, hz, rfl⟩ hn
      obtain ⟨hj, hj2, _, _⟩ := rng_len e
      refine ⟨?_, by rw [List.length_map]; omega, rfl, ?_⟩
      · rfl
      · simp only [wipeS, LV.begin, Nat.reduceLeDiff, ne_eq, not_false_eq_true, not_true_eq_false, Int.reduceLE, Int.reduceLT, Nat.zero_le, at_0, at_1, at_2, at_3, at_m1a, at_m1b, at_m1c, at_m1d, at_m2b, at_m2c, decide_true, eq_self, Int.reduceEq, true_and, and_true, false_and, and_false, or_false, false_or, Int.reduceNeg, gIx, decide_false, Bool.and_true, Bool.true_and, Bool.or_true, wSeq, wSet, wAsg, wPar, wIf, wIfS, wTst, LV.wTru, LV.wNot, wAnd, wOr, wAndV, wOrV, wNotV, wOp, wUn, wV, wC, fCI, fAdd, fSub, fMul, fDiv, fMod, fPow, fNeg, fIx, fIs, fIsNot, fEq, fNe, fLt, fLe, fGt, fGe, wCB, wCons, wNil, w1, wApp, wIsi, isiB, bagD, isNonD, fLen, fAbs, fInt, fGcd, fList, fTuple, fRepr, fLz, fLen0, fLrv, fSum, fMax, fMin, fAll, fAny, seqD, rdL, rdW, fzL, fzW, unL, putS, RV.sl, wRet, wRetN, wNever, wNext, wDrop, wTup, wLst, outW, placeW, gN, gTu, gCo, gNi, wFor, zSeq, zr_0, zr_1, zr_2, zr_3, zr_4, nc_0, nc_1, nc_2, nc_3, nc_4, zEnum, zZip, zZip3, ixD, tru, wCall, wCallK, wApp, wAppend, wPopAt, wExtend, wChainE, fIn, fBits, fFac, fComb, fRngL1, fRngL2, owW, wSl, fSl, wONone, wOSome, wLc, wYes, List.map, List.replicate, List.length, List.append, List.set, List.take, List.drop, List.getLast?, List.dropLast, List.filterMap, List.getElem?_cons_zero, List.getElem?_cons_succ, List.getElem?_nil, Nat.reduceAdd, Nat.reduceSub, Nat.reduceLT, List.cons_append, List.nil_append, Option.some.injEq, reduceCtorEq, reduceIte, Bool.not_true, Bool.not_false, Bool.false_eq_true, List.isEmpty, FDraw]
        refine ⟨5, rfl, by omega, log_small (by omega) (by omega), fun r h5 h6 => ?_⟩
        have e1 : D.tup [.int (r - 2), .int 1] = fQ ((r - 2 : Int) : Rat) := rfl
        rw [e1]
        refine hn _ [.sh (.bag 1), .sh (.int (k : Nat)), .sh (.int 0), .un, .un, .un] ⟨by simpa using e, l ++ [((r - 2 : Int) : Rat)], by rw [List.map_append]; rfl, by simp [hl], fun x hx => ?_, rfl⟩
        rcases List.mem_append.mp hx with h | h
        · exact hz x h
        · rw [List.mem_singleton.mp h]
          exact ⟨by show (r - 2).natAbs ≤ 1000; omega, by show 1 ≤ 1000; omega⟩
    · rintro done acc s ⟨e, l, rfl, hl, hz, rfl⟩
      rw [List.append_nil] at e
      subst e
      rw [List.length_range] at hl
      refine ⟨rfl, ?_⟩
      simp only [LV.begin, Nat.reduceLeDiff, ne_eq, not_false_eq_true, not_true_eq_false, Int.reduceLE, Int.reduceLT, Nat.zero_le, at_0, at_1, at_2, at_3, at_m1a, at_m1b, at_m1c, at_m1d, at_m2b, at_m2c, decide_true, eq_self, Int.reduceEq, true_and, and_true, false_and, and_false, or_false, false_or, Int.reduceNeg, gIx, decide_false, Bool.and_true, Bool.true_and, Bool.or_true, wSeq, wSet, wAsg, wPar, wIf, wIfS, wTst, LV.wTru, LV.wNot, wAnd, wOr, wAndV, wOrV, wNotV, wOp, wUn, wV, wC, fCI, fAdd, fSub, fMul, fDiv, fMod, fPow, fNeg, fIx, fIs, fIsNot, fEq, fNe, fLt, fLe, fGt, fGe, wCB, wCons, wNil, w1, wApp, wIsi, isiB, bagD, isNonD, fLen, fAbs, fInt, fGcd, fList, fTuple, fRepr, fLz, fLen0, fLrv, fSum, fMax, fMin, fAll, fAny, seqD, rdL, rdW, fzL, fzW, unL, putS, RV.sl, wRet, wRetN, wNever, wNext, wDrop, wTup, wLst, outW, placeW, gN, gTu, gCo, gNi, wFor, zSeq, zr_0, zr_1, zr_2, zr_3, zr_4, nc_0, nc_1, nc_2, nc_3, nc_4, zEnum, zZip, zZip3, ixD, tru, wCall, wCallK, wApp, wAppend, wPopAt, wExtend, wChainE, fIn, fBits, fFac, fComb, fRngL1, fRngL2, owW, wSl, fSl, wONone, wOSome, wLc, wYes, List.map, List.replicate, List.length, List.append, List.set, List.take, List.drop, List.getLast?, List.dropLast, List.filterMap, List.getElem?_cons_zero, List.getElem?_cons_succ, List.getElem?_nil, Nat.reduceAdd, Nat.reduceSub, Nat.reduceLT, List.cons_append, List.nil_append, Option.some.injEq, reduceCtorEq, reduceIte, Bool.not_true, Bool.not_false, Bool.false_eq_true, List.isEmpty]
      refine ⟨[.int 1, .int (-1), .int 1, .int 2, .int (-2)], rfl, List.cons_ne_nil _ _, by simp, fun d hd => ?_⟩
      have hd : ∃ c : Int, d = .int c ∧ c ≠ 0 ∧ c.natAbs ≤ 2 := by
        simp only [List.mem_cons, List.not_mem_nil, or_false] at hd
        rcases hd with rfl | rfl | rfl | rfl | rfl
        · exact ⟨1, rfl, by omega, by omega⟩
        · exact ⟨-1, rfl, by omega, by omega⟩
        · exact ⟨1, rfl, by omega, by omega⟩
        · exact ⟨2, rfl, by omega, by omega⟩
        · exact ⟨-2, rfl, by omega, by omega⟩
      obtain ⟨c, rfl, c0, c2⟩ := hd
      simp only [LV.begin, Nat.reduceLeDiff, ne_eq, not_false_eq_true, not_true_eq_false, Int.reduceLE, Int.reduceLT, Nat.zero_le, at_0, at_1, at_2, at_3, at_m1a, at_m1b, at_m1c, at_m1d, at_m2b, at_m2c, decide_true, eq_self, Int.reduceEq, true_and, and_true, false_and, and_false, or_false, false_or, Int.reduceNeg, gIx, decide_false, Bool.and_true, Bool.true_and, Bool.or_true, wSeq, wSet, wAsg, wPar, wIf, wIfS, wTst, LV.wTru, LV.wNot, wAnd, wOr, wAndV, wOrV, wNotV, wOp, wUn, wV, wC, fCI, fAdd, fSub, fMul, fDiv, fMod, fPow, fNeg, fIx, fIs, fIsNot, fEq, fNe, fLt, fLe, fGt, fGe, wCB, wCons, wNil, w1, wApp, wIsi, isiB, bagD, isNonD, fLen, fAbs, fInt, fGcd, fList, fTuple, fRepr, fLz, fLen0, fLrv, fSum, fMax, fMin, fAll, fAny, seqD, rdL, rdW, fzL, fzW, unL, putS, RV.sl, wRet, wRetN, wNever, wNext, wDrop, wTup, wLst, outW, placeW, gN, gTu, gCo, gNi, wFor, zSeq, zr_0, zr_1, zr_2, zr_3, zr_4, nc_0, nc_1, nc_2, nc_3, nc_4, zEnum, zZip, zZip3, ixD, tru, wCall, wCallK, wApp, wAppend, wPopAt, wExtend, wChainE, fIn, fBits, fFac, fComb, fRngL1, fRngL2, owW, wSl, fSl, wONone, wOSome, wLc, wYes, List.map, List.replicate, List.length, List.append, List.set, List.take, List.drop, List.getLast?, List.dropLast, List.filterMap, List.getElem?_cons_zero, List.getElem?_cons_succ, List.getElem?_nil, Nat.reduceAdd, Nat.reduceSub, Nat.reduceLT, List.cons_append, List.nil_append, Option.some.injEq, reduceCtorEq, reduceIte, Bool.not_true, Bool.not_false, Bool.false_eq_true, List.isEmpty]
      have e1 : l.map fQ ++ [D.tup [.int c, .int 1]] = (l ++ [(c : Rat)]).map fQ := by rw [List.map_append]; rfl
      rw [e1]
      refine ⟨by rw [sizeLine_eq, List.length_map]; omega, hq _ (by simp [hl]) (fun x hx => ?_) ?_⟩
      · rcases List.mem_append.mp hx with h | h
        · exact hz x h
        · rw [List.mem_singleton.mp h]
          exact ⟨by show c.natAbs ≤ 1000; omega, by show 1 ≤ 1000; omega⟩
      · rw [lst_concat]
        exact fun e => c0 (Rat.intCast_eq_zero_iff.mp e)
  · have hk0 : decide ((kind : Int) = 0) = false := decide_eq_false (by omega)
    refine seq_cut (fun s => s = [.sh (.bag 1), .sh (.int (k : Nat)), .sh (.int (kind : Nat)), .un, .un, .un]) (fun nx hn => by simp only [LV.begin, Nat.reduceLeDiff, ne_eq, not_false_eq_true, not_true_eq_false, Int.reduceLE, Int.reduceLT, Nat.zero_le, at_0, at_1, at_2, at_3, at_m1a, at_m1b, at_m1c, at_m1d, at_m2b, at_m2c, decide_true, eq_self, Int.reduceEq, true_and, and_true, false_and, and_false, or_false, false_or, Int.reduceNeg, gIx, decide_false, Bool.and_true, Bool.true_and, Bool.or_true, wSeq, wSet, wAsg, wPar, wIf, wIfS, wTst, LV.wTru, LV.wNot, wAnd, wOr, wAndV, wOrV, wNotV, wOp, wUn, wV, wC, fCI, fAdd, fSub, fMul, fDiv, fMod, fPow, fNeg, fIx, fIs, fIsNot, fEq, fNe, fLt, fLe, fGt, fGe, wCB, wCons, wNil, w1, wApp, wIsi, isiB, bagD, isNonD, fLen, fAbs, fInt, fGcd, fList, fTuple, fRepr, fLz, fLen0, fLrv, fSum, fMax, fMin, fAll, fAny, seqD, rdL, rdW, fzL, fzW, unL, putS, RV.sl, wRet, wRetN, wNever, wNext, wDrop, wTup, wLst, outW, placeW, gN, gTu, gCo, gNi, wFor, zSeq, zr_0, zr_1, zr_2, zr_3, zr_4, nc_0, nc_1, nc_2, nc_3, nc_4, zEnum, zZip, zZip3, ixD, tru, wCall, wCallK, wApp, wAppend, wPopAt, wExtend, wChainE, fIn, fBits, fFac, fComb, fRngL1, fRngL2, owW, wSl, fSl, wONone, wOSome, wLc, wYes, List.map, List.replicate, List.length, List.append, List.set, List.take, List.drop, List.getLast?, List.dropLast, List.filterMap, List.getElem?_cons_zero, List.getElem?_cons_succ, List.getElem?_nil, Nat.reduceAdd, Nat.reduceSub, Nat.reduceLT, List.cons_append, List.nil_append, Option.some.injEq, reduceCtorEq, reduceIte, Bool.not_true, Bool.not_false, Bool.false_eq_true, List.isEmpty, hk0]; exact hn _ rfl) ?_
    rintro s rfl
    refine seq_cut (fun s => ∃ m : Nat, 1 ≤ m ∧ m ≤ 1000 ∧ s = [.sh (.bag 1), .sh (.int (k : Nat)), .sh (.int (kind : Nat)), .un, .un, .sh (.int (m : Nat))]) (fun nx hn => ?_) ?_
    · by_cases h1 : (kind : Int) = 1
      · simp only [LV.begin, Nat.reduceLeDiff, ne_eq, not_false_eq_true, not_true_eq_false, Int.reduceLE, Int.reduceLT, Nat.zero_le, at_0, at_1, at_2, at_3, at_m1a, at_m1b, at_m1c, at_m1d, at_m2b, at_m2c, decide_true, eq_self, Int.reduceEq, true_and, and_true, false_and, and_false, or_false, false_or, Int.reduceNeg, gIx, decide_false, Bool.and_true, Bool.true_and, Bool.or_true, wSeq, wSet, wAsg, wPar, wIf, wIfS, wTst, LV.wTru, LV.wNot, wAnd, wOr, wAndV, wOrV, wNotV, wOp, wUn, wV, wC, fCI, fAdd, fSub, fMul, fDiv, fMod, fPow, fNeg, fIx, fIs, fIsNot, fEq, fNe, fLt, fLe, fGt, fGe, wCB, wCons, wNil, w1, wApp, wIsi, isiB, bagD, isNonD, fLen, fAbs, fInt, fGcd, fList, fTuple, fRepr, fLz, fLen0, fLrv, fSum, fMax, fMin, fAll, fAny, seqD, rdL, rdW, fzL, fzW, unL, putS, RV.sl, wRet, wRetN, wNever, wNext, wDrop, wTup, wLst, outW, placeW, gN, gTu, gCo, gNi, wFor, zSeq, zr_0, zr_1, zr_2, zr_3, zr_4, nc_0, nc_1, nc_2, nc_3, nc_4, zEnum, zZip, zZip3, ixD, tru, wCall, wCallK, wApp, wAppend, wPopAt, wExtend, wChainE, fIn, fBits, fFac, fComb, fRngL1, fRngL2, owW, wSl, fSl, wONone, wOSome, wLc, wYes, List.map, List.replicate, List.length, List.append, List.set, List.take, List.drop, List.getLast?, List.dropLast, List.filterMap, List.getElem?_cons_zero, List.getElem?_cons_succ, List.getElem?_nil, Nat.reduceAdd, Nat.reduceSub, Nat.reduceLT, List.cons_append, List.nil_append, Option.some.injEq, reduceCtorEq, reduceIte, Bool.not_true, Bool.not_false, Bool.false_eq_true, List.isEmpty, h1]
        exact hn _ ⟨12, by omega, by omega, by simp only [h1]; rfl⟩
      · simp only [LV.begin, Nat.reduceLeDiff, ne_eq, not_false_eq_true, not_true_eq_false, Int.reduceLE, Int.reduceLT, Nat.zero_le, at_0, at_1, at_2, at_3, at_m1a, at_m1b, at_m1c, at_m1d, at_m2b, at_m2c, decide_true, eq_self, Int.reduceEq, true_and, and_true, false_and, and_false, or_false, false_or, Int.reduceNeg, gIx, decide_false, Bool.and_true, Bool.true_and, Bool.or_true, wSeq, wSet, wAsg, wPar, wIf, wIfS, wTst, LV.wTru, LV.wNot, wAnd, wOr, wAndV, wOrV, wNotV, wOp, wUn, wV, wC, fCI, fAdd, fSub, fMul, fDiv, fMod, fPow, fNeg, fIx, fIs, fIsNot, fEq, fNe, fLt, fLe, fGt, fGe, wCB, wCons, wNil, w1, wApp, wIsi, isiB, bagD, isNonD, fLen, fAbs, fInt, fGcd, fList, fTuple, fRepr, fLz, fLen0, fLrv, fSum, fMax, fMin, fAll, fAny, seqD, rdL, rdW, fzL, fzW, unL, putS, RV.sl, wRet, wRetN, wNever, wNext, wDrop, wTup, wLst, outW, placeW, gN, gTu, gCo, gNi, wFor, zSeq, zr_0, zr_1, zr_2, zr_3, zr_4, nc_0, nc_1, nc_2, nc_3, nc_4, zEnum, zZip, zZip3, ixD, tru, wCall, wCallK, wApp, wAppend, wPopAt, wExtend, wChainE, fIn, fBits, fFac, fComb, fRngL1, fRngL2, owW, wSl, fSl, wONone, wOSome, wLc, wYes, List.map, List.replicate, List.length, List.append, List.set, List.take, List.drop, List.getLast?, List.dropLast, List.filterMap, List.getElem?_cons_zero, List.getElem?_cons_succ, List.getElem?_nil, Nat.reduceAdd, Nat.reduceSub, Nat.reduceLT, List.cons_append, List.nil_append, Option.some.injEq, reduceCtorEq, reduceIte, Bool.not_true, Bool.not_false, Bool.false_eq_true, List.isEmpty, decide_eq_false h1]
        exact hn _ ⟨1000, by omega, by omega, rfl⟩
    rintro s ⟨m, m1, m2, rfl⟩
    refine seq_cut (fun s => ∃ l : List Rat, l.length = k + 1 ∧ (∀ x ∈ l, Sm3 x) ∧ s = [.sh (.bag 1), .sh (.int (k : Nat)), .sh (.int (kind : Nat)), .ow (l.map fQ), .un, .sh (.int (m : Nat))]) (fun nx hn => ?_) ?_
    · simp only [LV.begin, Nat.reduceLeDiff, ne_eq, not_false_eq_true, not_true_eq_false, Int.reduceLE, Int.reduceLT, Nat.zero_le, at_0, at_1, at_2, at_3, at_m1a, at_m1b, at_m1c, at_m1d, at_m2b, at_m2c, decide_true, eq_self, Int.reduceEq, true_and, and_true, false_and, and_false, or_false, false_or, Int.reduceNeg, gIx, decide_false, Bool.and_true, Bool.true_and, Bool.or_true, wSeq, wSet, wAsg, wPar, wIf, wIfS, wTst, LV.wTru, LV.wNot, wAnd, wOr, wAndV, wOrV, wNotV, wOp, wUn, wV, wC, fCI, fAdd, fSub, fMul, fDiv, fMod, fPow, fNeg, fIx, fIs, fIsNot, fEq, fNe, fLt, fLe, fGt, fGe, wCB, wCons, wNil, w1, wApp, wIsi, isiB, bagD, isNonD, fLen, fAbs, fInt, fGcd, fList, fTuple, fRepr, fLz, fLen0, fLrv, fSum, fMax, fMin, fAll, fAny, seqD, rdL, rdW, fzL, fzW, unL, putS, RV.sl, wRet, wRetN, wNever, wNext, wDrop, wTup, wLst, outW, placeW, gN, gTu, gCo, gNi, wFor, zSeq, zr_0, zr_1, zr_2, zr_3, zr_4, nc_0, nc_1, nc_2, nc_3, nc_4, zEnum, zZip, zZip3, ixD, tru, wCall, wCallK, wApp, wAppend, wPopAt, wExtend, wChainE, fIn, fBits, fFac, fComb, fRngL1, fRngL2, owW, wSl, fSl, wONone, wOSome, wLc, wYes, List.map, List.replicate, List.length, List.append, List.set, List.take, List.drop, List.getLast?, List.dropLast, List.filterMap, List.getElem?_cons_zero, List.getElem?_cons_succ, List.getElem?_nil, Nat.reduceAdd, Nat.reduceSub, Nat.reduceLT, List.cons_append, List.nil_append, Option.some.injEq, reduceCtorEq, reduceIte, Bool.not_true, Bool.not_false, Bool.false_eq_true, List.isEmpty]
      refine ⟨_, zrng1 (k + 1) rfl (by omega), ?_⟩
      refine lcL (fun (k : Nat) => D.int (0 + (k : Int))) (fun done rest acc s => done ++ rest = List.range (k + 1) ∧ ∃ l : List Rat, acc = l.map fQ ∧ l.length = done.length ∧ (∀ x ∈ l, Sm3 x) ∧ s = [.sh (.bag 1), .sh (.int (k : Nat)), .sh (.int (kind : Nat)), .un, .un, .sh (.int (m : Nat))]) ?_ ?_ (List.range (k + 1)) [] [] _ ⟨rfl, [], rfl, rfl, (fun _ h => nomatch h), rfl⟩
      · rintro done j rest acc s nx2 ⟨e, l, rfl, hl, hz, rfl⟩ hn2
        obtain ⟨hj, hj2, _, _⟩ := rng_len e
        refine ⟨?_, by rw [List.length_map]; omega, rfl, ?_⟩
        · rfl
        · simp only [wipeS, LV.begin, Nat.reduceLeDiff, ne_eq, not_false_eq_true, not_true_eq_false, Int.reduceLE, Int.reduceLT, Nat.zero_le, at_0, at_1, at_2, at_3, at_m1a, at_m1b, at_m1c, at_m1d, at_m2b, at_m2c, decide_true, eq_self, Int.reduceEq, true_and, and_true, false_and, and_false, or_false, false_or, Int.reduceNeg, gIx, decide_false, Bool.and_true, Bool.true_and, Bool.or_true, wSeq, wSet, wAsg, wPar, wIf, wIfS, wTst, LV.wTru, LV.wNot, wAnd, wOr, wAndV, wOrV, wNotV, wOp, wUn, wV, wC, fCI, fAdd, fSub, fMul, fDiv, fMod, fPow, fNeg, fIx, fIs, fIsNot, fEq, fNe, fLt, fLe, fGt, fGe, wCB, wCons, wNil, w1, wApp, wIsi, isiB, bagD, isNonD, fLen, fAbs, fInt, fGcd, fList, fTuple, fRepr, fLz, fLen0, fLrv, fSum, fMax, fMin, fAll, fAny, seqD, rdL, rdW, fzL, fzW, unL, putS, RV.sl, wRet, wRetN, wNever, wNext, wDrop, wTup, wLst, outW, placeW, gN, gTu, gCo, gNi, wFor, zSeq, zr_0, zr_1, zr_2, zr_3, zr_4, nc_0, nc_1, nc_2, nc_3, nc_4, zEnum, zZip, zZip3, ixD, tru, wCall, wCallK, wApp, wAppend, wPopAt, wExtend, wChainE, fIn, fBits, fFac, fComb, fRngL1, fRngL2, owW, wSl, fSl, wONone, wOSome, wLc, wYes, List.map, List.replicate, List.length, List.append, List.set, List.take, List.drop, List.getLast?, List.dropLast, List.filterMap, List.getElem?_cons_zero, List.getElem?_cons_succ, List.getElem?_nil, Nat.reduceAdd, Nat.reduceSub, Nat.reduceLT, List.cons_append, List.nil_append, Option.some.injEq, reduceCtorEq, reduceIte, Bool.not_true, Bool.not_false, Bool.false_eq_true, List.isEmpty, F__law_some_fraction]
          refine ⟨m, rfl, m1, m2, fun q q1 q2 => ?_⟩
          refine hn2 _ [.sh (.bag 1), .sh (.int (k : Nat)), .sh (.int (kind : Nat)), .un, .un, .sh (.int (m : Nat))] ⟨by simpa using e, l ++ [q], by rw [List.map_append]; rfl, by simp [hl], fun x hx => ?_, rfl⟩
          rcases List.mem_append.mp hx with h | h
          · exact hz x h
          · rw [List.mem_singleton.mp h]
            exact ⟨by omega, by omega⟩
      · rintro done acc s ⟨e, l, rfl, hl, hz, rfl⟩
        rw [List.append_nil] at e
        subst e
        rw [List.length_range] at hl
        refine ⟨rfl, ?_⟩
        exact hn _ ⟨l, hl, hz, rfl⟩
    rintro s ⟨l, hl, hz, rfl⟩
    have hne : l ≠ [] := ne_of_len hl
    refine seq_cut (fun s => ∃ l : List Rat, l.length = k + 1 ∧ (∀ x ∈ l, Sm3 x) ∧ lst l ≠ 0 ∧ s = [.sh (.bag 1), .sh (.int (k : Nat)), .sh (.int (kind : Nat)), .ow (l.map fQ), .un, .sh (.int (m : Nat))]) (fun nx hn => ?_) ?_
    · simp only [LV.begin, Nat.reduceLeDiff, ne_eq, not_false_eq_true, not_true_eq_false, Int.reduceLE, Int.reduceLT, Nat.zero_le, at_0, at_1, at_2, at_3, at_m1a, at_m1b, at_m1c, at_m1d, at_m2b, at_m2c, decide_true, eq_self, Int.reduceEq, true_and, and_true, false_and, and_false, or_false, false_or, Int.reduceNeg, gIx, decide_false, Bool.and_true, Bool.true_and, Bool.or_true, wSeq, wSet, wAsg, wPar, wIf, wIfS, wTst, LV.wTru, LV.wNot, wAnd, wOr, wAndV, wOrV, wNotV, wOp, wUn, wV, wC, fCI, fAdd, fSub, fMul, fDiv, fMod, fPow, fNeg, fIx, fIs, fIsNot, fEq, fNe, fLt, fLe, fGt, fGe, wCB, wCons, wNil, w1, wApp, wIsi, isiB, bagD, isNonD, fLen, fAbs, fInt, fGcd, fList, fTuple, fRepr, fLz, fLen0, fLrv, fSum, fMax, fMin, fAll, fAny, seqD, rdL, rdW, fzL, fzW, unL, putS, RV.sl, wRet, wRetN, wNever, wNext, wDrop, wTup, wLst, outW, placeW, gN, gTu, gCo, gNi, wFor, zSeq, zr_0, zr_1, zr_2, zr_3, zr_4, nc_0, nc_1, nc_2, nc_3, nc_4, zEnum, zZip, zZip3, ixD, tru, wCall, wCallK, wApp, wAppend, wPopAt, wExtend, wChainE, fIn, fBits, fFac, fComb, fRngL1, fRngL2, owW, wSl, fSl, wONone, wOSome, wLc, wYes, List.map, List.replicate, List.length, List.append, List.set, List.take, List.drop, List.getLast?, List.dropLast, List.filterMap, List.getElem?_cons_zero, List.getElem?_cons_succ, List.getElem?_nil, Nat.reduceAdd, Nat.reduceSub, Nat.reduceLT, List.cons_append, List.nil_append, Option.some.injEq, reduceCtorEq, reduceIte, Bool.not_true, Bool.not_false, Bool.false_eq_true, List.isEmpty, at_lst hne]
      rw [List.length_map, hl, ixN_last]
      by_cases hn0 : (lst l).num = 0
      · simp only [hn0, decide_true, if_true]
        have e := set_last hl (3 / 2)
        have e2 : fQ (3 / 2) = D.tup [D.int 3, D.int 2] := by kernel_rfl
        rw [e2] at e
        rw [e]
        exact hn _ ⟨_, dl_len hl _, dl_mem hz (by unfold Sm3; decide +kernel), by rw [lst_concat]; decide +kernel, rfl⟩
      · simp only [hn0, decide_false, Bool.false_eq_true, if_false]
        exact hn _ ⟨l, hl, hz, fun e => hn0 (by rw [e]; rfl), rfl⟩
    rintro s ⟨l, hl, hz, h0, rfl⟩
    simp only [LV.begin, Nat.reduceLeDiff, ne_eq, not_false_eq_true, not_true_eq_false, Int.reduceLE, Int.reduceLT, Nat.zero_le, at_0, at_1, at_2, at_3, at_m1a, at_m1b, at_m1c, at_m1d, at_m2b, at_m2c, decide_true, eq_self, Int.reduceEq, true_and, and_true, false_and, and_false, or_false, false_or, Int.reduceNeg, gIx, decide_false, Bool.and_true, Bool.true_and, Bool.or_true, wSeq, wSet, wAsg, wPar, wIf, wIfS, wTst, LV.wTru, LV.wNot, wAnd, wOr, wAndV, wOrV, wNotV, wOp, wUn, wV, wC, fCI, fAdd, fSub, fMul, fDiv, fMod, fPow, fNeg, fIx, fIs, fIsNot, fEq, fNe, fLt, fLe, fGt, fGe, wCB, wCons, wNil, w1, wApp, wIsi, isiB, bagD, isNonD, fLen, fAbs, fInt, fGcd, fList, fTuple, fRepr, fLz, fLen0, fLrv, fSum, fMax, fMin, fAll, fAny, seqD, rdL, rdW, fzL, fzW, unL, putS, RV.sl, wRet, wRetN, wNever, wNext, wDrop, wTup, wLst, outW, placeW, gN, gTu, gCo, gNi, wFor, zSeq, zr_0, zr_1, zr_2, zr_3, zr_4, nc_0, nc_1, nc_2, nc_3, nc_4, zEnum, zZip, zZip3, ixD, tru, wCall, wCallK, wApp, wAppend, wPopAt, wExtend, wChainE, fIn, fBits, fFac, fComb, fRngL1, fRngL2, owW, wSl, fSl, wONone, wOSome, wLc, wYes, List.map, List.replicate, List.length, List.append, List.set, List.take, List.drop, List.getLast?, List.dropLast, List.filterMap, List.getElem?_cons_zero, List.getElem?_cons_succ, List.getElem?_nil, Nat.reduceAdd, Nat.reduceSub, Nat.reduceLT, List.cons_append, List.nil_append, Option.some.injEq, reduceCtorEq, reduceIte, Bool.not_true, Bool.not_false, Bool.false_eq_true, List.isEmpty]
    exact hq l hl hz h0
theorem sm3_int {c : Int} (h : c.natAbs ≤ 1000) : Sm3 (c : Rat) := ⟨h, by show 1 ≤ 1000; omega⟩
theorem pick_kind {d : D} (hd : d ∈ [D.int 0, .int 0, .int 0, .int 0, .int 0, .int 0, .int 0, .int 0, .int 1, .int 1, .int 1, .int 1, .int 1, .int 1, .int 1, .int 2]) : ∃ n : Nat, d = .int (n : Nat) ∧ n ≤ 2 := by
  simp only [List.mem_cons, List.not_mem_nil, or_false] at hd
  have : d = .int 0 ∨ d = .int 1 ∨ d = .int 2 := by
    rcases hd with h | h | h | h | h | h | h | h | h | h | h | h | h | h | h | h <;> simp [h]
  rcases this with rfl | rfl | rfl
  · exact ⟨0, rfl, by omega⟩
  · exact ⟨1, rfl, by omega⟩
  · exact ⟨2, rfl, by omega⟩
theorem pick_fr {l : List Rat} {d : D} (hl : l.all (fun q => decide (q.num.natAbs ≤ 1000) && decide (q.den ≤ 1000)) = true) (hd : d ∈ l.map fQ) : ∃ q, d = fQ q ∧ Sm3 q := by
  obtain ⟨q, hq, rfl⟩ := List.mem_map.mp hd
  have := Bool.and_eq_true_iff.mp (List.all_eq_true.mp hl q hq)
  exact ⟨q, rfl, of_decide_eq_true this.1, of_decide_eq_true this.2⟩
theorem p__law_some_case {K : PySem.W.Frag} : ∀ ds Qf, F__law_some_case ds Qf → ds.length = 1 ∧ W__law_some_case K { nx := fun _ => Qf (.sh .non), rt := Qf } (begin 10 ds) := by
  intro ds Qf h
  obtain ⟨rfl, hq⟩ := h
  refine ⟨rfl, ?_⟩
  unfold W__law_some_case
  refine seq_cut (fun s => ∃ k kind : Nat, 1 ≤ k ∧ k ≤ 4 ∧ kind ≤ 2 ∧ s = [.sh (.bag 1), .sh (.int (k : Nat)), .sh (.int (kind : Nat)), .un, .un, .un, .un, .un, .un, .un]) (fun nx hn => ?_) ?_
  · simp only [LV.begin, Nat.reduceLeDiff, ne_eq, not_false_eq_true, not_true_eq_false, Int.reduceLE, Int.reduceLT, Nat.zero_le, at_0, at_1, at_2, at_3, at_m1a, at_m1b, at_m1c, at_m1d, at_m2b, at_m2c, decide_true, eq_self, Int.reduceEq, true_and, and_true, false_and, and_false, or_false, false_or, Int.reduceNeg, gIx, decide_false, Bool.and_true, Bool.true_and, Bool.or_true, wSeq, wSet, wAsg, wPar, wIf, wIfS, wTst, LV.wTru, LV.wNot, wAnd, wOr, wAndV, wOrV, wNotV, wOp, wUn, wV, wC, fCI, fAdd, fSub, fMul, fDiv, fMod, fPow, fNeg, fIx, fIs, fIsNot, fEq, fNe, fLt, fLe, fGt, fGe, wCB, wCons, wNil, w1, wApp, wIsi, isiB, bagD, isNonD, fLen, fAbs, fInt, fGcd, fList, fTuple, fRepr, fLz, fLen0, fLrv, fSum, fMax, fMin, fAll, fAny, seqD, rdL, rdW, fzL, fzW, unL, putS, RV.sl, wRet, wRetN, wNever, wNext, wDrop, wTup, wLst, outW, placeW, gN, gTu, gCo, gNi, wFor, zSeq, zr_0, zr_1, zr_2, zr_3, zr_4, nc_0, nc_1, nc_2, nc_3, nc_4, zEnum, zZip, zZip3, ixD, tru, wCall, wCallK, wApp, wAppend, wPopAt, wExtend, wChainE, fIn, fBits, fFac, fComb, fRngL1, fRngL2, owW, wSl, fSl, wONone, wOSome, wLc, wYes, List.map, List.replicate, List.length, List.append, List.set, List.take, List.drop, List.getLast?, List.dropLast, List.filterMap, List.getElem?_cons_zero, List.getElem?_cons_succ, List.getElem?_nil, Nat.reduceAdd, Nat.reduceSub, Nat.reduceLT, List.cons_append, List.nil_append, Option.some.injEq, reduceCtorEq, reduceIte, Bool.not_true, Bool.not_false, Bool.false_eq_true, List.isEmpty, FDraw]
    refine ⟨4, rfl, by omega, log_small (by omega) (by omega), fun r h5 h6 => ?_⟩
    refine ⟨_, rfl, List.cons_ne_nil _ _, by simp, fun d hd => ?_⟩
    obtain ⟨n, rfl, hn2⟩ := pick_kind hd
    simp only [LV.begin, Nat.reduceLeDiff, ne_eq, not_false_eq_true, not_true_eq_false, Int.reduceLE, Int.reduceLT, Nat.zero_le, at_0, at_1, at_2, at_3, at_m1a, at_m1b, at_m1c, at_m1d, at_m2b, at_m2c, decide_true, eq_self, Int.reduceEq, true_and, and_true, false_and, and_false, or_false, false_or, Int.reduceNeg, gIx, decide_false, Bool.and_true, Bool.true_and, Bool.or_true, wSeq, wSet, wAsg, wPar, wIf, wIfS, wTst, LV.wTru, LV.wNot, wAnd, wOr, wAndV, wOrV, wNotV, wOp, wUn, wV, wC, fCI, fAdd, fSub, fMul, fDiv, fMod, fPow, fNeg, fIx, fIs, fIsNot, fEq, fNe, fLt, fLe, fGt, fGe, wCB, wCons, wNil, w1, wApp, wIsi, isiB, bagD, isNonD, fLen, fAbs, fInt, fGcd, fList, fTuple, fRepr, fLz, fLen0, fLrv, fSum, fMax, fMin, fAll, fAny, seqD, rdL, rdW, fzL, fzW, unL, putS, RV.sl, wRet, wRetN, wNever, wNext, wDrop, wTup, wLst, outW, placeW, gN, gTu, gCo, gNi, wFor, zSeq, zr_0, zr_1, zr_2, zr_3, zr_4, nc_0, nc_1, nc_2, nc_3, nc_4, zEnum, zZip, zZip3, ixD, tru, wCall, wCallK, wApp, wAppend, wPopAt, wExtend, wChainE, fIn, fBits, fFac, fComb, fRngL1, fRngL2, owW, wSl, fSl, wONone, wOSome, wLc, wYes, List.map, List.replicate, List.length, List.append, List.set, List.take, List.drop, List.getLast?, List.dropLast, List.filterMap, List.getElem?_cons_zero, List.getElem?_cons_succ, List.getElem?_nil, Nat.reduceAdd, Nat.reduceSub, Nat.reduceLT, List.cons_append, List.nil_append, Option.some.injEq, reduceCtorEq, reduceIte, Bool.not_true, Bool.not_false, Bool.false_eq_true, List.isEmpty]
    refine hn _ ⟨(1 + r).toNat, n, by omega, by omega, hn2, ?_⟩
    rw [show (((1 + r).toNat : Nat) : Int) = 1 + r by omega]
  rintro s ⟨k, kind, k1, k4, kk, rfl⟩
  refine seq_cut (fun s => ∃ k : Nat, 1 ≤ k ∧ k ≤ 8 ∧ s = [.sh (.bag 1), .sh (.int (k : Nat)), .sh (.int (kind : Nat)), .un, .un, .un, .un, .un, .un, .un]) (fun nx hn => ?_) ?_
  · simp only [LV.begin, Nat.reduceLeDiff, ne_eq, not_false_eq_true, not_true_eq_false, Int.reduceLE, Int.reduceLT, Nat.zero_le, at_0, at_1, at_2, at_3, at_m1a, at_m1b, at_m1c, at_m1d, at_m2b, at_m2c, decide_true, eq_self, Int.reduceEq, true_and, and_true, false_and, and_false, or_false, false_or, Int.reduceNeg, gIx, decide_false, Bool.and_true, Bool.true_and, Bool.or_true, wSeq, wSet, wAsg, wPar, wIf, wIfS, wTst, LV.wTru, LV.wNot, wAnd, wOr, wAndV, wOrV, wNotV, wOp, wUn, wV, wC, fCI, fAdd, fSub, fMul, fDiv, fMod, fPow, fNeg, fIx, fIs, fIsNot, fEq, fNe, fLt, fLe, fGt, fGe, wCB, wCons, wNil, w1, wApp, wIsi, isiB, bagD, isNonD, fLen, fAbs, fInt, fGcd, fList, fTuple, fRepr, fLz, fLen0, fLrv, fSum, fMax, fMin, fAll, fAny, seqD, rdL, rdW, fzL, fzW, unL, putS, RV.sl, wRet, wRetN, wNever, wNext, wDrop, wTup, wLst, outW, placeW, gN, gTu, gCo, gNi, wFor, zSeq, zr_0, zr_1, zr_2, zr_3, zr_4, nc_0, nc_1, nc_2, nc_3, nc_4, zEnum, zZip, zZip3, ixD, tru, wCall, wCallK, wApp, wAppend, wPopAt, wExtend, wChainE, fIn, fBits, fFac, fComb, fRngL1, fRngL2, owW, wSl, fSl, wONone, wOSome, wLc, wYes, List.map, List.replicate, List.length, List.append, List.set, List.take, List.drop, List.getLast?, List.dropLast, List.filterMap, List.getElem?_cons_zero, List.getElem?_cons_succ, List.getElem?_nil, Nat.reduceAdd, Nat.reduceSub, Nat.reduceLT, List.cons_append, List.nil_append, Option.some.injEq, reduceCtorEq, reduceIte, Bool.not_true, Bool.not_false, Bool.false_eq_true, List.isEmpty, FDraw]
    refine ⟨8, rfl, by omega, log_small (by omega) (by omega), fun r h5 h6 => ?_⟩
    by_cases h0 : r = 0
    · simp only [h0, decide_true, if_true]
      refine ⟨4, rfl, by omega, log_small (by omega) (by omega), fun r2 h7 h8 => hn _ ⟨(5 + r2).toNat, by omega, by omega, ?_⟩⟩
      rw [show (((5 + r2).toNat : Nat) : Int) = 5 + r2 by omega]
    · simp only [h0, decide_false, Bool.false_eq_true, if_false]
      exact hn _ ⟨k, k1, by omega, rfl⟩
  clear k1 k4
  rintro s ⟨k, k1, k8, rfl⟩
  refine seq_cut (fun s => ∃ a b : List Rat, a.length = k + 1 ∧ (∀ x ∈ a, Sm3 x) ∧ lst a ≠ 0 ∧ b.length = k + 1 ∧ (∀ x ∈ b, Sm3 x) ∧ s = [.sh (.bag 1), .sh (.int (k : Nat)), .sh (.int (kind : Nat)), .ow (a.map fQ), .ow (b.map fQ), .un, .un, .un, .un, .un]) (fun nx hn => ?_) ?_
  · simp only [LV.begin, Nat.reduceLeDiff, ne_eq, not_false_eq_true, not_true_eq_false, Int.reduceLE, Int.reduceLT, Nat.zero_le, at_0, at_1, at_2, at_3, at_m1a, at_m1b, at_m1c, at_m1d, at_m2b, at_m2c, decide_true, eq_self, Int.reduceEq, true_and, and_true, false_and, and_false, or_false, false_or, Int.reduceNeg, gIx, decide_false, Bool.and_true, Bool.true_and, Bool.or_true, wSeq, wSet, wAsg, wPar, wIf, wIfS, wTst, LV.wTru, LV.wNot, wAnd, wOr, wAndV, wOrV, wNotV, wOp, wUn, wV, wC, fCI, fAdd, fSub, fMul, fDiv, fMod, fPow, fNeg, fIx, fIs, fIsNot, fEq, fNe, fLt, fLe, fGt, fGe, wCB, wCons, wNil, w1, wApp, wIsi, isiB, bagD, isNonD, fLen, fAbs, fInt, fGcd, fList, fTuple, fRepr, fLz, fLen0, fLrv, fSum, fMax, fMin, fAll, fAny, seqD, rdL, rdW, fzL, fzW, unL, putS, RV.sl, wRet, wRetN, wNever, wNext, wDrop, wTup, wLst, outW, placeW, gN, gTu, gCo, gNi, wFor, zSeq, zr_0, zr_1, zr_2, zr_3, zr_4, nc_0, nc_1, nc_2, nc_3, nc_4, zEnum, zZip, zZip3, ixD, tru, wCall, wCallK, wApp, wAppend, wPopAt, wExtend, wChainE, fIn, fBits, fFac, fComb, fRngL1, fRngL2, owW, wSl, fSl, wONone, wOSome, wLc, wYes, List.map, List.replicate, List.length, List.append, List.set, List.take, List.drop, List.getLast?, List.dropLast, List.filterMap, List.getElem?_cons_zero, List.getElem?_cons_succ, List.getElem?_nil, Nat.reduceAdd, Nat.reduceSub, Nat.reduceLT, List.cons_append, List.nil_append, Option.some.injEq, reduceCtorEq, reduceIte, Bool.not_true, Bool.not_false, Bool.false_eq_true, List.isEmpty, F__law_some_row]
    refine ⟨k, kind, rfl, k1, k8, kk, fun a la za a0 => ?_⟩
    refine ⟨k, kind, rfl, k1, k8, kk, fun b lb zb b0 => ?_⟩
    exact hn _ ⟨a, b, la, za, a0, lb, zb, rfl⟩
  rintro s ⟨a, b, la, za, a0, lb, zb, rfl⟩
  refine seq_cut (fun s => ∃ d e : List Rat, d.length = k + 1 ∧ (∀ x ∈ d, Sm3 x) ∧ lst d ≠ 0 ∧ e.length = k + 1 ∧ (∀ x ∈ e, Sm3 x) ∧ lst e = 0 ∧ s = [.sh (.bag 1), .sh (.int (k : Nat)), .sh (.int (kind : Nat)), .ow (a.map fQ), .ow (b.map fQ), .sh (rlD d e), .un, .un, .un, .un]) (fun nx hn => ?_) ?_
  · simp only [LV.begin, Nat.reduceLeDiff, ne_eq, not_false_eq_true, not_true_eq_false, Int.reduceLE, Int.reduceLT, Nat.zero_le, at_0, at_1, at_2, at_3, at_m1a, at_m1b, at_m1c, at_m1d, at_m2b, at_m2c, decide_true, eq_self, Int.reduceEq, true_and, and_true, false_and, and_false, or_false, false_or, Int.reduceNeg, gIx, decide_false, Bool.and_true, Bool.true_and, Bool.or_true, wSeq, wSet, wAsg, wPar, wIf, wIfS, wTst, LV.wTru, LV.wNot, wAnd, wOr, wAndV, wOrV, wNotV, wOp, wUn, wV, wC, fCI, fAdd, fSub, fMul, fDiv, fMod, fPow, fNeg, fIx, fIs, fIsNot, fEq, fNe, fLt, fLe, fGt, fGe, wCB, wCons, wNil, w1, wApp, wIsi, isiB, bagD, isNonD, fLen, fAbs, fInt, fGcd, fList, fTuple, fRepr, fLz, fLen0, fLrv, fSum, fMax, fMin, fAll, fAny, seqD, rdL, rdW, fzL, fzW, unL, putS, RV.sl, wRet, wRetN, wNever, wNext, wDrop, wTup, wLst, outW, placeW, gN, gTu, gCo, gNi, wFor, zSeq, zr_0, zr_1, zr_2, zr_3, zr_4, nc_0, nc_1, nc_2, nc_3, nc_4, zEnum, zZip, zZip3, ixD, tru, wCall, wCallK, wApp, wAppend, wPopAt, wExtend, wChainE, fIn, fBits, fFac, fComb, fRngL1, fRngL2, owW, wSl, fSl, wONone, wOSome, wLc, wYes, List.map, List.replicate, List.length, List.append, List.set, List.take, List.drop, List.getLast?, List.dropLast, List.filterMap, List.getElem?_cons_zero, List.getElem?_cons_succ, List.getElem?_nil, Nat.reduceAdd, Nat.reduceSub, Nat.reduceLT, List.cons_append, List.nil_append, Option.some.injEq, reduceCtorEq, reduceIte, Bool.not_true, Bool.not_false, Bool.false_eq_true, List.isEmpty, F__law_some_row]
    refine ⟨k, kind, rfl, k1, k8, kk, fun d ld zd d0 => ?_⟩
    refine ⟨k, kind, rfl, k1, k8, kk, fun e le ze e0 => ?_⟩
    have ee : e.map fQ = e.dropLast.map fQ ++ [fQ (lst e)] := by
      have h := congrArg (List.map fQ) (lst_split (ne_of_len le))
      rw [List.map_append] at h; exact h
    rw [ee]
    rw [cut_m1]
    have e1 : e.dropLast.map fQ ++ [D.tup [.int 0, .int 1]] = (e.dropLast ++ [0]).map fQ := by rw [List.map_append]; rfl
    rw [e1]
    refine ⟨by rw [sizeLine_eq, List.length_map, List.length_dropLast]; omega, ?_⟩
    exact hn _ ⟨d, e.dropLast ++ [0], ld, zd, d0, dl_len le _, dl_mem ze (by unfold Sm3; decide +kernel), lst_concat _ _, rfl⟩
  rintro s ⟨d, e, ld, zd, d0, le, ze, e0, rfl⟩
  refine seq_cut (fun s => ∃ b : List Rat, b.length = k + 1 ∧ (∀ x ∈ b, Sm3 x) ∧ s = [.sh (.bag 1), .sh (.int (k : Nat)), .sh (.int (kind : Nat)), .ow (a.map fQ), .ow (b.map fQ), .sh (rlD d e), .un, .un, .un, .un]) (fun nx hn => ?_) ?_
  · simp only [LV.begin, Nat.reduceLeDiff, ne_eq, not_false_eq_true, not_true_eq_false, Int.reduceLE, Int.reduceLT, Nat.zero_le, at_0, at_1, at_2, at_3, at_m1a, at_m1b, at_m1c, at_m1d, at_m2b, at_m2c, decide_true, eq_self, Int.reduceEq, true_and, and_true, false_and, and_false, or_false, false_or, Int.reduceNeg, gIx, decide_false, Bool.and_true, Bool.true_and, Bool.or_true, wSeq, wSet, wAsg, wPar, wIf, wIfS, wTst, LV.wTru, LV.wNot, wAnd, wOr, wAndV, wOrV, wNotV, wOp, wUn, wV, wC, fCI, fAdd, fSub, fMul, fDiv, fMod, fPow, fNeg, fIx, fIs, fIsNot, fEq, fNe, fLt, fLe, fGt, fGe, wCB, wCons, wNil, w1, wApp, wIsi, isiB, bagD, isNonD, fLen, fAbs, fInt, fGcd, fList, fTuple, fRepr, fLz, fLen0, fLrv, fSum, fMax, fMin, fAll, fAny, seqD, rdL, rdW, fzL, fzW, unL, putS, RV.sl, wRet, wRetN, wNever, wNext, wDrop, wTup, wLst, outW, placeW, gN, gTu, gCo, gNi, wFor, zSeq, zr_0, zr_1, zr_2, zr_3, zr_4, nc_0, nc_1, nc_2, nc_3, nc_4, zEnum, zZip, zZip3, ixD, tru, wCall, wCallK, wApp, wAppend, wPopAt, wExtend, wChainE, fIn, fBits, fFac, fComb, fRngL1, fRngL2, owW, wSl, fSl, wONone, wOSome, wLc, wYes, List.map, List.replicate, List.length, List.append, List.set, List.take, List.drop, List.getLast?, List.dropLast, List.filterMap, List.getElem?_cons_zero, List.getElem?_cons_succ, List.getElem?_nil, Nat.reduceAdd, Nat.reduceSub, Nat.reduceLT, List.cons_append, List.nil_append, Option.some.injEq, reduceCtorEq, reduceIte, Bool.not_true, Bool.not_false, Bool.false_eq_true, List.isEmpty, FDraw, List.length_map, lb, ixN_last]
    refine ⟨6, rfl, by omega, log_small (by omega) (by omega), fun r h5 h6 => ?_⟩
    by_cases h0 : r = 0
    · simp only [h0, decide_true, if_true]
      have e1 : D.tup [.int 0, .int 1] = fQ 0 := rfl
      rw [e1, set_last lb]
      exact hn _ ⟨_, dl_len lb _, dl_mem zb (by unfold Sm3; decide +kernel), rfl⟩
    · simp only [h0, decide_false, Bool.false_eq_true, if_false]
      by_cases h1 : (kind : Int) = 0
      · simp only [h1, decide_true, if_true]
        have e1 : [D.tup [.int 1, .int 1], .tup [.int (-1), .int 1], .tup [.int 1, .int 2], .tup [.int 2, .int 1]] = [1, -1, 1 / 2, 2].map fQ := by kernel_rfl
        rw [e1]
        refine ⟨_, rfl, List.cons_ne_nil _ _, by simp, fun x hx => ?_⟩
        obtain ⟨q, rfl, zq⟩ := pick_fr (by decide +kernel) hx
        simp only [LV.begin, Nat.reduceLeDiff, ne_eq, not_false_eq_true, not_true_eq_false, Int.reduceLE, Int.reduceLT, Nat.zero_le, at_0, at_1, at_2, at_3, at_m1a, at_m1b, at_m1c, at_m1d, at_m2b, at_m2c, decide_true, eq_self, Int.reduceEq, true_and, and_true, false_and, and_false, or_false, false_or, Int.reduceNeg, gIx, decide_false, Bool.and_true, Bool.true_and, Bool.or_true, wSeq, wSet, wAsg, wPar, wIf, wIfS, wTst, LV.wTru, LV.wNot, wAnd, wOr, wAndV, wOrV, wNotV, wOp, wUn, wV, wC, fCI, fAdd, fSub, fMul, fDiv, fMod, fPow, fNeg, fIx, fIs, fIsNot, fEq, fNe, fLt, fLe, fGt, fGe, wCB, wCons, wNil, w1, wApp, wIsi, isiB, bagD, isNonD, fLen, fAbs, fInt, fGcd, fList, fTuple, fRepr, fLz, fLen0, fLrv, fSum, fMax, fMin, fAll, fAny, seqD, rdL, rdW, fzL, fzW, unL, putS, RV.sl, wRet, wRetN, wNever, wNext, wDrop, wTup, wLst, outW, placeW, gN, gTu, gCo, gNi, wFor, zSeq, zr_0, zr_1, zr_2, zr_3, zr_4, nc_0, nc_1, nc_2, nc_3, nc_4, zEnum, zZip, zZip3, ixD, tru, wCall, wCallK, wApp, wAppend, wPopAt, wExtend, wChainE, fIn, fBits, fFac, fComb, fRngL1, fRngL2, owW, wSl, fSl, wONone, wOSome, wLc, wYes, List.map, List.replicate, List.length, List.append, List.set, List.take, List.drop, List.getLast?, List.dropLast, List.filterMap, List.getElem?_cons_zero, List.getElem?_cons_succ, List.getElem?_nil, Nat.reduceAdd, Nat.reduceSub, Nat.reduceLT, List.cons_append, List.nil_append, Option.some.injEq, reduceCtorEq, reduceIte, Bool.not_true, Bool.not_false, Bool.false_eq_true, List.isEmpty, ixN_last]
        rw [set_last lb]
        exact hn _ ⟨_, dl_len lb _, dl_mem zb zq, by simp only [h1]⟩
      · simp only [h1, decide_false, Bool.false_eq_true, if_false]
        exact hn _ ⟨b, lb, zb, rfl⟩
  clear lb zb
  rintro s ⟨b, lb, zb, rfl⟩
  refine seq_cut (fun s => ∃ f : Rat, Sm3 f ∧ s = [.sh (.bag 1), .sh (.int (k : Nat)), .sh (.int (kind : Nat)), .ow (a.map fQ), .ow (b.map fQ), .sh (rlD d e), .sh (fQ f), .un, .un, .un]) (fun nx hn => ?_) ?_
  · simp only [LV.begin, Nat.reduceLeDiff, ne_eq, not_false_eq_true, not_true_eq_false, Int.reduceLE, Int.reduceLT, Nat.zero_le, at_0, at_1, at_2, at_3, at_m1a, at_m1b, at_m1c, at_m1d, at_m2b, at_m2c, decide_true, eq_self, Int.reduceEq, true_and, and_true, false_and, and_false, or_false, false_or, Int.reduceNeg, gIx, decide_false, Bool.and_true, Bool.true_and, Bool.or_true, wSeq, wSet, wAsg, wPar, wIf, wIfS, wTst, LV.wTru, LV.wNot, wAnd, wOr, wAndV, wOrV, wNotV, wOp, wUn, wV, wC, fCI, fAdd, fSub, fMul, fDiv, fMod, fPow, fNeg, fIx, fIs, fIsNot, fEq, fNe, fLt, fLe, fGt, fGe, wCB, wCons, wNil, w1, wApp, wIsi, isiB, bagD, isNonD, fLen, fAbs, fInt, fGcd, fList, fTuple, fRepr, fLz, fLen0, fLrv, fSum, fMax, fMin, fAll, fAny, seqD, rdL, rdW, fzL, fzW, unL, putS, RV.sl, wRet, wRetN, wNever, wNext, wDrop, wTup, wLst, outW, placeW, gN, gTu, gCo, gNi, wFor, zSeq, zr_0, zr_1, zr_2, zr_3, zr_4, nc_0, nc_1, nc_2, nc_3, nc_4, zEnum, zZip, zZip3, ixD, tru, wCall, wCallK, wApp, wAppend, wPopAt, wExtend, wChainE, fIn, fBits, fFac, fComb, fRngL1, fRngL2, owW, wSl, fSl, wONone, wOSome, wLc, wYes, List.map, List.replicate, List.length, List.append, List.set, List.take, List.drop, List.getLast?, List.dropLast, List.filterMap, List.getElem?_cons_zero, List.getElem?_cons_succ, List.getElem?_nil, Nat.reduceAdd, Nat.reduceSub, Nat.reduceLT, List.cons_append, List.nil_append, Option.some.injEq, reduceCtorEq, reduceIte, Bool.not_true, Bool.not_false, Bool.false_eq_true, List.isEmpty]
    have e1 : [D.tup [.int 1, .int 1], .tup [.int (-1), .int 1], .tup [.int 1, .int 2], .tup [.int (-1), .int 2], .tup [.int (-2), .int 1], .tup [.int 0, .int 1]] = [1, -1, 1 / 2, -1 / 2, -2, 0].map fQ := by kernel_rfl
    rw [e1]
    refine ⟨_, rfl, List.cons_ne_nil _ _, by simp, fun x hx => ?_⟩
    obtain ⟨q, rfl, zq⟩ := pick_fr (by decide +kernel) hx
    exact hn _ ⟨q, zq, rfl⟩
  rintro s ⟨f, zf, rfl⟩
  refine seq_cut (fun s => ∃ f : Rat, Sm3 f ∧ s = [.sh (.bag 1), .sh (.int (k : Nat)), .sh (.int (kind : Nat)), .ow (a.map fQ), .ow (b.map fQ), .sh (rlD d e), .sh (fQ f), .un, .un, .un]) (fun nx hn => ?_) ?_
  · by_cases h1 : (0 : Int) < (kind : Int)
    · by_cases h2 : (kind : Int) = 1
      · simp only [LV.begin, Nat.reduceLeDiff, ne_eq, not_false_eq_true, not_true_eq_false, Int.reduceLE, Int.reduceLT, Nat.zero_le, at_0, at_1, at_2, at_3, at_m1a, at_m1b, at_m1c, at_m1d, at_m2b, at_m2c, decide_true, eq_self, Int.reduceEq, true_and, and_true, false_and, and_false, or_false, false_or, Int.reduceNeg, gIx, decide_false, Bool.and_true, Bool.true_and, Bool.or_true, wSeq, wSet, wAsg, wPar, wIf, wIfS, wTst, LV.wTru, LV.wNot, wAnd, wOr, wAndV, wOrV, wNotV, wOp, wUn, wV, wC, fCI, fAdd, fSub, fMul, fDiv, fMod, fPow, fNeg, fIx, fIs, fIsNot, fEq, fNe, fLt, fLe, fGt, fGe, wCB, wCons, wNil, w1, wApp, wIsi, isiB, bagD, isNonD, fLen, fAbs, fInt, fGcd, fList, fTuple, fRepr, fLz, fLen0, fLrv, fSum, fMax, fMin, fAll, fAny, seqD, rdL, rdW, fzL, fzW, unL, putS, RV.sl, wRet, wRetN, wNever, wNext, wDrop, wTup, wLst, outW, placeW, gN, gTu, gCo, gNi, wFor, zSeq, zr_0, zr_1, zr_2, zr_3, zr_4, nc_0, nc_1, nc_2, nc_3, nc_4, zEnum, zZip, zZip3, ixD, tru, wCall, wCallK, wApp, wAppend, wPopAt, wExtend, wChainE, fIn, fBits, fFac, fComb, fRngL1, fRngL2, owW, wSl, fSl, wONone, wOSome, wLc, wYes, List.map, List.replicate, List.length, List.append, List.set, List.take, List.drop, List.getLast?, List.dropLast, List.filterMap, List.getElem?_cons_zero, List.getElem?_cons_succ, List.getElem?_nil, Nat.reduceAdd, Nat.reduceSub, Nat.reduceLT, List.cons_append, List.nil_append, Option.some.injEq, reduceCtorEq, reduceIte, Bool.not_true, Bool.not_false, Bool.false_eq_true, List.isEmpty, F__law_some_fraction, h2]
        refine ⟨12, rfl, by omega, by omega, fun q q1 q2 => ?_⟩
        exact hn _ ⟨q, ⟨by omega, by omega⟩, by simp only [h2]⟩
      · simp only [LV.begin, Nat.reduceLeDiff, ne_eq, not_false_eq_true, not_true_eq_false, Int.reduceLE, Int.reduceLT, Nat.zero_le, at_0, at_1, at_2, at_3, at_m1a, at_m1b, at_m1c, at_m1d, at_m2b, at_m2c, decide_true, eq_self, Int.reduceEq, true_and, and_true, false_and, and_false, or_false, false_or, Int.reduceNeg, gIx, decide_false, Bool.and_true, Bool.true_and, Bool.or_true, wSeq, wSet, wAsg, wPar, wIf, wIfS, wTst, LV.wTru, LV.wNot, wAnd, wOr, wAndV, wOrV, wNotV, wOp, wUn, wV, wC, fCI, fAdd, fSub, fMul, fDiv, fMod, fPow, fNeg, fIx, fIs, fIsNot, fEq, fNe, fLt, fLe, fGt, fGe, wCB, wCons, wNil, w1, wApp, wIsi, isiB, bagD, isNonD, fLen, fAbs, fInt, fGcd, fList, fTuple, fRepr, fLz, fLen0, fLrv, fSum, fMax, fMin, fAll, fAny, seqD, rdL, rdW, fzL, fzW, unL, putS, RV.sl, wRet, wRetN, wNever, wNext, wDrop, wTup, wLst, outW, placeW, gN, gTu, gCo, gNi, wFor, zSeq, zr_0, zr_1, zr_2, zr_3, zr_4, nc_0, nc_1, nc_2, nc_3, nc_4, zEnum, zZip, zZip3, ixD, tru, wCall, wCallK, wApp, wAppend, wPopAt, wExtend, wChainE, fIn, fBits, fFac, fComb, fRngL1, fRngL2, owW, wSl, fSl, wONone, wOSome, wLc, wYes, List.map, List.replicate, List.length, List.append, List.set, List.take, List.drop, List.getLast?, List.dropLast, List.filterMap, List.getElem?_cons_zero, List.getElem?_cons_succ, List.getElem?_nil, Nat.reduceAdd, Nat.reduceSub, Nat.reduceLT, List.cons_append, List.nil_append, Option.some.injEq, reduceCtorEq, reduceIte, Bool.not_true, Bool.not_false, Bool.false_eq_true, List.isEmpty, F__law_some_fraction, decide_eq_true h1, decide_eq_false h2]
        refine ⟨1000, rfl, by omega, by omega, fun q q1 q2 => ?_⟩
        exact hn _ ⟨q, ⟨by omega, by omega⟩, rfl⟩
    · simp only [LV.begin, Nat.reduceLeDiff, ne_eq, not_false_eq_true, not_true_eq_false, Int.reduceLE, Int.reduceLT, Nat.zero_le, at_0, at_1, at_2, at_3, at_m1a, at_m1b, at_m1c, at_m1d, at_m2b, at_m2c, decide_true, eq_self, Int.reduceEq, true_and, and_true, false_and, and_false, or_false, false_or, Int.reduceNeg, gIx, decide_false, Bool.and_true, Bool.true_and, Bool.or_true, wSeq, wSet, wAsg, wPar, wIf, wIfS, wTst, LV.wTru, LV.wNot, wAnd, wOr, wAndV, wOrV, wNotV, wOp, wUn, wV, wC, fCI, fAdd, fSub, fMul, fDiv, fMod, fPow, fNeg, fIx, fIs, fIsNot, fEq, fNe, fLt, fLe, fGt, fGe, wCB, wCons, wNil, w1, wApp, wIsi, isiB, bagD, isNonD, fLen, fAbs, fInt, fGcd, fList, fTuple, fRepr, fLz, fLen0, fLrv, fSum, fMax, fMin, fAll, fAny, seqD, rdL, rdW, fzL, fzW, unL, putS, RV.sl, wRet, wRetN, wNever, wNext, wDrop, wTup, wLst, outW, placeW, gN, gTu, gCo, gNi, wFor, zSeq, zr_0, zr_1, zr_2, zr_3, zr_4, nc_0, nc_1, nc_2, nc_3, nc_4, zEnum, zZip, zZip3, ixD, tru, wCall, wCallK, wApp, wAppend, wPopAt, wExtend, wChainE, fIn, fBits, fFac, fComb, fRngL1, fRngL2, owW, wSl, fSl, wONone, wOSome, wLc, wYes, List.map, List.replicate, List.length, List.append, List.set, List.take, List.drop, List.getLast?, List.dropLast, List.filterMap, List.getElem?_cons_zero, List.getElem?_cons_succ, List.getElem?_nil, Nat.reduceAdd, Nat.reduceSub, Nat.reduceLT, List.cons_append, List.nil_append, Option.some.injEq, reduceCtorEq, reduceIte, Bool.not_true, Bool.not_false, Bool.false_eq_true, List.isEmpty, decide_eq_false h1]
      exact hn _ ⟨f, zf, rfl⟩
  clear zf
  rintro s ⟨f, zf, rfl⟩
  refine seq_cut (fun s => ∃ m : Nat, 1 ≤ m ∧ m ≤ 6 ∧ s = [.sh (.bag 1), .sh (.int (k : Nat)), .sh (.int (kind : Nat)), .ow (a.map fQ), .ow (b.map fQ), .sh (rlD d e), .sh (fQ f), .sh (.int (m : Nat)), .un, .un]) (fun nx hn => ?_) ?_
  · simp only [LV.begin, Nat.reduceLeDiff, ne_eq, not_false_eq_true, not_true_eq_false, Int.reduceLE, Int.reduceLT, Nat.zero_le, at_0, at_1, at_2, at_3, at_m1a, at_m1b, at_m1c, at_m1d, at_m2b, at_m2c, decide_true, eq_self, Int.reduceEq, true_and, and_true, false_and, and_false, or_false, false_or, Int.reduceNeg, gIx, decide_false, Bool.and_true, Bool.true_and, Bool.or_true, wSeq, wSet, wAsg, wPar, wIf, wIfS, wTst, LV.wTru, LV.wNot, wAnd, wOr, wAndV, wOrV, wNotV, wOp, wUn, wV, wC, fCI, fAdd, fSub, fMul, fDiv, fMod, fPow, fNeg, fIx, fIs, fIsNot, fEq, fNe, fLt, fLe, fGt, fGe, wCB, wCons, wNil, w1, wApp, wIsi, isiB, bagD, isNonD, fLen, fAbs, fInt, fGcd, fList, fTuple, fRepr, fLz, fLen0, fLrv, fSum, fMax, fMin, fAll, fAny, seqD, rdL, rdW, fzL, fzW, unL, putS, RV.sl, wRet, wRetN, wNever, wNext, wDrop, wTup, wLst, outW, placeW, gN, gTu, gCo, gNi, wFor, zSeq, zr_0, zr_1, zr_2, zr_3, zr_4, nc_0, nc_1, nc_2, nc_3, nc_4, zEnum, zZip, zZip3, ixD, tru, wCall, wCallK, wApp, wAppend, wPopAt, wExtend, wChainE, fIn, fBits, fFac, fComb, fRngL1, fRngL2, owW, wSl, fSl, wONone, wOSome, wLc, wYes, List.map, List.replicate, List.length, List.append, List.set, List.take, List.drop, List.getLast?, List.dropLast, List.filterMap, List.getElem?_cons_zero, List.getElem?_cons_succ, List.getElem?_nil, Nat.reduceAdd, Nat.reduceSub, Nat.reduceLT, List.cons_append, List.nil_append, Option.some.injEq, reduceCtorEq, reduceIte, Bool.not_true, Bool.not_false, Bool.false_eq_true, List.isEmpty, FDraw]
    refine ⟨6, rfl, by omega, log_small (by omega) (by omega), fun r h5 h6 => hn _ ⟨(1 + r).toNat, by omega, by omega, ?_⟩⟩
    rw [show (((1 + r).toNat : Nat) : Int) = 1 + r by omega]
  rintro s ⟨m, m1, m6, rfl⟩
  refine seq_cut (fun s => ∃ l : List Rat, l.length = k ∧ (∀ x ∈ l, Sm3 x) ∧ s = [.sh (.bag 1), .sh (.int (k : Nat)), .sh (.int (kind : Nat)), .ow (a.map fQ), .ow (b.map fQ), .sh (rlD d e), .sh (fQ f), .sh (.int (m : Nat)), .sh (tQ l), .un]) (fun nx hn => ?_) ?_
  · simp only [LV.begin, Nat.reduceLeDiff, ne_eq, not_false_eq_true, not_true_eq_false, Int.reduceLE, Int.reduceLT, Nat.zero_le, at_0, at_1, at_2, at_3, at_m1a, at_m1b, at_m1c, at_m1d, at_m2b, at_m2c, decide_true, eq_self, Int.reduceEq, true_and, and_true, false_and, and_false, or_false, false_or, Int.reduceNeg, gIx, decide_false, Bool.and_true, Bool.true_and, Bool.or_true, wSeq, wSet, wAsg, wPar, wIf, wIfS, wTst, LV.wTru, LV.wNot, wAnd, wOr, wAndV, wOrV, wNotV, wOp, wUn, wV, wC, fCI, fAdd, fSub, fMul, fDiv, fMod, fPow, fNeg, fIx, fIs, fIsNot, fEq, fNe, fLt, fLe, fGt, fGe, wCB, wCons, wNil, w1, wApp, wIsi, isiB, bagD, isNonD, fLen, fAbs, fInt, fGcd, fList, fTuple, fRepr, fLz, fLen0, fLrv, fSum, fMax, fMin, fAll, fAny, seqD, rdL, rdW, fzL, fzW, unL, putS, RV.sl, wRet, wRetN, wNever, wNext, wDrop, wTup, wLst, outW, placeW, gN, gTu, gCo, gNi, wFor, zSeq, zr_0, zr_1, zr_2, zr_3, zr_4, nc_0, nc_1, nc_2, nc_3, nc_4, zEnum, zZip, zZip3, ixD, tru, wCall, wCallK, wApp, wAppend, wPopAt, wExtend, wChainE, fIn, fBits, fFac, fComb, fRngL1, fRngL2, owW, wSl, fSl, wONone, wOSome, wLc, wYes, List.map, List.replicate, List.length, List.append, List.set, List.take, List.drop, List.getLast?, List.dropLast, List.filterMap, List.getElem?_cons_zero, List.getElem?_cons_succ, List.getElem?_nil, Nat.reduceAdd, Nat.reduceSub, Nat.reduceLT, List.cons_append, List.nil_append, Option.some.injEq, reduceCtorEq, reduceIte, Bool.not_true, Bool.not_false, Bool.false_eq_true, List.isEmpty]
    refine ⟨_, zrng1 k rfl (by omega), ?_⟩
    refine lcL (fun (k : Nat) => D.int (0 + (k : Int))) (fun done rest acc s => done ++ rest = List.range k ∧ ∃ l : List Rat, acc = l.map fQ ∧ l.length = done.length ∧ (∀ x ∈ l, Sm3 x) ∧ s = [.sh (.bag 1), .sh (.int (k : Nat)), .sh (.int (kind : Nat)), .ow (a.map fQ), .ow (b.map fQ), .sh (rlD d e), .sh (fQ f), .sh (.int (m : Nat)), .un, .un]) ?_ ?_ (List.range k) [] [] _ ⟨rfl, [], rfl, rfl, (fun _ h => nomatch h), rfl⟩
    · rintro done j rest acc s nx2 ⟨e2, l, rfl, hl, hz, rfl⟩ hn2
      obtain ⟨hj, hj2, _, _⟩ := rng_len e2
      refine ⟨?_, by rw [List.length_map]; omega, rfl, ?_⟩
      · rfl
      · simp only [wipeS, LV.begin, Nat.reduceLeDiff, ne_eq, not_false_eq_true, not_true_eq_false, Int.reduceLE, Int.reduceLT, Nat.zero_le, at_0, at_1, at_2, at_3, at_m1a, at_m1b, at_m1c, at_m1d, at_m2b, at_m2c, decide_true, eq_self, Int.reduceEq, true_and, and_true, false_and, and_false, or_false, false_or, Int.reduceNeg, gIx, decide_false, Bool.and_true, Bool.true_and, Bool.or_true, wSeq, wSet, wAsg, wPar, wIf, wIfS, wTst, LV.wTru, LV.wNot, wAnd, wOr, wAndV, wOrV, wNotV, wOp, wUn, wV, wC, fCI, fAdd, fSub, fMul, fDiv, fMod, fPow, fNeg, fIx, fIs, fIsNot, fEq, fNe, fLt, fLe, fGt, fGe, wCB, wCons, wNil, w1, wApp, wIsi, isiB, bagD, isNonD, fLen, fAbs, fInt, fGcd, fList, fTuple, fRepr, fLz, fLen0, fLrv, fSum, fMax, fMin, fAll, fAny, seqD, rdL, rdW, fzL, fzW, unL, putS, RV.sl, wRet, wRetN, wNever, wNext, wDrop, wTup, wLst, outW, placeW, gN, gTu, gCo, gNi, wFor, zSeq, zr_0, zr_1, zr_2, zr_3, zr_4, nc_0, nc_1, nc_2, nc_3, nc_4, zEnum, zZip, zZip3, ixD, tru, wCall, wCallK, wApp, wAppend, wPopAt, wExtend, wChainE, fIn, fBits, fFac, fComb, fRngL1, fRngL2, owW, wSl, fSl, wONone, wOSome, wLc, wYes, List.map, List.replicate, List.length, List.append, List.set, List.take, List.drop, List.getLast?, List.dropLast, List.filterMap, List.getElem?_cons_zero, List.getElem?_cons_succ, List.getElem?_nil, Nat.reduceAdd, Nat.reduceSub, Nat.reduceLT, List.cons_append, List.nil_append, Option.some.injEq, reduceCtorEq, reduceIte, Bool.not_true, Bool.not_false, Bool.false_eq_true, List.isEmpty, F__law_some_fraction]
        have hx : ∃ M : Nat, atI [D.int 3, .int 12, .int 1000] (kind : Int) = some (.int (M : Nat)) ∧ 1 ≤ M ∧ M ≤ 1000 := by
          have : kind = 0 ∨ kind = 1 ∨ kind = 2 := by omega
          rcases this with rfl | rfl | rfl
          · exact ⟨3, rfl, by omega, by omega⟩
          · exact ⟨12, rfl, by omega, by omega⟩
          · exact ⟨1000, rfl, by omega, by omega⟩
        obtain ⟨M, eM, M1, M2⟩ := hx
        simp only [eM]
        refine ⟨M, rfl, M1, M2, fun q q1 q2 => ?_⟩
        refine hn2 _ [.sh (.bag 1), .sh (.int (k : Nat)), .sh (.int (kind : Nat)), .ow (a.map fQ), .ow (b.map fQ), .sh (rlD d e), .sh (fQ f), .sh (.int (m : Nat)), .un, .un] ⟨by simpa using e2, l ++ [q], by rw [List.map_append]; rfl, by simp [hl], fun x hx => ?_, rfl⟩
        rcases List.mem_append.mp hx with h | h
        · exact hz x h
        · rw [List.mem_singleton.mp h]
          exact ⟨by omega, by omega⟩
    · rintro done acc s ⟨e2, l, rfl, hl, hz, rfl⟩
      rw [List.append_nil] at e2
      subst e2
      rw [List.length_range] at hl
      refine ⟨rfl, ?_⟩
      simp only [LV.begin, Nat.reduceLeDiff, ne_eq, not_false_eq_true, not_true_eq_false, Int.reduceLE, Int.reduceLT, Nat.zero_le, at_0, at_1, at_2, at_3, at_m1a, at_m1b, at_m1c, at_m1d, at_m2b, at_m2c, decide_true, eq_self, Int.reduceEq, true_and, and_true, false_and, and_false, or_false, false_or, Int.reduceNeg, gIx, decide_false, Bool.and_true, Bool.true_and, Bool.or_true, wSeq, wSet, wAsg, wPar, wIf, wIfS, wTst, LV.wTru, LV.wNot, wAnd, wOr, wAndV, wOrV, wNotV, wOp, wUn, wV, wC, fCI, fAdd, fSub, fMul, fDiv, fMod, fPow, fNeg, fIx, fIs, fIsNot, fEq, fNe, fLt, fLe, fGt, fGe, wCB, wCons, wNil, w1, wApp, wIsi, isiB, bagD, isNonD, fLen, fAbs, fInt, fGcd, fList, fTuple, fRepr, fLz, fLen0, fLrv, fSum, fMax, fMin, fAll, fAny, seqD, rdL, rdW, fzL, fzW, unL, putS, RV.sl, wRet, wRetN, wNever, wNext, wDrop, wTup, wLst, outW, placeW, gN, gTu, gCo, gNi, wFor, zSeq, zr_0, zr_1, zr_2, zr_3, zr_4, nc_0, nc_1, nc_2, nc_3, nc_4, zEnum, zZip, zZip3, ixD, tru, wCall, wCallK, wApp, wAppend, wPopAt, wExtend, wChainE, fIn, fBits, fFac, fComb, fRngL1, fRngL2, owW, wSl, fSl, wONone, wOSome, wLc, wYes, List.map, List.replicate, List.length, List.append, List.set, List.take, List.drop, List.getLast?, List.dropLast, List.filterMap, List.getElem?_cons_zero, List.getElem?_cons_succ, List.getElem?_nil, Nat.reduceAdd, Nat.reduceSub, Nat.reduceLT, List.cons_append, List.nil_append, Option.some.injEq, reduceCtorEq, reduceIte, Bool.not_true, Bool.not_false, Bool.false_eq_true, List.isEmpty]
      exact hn _ ⟨l, hl, hz, rfl⟩
  rintro s ⟨l, hl, hz, rfl⟩
  simp only [LV.begin, Nat.reduceLeDiff, ne_eq, not_false_eq_true, not_true_eq_false, Int.reduceLE, Int.reduceLT, Nat.zero_le, at_0, at_1, at_2, at_3, at_m1a, at_m1b, at_m1c, at_m1d, at_m2b, at_m2c, decide_true, eq_self, Int.reduceEq, true_and, and_true, false_and, and_false, or_false, false_or, Int.reduceNeg, gIx, decide_false, Bool.and_true, Bool.true_and, Bool.or_true, wSeq, wSet, wAsg, wPar, wIf, wIfS, wTst, LV.wTru, LV.wNot, wAnd, wOr, wAndV, wOrV, wNotV, wOp, wUn, wV, wC, fCI, fAdd, fSub, fMul, fDiv, fMod, fPow, fNeg, fIx, fIs, fIsNot, fEq, fNe, fLt, fLe, fGt, fGe, wCB, wCons, wNil, w1, wApp, wIsi, isiB, bagD, isNonD, fLen, fAbs, fInt, fGcd, fList, fTuple, fRepr, fLz, fLen0, fLrv, fSum, fMax, fMin, fAll, fAny, seqD, rdL, rdW, fzL, fzW, unL, putS, RV.sl, wRet, wRetN, wNever, wNext, wDrop, wTup, wLst, outW, placeW, gN, gTu, gCo, gNi, wFor, zSeq, zr_0, zr_1, zr_2, zr_3, zr_4, nc_0, nc_1, nc_2, nc_3, nc_4, zEnum, zZip, zZip3, ixD, tru, wCall, wCallK, wApp, wAppend, wPopAt, wExtend, wChainE, fIn, fBits, fFac, fComb, fRngL1, fRngL2, owW, wSl, fSl, wONone, wOSome, wLc, wYes, List.map, List.replicate, List.length, List.append, List.set, List.take, List.drop, List.getLast?, List.dropLast, List.filterMap, List.getElem?_cons_zero, List.getElem?_cons_succ, List.getElem?_nil, Nat.reduceAdd, Nat.reduceSub, Nat.reduceLT, List.cons_append, List.nil_append, Option.some.injEq, reduceCtorEq, reduceIte, Bool.not_true, Bool.not_false, Bool.false_eq_true, List.isEmpty]
  exact hq d e a b f m l ⟨by omega, by omega, by omega, by omega, by omega, by omega, a0, d0, e0, za, zb, zd, ze, zf⟩ m1 m6 hz
theorem lcm_div2 (a b : Nat) : (((a : Int).fdiv ((Nat.gcd a b : Nat) : Int)) * (b : Int)) = ((Nat.lcm a b : Nat) : Int) := by
  rw [fdiv_nat]
  have h : a / Nat.gcd a b * b = Nat.lcm a b := by
    obtain ⟨k, hk⟩ := Nat.gcd_dvd_left a b
    by_cases h0 : Nat.gcd a b = 0
    · have : a = 0 := by rw [h0] at hk; omega
      subst this
      simp [Nat.lcm]
    · have hp := Nat.pos_of_ne_zero h0
      have e1 : a / Nat.gcd a b = k := by
        conv => lhs; arg 1; rw [hk]
        exact Nat.mul_div_cancel_left k hp
      rw [e1]
      unfold Nat.lcm
      have e2 : a * b = Nat.gcd a b * (k * b) := by
        conv => lhs; rw [hk]
        rw [Nat.mul_assoc]
      rw [e2, Nat.mul_div_cancel_left _ hp]
  exact_mod_cast h
/-- the loop to the integer below -/
theorem low_loop {K : LK} {l : List Rat} {d : Sl} {wb : WS} (hc : Cd 8900 l)
    (hb : ∀ (b : Nat) (y : Rat) (x : Sl) (K : LK), y ∈ l → b < 2 ^ 8900 → K.nx [d, .sh (.int ((Nat.lcm b y.den : Nat) : Int)), .sh (fQ y)] → wb K [d, .sh (.int ((b : Nat) : Int)), .sh (fQ y)])
    (hn : ∀ x, notOw x = true → K.nx [d, .sh (.int ((wB l : Nat) : Int)), x]) : wForL (gN 2) wb K (l.map fQ) [d, .sh (.int ((1 : Nat) : Int)), .un] := by
  have hB := nat_sm hc.1
  refine forL fQ (fun done rest s => done ++ rest = l ∧ ∃ b x, notOw x = true ∧ wBf b rest = wB l ∧ s = [d, .sh (.int ((b : Nat) : Int)), x]) ?_ ?_ l [] _ ⟨rfl, 1, .un, rfl, by rw [wBf_eq]; simp, rfl⟩
  · rintro done y rest s nx2 ⟨e, b, x, _, hw, rfl⟩ hnx
    have hy : y ∈ l := by rw [← e]; simp
    have hb' : b ∣ wB l := by rw [← hw, wBf_eq]; exact Nat.dvd_lcm_left _ _
    have hbB := Nat.le_of_dvd (wB_pos l) hb'
    exact hb b y x _ hy (by omega) (hnx _ ⟨by simpa using e, Nat.lcm b y.den, .sh (fQ y), rfl, by simpa [wBf] using hw, rfl⟩)
  · rintro done s ⟨e, b, x, hx, hw, rfl⟩
    have : b = wB l := by rw [← hw]; rfl
    rw [this]
    exact hn x hx
theorem cd_sub {l : List Rat} {y : Rat} (hc : Cd 8900 l) (hy : y ∈ l) : sm 8900 y.num ∧ y.den < 2 ^ 8900 ∧ wB l / y.den < 2 ^ 8900 := by
  have hB := nat_sm hc.1
  have hd := wB_dvd hy
  have hyd := Nat.pos_of_ne_zero y.den_nz
  have hyB := Nat.le_of_dvd (wB_pos l) hd
  have h1 := hc.2 y hy
  refine ⟨h1.le ?_, by omega, Nat.lt_of_le_of_lt (Nat.div_le_self _ _) hB⟩
  unfold wN
  rw [Int.natAbs_mul, Int.natAbs_natCast]
  have : 0 < wB l / y.den := Nat.div_pos hyB hyd
  exact Nat.le_mul_of_pos_right _ this
theorem gcdN (a b : Nat) : ((Int.gcd (a : Int) (b : Int) : Nat) : Int) = ((Nat.gcd a b : Nat) : Int) := rfl
theorem p__law_whole {K : PySem.W.Frag} : ∀ ds Qf, F__law_whole ds Qf → ds.length = 1 ∧ W__law_whole K { nx := fun _ => Qf (.sh .non), rt := Qf } (begin 3 ds) := by
  intro ds Qf h
  obtain ⟨a, b, rfl, hl, hz, hq⟩ := h
  refine ⟨rfl, ?_⟩
  have hc : Cd 8900 (a ++ b) := Cd.of hz (by rw [List.length_append]; omega)
  have hB := nat_sm hc.1
  unfold W__law_whole
  refine seq_cut (fun s => s = [.sh (rlD a b), .sh (.int ((1 : Nat) : Int)), .un]) (fun nx hn => by simp only [LV.begin, at_0, at_1, at_2, at_3, at_m1a, at_m1b, at_m1c, at_m1d, at_m2b, at_m2c, decide_true, eq_self, Int.reduceEq, true_and, and_true, false_and, and_false, or_false, false_or, Int.reduceNeg, gIx, decide_false, Bool.and_true, Bool.true_and, Bool.or_true, wSeq, wSet, wAsg, wPar, wIf, wIfS, wTst, LV.wTru, LV.wNot, wAnd, wOr, wAndV, wOrV, wNotV, wOp, wUn, wV, wC, fCI, fAdd, fSub, fMul, fDiv, fMod, fPow, fNeg, fIx, fIs, fIsNot, fEq, fNe, fLt, fLe, fGt, fGe, wCB, wCons, wNil, w1, wApp, wIsi, isiB, bagD, isNonD, fLen, fAbs, fInt, fGcd, fList, fTuple, fRepr, fLz, fLen0, fLrv, fSum, fMax, fMin, fAll, fAny, seqD, rdL, rdW, fzL, fzW, unL, putS, RV.sl, wRet, wRetN, wNever, wNext, wDrop, wTup, wLst, outW, placeW, gN, gTu, gCo, gNi, wFor, zSeq, zr_0, zr_1, zr_2, zr_3, zr_4, nc_0, nc_1, nc_2, nc_3, nc_4, zEnum, zZip, zZip3, ixD, tru, wCall, wCallK, wApp, wAppend, wPopAt, wExtend, wChainE, fIn, fBits, fFac, fComb, fRngL1, fRngL2, owW, wSl, fSl, wONone, wOSome, wLc, wYes, List.map, List.replicate, List.length, List.append, List.set, List.take, List.drop, List.getLast?, List.dropLast, List.filterMap, List.getElem?_cons_zero, List.getElem?_cons_succ, List.getElem?_nil, Nat.reduceAdd, Nat.reduceSub, Nat.reduceLT, List.cons_append, List.nil_append, Option.some.injEq, reduceCtorEq, reduceIte, Bool.not_true, Bool.not_false, Bool.false_eq_true, List.isEmpty]; exact hn _ rfl) ?_
  rintro s rfl
  refine seq_cut (fun s => ∃ x, notOw x = true ∧ s = [.sh (rlD a b), .sh (.int ((wB (a ++ b) : Nat) : Int)), x]) (fun nx hn => ?_) ?_
  · simp only [LV.begin, at_0, at_1, at_2, at_3, at_m1a, at_m1b, at_m1c, at_m1d, at_m2b, at_m2c, decide_true, eq_self, Int.reduceEq, true_and, and_true, false_and, and_false, or_false, false_or, Int.reduceNeg, gIx, decide_false, Bool.and_true, Bool.true_and, Bool.or_true, wSeq, wSet, wAsg, wPar, wIf, wIfS, wTst, LV.wTru, LV.wNot, wAnd, wOr, wAndV, wOrV, wNotV, wOp, wUn, wV, wC, fCI, fAdd, fSub, fMul, fDiv, fMod, fPow, fNeg, fIx, fIs, fIsNot, fEq, fNe, fLt, fLe, fGt, fGe, wCB, wCons, wNil, w1, wApp, wIsi, isiB, bagD, isNonD, fLen, fAbs, fInt, fGcd, fList, fTuple, fRepr, fLz, fLen0, fLrv, fSum, fMax, fMin, fAll, fAny, seqD, rdL, rdW, fzL, fzW, unL, putS, RV.sl, wRet, wRetN, wNever, wNext, wDrop, wTup, wLst, outW, placeW, gN, gTu, gCo, gNi, wFor, zSeq, zr_0, zr_1, zr_2, zr_3, zr_4, nc_0, nc_1, nc_2, nc_3, nc_4, zEnum, zZip, zZip3, ixD, tru, wCall, wCallK, wApp, wAppend, wPopAt, wExtend, wChainE, fIn, fBits, fFac, fComb, fRngL1, fRngL2, owW, wSl, fSl, wONone, wOSome, wLc, wYes, List.map, List.replicate, List.length, List.append, List.set, List.take, List.drop, List.getLast?, List.dropLast, List.filterMap, List.getElem?_cons_zero, List.getElem?_cons_succ, List.getElem?_nil, Nat.reduceAdd, Nat.reduceSub, Nat.reduceLT, List.cons_append, List.nil_append, Option.some.injEq, reduceCtorEq, reduceIte, Bool.not_true, Bool.not_false, Bool.false_eq_true, List.isEmpty, rlD, tQ]
    have ea : a.map fQ ++ b.map fQ = (a ++ b).map fQ := by rw [List.map_append]
    rw [ea]
    refine ⟨by rw [sizeLine_eq, List.length_map, List.length_map]; omega, _, rfl, ?_⟩
    refine low_loop hc (fun c y x K hy hc' hn2 => ?_) fun x hx => hn _ ⟨x, hx, rfl⟩
    obtain ⟨h1, h2, h3⟩ := cd_sub hc hy
    have hg : 0 < Nat.gcd c y.den := Nat.gcd_pos_of_pos_right _ (Nat.pos_of_ne_zero y.den_nz)
    have hgy : Nat.gcd c y.den ≤ y.den := Nat.le_of_dvd (Nat.pos_of_ne_zero y.den_nz) (Nat.gcd_dvd_right _ _)
    simp only [LV.begin, at_0, at_1, at_2, at_3, at_m1a, at_m1b, at_m1c, at_m1d, at_m2b, at_m2c, decide_true, eq_self, Int.reduceEq, true_and, and_true, false_and, and_false, or_false, false_or, Int.reduceNeg, gIx, decide_false, Bool.and_true, Bool.true_and, Bool.or_true, wSeq, wSet, wAsg, wPar, wIf, wIfS, wTst, LV.wTru, LV.wNot, wAnd, wOr, wAndV, wOrV, wNotV, wOp, wUn, wV, wC, fCI, fAdd, fSub, fMul, fDiv, fMod, fPow, fNeg, fIx, fIs, fIsNot, fEq, fNe, fLt, fLe, fGt, fGe, wCB, wCons, wNil, w1, wApp, wIsi, isiB, bagD, isNonD, fLen, fAbs, fInt, fGcd, fList, fTuple, fRepr, fLz, fLen0, fLrv, fSum, fMax, fMin, fAll, fAny, seqD, rdL, rdW, fzL, fzW, unL, putS, RV.sl, wRet, wRetN, wNever, wNext, wDrop, wTup, wLst, outW, placeW, gN, gTu, gCo, gNi, wFor, zSeq, zr_0, zr_1, zr_2, zr_3, zr_4, nc_0, nc_1, nc_2, nc_3, nc_4, zEnum, zZip, zZip3, ixD, tru, wCall, wCallK, wApp, wAppend, wPopAt, wExtend, wChainE, fIn, fBits, fFac, fComb, fRngL1, fRngL2, owW, wSl, fSl, wONone, wOSome, wLc, wYes, List.map, List.replicate, List.length, List.append, List.set, List.take, List.drop, List.getLast?, List.dropLast, List.filterMap, List.getElem?_cons_zero, List.getElem?_cons_succ, List.getElem?_nil, Nat.reduceAdd, Nat.reduceSub, Nat.reduceLT, List.cons_append, List.nil_append, Option.some.injEq, reduceCtorEq, reduceIte, Bool.not_true, Bool.not_false, Bool.false_eq_true, List.isEmpty, F__law_gcd, gcdN]
    refine ⟨(sm_nat (n := 8900) (by omega)).divA (by omega) (by omega), ?_, ?_⟩
    · rw [fdiv_nat]
      exact (sm_nat (n := 8900) (Nat.lt_of_le_of_lt (Nat.div_le_self _ _) hc')).mulW (sm_nat (n := 8900) h2) (by omega)
    · rw [lcm_div2]; exact hn2
  rintro s ⟨x, hx, rfl⟩
  have comp : ∀ (c : List Rat), (∀ y ∈ c, y ∈ a ++ b) → c.length ≤ 20 → ∀ (rs : List RV) (Q : RV → Sg → Prop), rdL [.sh (rlD a b), .sh (.int ((wB (a ++ b) : Nat) : Int)), x] rs (fun ds => ds = [tQ c]) → Q (.fr ((whL (wB (a ++ b)) c).map D.int)) [.sh (rlD a b), .sh (.int ((wB (a ++ b) : Nat) : Int)), x] →
      wLcL rs [tQ c] [2] (gN 2) wYes (wOp fMul (wOp fIx (wV 2) (wC (.int 0))) (wOp fDiv (wV 1) (wOp fIx (wV 2) (wC (.int 1))))) Q (c.map fQ) [] [.sh (rlD a b), .sh (.int ((wB (a ++ b) : Nat) : Int)), x] := by
    intro c hcm hcl rs Q hr hQ
    refine lcMap fQ (fun y => D.int (wN (wB (a ++ b)) y)) c hr (by omega) (by simp [hx]) (fun y hy R hR => ?_) ?_
    · obtain ⟨h1, h2, h3⟩ := cd_sub hc (hcm y hy)
      have hyd := Nat.pos_of_ne_zero y.den_nz
      simp only [wipeS, LV.begin, at_0, at_1, at_2, at_3, at_m1a, at_m1b, at_m1c, at_m1d, at_m2b, at_m2c, decide_true, eq_self, Int.reduceEq, true_and, and_true, false_and, and_false, or_false, false_or, Int.reduceNeg, gIx, decide_false, Bool.and_true, Bool.true_and, Bool.or_true, wSeq, wSet, wAsg, wPar, wIf, wIfS, wTst, LV.wTru, LV.wNot, wAnd, wOr, wAndV, wOrV, wNotV, wOp, wUn, wV, wC, fCI, fAdd, fSub, fMul, fDiv, fMod, fPow, fNeg, fIx, fIs, fIsNot, fEq, fNe, fLt, fLe, fGt, fGe, wCB, wCons, wNil, w1, wApp, wIsi, isiB, bagD, isNonD, fLen, fAbs, fInt, fGcd, fList, fTuple, fRepr, fLz, fLen0, fLrv, fSum, fMax, fMin, fAll, fAny, seqD, rdL, rdW, fzL, fzW, unL, putS, RV.sl, wRet, wRetN, wNever, wNext, wDrop, wTup, wLst, outW, placeW, gN, gTu, gCo, gNi, wFor, zSeq, zr_0, zr_1, zr_2, zr_3, zr_4, nc_0, nc_1, nc_2, nc_3, nc_4, zEnum, zZip, zZip3, ixD, tru, wCall, wCallK, wApp, wAppend, wPopAt, wExtend, wChainE, fIn, fBits, fFac, fComb, fRngL1, fRngL2, owW, wSl, fSl, wONone, wOSome, wLc, wYes, List.map, List.replicate, List.length, List.append, List.set, List.take, List.drop, List.getLast?, List.dropLast, List.filterMap, List.getElem?_cons_zero, List.getElem?_cons_succ, List.getElem?_nil, Nat.reduceAdd, Nat.reduceSub, Nat.reduceLT, List.cons_append, List.nil_append, Option.some.injEq, reduceCtorEq, reduceIte, Bool.not_true, Bool.not_false, Bool.false_eq_true, List.isEmpty]
      refine ⟨(sm_nat (n := 8900) h2).divA (by omega) (by omega), ?_⟩
      rw [fdiv_nat]
      exact ⟨h1.mulW (sm_nat (n := 8900) h3) (by omega), hR _ rfl⟩
    · have e : (c.map fun y => D.int (wN (wB (a ++ b)) y)) = (whL (wB (a ++ b)) c).map D.int := by unfold whL; rw [List.map_map]; rfl
      rw [e]; exact hQ
  simp only [LV.begin, at_0, at_1, at_2, at_3, at_m1a, at_m1b, at_m1c, at_m1d, at_m2b, at_m2c, decide_true, eq_self, Int.reduceEq, true_and, and_true, false_and, and_false, or_false, false_or, Int.reduceNeg, gIx, decide_false, Bool.and_true, Bool.true_and, Bool.or_true, wSeq, wSet, wAsg, wPar, wIf, wIfS, wTst, LV.wTru, LV.wNot, wAnd, wOr, wAndV, wOrV, wNotV, wOp, wUn, wV, wC, fCI, fAdd, fSub, fMul, fDiv, fMod, fPow, fNeg, fIx, fIs, fIsNot, fEq, fNe, fLt, fLe, fGt, fGe, wCB, wCons, wNil, w1, wApp, wIsi, isiB, bagD, isNonD, fLen, fAbs, fInt, fGcd, fList, fTuple, fRepr, fLz, fLen0, fLrv, fSum, fMax, fMin, fAll, fAny, seqD, rdL, rdW, fzL, fzW, unL, putS, RV.sl, wRet, wRetN, wNever, wNext, wDrop, wTup, wLst, outW, placeW, gN, gTu, gCo, gNi, wFor, zSeq, zr_0, zr_1, zr_2, zr_3, zr_4, nc_0, nc_1, nc_2, nc_3, nc_4, zEnum, zZip, zZip3, ixD, tru, wCall, wCallK, wApp, wAppend, wPopAt, wExtend, wChainE, fIn, fBits, fFac, fComb, fRngL1, fRngL2, owW, wSl, fSl, wONone, wOSome, wLc, wYes, List.map, List.replicate, List.length, List.append, List.set, List.take, List.drop, List.getLast?, List.dropLast, List.filterMap, List.getElem?_cons_zero, List.getElem?_cons_succ, List.getElem?_nil, Nat.reduceAdd, Nat.reduceSub, Nat.reduceLT, List.cons_append, List.nil_append, Option.some.injEq, reduceCtorEq, reduceIte, Bool.not_true, Bool.not_false, Bool.false_eq_true, List.isEmpty, rlD, tQ]
  refine ⟨_, rfl, comp a (fun y hy => List.mem_append_left _ hy) (by omega) _ _ rfl ?_⟩
  simp only [LV.begin, at_0, at_1, at_2, at_3, at_m1a, at_m1b, at_m1c, at_m1d, at_m2b, at_m2c, decide_true, eq_self, Int.reduceEq, true_and, and_true, false_and, and_false, or_false, false_or, Int.reduceNeg, gIx, decide_false, Bool.and_true, Bool.true_and, Bool.or_true, wSeq, wSet, wAsg, wPar, wIf, wIfS, wTst, LV.wTru, LV.wNot, wAnd, wOr, wAndV, wOrV, wNotV, wOp, wUn, wV, wC, fCI, fAdd, fSub, fMul, fDiv, fMod, fPow, fNeg, fIx, fIs, fIsNot, fEq, fNe, fLt, fLe, fGt, fGe, wCB, wCons, wNil, w1, wApp, wIsi, isiB, bagD, isNonD, fLen, fAbs, fInt, fGcd, fList, fTuple, fRepr, fLz, fLen0, fLrv, fSum, fMax, fMin, fAll, fAny, seqD, rdL, rdW, fzL, fzW, unL, putS, RV.sl, wRet, wRetN, wNever, wNext, wDrop, wTup, wLst, outW, placeW, gN, gTu, gCo, gNi, wFor, zSeq, zr_0, zr_1, zr_2, zr_3, zr_4, nc_0, nc_1, nc_2, nc_3, nc_4, zEnum, zZip, zZip3, ixD, tru, wCall, wCallK, wApp, wAppend, wPopAt, wExtend, wChainE, fIn, fBits, fFac, fComb, fRngL1, fRngL2, owW, wSl, fSl, wONone, wOSome, wLc, wYes, List.map, List.replicate, List.length, List.append, List.set, List.take, List.drop, List.getLast?, List.dropLast, List.filterMap, List.getElem?_cons_zero, List.getElem?_cons_succ, List.getElem?_nil, Nat.reduceAdd, Nat.reduceSub, Nat.reduceLT, List.cons_append, List.nil_append, Option.some.injEq, reduceCtorEq, reduceIte, Bool.not_true, Bool.not_false, Bool.false_eq_true, List.isEmpty]
  refine ⟨_, rfl, comp b (fun y hy => List.mem_append_right _ hy) (by omega) _ _ rfl ?_⟩
  simp only [LV.begin, at_0, at_1, at_2, at_3, at_m1a, at_m1b, at_m1c, at_m1d, at_m2b, at_m2c, decide_true, eq_self, Int.reduceEq, true_and, and_true, false_and, and_false, or_false, false_or, Int.reduceNeg, gIx, decide_false, Bool.and_true, Bool.true_and, Bool.or_true, wSeq, wSet, wAsg, wPar, wIf, wIfS, wTst, LV.wTru, LV.wNot, wAnd, wOr, wAndV, wOrV, wNotV, wOp, wUn, wV, wC, fCI, fAdd, fSub, fMul, fDiv, fMod, fPow, fNeg, fIx, fIs, fIsNot, fEq, fNe, fLt, fLe, fGt, fGe, wCB, wCons, wNil, w1, wApp, wIsi, isiB, bagD, isNonD, fLen, fAbs, fInt, fGcd, fList, fTuple, fRepr, fLz, fLen0, fLrv, fSum, fMax, fMin, fAll, fAny, seqD, rdL, rdW, fzL, fzW, unL, putS, RV.sl, wRet, wRetN, wNever, wNext, wDrop, wTup, wLst, outW, placeW, gN, gTu, gCo, gNi, wFor, zSeq, zr_0, zr_1, zr_2, zr_3, zr_4, nc_0, nc_1, nc_2, nc_3, nc_4, zEnum, zZip, zZip3, ixD, tru, wCall, wCallK, wApp, wAppend, wPopAt, wExtend, wChainE, fIn, fBits, fFac, fComb, fRngL1, fRngL2, owW, wSl, fSl, wONone, wOSome, wLc, wYes, List.map, List.replicate, List.length, List.append, List.set, List.take, List.drop, List.getLast?, List.dropLast, List.filterMap, List.getElem?_cons_zero, List.getElem?_cons_succ, List.getElem?_nil, Nat.reduceAdd, Nat.reduceSub, Nat.reduceLT, List.cons_append, List.nil_append, Option.some.injEq, reduceCtorEq, reduceIte, Bool.not_true, Bool.not_false, Bool.false_eq_true, List.isEmpty]
  exact ⟨by decide, hq⟩
theorem p__law_begun {K : PySem.W.Frag} : ∀ ds Qf, F__law_begun ds Qf → ds.length = 1 ∧ W__law_begun K { nx := fun _ => Qf (.sh .non), rt := Qf } (begin 3 ds) := by
  intro ds Qf h
  obtain ⟨l, rfl, hl, hz, hq⟩ := h
  refine ⟨rfl, ?_⟩
  have hc : Cd 8900 l := Cd.of hz (by omega)
  have hB := nat_sm hc.1
  unfold W__law_begun
  refine seq_cut (fun s => s = [.sh (tQ l), .sh (.int ((1 : Nat) : Int)), .un]) (fun nx hn => by simp only [LV.begin, at_0, at_1, at_2, at_3, at_m1a, at_m1b, at_m1c, at_m1d, at_m2b, at_m2c, decide_true, eq_self, Int.reduceEq, true_and, and_true, false_and, and_false, or_false, false_or, Int.reduceNeg, gIx, decide_false, Bool.and_true, Bool.true_and, Bool.or_true, wSeq, wSet, wAsg, wPar, wIf, wIfS, wTst, LV.wTru, LV.wNot, wAnd, wOr, wAndV, wOrV, wNotV, wOp, wUn, wV, wC, fCI, fAdd, fSub, fMul, fDiv, fMod, fPow, fNeg, fIx, fIs, fIsNot, fEq, fNe, fLt, fLe, fGt, fGe, wCB, wCons, wNil, w1, wApp, wIsi, isiB, bagD, isNonD, fLen, fAbs, fInt, fGcd, fList, fTuple, fRepr, fLz, fLen0, fLrv, fSum, fMax, fMin, fAll, fAny, seqD, rdL, rdW, fzL, fzW, unL, putS, RV.sl, wRet, wRetN, wNever, wNext, wDrop, wTup, wLst, outW, placeW, gN, gTu, gCo, gNi, wFor, zSeq, zr_0, zr_1, zr_2, zr_3, zr_4, nc_0, nc_1, nc_2, nc_3, nc_4, zEnum, zZip, zZip3, ixD, tru, wCall, wCallK, wApp, wAppend, wPopAt, wExtend, wChainE, fIn, fBits, fFac, fComb, fRngL1, fRngL2, owW, wSl, fSl, wONone, wOSome, wLc, wYes, List.map, List.replicate, List.length, List.append, List.set, List.take, List.drop, List.getLast?, List.dropLast, List.filterMap, List.getElem?_cons_zero, List.getElem?_cons_succ, List.getElem?_nil, Nat.reduceAdd, Nat.reduceSub, Nat.reduceLT, List.cons_append, List.nil_append, Option.some.injEq, reduceCtorEq, reduceIte, Bool.not_true, Bool.not_false, Bool.false_eq_true, List.isEmpty]; exact hn _ rfl) ?_
  rintro s rfl
  refine seq_cut (fun s => ∃ x, notOw x = true ∧ s = [.sh (tQ l), .sh (.int ((wB l : Nat) : Int)), x]) (fun nx hn => ?_) ?_
  · simp only [LV.begin, at_0, at_1, at_2, at_3, at_m1a, at_m1b, at_m1c, at_m1d, at_m2b, at_m2c, decide_true, eq_self, Int.reduceEq, true_and, and_true, false_and, and_false, or_false, false_or, Int.reduceNeg, gIx, decide_false, Bool.and_true, Bool.true_and, Bool.or_true, wSeq, wSet, wAsg, wPar, wIf, wIfS, wTst, LV.wTru, LV.wNot, wAnd, wOr, wAndV, wOrV, wNotV, wOp, wUn, wV, wC, fCI, fAdd, fSub, fMul, fDiv, fMod, fPow, fNeg, fIx, fIs, fIsNot, fEq, fNe, fLt, fLe, fGt, fGe, wCB, wCons, wNil, w1, wApp, wIsi, isiB, bagD, isNonD, fLen, fAbs, fInt, fGcd, fList, fTuple, fRepr, fLz, fLen0, fLrv, fSum, fMax, fMin, fAll, fAny, seqD, rdL, rdW, fzL, fzW, unL, putS, RV.sl, wRet, wRetN, wNever, wNext, wDrop, wTup, wLst, outW, placeW, gN, gTu, gCo, gNi, wFor, zSeq, zr_0, zr_1, zr_2, zr_3, zr_4, nc_0, nc_1, nc_2, nc_3, nc_4, zEnum, zZip, zZip3, ixD, tru, wCall, wCallK, wApp, wAppend, wPopAt, wExtend, wChainE, fIn, fBits, fFac, fComb, fRngL1, fRngL2, owW, wSl, fSl, wONone, wOSome, wLc, wYes, List.map, List.replicate, List.length, List.append, List.set, List.take, List.drop, List.getLast?, List.dropLast, List.filterMap, List.getElem?_cons_zero, List.getElem?_cons_succ, List.getElem?_nil, Nat.reduceAdd, Nat.reduceSub, Nat.reduceLT, List.cons_append, List.nil_append, Option.some.injEq, reduceCtorEq, reduceIte, Bool.not_true, Bool.not_false, Bool.false_eq_true, List.isEmpty, tQ]
    refine ⟨_, rfl, ?_⟩
    refine low_loop hc (fun c y x K hy hc' hn2 => ?_) fun x hx => hn _ ⟨x, hx, rfl⟩
    obtain ⟨h1, h2, h3⟩ := cd_sub hc hy
    have hg : 0 < Nat.gcd c y.den := Nat.gcd_pos_of_pos_right _ (Nat.pos_of_ne_zero y.den_nz)
    have hgy : Nat.gcd c y.den ≤ y.den := Nat.le_of_dvd (Nat.pos_of_ne_zero y.den_nz) (Nat.gcd_dvd_right _ _)
    simp only [LV.begin, at_0, at_1, at_2, at_3, at_m1a, at_m1b, at_m1c, at_m1d, at_m2b, at_m2c, decide_true, eq_self, Int.reduceEq, true_and, and_true, false_and, and_false, or_false, false_or, Int.reduceNeg, gIx, decide_false, Bool.and_true, Bool.true_and, Bool.or_true, wSeq, wSet, wAsg, wPar, wIf, wIfS, wTst, LV.wTru, LV.wNot, wAnd, wOr, wAndV, wOrV, wNotV, wOp, wUn, wV, wC, fCI, fAdd, fSub, fMul, fDiv, fMod, fPow, fNeg, fIx, fIs, fIsNot, fEq, fNe, fLt, fLe, fGt, fGe, wCB, wCons, wNil, w1, wApp, wIsi, isiB, bagD, isNonD, fLen, fAbs, fInt, fGcd, fList, fTuple, fRepr, fLz, fLen0, fLrv, fSum, fMax, fMin, fAll, fAny, seqD, rdL, rdW, fzL, fzW, unL, putS, RV.sl, wRet, wRetN, wNever, wNext, wDrop, wTup, wLst, outW, placeW, gN, gTu, gCo, gNi, wFor, zSeq, zr_0, zr_1, zr_2, zr_3, zr_4, nc_0, nc_1, nc_2, nc_3, nc_4, zEnum, zZip, zZip3, ixD, tru, wCall, wCallK, wApp, wAppend, wPopAt, wExtend, wChainE, fIn, fBits, fFac, fComb, fRngL1, fRngL2, owW, wSl, fSl, wONone, wOSome, wLc, wYes, List.map, List.replicate, List.length, List.append, List.set, List.take, List.drop, List.getLast?, List.dropLast, List.filterMap, List.getElem?_cons_zero, List.getElem?_cons_succ, List.getElem?_nil, Nat.reduceAdd, Nat.reduceSub, Nat.reduceLT, List.cons_append, List.nil_append, Option.some.injEq, reduceCtorEq, reduceIte, Bool.not_true, Bool.not_false, Bool.false_eq_true, List.isEmpty, F__law_gcd, gcdN]
    refine ⟨(sm_nat (n := 8900) (by omega)).divA (by omega) (by omega), ?_, ?_⟩
    · rw [fdiv_nat]
      exact (sm_nat (n := 8900) (Nat.lt_of_le_of_lt (Nat.div_le_self _ _) hc')).mulW (sm_nat (n := 8900) h2) (by omega)
    · rw [lcm_div2]; exact hn2
  rintro s ⟨x, hx, rfl⟩
  simp only [LV.begin, at_0, at_1, at_2, at_3, at_m1a, at_m1b, at_m1c, at_m1d, at_m2b, at_m2c, decide_true, eq_self, Int.reduceEq, true_and, and_true, false_and, and_false, or_false, false_or, Int.reduceNeg, gIx, decide_false, Bool.and_true, Bool.true_and, Bool.or_true, wSeq, wSet, wAsg, wPar, wIf, wIfS, wTst, LV.wTru, LV.wNot, wAnd, wOr, wAndV, wOrV, wNotV, wOp, wUn, wV, wC, fCI, fAdd, fSub, fMul, fDiv, fMod, fPow, fNeg, fIx, fIs, fIsNot, fEq, fNe, fLt, fLe, fGt, fGe, wCB, wCons, wNil, w1, wApp, wIsi, isiB, bagD, isNonD, fLen, fAbs, fInt, fGcd, fList, fTuple, fRepr, fLz, fLen0, fLrv, fSum, fMax, fMin, fAll, fAny, seqD, rdL, rdW, fzL, fzW, unL, putS, RV.sl, wRet, wRetN, wNever, wNext, wDrop, wTup, wLst, outW, placeW, gN, gTu, gCo, gNi, wFor, zSeq, zr_0, zr_1, zr_2, zr_3, zr_4, nc_0, nc_1, nc_2, nc_3, nc_4, zEnum, zZip, zZip3, ixD, tru, wCall, wCallK, wApp, wAppend, wPopAt, wExtend, wChainE, fIn, fBits, fFac, fComb, fRngL1, fRngL2, owW, wSl, fSl, wONone, wOSome, wLc, wYes, List.map, List.replicate, List.length, List.append, List.set, List.take, List.drop, List.getLast?, List.dropLast, List.filterMap, List.getElem?_cons_zero, List.getElem?_cons_succ, List.getElem?_nil, Nat.reduceAdd, Nat.reduceSub, Nat.reduceLT, List.cons_append, List.nil_append, Option.some.injEq, reduceCtorEq, reduceIte, Bool.not_true, Bool.not_false, Bool.false_eq_true, List.isEmpty, tQ]
  refine ⟨_, rfl, ?_⟩
  refine lcMap fQ (fun y => D.int (wN (wB l) y)) l ?_ (by omega) (by simp [hx]) (fun y hy R hR => ?_) ?_
  · rfl
  · obtain ⟨h1, h2, h3⟩ := cd_sub hc hy
    have hyd := Nat.pos_of_ne_zero y.den_nz
    simp only [wipeS, LV.begin, at_0, at_1, at_2, at_3, at_m1a, at_m1b, at_m1c, at_m1d, at_m2b, at_m2c, decide_true, eq_self, Int.reduceEq, true_and, and_true, false_and, and_false, or_false, false_or, Int.reduceNeg, gIx, decide_false, Bool.and_true, Bool.true_and, Bool.or_true, wSeq, wSet, wAsg, wPar, wIf, wIfS, wTst, LV.wTru, LV.wNot, wAnd, wOr, wAndV, wOrV, wNotV, wOp, wUn, wV, wC, fCI, fAdd, fSub, fMul, fDiv, fMod, fPow, fNeg, fIx, fIs, fIsNot, fEq, fNe, fLt, fLe, fGt, fGe, wCB, wCons, wNil, w1, wApp, wIsi, isiB, bagD, isNonD, fLen, fAbs, fInt, fGcd, fList, fTuple, fRepr, fLz, fLen0, fLrv, fSum, fMax, fMin, fAll, fAny, seqD, rdL, rdW, fzL, fzW, unL, putS, RV.sl, wRet, wRetN, wNever, wNext, wDrop, wTup, wLst, outW, placeW, gN, gTu, gCo, gNi, wFor, zSeq, zr_0, zr_1, zr_2, zr_3, zr_4, nc_0, nc_1, nc_2, nc_3, nc_4, zEnum, zZip, zZip3, ixD, tru, wCall, wCallK, wApp, wAppend, wPopAt, wExtend, wChainE, fIn, fBits, fFac, fComb, fRngL1, fRngL2, owW, wSl, fSl, wONone, wOSome, wLc, wYes, List.map, List.replicate, List.length, List.append, List.set, List.take, List.drop, List.getLast?, List.dropLast, List.filterMap, List.getElem?_cons_zero, List.getElem?_cons_succ, List.getElem?_nil, Nat.reduceAdd, Nat.reduceSub, Nat.reduceLT, List.cons_append, List.nil_append, Option.some.injEq, reduceCtorEq, reduceIte, Bool.not_true, Bool.not_false, Bool.false_eq_true, List.isEmpty]
    refine ⟨(sm_nat (n := 8900) h2).divA (by omega) (by omega), ?_⟩
    rw [fdiv_nat]
    exact ⟨h1.mulW (sm_nat (n := 8900) h3) (by omega), hR _ rfl⟩
  · simp only [LV.begin, at_0, at_1, at_2, at_3, at_m1a, at_m1b, at_m1c, at_m1d, at_m2b, at_m2c, decide_true, eq_self, Int.reduceEq, true_and, and_true, false_and, and_false, or_false, false_or, Int.reduceNeg, gIx, decide_false, Bool.and_true, Bool.true_and, Bool.or_true, wSeq, wSet, wAsg, wPar, wIf, wIfS, wTst, LV.wTru, LV.wNot, wAnd, wOr, wAndV, wOrV, wNotV, wOp, wUn, wV, wC, fCI, fAdd, fSub, fMul, fDiv, fMod, fPow, fNeg, fIx, fIs, fIsNot, fEq, fNe, fLt, fLe, fGt, fGe, wCB, wCons, wNil, w1, wApp, wIsi, isiB, bagD, isNonD, fLen, fAbs, fInt, fGcd, fList, fTuple, fRepr, fLz, fLen0, fLrv, fSum, fMax, fMin, fAll, fAny, seqD, rdL, rdW, fzL, fzW, unL, putS, RV.sl, wRet, wRetN, wNever, wNext, wDrop, wTup, wLst, outW, placeW, gN, gTu, gCo, gNi, wFor, zSeq, zr_0, zr_1, zr_2, zr_3, zr_4, nc_0, nc_1, nc_2, nc_3, nc_4, zEnum, zZip, zZip3, ixD, tru, wCall, wCallK, wApp, wAppend, wPopAt, wExtend, wChainE, fIn, fBits, fFac, fComb, fRngL1, fRngL2, owW, wSl, fSl, wONone, wOSome, wLc, wYes, List.map, List.replicate, List.length, List.append, List.set, List.take, List.drop, List.getLast?, List.dropLast, List.filterMap, List.getElem?_cons_zero, List.getElem?_cons_succ, List.getElem?_nil, Nat.reduceAdd, Nat.reduceSub, Nat.reduceLT, List.cons_append, List.nil_append, Option.some.injEq, reduceCtorEq, reduceIte, Bool.not_true, Bool.not_false, Bool.false_eq_true, List.isEmpty]
    have e : (l.map fun y => D.int (wN (wB l) y)) = (wI l).map D.int := by unfold wI; rw [List.map_map]; rfl
    rw [e]; exact ⟨by decide, hq⟩
theorem at_lstI {a : List Rat} (h : a ≠ []) (W : Nat) : atI ((whL W a).map D.int) (-1) = some (.int (wN W (lst a))) := by
  have e : (whL W a).map D.int = a.dropLast.map (fun x => D.int (wN W x)) ++ [.int (wN W (lst a))] := by
    have e2 : (whL W a).map D.int = (whL W (a.dropLast ++ [lst a])).map D.int := congrArg (fun l => (whL W l).map D.int) (lst_split h)
    rw [e2]
    unfold whL
    rw [List.map_append, List.map_append, List.map_map]; rfl
  rw [e]; exact at_m1
theorem rule_cd {a b : List Rat} {k : Nat} (la : a.length = k + 1) (lb : b.length = k + 1) (k8 : k ≤ 8) (za : ∀ x ∈ a, Sm3 x) (zb : ∀ x ∈ b, Sm3 x) : Cd 191 (a ++ b) := by
  refine Cd.of (n := 10) (fun x hx => ?_) (by rw [List.length_append]; omega)
  rcases List.mem_append.mp hx with h | h
  · exact Sm3.sz (za x h)
  · exact Sm3.sz (zb x h)
theorem bits_le {n : Nat} {x : Int} (h : sm n x) : Builtin.Int.intBits x ≤ n := (PySem.intBits_le_iff).mpr h
theorem room_loop {K : LK} {wt : WT} {wb : WS} {S : Int → Sg} {least : Nat} {bits : Nat}
    (ht : ∀ (r : Nat) (Q : Bool → Sg → Prop), r ≤ 20 → Q (decide ((r : Int) < 20 - (least : Int)) && decide (((r : Int) + 1) * ((r : Int) + 1) * (bits : Int) ≤ 24000)) (S r) → wt (S r) Q)
    (hb : ∀ (r : Nat) (K : LK), K.nx (S (r + 1 : Nat)) → wb K (S r)) (hn : ∀ r : Nat, r ≤ 20 → (r = 0 ∨ r * r * bits ≤ 24000) → K.nx (S r)) :
    ∀ (n r : Nat), 20 - r < n → r ≤ 20 → (r = 0 ∨ r * r * bits ≤ 24000) → wWhileN wt wb K n (S r)
  | 0, r, h, _, _ => absurd h (Nat.not_lt_zero _)
  | n + 1, r, h, h20, hr => by
    refine ht r _ h20 ?_
    by_cases c : ((r : Int) < 20 - (least : Int)) ∧ ((r : Int) + 1) * ((r : Int) + 1) * (bits : Int) ≤ 24000
    · rw [decide_eq_true c.1, decide_eq_true c.2]
      refine hb r _ ?_
      refine room_loop ht hb hn n (r + 1) (by omega) (by omega) (.inr ?_)
      have := c.2
      exact_mod_cast this
    · have e : (decide ((r : Int) < 20 - (least : Int)) && decide (((r : Int) + 1) * ((r : Int) + 1) * (bits : Int) ≤ 24000)) = false := by
        rw [Bool.and_eq_false_iff]
        rcases Decidable.not_and_iff_or_not.mp c with h | h
        · exact .inl (decide_eq_false h)
        · exact .inr (decide_eq_false h)
      rw [e]
      exact hn r h20 hr
theorem p__law_room {K : PySem.W.Frag} : ∀ ds Qf, F__law_room ds Qf → ds.length = 5 ∧ W__law_room K { nx := fun _ => Qf (.sh .non), rt := Qf } (begin 11 ds) := by
  intro ds Qf h
  obtain ⟨d, e, a, b, f, k, m, rfl, ok, hm6, hq⟩ := h
  refine ⟨rfl, ?_⟩
  have k8 := ok.k8
  have ca := rule_cd ok.la ok.lb k8 ok.sa ok.sb
  have cd := rule_cd ok.ld ok.le k8 ok.sd ok.se
  obtain ⟨g, eg⟩ : ∃ g : D, g = rlD d e := ⟨_, rfl⟩
  obtain ⟨r, er⟩ : ∃ g : D, g = rlD a b := ⟨_, rfl⟩
  obtain ⟨A, eA⟩ : ∃ x, x = wN (wB (a ++ b)) (lst a) := ⟨_, rfl⟩
  obtain ⟨E, eE⟩ : ∃ x, x = wN (wB (d ++ e)) (lst d) := ⟨_, rfl⟩
  have zA : sm 191 A := by rw [eA]; exact ca.2 _ (List.mem_append_left _ (lst_mem (ne_of_len ok.la)))
  have zE : sm 191 E := by rw [eE]; exact cd.2 _ (List.mem_append_left _ (lst_mem (ne_of_len ok.ld)))
  have zf : sm 10 (f.den : Int) := (Sm3.sz ok.sf).b
  obtain ⟨x6, e6⟩ : ∃ g : D, g = .lst ((whL (wB (a ++ b)) b).map D.int) := ⟨_, rfl⟩
  obtain ⟨x8, e8⟩ : ∃ g : D, g = .lst ((whL (wB (d ++ e)) e).map D.int) := ⟨_, rfl⟩
  unfold W__law_room
  refine seq_cut (fun s => s = [.sh g, .sh r, .sh (fQ f), .sh (.int (m : Nat)), .sh (.int (k : Nat)), .sh (.lst ((whL (wB (a ++ b)) a).map D.int)), .sh x6, .un, .un, .un, .un]) (fun nx hn => ?_) ?_
  · simp only [LV.begin, Nat.reduceLeDiff, ne_eq, not_false_eq_true, not_true_eq_false, Int.reduceLE, Int.reduceLT, Nat.zero_le, at_0, at_1, at_2, at_3, at_m1a, at_m1b, at_m1c, at_m1d, at_m2b, at_m2c, decide_true, eq_self, Int.reduceEq, true_and, and_true, false_and, and_false, or_false, false_or, Int.reduceNeg, gIx, decide_false, Bool.and_true, Bool.true_and, Bool.or_true, wSeq, wSet, wAsg, wPar, wIf, wIfS, wTst, LV.wTru, LV.wNot, wAnd, wOr, wAndV, wOrV, wNotV, wOp, wUn, wV, wC, fCI, fAdd, fSub, fMul, fDiv, fMod, fPow, fNeg, fIx, fIs, fIsNot, fEq, fNe, fLt, fLe, fGt, fGe, wCB, wCons, wNil, w1, wApp, wIsi, isiB, bagD, isNonD, fLen, fAbs, fInt, fGcd, fList, fTuple, fRepr, fLz, fLen0, fLrv, fSum, fMax, fMin, fAll, fAny, seqD, rdL, rdW, fzL, fzW, unL, putS, RV.sl, wRet, wRetN, wNever, wNext, wDrop, wTup, wLst, outW, placeW, gN, gTu, gCo, gNi, wFor, zSeq, zr_0, zr_1, zr_2, zr_3, zr_4, nc_0, nc_1, nc_2, nc_3, nc_4, zEnum, zZip, zZip3, ixD, tru, wCall, wCallK, wApp, wAppend, wPopAt, wExtend, wChainE, fIn, fBits, fFac, fComb, fRngL1, fRngL2, owW, wSl, fSl, wONone, wOSome, wLc, wYes, List.map, List.replicate, List.length, List.append, List.set, List.take, List.drop, List.getLast?, List.dropLast, List.filterMap, List.getElem?_cons_zero, List.getElem?_cons_succ, List.getElem?_nil, Nat.reduceAdd, Nat.reduceSub, Nat.reduceLT, List.cons_append, List.nil_append, Option.some.injEq, reduceCtorEq, reduceIte, Bool.not_true, Bool.not_false, Bool.false_eq_true, List.isEmpty, F__law_whole]
    refine ⟨a, b, rfl, by have := ok.la; have := ok.lb; omega, fun x hx => ?_, ?_⟩
    · rcases List.mem_append.mp hx with h | h
      · exact (Sm3.sz (ok.sa x h)).mono (by omega)
      · exact (Sm3.sz (ok.sb x h)).mono (by omega)
    · rw [← eg, ← er, ← e6]
      exact hn _ rfl
  rintro s rfl
  refine seq_cut (fun s => s = [.sh g, .sh r, .sh (fQ f), .sh (.int (m : Nat)), .sh (.int (k : Nat)), .sh (.lst ((whL (wB (a ++ b)) a).map D.int)), .sh x6, .sh (.lst ((whL (wB (d ++ e)) d).map D.int)), .sh x8, .un, .un]) (fun nx hn => ?_) ?_
  · simp only [LV.begin, Nat.reduceLeDiff, ne_eq, not_false_eq_true, not_true_eq_false, Int.reduceLE, Int.reduceLT, Nat.zero_le, at_0, at_1, at_2, at_3, at_m1a, at_m1b, at_m1c, at_m1d, at_m2b, at_m2c, decide_true, eq_self, Int.reduceEq, true_and, and_true, false_and, and_false, or_false, false_or, Int.reduceNeg, gIx, decide_false, Bool.and_true, Bool.true_and, Bool.or_true, wSeq, wSet, wAsg, wPar, wIf, wIfS, wTst, LV.wTru, LV.wNot, wAnd, wOr, wAndV, wOrV, wNotV, wOp, wUn, wV, wC, fCI, fAdd, fSub, fMul, fDiv, fMod, fPow, fNeg, fIx, fIs, fIsNot, fEq, fNe, fLt, fLe, fGt, fGe, wCB, wCons, wNil, w1, wApp, wIsi, isiB, bagD, isNonD, fLen, fAbs, fInt, fGcd, fList, fTuple, fRepr, fLz, fLen0, fLrv, fSum, fMax, fMin, fAll, fAny, seqD, rdL, rdW, fzL, fzW, unL, putS, RV.sl, wRet, wRetN, wNever, wNext, wDrop, wTup, wLst, outW, placeW, gN, gTu, gCo, gNi, wFor, zSeq, zr_0, zr_1, zr_2, zr_3, zr_4, nc_0, nc_1, nc_2, nc_3, nc_4, zEnum, zZip, zZip3, ixD, tru, wCall, wCallK, wApp, wAppend, wPopAt, wExtend, wChainE, fIn, fBits, fFac, fComb, fRngL1, fRngL2, owW, wSl, fSl, wONone, wOSome, wLc, wYes, List.map, List.replicate, List.length, List.append, List.set, List.take, List.drop, List.getLast?, List.dropLast, List.filterMap, List.getElem?_cons_zero, List.getElem?_cons_succ, List.getElem?_nil, Nat.reduceAdd, Nat.reduceSub, Nat.reduceLT, List.cons_append, List.nil_append, Option.some.injEq, reduceCtorEq, reduceIte, Bool.not_true, Bool.not_false, Bool.false_eq_true, List.isEmpty, F__law_whole, eg]
    refine ⟨d, e, rfl, by have := ok.ld; have := ok.le; omega, fun x hx => ?_, ?_⟩
    · rcases List.mem_append.mp hx with h | h
      · exact (Sm3.sz (ok.sd x h)).mono (by omega)
      · exact (Sm3.sz (ok.se x h)).mono (by omega)
    · rw [← eg, ← e8]
      exact hn _ rfl
  rintro s rfl
  obtain ⟨bits, eb⟩ : ∃ x, x = bitsQ d e a b f m := ⟨_, rfl⟩
  rw [← eb] at hq
  unfold bitsQ at eb
  rw [← eA, ← eE] at eb
  obtain ⟨B1, eB1⟩ : ∃ x, x = Builtin.Int.intBits (((f.den : Int) * A).natAbs : Nat) := ⟨_, rfl⟩
  obtain ⟨B2, eB2⟩ : ∃ x, x = Builtin.Int.intBits (((f.den : Int) * E).natAbs : Nat) := ⟨_, rfl⟩
  have hB1 : B1 ≤ 201 := by rw [eB1]; exact bits_le (sm_nat ((zf.mul zA) : sm (10 + 191) _))
  have hB2 : B2 ≤ 201 := by rw [eB2]; exact bits_le (sm_nat ((zf.mul zE) : sm (10 + 191) _))
  rw [← eB1, ← eB2] at eb
  have hbits : bits ≤ 1407 := by
    rw [eb]
    have : m * B1 ≤ 6 * 201 := Nat.mul_le_mul hm6 hB1
    omega
  obtain ⟨x7, e7⟩ : ∃ g : D, g = .lst ((whL (wB (d ++ e)) d).map D.int) := ⟨_, rfl⟩
  obtain ⟨x5, e5⟩ : ∃ g : D, g = .lst ((whL (wB (a ++ b)) a).map D.int) := ⟨_, rfl⟩
  refine seq_cut (fun s => s = [.sh g, .sh r, .sh (fQ f), .sh (.int (m : Nat)), .sh (.int (k : Nat)), .sh x5, .sh x6, .sh x7, .sh x8, .sh (.int (bits : Nat)), .un]) (fun nx hn => ?_) ?_
  · simp only [LV.begin, Nat.reduceLeDiff, ne_eq, not_false_eq_true, not_true_eq_false, Int.reduceLE, Int.reduceLT, Nat.zero_le, at_0, at_1, at_2, at_3, at_m1a, at_m1b, at_m1c, at_m1d, at_m2b, at_m2c, decide_true, eq_self, Int.reduceEq, true_and, and_true, false_and, and_false, or_false, false_or, Int.reduceNeg, gIx, decide_false, Bool.and_true, Bool.true_and, Bool.or_true, wSeq, wSet, wAsg, wPar, wIf, wIfS, wTst, LV.wTru, LV.wNot, wAnd, wOr, wAndV, wOrV, wNotV, wOp, wUn, wV, wC, fCI, fAdd, fSub, fMul, fDiv, fMod, fPow, fNeg, fIx, fIs, fIsNot, fEq, fNe, fLt, fLe, fGt, fGe, wCB, wCons, wNil, w1, wApp, wIsi, isiB, bagD, isNonD, fLen, fAbs, fInt, fGcd, fList, fTuple, fRepr, fLz, fLen0, fLrv, fSum, fMax, fMin, fAll, fAny, seqD, rdL, rdW, fzL, fzW, unL, putS, RV.sl, wRet, wRetN, wNever, wNext, wDrop, wTup, wLst, outW, placeW, gN, gTu, gCo, gNi, wFor, zSeq, zr_0, zr_1, zr_2, zr_3, zr_4, nc_0, nc_1, nc_2, nc_3, nc_4, zEnum, zZip, zZip3, ixD, tru, wCall, wCallK, wApp, wAppend, wPopAt, wExtend, wChainE, fIn, fBits, fFac, fComb, fRngL1, fRngL2, owW, wSl, fSl, wONone, wOSome, wLc, wYes, List.map, List.replicate, List.length, List.append, List.set, List.take, List.drop, List.getLast?, List.dropLast, List.filterMap, List.getElem?_cons_zero, List.getElem?_cons_succ, List.getElem?_nil, Nat.reduceAdd, Nat.reduceSub, Nat.reduceLT, List.cons_append, List.nil_append, Option.some.injEq, reduceCtorEq, reduceIte, Bool.not_true, Bool.not_false, Bool.false_eq_true, List.isEmpty, at_lstI (ne_of_len ok.la), at_lstI (ne_of_len ok.ld), abs_nat]
    rw [← eA, ← eE]
    rw [← eB1, ← eB2, ← e5, ← e7]
    refine ⟨zf.mulW zA (by omega), (show sm 12 (m : Int) from by show (m : Int).natAbs < 4096; omega).mulW (show sm 12 (B1 : Int) from by show (B1 : Int).natAbs < 4096; omega) (by omega), zf.mulW zE (by omega), ?_⟩
    have : ((m : Int) * (B1 : Int) + (B2 : Int)) = ((bits : Nat) : Int) := by rw [eb]; push_cast; rfl
    rw [this]
    exact hn _ rfl
  rintro s rfl
  refine seq_cut (fun s => s = [.sh g, .sh r, .sh (fQ f), .sh (.int (m : Nat)), .sh (.int (k : Nat)), .sh x5, .sh x6, .sh x7, .sh x8, .sh (.int (bits : Nat)), .sh (.int ((0 : Nat) : Int))]) (fun nx hn => by simp only [LV.begin, Nat.reduceLeDiff, ne_eq, not_false_eq_true, not_true_eq_false, Int.reduceLE, Int.reduceLT, Nat.zero_le, at_0, at_1, at_2, at_3, at_m1a, at_m1b, at_m1c, at_m1d, at_m2b, at_m2c, decide_true, eq_self, Int.reduceEq, true_and, and_true, false_and, and_false, or_false, false_or, Int.reduceNeg, gIx, decide_false, Bool.and_true, Bool.true_and, Bool.or_true, wSeq, wSet, wAsg, wPar, wIf, wIfS, wTst, LV.wTru, LV.wNot, wAnd, wOr, wAndV, wOrV, wNotV, wOp, wUn, wV, wC, fCI, fAdd, fSub, fMul, fDiv, fMod, fPow, fNeg, fIx, fIs, fIsNot, fEq, fNe, fLt, fLe, fGt, fGe, wCB, wCons, wNil, w1, wApp, wIsi, isiB, bagD, isNonD, fLen, fAbs, fInt, fGcd, fList, fTuple, fRepr, fLz, fLen0, fLrv, fSum, fMax, fMin, fAll, fAny, seqD, rdL, rdW, fzL, fzW, unL, putS, RV.sl, wRet, wRetN, wNever, wNext, wDrop, wTup, wLst, outW, placeW, gN, gTu, gCo, gNi, wFor, zSeq, zr_0, zr_1, zr_2, zr_3, zr_4, nc_0, nc_1, nc_2, nc_3, nc_4, zEnum, zZip, zZip3, ixD, tru, wCall, wCallK, wApp, wAppend, wPopAt, wExtend, wChainE, fIn, fBits, fFac, fComb, fRngL1, fRngL2, owW, wSl, fSl, wONone, wOSome, wLc, wYes, List.map, List.replicate, List.length, List.append, List.set, List.take, List.drop, List.getLast?, List.dropLast, List.filterMap, List.getElem?_cons_zero, List.getElem?_cons_succ, List.getElem?_nil, Nat.reduceAdd, Nat.reduceSub, Nat.reduceLT, List.cons_append, List.nil_append, Option.some.injEq, reduceCtorEq, reduceIte, Bool.not_true, Bool.not_false, Bool.false_eq_true, List.isEmpty]; exact hn _ rfl) ?_
  rintro s rfl
  refine seq_cut (fun s => ∃ r' : Nat, r' ≤ 20 ∧ (r' = 0 ∨ r' * r' * bits ≤ 24000) ∧ s = [.sh g, .sh r, .sh (fQ f), .sh (.int (m : Nat)), .sh (.int (k : Nat)), .sh x5, .sh x6, .sh x7, .sh x8, .sh (.int (bits : Nat)), .sh (.int (r' : Nat))]) (fun nx hn => ?_) ?_
  · refine ⟨21, room_loop (S := fun i => [.sh g, .sh r, .sh (fQ f), .sh (.int (m : Nat)), .sh (.int (k : Nat)), .sh x5, .sh x6, .sh x7, .sh x8, .sh (.int (bits : Nat)), .sh (.int i)]) (least := k) (bits := bits) (fun r Q hr h => ?_) (fun r K h => ?_) (fun r h1 h2 => hn _ ⟨r, h1, h2, rfl⟩) 21 0 (by omega) (by omega) (.inl rfl)⟩
    · simp only [LV.begin, Nat.reduceLeDiff, ne_eq, not_false_eq_true, not_true_eq_false, Int.reduceLE, Int.reduceLT, Nat.zero_le, at_0, at_1, at_2, at_3, at_m1a, at_m1b, at_m1c, at_m1d, at_m2b, at_m2c, decide_true, eq_self, Int.reduceEq, true_and, and_true, false_and, and_false, or_false, false_or, Int.reduceNeg, gIx, decide_false, Bool.and_true, Bool.true_and, Bool.or_true, wSeq, wSet, wAsg, wPar, wIf, wIfS, wTst, LV.wTru, LV.wNot, wAnd, wOr, wAndV, wOrV, wNotV, wOp, wUn, wV, wC, fCI, fAdd, fSub, fMul, fDiv, fMod, fPow, fNeg, fIx, fIs, fIsNot, fEq, fNe, fLt, fLe, fGt, fGe, wCB, wCons, wNil, w1, wApp, wIsi, isiB, bagD, isNonD, fLen, fAbs, fInt, fGcd, fList, fTuple, fRepr, fLz, fLen0, fLrv, fSum, fMax, fMin, fAll, fAny, seqD, rdL, rdW, fzL, fzW, unL, putS, RV.sl, wRet, wRetN, wNever, wNext, wDrop, wTup, wLst, outW, placeW, gN, gTu, gCo, gNi, wFor, zSeq, zr_0, zr_1, zr_2, zr_3, zr_4, nc_0, nc_1, nc_2, nc_3, nc_4, zEnum, zZip, zZip3, ixD, tru, wCall, wCallK, wApp, wAppend, wPopAt, wExtend, wChainE, fIn, fBits, fFac, fComb, fRngL1, fRngL2, owW, wSl, fSl, wONone, wOSome, wLc, wYes, List.map, List.replicate, List.length, List.append, List.set, List.take, List.drop, List.getLast?, List.dropLast, List.filterMap, List.getElem?_cons_zero, List.getElem?_cons_succ, List.getElem?_nil, Nat.reduceAdd, Nat.reduceSub, Nat.reduceLT, List.cons_append, List.nil_append, Option.some.injEq, reduceCtorEq, reduceIte, Bool.not_true, Bool.not_false, Bool.false_eq_true, List.isEmpty]
      by_cases c : (r : Int) < 20 - (k : Int)
      · rw [if_pos (decide_eq_true c)]
        rw [decide_eq_true c, Bool.true_and] at h
        have z1 : sm 12 ((r : Int) + 1) := by show ((r : Int) + 1).natAbs < 4096; omega
        exact ⟨z1.mulW z1 (by omega), (z1.mul z1).mulW (show sm 12 (bits : Int) from by show (bits : Int).natAbs < 4096; omega) (by omega), h⟩
      · rw [if_neg (by rw [decide_eq_false c]; decide)]
        rw [decide_eq_false c, Bool.false_and] at h
        exact h
    · simp only [LV.begin, Nat.reduceLeDiff, ne_eq, not_false_eq_true, not_true_eq_false, Int.reduceLE, Int.reduceLT, Nat.zero_le, at_0, at_1, at_2, at_3, at_m1a, at_m1b, at_m1c, at_m1d, at_m2b, at_m2c, decide_true, eq_self, Int.reduceEq, true_and, and_true, false_and, and_false, or_false, false_or, Int.reduceNeg, gIx, decide_false, Bool.and_true, Bool.true_and, Bool.or_true, wSeq, wSet, wAsg, wPar, wIf, wIfS, wTst, LV.wTru, LV.wNot, wAnd, wOr, wAndV, wOrV, wNotV, wOp, wUn, wV, wC, fCI, fAdd, fSub, fMul, fDiv, fMod, fPow, fNeg, fIx, fIs, fIsNot, fEq, fNe, fLt, fLe, fGt, fGe, wCB, wCons, wNil, w1, wApp, wIsi, isiB, bagD, isNonD, fLen, fAbs, fInt, fGcd, fList, fTuple, fRepr, fLz, fLen0, fLrv, fSum, fMax, fMin, fAll, fAny, seqD, rdL, rdW, fzL, fzW, unL, putS, RV.sl, wRet, wRetN, wNever, wNext, wDrop, wTup, wLst, outW, placeW, gN, gTu, gCo, gNi, wFor, zSeq, zr_0, zr_1, zr_2, zr_3, zr_4, nc_0, nc_1, nc_2, nc_3, nc_4, zEnum, zZip, zZip3, ixD, tru, wCall, wCallK, wApp, wAppend, wPopAt, wExtend, wChainE, fIn, fBits, fFac, fComb, fRngL1, fRngL2, owW, wSl, fSl, wONone, wOSome, wLc, wYes, List.map, List.replicate, List.length, List.append, List.set, List.take, List.drop, List.getLast?, List.dropLast, List.filterMap, List.getElem?_cons_zero, List.getElem?_cons_succ, List.getElem?_nil, Nat.reduceAdd, Nat.reduceSub, Nat.reduceLT, List.cons_append, List.nil_append, Option.some.injEq, reduceCtorEq, reduceIte, Bool.not_true, Bool.not_false, Bool.false_eq_true, List.isEmpty]
      exact h
  rintro s ⟨r', h1, h2, rfl⟩
  simp only [LV.begin, Nat.reduceLeDiff, ne_eq, not_false_eq_true, not_true_eq_false, Int.reduceLE, Int.reduceLT, Nat.zero_le, at_0, at_1, at_2, at_3, at_m1a, at_m1b, at_m1c, at_m1d, at_m2b, at_m2c, decide_true, eq_self, Int.reduceEq, true_and, and_true, false_and, and_false, or_false, false_or, Int.reduceNeg, gIx, decide_false, Bool.and_true, Bool.true_and, Bool.or_true, wSeq, wSet, wAsg, wPar, wIf, wIfS, wTst, LV.wTru, LV.wNot, wAnd, wOr, wAndV, wOrV, wNotV, wOp, wUn, wV, wC, fCI, fAdd, fSub, fMul, fDiv, fMod, fPow, fNeg, fIx, fIs, fIsNot, fEq, fNe, fLt, fLe, fGt, fGe, wCB, wCons, wNil, w1, wApp, wIsi, isiB, bagD, isNonD, fLen, fAbs, fInt, fGcd, fList, fTuple, fRepr, fLz, fLen0, fLrv, fSum, fMax, fMin, fAll, fAny, seqD, rdL, rdW, fzL, fzW, unL, putS, RV.sl, wRet, wRetN, wNever, wNext, wDrop, wTup, wLst, outW, placeW, gN, gTu, gCo, gNi, wFor, zSeq, zr_0, zr_1, zr_2, zr_3, zr_4, nc_0, nc_1, nc_2, nc_3, nc_4, zEnum, zZip, zZip3, ixD, tru, wCall, wCallK, wApp, wAppend, wPopAt, wExtend, wChainE, fIn, fBits, fFac, fComb, fRngL1, fRngL2, owW, wSl, fSl, wONone, wOSome, wLc, wYes, List.map, List.replicate, List.length, List.append, List.set, List.take, List.drop, List.getLast?, List.dropLast, List.filterMap, List.getElem?_cons_zero, List.getElem?_cons_succ, List.getElem?_nil, Nat.reduceAdd, Nat.reduceSub, Nat.reduceLT, List.cons_append, List.nil_append, Option.some.injEq, reduceCtorEq, reduceIte, Bool.not_true, Bool.not_false, Bool.false_eq_true, List.isEmpty]
  exact hq r' h1 h2
theorem p__law_is_kept {K : PySem.W.Frag} : ∀ ds Qf, F__law_is_kept ds Qf → ds.length = 2 ∧ W__law_is_kept K { nx := fun _ => Qf (.sh .non), rt := Qf } (begin 8 ds) := by
  intro ds Qf h
  obtain ⟨p, v, rfl, hp9, hl1, hne, hpv, hv40, zp, zv, hz, hq⟩ := h
  refine ⟨rfl, ?_⟩
  unfold W__law_is_kept
  refine seq_cut (fun s => s = [.sh (tQ p), .sh (tQ v), .un, .un, .un, .un, .un, .un]) (fun nx hn => by simp only [LV.begin, Nat.reduceLeDiff, ne_eq, not_false_eq_true, not_true_eq_false, Int.reduceLE, Int.reduceLT, Nat.zero_le, at_0, at_1, at_2, at_3, at_m1a, at_m1b, at_m1c, at_m1d, at_m2b, at_m2c, decide_true, eq_self, Int.reduceEq, true_and, and_true, false_and, and_false, or_false, false_or, Int.reduceNeg, gIx, decide_false, Bool.and_true, Bool.true_and, Bool.or_true, wSeq, wSet, wAsg, wPar, wIf, wIfS, wTst, LV.wTru, LV.wNot, wAnd, wOr, wAndV, wOrV, wNotV, wOp, wUn, wV, wC, fCI, fAdd, fSub, fMul, fDiv, fMod, fPow, fNeg, fIx, fIs, fIsNot, fEq, fNe, fLt, fLe, fGt, fGe, wCB, wCons, wNil, w1, wApp, wIsi, isiB, bagD, isNonD, fLen, fAbs, fInt, fGcd, fList, fTuple, fRepr, fLz, fLen0, fLrv, fSum, fMax, fMin, fAll, fAny, seqD, rdL, rdW, fzL, fzW, unL, putS, RV.sl, wRet, wRetN, wNever, wNext, wDrop, wTup, wLst, outW, placeW, gN, gTu, gCo, gNi, wFor, zSeq, zr_0, zr_1, zr_2, zr_3, zr_4, nc_0, nc_1, nc_2, nc_3, nc_4, zEnum, zZip, zZip3, ixD, tru, wCall, wCallK, wApp, wAppend, wPopAt, wExtend, wChainE, fIn, fBits, fFac, fComb, fRngL1, fRngL2, owW, wSl, fSl, wONone, wOSome, wLc, wYes, List.map, List.replicate, List.length, List.append, List.set, List.take, List.drop, List.getLast?, List.dropLast, List.filterMap, List.getElem?_cons_zero, List.getElem?_cons_succ, List.getElem?_nil, Nat.reduceAdd, Nat.reduceSub, Nat.reduceLT, List.cons_append, List.nil_append, Option.some.injEq, reduceCtorEq, reduceIte, Bool.not_true, Bool.not_false, Bool.false_eq_true, List.isEmpty, tQ]; exact hn _ rfl) ?_
  rintro s rfl
  refine seq_cut (fun s => ∃ x, s = [.sh (tQ p), .sh (tQ v), x, .un, .un, .un, .un, .un]) (fun nx hn => ?_) ?_
  · simp only [LV.begin, Nat.reduceLeDiff, ne_eq, not_false_eq_true, not_true_eq_false, Int.reduceLE, Int.reduceLT, Nat.zero_le, at_0, at_1, at_2, at_3, at_m1a, at_m1b, at_m1c, at_m1d, at_m2b, at_m2c, decide_true, eq_self, Int.reduceEq, true_and, and_true, false_and, and_false, or_false, false_or, Int.reduceNeg, gIx, decide_false, Bool.and_true, Bool.true_and, Bool.or_true, wSeq, wSet, wAsg, wPar, wIf, wIfS, wTst, LV.wTru, LV.wNot, wAnd, wOr, wAndV, wOrV, wNotV, wOp, wUn, wV, wC, fCI, fAdd, fSub, fMul, fDiv, fMod, fPow, fNeg, fIx, fIs, fIsNot, fEq, fNe, fLt, fLe, fGt, fGe, wCB, wCons, wNil, w1, wApp, wIsi, isiB, bagD, isNonD, fLen, fAbs, fInt, fGcd, fList, fTuple, fRepr, fLz, fLen0, fLrv, fSum, fMax, fMin, fAll, fAny, seqD, rdL, rdW, fzL, fzW, unL, putS, RV.sl, wRet, wRetN, wNever, wNext, wDrop, wTup, wLst, outW, placeW, gN, gTu, gCo, gNi, wFor, zSeq, zr_0, zr_1, zr_2, zr_3, zr_4, nc_0, nc_1, nc_2, nc_3, nc_4, zEnum, zZip, zZip3, ixD, tru, wCall, wCallK, wApp, wAppend, wPopAt, wExtend, wChainE, fIn, fBits, fFac, fComb, fRngL1, fRngL2, owW, wSl, fSl, wONone, wOSome, wLc, wYes, List.map, List.replicate, List.length, List.append, List.set, List.take, List.drop, List.getLast?, List.dropLast, List.filterMap, List.getElem?_cons_zero, List.getElem?_cons_succ, List.getElem?_nil, Nat.reduceAdd, Nat.reduceSub, Nat.reduceLT, List.cons_append, List.nil_append, Option.some.injEq, reduceCtorEq, reduceIte, Bool.not_true, Bool.not_false, Bool.false_eq_true, List.isEmpty, tQ]
    refine ⟨_, rfl, ?_⟩
    refine forL fQ (fun done rest s => done ++ rest = p ∧ ∃ x, s = [.sh (tQ p), .sh (tQ v), x, .un, .un, .un, .un, .un]) ?_ ?_ p [] _ ⟨rfl, _, rfl⟩
    · rintro done y rest s nx2 ⟨e, x, rfl⟩ hn2
      simp only [gN, List.set]
      refine seq_cut (fun s => s = [.sh (tQ p), .sh (tQ v), .sh (fQ y), .un, .un, .un, .un, .un]) (fun nx hn => by simp only [LV.begin, Nat.reduceLeDiff, ne_eq, not_false_eq_true, not_true_eq_false, Int.reduceLE, Int.reduceLT, Nat.zero_le, at_0, at_1, at_2, at_3, at_m1a, at_m1b, at_m1c, at_m1d, at_m2b, at_m2c, decide_true, eq_self, Int.reduceEq, true_and, and_true, false_and, and_false, or_false, false_or, Int.reduceNeg, gIx, decide_false, Bool.and_true, Bool.true_and, Bool.or_true, wSeq, wSet, wAsg, wPar, wIf, wIfS, wTst, LV.wTru, LV.wNot, wAnd, wOr, wAndV, wOrV, wNotV, wOp, wUn, wV, wC, fCI, fAdd, fSub, fMul, fDiv, fMod, fPow, fNeg, fIx, fIs, fIsNot, fEq, fNe, fLt, fLe, fGt, fGe, wCB, wCons, wNil, w1, wApp, wIsi, isiB, bagD, isNonD, fLen, fAbs, fInt, fGcd, fList, fTuple, fRepr, fLz, fLen0, fLrv, fSum, fMax, fMin, fAll, fAny, seqD, rdL, rdW, fzL, fzW, unL, putS, RV.sl, wRet, wRetN, wNever, wNext, wDrop, wTup, wLst, outW, placeW, gN, gTu, gCo, gNi, wFor, zSeq, zr_0, zr_1, zr_2, zr_3, zr_4, nc_0, nc_1, nc_2, nc_3, nc_4, zEnum, zZip, zZip3, ixD, tru, wCall, wCallK, wApp, wAppend, wPopAt, wExtend, wChainE, fIn, fBits, fFac, fComb, fRngL1, fRngL2, owW, wSl, fSl, wONone, wOSome, wLc, wYes, List.map, List.replicate, List.length, List.append, List.set, List.take, List.drop, List.getLast?, List.dropLast, List.filterMap, List.getElem?_cons_zero, List.getElem?_cons_succ, List.getElem?_nil, Nat.reduceAdd, Nat.reduceSub, Nat.reduceLT, List.cons_append, List.nil_append, Option.some.injEq, reduceCtorEq, reduceIte, Bool.not_true, Bool.not_false, Bool.false_eq_true, List.isEmpty]; exact hn _ rfl) ?_
      rintro s rfl
      simp only [LV.begin, Nat.reduceLeDiff, ne_eq, not_false_eq_true, not_true_eq_false, Int.reduceLE, Int.reduceLT, Nat.zero_le, at_0, at_1, at_2, at_3, at_m1a, at_m1b, at_m1c, at_m1d, at_m2b, at_m2c, decide_true, eq_self, Int.reduceEq, true_and, and_true, false_and, and_false, or_false, false_or, Int.reduceNeg, gIx, decide_false, Bool.and_true, Bool.true_and, Bool.or_true, wSeq, wSet, wAsg, wPar, wIf, wIfS, wTst, LV.wTru, LV.wNot, wAnd, wOr, wAndV, wOrV, wNotV, wOp, wUn, wV, wC, fCI, fAdd, fSub, fMul, fDiv, fMod, fPow, fNeg, fIx, fIs, fIsNot, fEq, fNe, fLt, fLe, fGt, fGe, wCB, wCons, wNil, w1, wApp, wIsi, isiB, bagD, isNonD, fLen, fAbs, fInt, fGcd, fList, fTuple, fRepr, fLz, fLen0, fLrv, fSum, fMax, fMin, fAll, fAny, seqD, rdL, rdW, fzL, fzW, unL, putS, RV.sl, wRet, wRetN, wNever, wNext, wDrop, wTup, wLst, outW, placeW, gN, gTu, gCo, gNi, wFor, zSeq, zr_0, zr_1, zr_2, zr_3, zr_4, nc_0, nc_1, nc_2, nc_3, nc_4, zEnum, zZip, zZip3, ixD, tru, wCall, wCallK, wApp, wAppend, wPopAt, wExtend, wChainE, fIn, fBits, fFac, fComb, fRngL1, fRngL2, owW, wSl, fSl, wONone, wOSome, wLc, wYes, List.map, List.replicate, List.length, List.append, List.set, List.take, List.drop, List.getLast?, List.dropLast, List.filterMap, List.getElem?_cons_zero, List.getElem?_cons_succ, List.getElem?_nil, Nat.reduceAdd, Nat.reduceSub, Nat.reduceLT, List.cons_append, List.nil_append, Option.some.injEq, reduceCtorEq, reduceIte, Bool.not_true, Bool.not_false, Bool.false_eq_true, List.isEmpty]
      refine ⟨_, rfl, ?_⟩
      refine lcMap D.int (fun _ => D.bl true) [y.num, (y.den : Int)] ?_ (by simp) rfl (fun n hn' R hR => ?_) ?_
      · rfl
      · simp only [wipeS, LV.begin, Nat.reduceLeDiff, ne_eq, not_false_eq_true, not_true_eq_false, Int.reduceLE, Int.reduceLT, Nat.zero_le, at_0, at_1, at_2, at_3, at_m1a, at_m1b, at_m1c, at_m1d, at_m2b, at_m2c, decide_true, eq_self, Int.reduceEq, true_and, and_true, false_and, and_false, or_false, false_or, Int.reduceNeg, gIx, decide_false, Bool.and_true, Bool.true_and, Bool.or_true, wSeq, wSet, wAsg, wPar, wIf, wIfS, wTst, LV.wTru, LV.wNot, wAnd, wOr, wAndV, wOrV, wNotV, wOp, wUn, wV, wC, fCI, fAdd, fSub, fMul, fDiv, fMod, fPow, fNeg, fIx, fIs, fIsNot, fEq, fNe, fLt, fLe, fGt, fGe, wCB, wCons, wNil, w1, wApp, wIsi, isiB, bagD, isNonD, fLen, fAbs, fInt, fGcd, fList, fTuple, fRepr, fLz, fLen0, fLrv, fSum, fMax, fMin, fAll, fAny, seqD, rdL, rdW, fzL, fzW, unL, putS, RV.sl, wRet, wRetN, wNever, wNext, wDrop, wTup, wLst, outW, placeW, gN, gTu, gCo, gNi, wFor, zSeq, zr_0, zr_1, zr_2, zr_3, zr_4, nc_0, nc_1, nc_2, nc_3, nc_4, zEnum, zZip, zZip3, ixD, tru, wCall, wCallK, wApp, wAppend, wPopAt, wExtend, wChainE, fIn, fBits, fFac, fComb, fRngL1, fRngL2, owW, wSl, fSl, wONone, wOSome, wLc, wYes, List.map, List.replicate, List.length, List.append, List.set, List.take, List.drop, List.getLast?, List.dropLast, List.filterMap, List.getElem?_cons_zero, List.getElem?_cons_succ, List.getElem?_nil, Nat.reduceAdd, Nat.reduceSub, Nat.reduceLT, List.cons_append, List.nil_append, Option.some.injEq, reduceCtorEq, reduceIte, Bool.not_true, Bool.not_false, Bool.false_eq_true, List.isEmpty]
        exact hR _ rfl
      · simp only [LV.begin, Nat.reduceLeDiff, ne_eq, not_false_eq_true, not_true_eq_false, Int.reduceLE, Int.reduceLT, Nat.zero_le, at_0, at_1, at_2, at_3, at_m1a, at_m1b, at_m1c, at_m1d, at_m2b, at_m2c, decide_true, eq_self, Int.reduceEq, true_and, and_true, false_and, and_false, or_false, false_or, Int.reduceNeg, gIx, decide_false, Bool.and_true, Bool.true_and, Bool.or_true, wSeq, wSet, wAsg, wPar, wIf, wIfS, wTst, LV.wTru, LV.wNot, wAnd, wOr, wAndV, wOrV, wNotV, wOp, wUn, wV, wC, fCI, fAdd, fSub, fMul, fDiv, fMod, fPow, fNeg, fIx, fIs, fIsNot, fEq, fNe, fLt, fLe, fGt, fGe, wCB, wCons, wNil, w1, wApp, wIsi, isiB, bagD, isNonD, fLen, fAbs, fInt, fGcd, fList, fTuple, fRepr, fLz, fLen0, fLrv, fSum, fMax, fMin, fAll, fAny, seqD, rdL, rdW, fzL, fzW, unL, putS, RV.sl, wRet, wRetN, wNever, wNext, wDrop, wTup, wLst, outW, placeW, gN, gTu, gCo, gNi, wFor, zSeq, zr_0, zr_1, zr_2, zr_3, zr_4, nc_0, nc_1, nc_2, nc_3, nc_4, zEnum, zZip, zZip3, ixD, tru, wCall, wCallK, wApp, wAppend, wPopAt, wExtend, wChainE, fIn, fBits, fFac, fComb, fRngL1, fRngL2, owW, wSl, fSl, wONone, wOSome, wLc, wYes, List.map, List.replicate, List.length, List.append, List.set, List.take, List.drop, List.getLast?, List.dropLast, List.filterMap, List.getElem?_cons_zero, List.getElem?_cons_succ, List.getElem?_nil, Nat.reduceAdd, Nat.reduceSub, Nat.reduceLT, List.cons_append, List.nil_append, Option.some.injEq, reduceCtorEq, reduceIte, Bool.not_true, Bool.not_false, Bool.false_eq_true, List.isEmpty]
        have h1 : decide ((y.den : Int) < 1) = false := decide_eq_false (by have := y.den_nz; omega)
        simp only [bls_true, blsOf, Option.map_some, LV.begin, Nat.reduceLeDiff, ne_eq, not_false_eq_true, not_true_eq_false, Int.reduceLE, Int.reduceLT, Nat.zero_le, at_0, at_1, at_2, at_3, at_m1a, at_m1b, at_m1c, at_m1d, at_m2b, at_m2c, decide_true, eq_self, Int.reduceEq, true_and, and_true, false_and, and_false, or_false, false_or, Int.reduceNeg, gIx, decide_false, Bool.and_true, Bool.true_and, Bool.or_true, wSeq, wSet, wAsg, wPar, wIf, wIfS, wTst, LV.wTru, LV.wNot, wAnd, wOr, wAndV, wOrV, wNotV, wOp, wUn, wV, wC, fCI, fAdd, fSub, fMul, fDiv, fMod, fPow, fNeg, fIx, fIs, fIsNot, fEq, fNe, fLt, fLe, fGt, fGe, wCB, wCons, wNil, w1, wApp, wIsi, isiB, bagD, isNonD, fLen, fAbs, fInt, fGcd, fList, fTuple, fRepr, fLz, fLen0, fLrv, fSum, fMax, fMin, fAll, fAny, seqD, rdL, rdW, fzL, fzW, unL, putS, RV.sl, wRet, wRetN, wNever, wNext, wDrop, wTup, wLst, outW, placeW, gN, gTu, gCo, gNi, wFor, zSeq, zr_0, zr_1, zr_2, zr_3, zr_4, nc_0, nc_1, nc_2, nc_3, nc_4, zEnum, zZip, zZip3, ixD, tru, wCall, wCallK, wApp, wAppend, wPopAt, wExtend, wChainE, fIn, fBits, fFac, fComb, fRngL1, fRngL2, owW, wSl, fSl, wONone, wOSome, wLc, wYes, List.map, List.replicate, List.length, List.append, List.set, List.take, List.drop, List.getLast?, List.dropLast, List.filterMap, List.getElem?_cons_zero, List.getElem?_cons_succ, List.getElem?_nil, Nat.reduceAdd, Nat.reduceSub, Nat.reduceLT, List.cons_append, List.nil_append, Option.some.injEq, reduceCtorEq, reduceIte, Bool.not_true, Bool.not_false, Bool.false_eq_true, List.isEmpty, h1]
        rw [if_neg (by decide)]
        exact hn2 _ ⟨by simpa using e, _, rfl⟩
    · rintro done s ⟨e, x, rfl⟩
      exact hn _ ⟨_, rfl⟩
  rintro s ⟨x, rfl⟩
  refine seq_cut (fun s => s = [.sh (tQ p), .sh (tQ v), x, .un, .un, .un, .un, .un]) (fun nx hn => ?_) ?_
  · have e1 : D.tup [.int 1, .int 1] = fQ 1 := rfl
    have e2 : (p.map fQ).isEmpty = false := by cases p with
      | nil => exact absurd rfl hne
      | cons _ _ => rfl
    simp only [LV.begin, Nat.reduceLeDiff, ne_eq, not_false_eq_true, not_true_eq_false, Int.reduceLE, Int.reduceLT, Nat.zero_le, at_0, at_1, at_2, at_3, at_m1a, at_m1b, at_m1c, at_m1d, at_m2b, at_m2c, decide_true, eq_self, Int.reduceEq, true_and, and_true, false_and, and_false, or_false, false_or, Int.reduceNeg, gIx, decide_false, Bool.and_true, Bool.true_and, Bool.or_true, wSeq, wSet, wAsg, wPar, wIf, wIfS, wTst, LV.wTru, LV.wNot, wAnd, wOr, wAndV, wOrV, wNotV, wOp, wUn, wV, wC, fCI, fAdd, fSub, fMul, fDiv, fMod, fPow, fNeg, fIx, fIs, fIsNot, fEq, fNe, fLt, fLe, fGt, fGe, wCB, wCons, wNil, w1, wApp, wIsi, isiB, bagD, isNonD, fLen, fAbs, fInt, fGcd, fList, fTuple, fRepr, fLz, fLen0, fLrv, fSum, fMax, fMin, fAll, fAny, seqD, rdL, rdW, fzL, fzW, unL, putS, RV.sl, wRet, wRetN, wNever, wNext, wDrop, wTup, wLst, outW, placeW, gN, gTu, gCo, gNi, wFor, zSeq, zr_0, zr_1, zr_2, zr_3, zr_4, nc_0, nc_1, nc_2, nc_3, nc_4, zEnum, zZip, zZip3, ixD, tru, wCall, wCallK, wApp, wAppend, wPopAt, wExtend, wChainE, fIn, fBits, fFac, fComb, fRngL1, fRngL2, owW, wSl, fSl, wONone, wOSome, wLc, wYes, List.map, List.replicate, List.length, List.append, List.set, List.take, List.drop, List.getLast?, List.dropLast, List.filterMap, List.getElem?_cons_zero, List.getElem?_cons_succ, List.getElem?_nil, Nat.reduceAdd, Nat.reduceSub, Nat.reduceLT, List.cons_append, List.nil_append, Option.some.injEq, reduceCtorEq, reduceIte, Bool.not_true, Bool.not_false, Bool.false_eq_true, List.isEmpty, tQ, at_lst hne, hl1]
    refine ⟨sha_tQ p, sha_nilT, ?_⟩
    rw [if_neg (by rw [eqD_nilT, e2]; decide)]
    refine ⟨sha_fQ 1, sha_fQ 1, ?_⟩
    rw [if_neg (by rw [e1, eqD_fQ]; decide)]
    exact hn _ rfl
  rintro s rfl
  refine seq_cut (fun s => ∃ x x4 x5 x6 x7, s = [.sh (tQ p), .sh (tQ v), x, .un, x4, x5, x6, x7]) (fun nx hn => ?_) ?_
  · have lv : (v.map fQ).length = v.length := List.length_map _
    have lp : (p.map fQ).length = p.length := List.length_map _
    have hr : ((v.map fQ).length : Int) + 1 - ((p.map fQ).length : Int) = ((v.length : Int) + 1 - (p.length : Int)) := by rw [List.length_map, List.length_map]
    simp only [LV.begin, Nat.reduceLeDiff, ne_eq, not_false_eq_true, not_true_eq_false, Int.reduceLE, Int.reduceLT, Nat.zero_le, at_0, at_1, at_2, at_3, at_m1a, at_m1b, at_m1c, at_m1d, at_m2b, at_m2c, decide_true, eq_self, Int.reduceEq, true_and, and_true, false_and, and_false, or_false, false_or, Int.reduceNeg, gIx, decide_false, Bool.and_true, Bool.true_and, Bool.or_true, wSeq, wSet, wAsg, wPar, wIf, wIfS, wTst, LV.wTru, LV.wNot, wAnd, wOr, wAndV, wOrV, wNotV, wOp, wUn, wV, wC, fCI, fAdd, fSub, fMul, fDiv, fMod, fPow, fNeg, fIx, fIs, fIsNot, fEq, fNe, fLt, fLe, fGt, fGe, wCB, wCons, wNil, w1, wApp, wIsi, isiB, bagD, isNonD, fLen, fAbs, fInt, fGcd, fList, fTuple, fRepr, fLz, fLen0, fLrv, fSum, fMax, fMin, fAll, fAny, seqD, rdL, rdW, fzL, fzW, unL, putS, RV.sl, wRet, wRetN, wNever, wNext, wDrop, wTup, wLst, outW, placeW, gN, gTu, gCo, gNi, wFor, zSeq, zr_0, zr_1, zr_2, zr_3, zr_4, nc_0, nc_1, nc_2, nc_3, nc_4, zEnum, zZip, zZip3, ixD, tru, wCall, wCallK, wApp, wAppend, wPopAt, wExtend, wChainE, fIn, fBits, fFac, fComb, fRngL1, fRngL2, owW, wSl, fSl, wONone, wOSome, wLc, wYes, List.map, List.replicate, List.length, List.append, List.set, List.take, List.drop, List.getLast?, List.dropLast, List.filterMap, List.getElem?_cons_zero, List.getElem?_cons_succ, List.getElem?_nil, Nat.reduceAdd, Nat.reduceSub, Nat.reduceLT, List.cons_append, List.nil_append, Option.some.injEq, reduceCtorEq, reduceIte, Bool.not_true, Bool.not_false, Bool.false_eq_true, List.isEmpty, tQ, hr]
    refine ⟨_, zrng1 (v.length + 1 - p.length) (by omega) (by omega), ?_⟩
    refine forL (fun (k : Nat) => D.int (0 + (k : Int))) (fun done rest s => done ++ rest = List.range (v.length + 1 - p.length) ∧ ∃ x x4 x5 x6 x7, s = [.sh (tQ p), .sh (tQ v), x, .un, x4, x5, x6, x7]) ?_ ?_ (List.range (v.length + 1 - p.length)) [] _ ⟨rfl, _, _, _, _, _, rfl⟩
    · rintro done i rest s nx2 ⟨e, x, x4, x5, x6, x7, rfl⟩ hn2
      obtain ⟨hi, hi2, _, _⟩ := rng_len e
      simp only [gN, List.set, Int.zero_add]
      refine seq_cut (fun s => s = [.sh (tQ p), .sh (tQ v), x, .un, .sh (.int (i : Nat)), .sh (.int 0), .sh (.int 1), x7]) (fun nx hn => by simp only [LV.begin, Nat.reduceLeDiff, ne_eq, not_false_eq_true, not_true_eq_false, Int.reduceLE, Int.reduceLT, Nat.zero_le, at_0, at_1, at_2, at_3, at_m1a, at_m1b, at_m1c, at_m1d, at_m2b, at_m2c, decide_true, eq_self, Int.reduceEq, true_and, and_true, false_and, and_false, or_false, false_or, Int.reduceNeg, gIx, decide_false, Bool.and_true, Bool.true_and, Bool.or_true, wSeq, wSet, wAsg, wPar, wIf, wIfS, wTst, LV.wTru, LV.wNot, wAnd, wOr, wAndV, wOrV, wNotV, wOp, wUn, wV, wC, fCI, fAdd, fSub, fMul, fDiv, fMod, fPow, fNeg, fIx, fIs, fIsNot, fEq, fNe, fLt, fLe, fGt, fGe, wCB, wCons, wNil, w1, wApp, wIsi, isiB, bagD, isNonD, fLen, fAbs, fInt, fGcd, fList, fTuple, fRepr, fLz, fLen0, fLrv, fSum, fMax, fMin, fAll, fAny, seqD, rdL, rdW, fzL, fzW, unL, putS, RV.sl, wRet, wRetN, wNever, wNext, wDrop, wTup, wLst, outW, placeW, gN, gTu, gCo, gNi, wFor, zSeq, zr_0, zr_1, zr_2, zr_3, zr_4, nc_0, nc_1, nc_2, nc_3, nc_4, zEnum, zZip, zZip3, ixD, tru, wCall, wCallK, wApp, wAppend, wPopAt, wExtend, wChainE, fIn, fBits, fFac, fComb, fRngL1, fRngL2, owW, wSl, fSl, wONone, wOSome, wLc, wYes, List.map, List.replicate, List.length, List.append, List.set, List.take, List.drop, List.getLast?, List.dropLast, List.filterMap, List.getElem?_cons_zero, List.getElem?_cons_succ, List.getElem?_nil, Nat.reduceAdd, Nat.reduceSub, Nat.reduceLT, List.cons_append, List.nil_append, Option.some.injEq, reduceCtorEq, reduceIte, Bool.not_true, Bool.not_false, Bool.false_eq_true, List.isEmpty]; exact hn _ rfl) ?_
      rintro s rfl
      obtain ⟨c, ec⟩ : ∃ c, c = (v.drop i).take p.length := ⟨_, rfl⟩
      have hcut : cutD (v.map fQ) (some (i : Int)) (some ((i : Int) + ((p.map fQ).length : Int))) = c.map fQ := by
        have : (i : Int) + ((p.map fQ).length : Int) = ((i + p.length : Nat) : Int) := by rw [List.length_map]; omega
        rw [this, cut_natN, ec, List.map_take, List.map_drop, Nat.add_sub_cancel_left]
      have zc : ∀ y ∈ c, Sz 6800 y := fun y hy => zv y (List.mem_of_mem_drop (List.mem_of_mem_take (by rw [ec] at hy; exact hy)))
      have hsum : ((p.zip c).map fun q => q.1 * q.2).sum = 0 := by rw [ec]; exact hz i (by omega)
      refine seq_cut (fun s => ∃ x x7 l, s = [.sh (tQ p), .sh (tQ v), x, .un, .sh (.int (i : Nat)), .sh (.int 0), l, x7]) (fun nx hn => ?_) ?_
      · simp only [LV.begin, Nat.reduceLeDiff, ne_eq, not_false_eq_true, not_true_eq_false, Int.reduceLE, Int.reduceLT, Nat.zero_le, at_0, at_1, at_2, at_3, at_m1a, at_m1b, at_m1c, at_m1d, at_m2b, at_m2c, decide_true, eq_self, Int.reduceEq, true_and, and_true, false_and, and_false, or_false, false_or, Int.reduceNeg, gIx, decide_false, Bool.and_true, Bool.true_and, Bool.or_true, wSeq, wSet, wAsg, wPar, wIf, wIfS, wTst, LV.wTru, LV.wNot, wAnd, wOr, wAndV, wOrV, wNotV, wOp, wUn, wV, wC, fCI, fAdd, fSub, fMul, fDiv, fMod, fPow, fNeg, fIx, fIs, fIsNot, fEq, fNe, fLt, fLe, fGt, fGe, wCB, wCons, wNil, w1, wApp, wIsi, isiB, bagD, isNonD, fLen, fAbs, fInt, fGcd, fList, fTuple, fRepr, fLz, fLen0, fLrv, fSum, fMax, fMin, fAll, fAny, seqD, rdL, rdW, fzL, fzW, unL, putS, RV.sl, wRet, wRetN, wNever, wNext, wDrop, wTup, wLst, outW, placeW, gN, gTu, gCo, gNi, wFor, zSeq, zr_0, zr_1, zr_2, zr_3, zr_4, nc_0, nc_1, nc_2, nc_3, nc_4, zEnum, zZip, zZip3, ixD, tru, wCall, wCallK, wApp, wAppend, wPopAt, wExtend, wChainE, fIn, fBits, fFac, fComb, fRngL1, fRngL2, owW, wSl, fSl, wONone, wOSome, wLc, wYes, List.map, List.replicate, List.length, List.append, List.set, List.take, List.drop, List.getLast?, List.dropLast, List.filterMap, List.getElem?_cons_zero, List.getElem?_cons_succ, List.getElem?_nil, Nat.reduceAdd, Nat.reduceSub, Nat.reduceLT, List.cons_append, List.nil_append, Option.some.injEq, reduceCtorEq, reduceIte, Bool.not_true, Bool.not_false, Bool.false_eq_true, List.isEmpty, tQ, hcut, zip_map2]
        refine ⟨_, rfl, ?_⟩
        refine forL (fun q : Rat × Rat => D.tup [fQ q.1, fQ q.2]) (fun done rest s => done ++ rest = p.zip c ∧ ∃ (x x7 : Sl) (t l : Int), l ≠ 0 ∧ (done.map fun q => q.1 * q.2).sum * (l : Rat) = (t : Rat) ∧ sm (13700 * done.length + 2) t ∧ sm (13700 * done.length + 2) l ∧ s = [.sh (tQ p), .sh (tQ v), x, .un, .sh (.int (i : Nat)), .sh (.int t), .sh (.int l), x7]) ?_ ?_ (p.zip c) [] _ ⟨rfl, x, x7, 0, 1, by decide, by simp, by show (0 : Int).natAbs < 2 ^ 2; decide, by show (1 : Int).natAbs < 2 ^ 2; decide, rfl⟩
        · rintro done2 q rest2 s nx3 ⟨e2, x, x7, t, l, l0, hs, st, sl, rfl⟩ hn3
          have hq2 : q ∈ p.zip c := by rw [← e2]; simp
          have hlen : done2.length < p.length := by
            have := congrArg List.length e2
            simp at this; omega
          have m1 := zp _ (List.of_mem_zip hq2).1
          have m2 := zc _ (List.of_mem_zip hq2).2
          simp only [LV.begin, Nat.reduceLeDiff, ne_eq, not_false_eq_true, not_true_eq_false, Int.reduceLE, Int.reduceLT, Nat.zero_le, at_0, at_1, at_2, at_3, at_m1a, at_m1b, at_m1c, at_m1d, at_m2b, at_m2c, decide_true, eq_self, Int.reduceEq, true_and, and_true, false_and, and_false, or_false, false_or, Int.reduceNeg, gIx, decide_false, Bool.and_true, Bool.true_and, Bool.or_true, wSeq, wSet, wAsg, wPar, wIf, wIfS, wTst, LV.wTru, LV.wNot, wAnd, wOr, wAndV, wOrV, wNotV, wOp, wUn, wV, wC, fCI, fAdd, fSub, fMul, fDiv, fMod, fPow, fNeg, fIx, fIs, fIsNot, fEq, fNe, fLt, fLe, fGt, fGe, wCB, wCons, wNil, w1, wApp, wIsi, isiB, bagD, isNonD, fLen, fAbs, fInt, fGcd, fList, fTuple, fRepr, fLz, fLen0, fLrv, fSum, fMax, fMin, fAll, fAny, seqD, rdL, rdW, fzL, fzW, unL, putS, RV.sl, wRet, wRetN, wNever, wNext, wDrop, wTup, wLst, outW, placeW, gN, gTu, gCo, gNi, wFor, zSeq, zr_0, zr_1, zr_2, zr_3, zr_4, nc_0, nc_1, nc_2, nc_3, nc_4, zEnum, zZip, zZip3, ixD, tru, wCall, wCallK, wApp, wAppend, wPopAt, wExtend, wChainE, fIn, fBits, fFac, fComb, fRngL1, fRngL2, owW, wSl, fSl, wONone, wOSome, wLc, wYes, List.map, List.replicate, List.length, List.append, List.set, List.take, List.drop, List.getLast?, List.dropLast, List.filterMap, List.getElem?_cons_zero, List.getElem?_cons_succ, List.getElem?_nil, Nat.reduceAdd, Nat.reduceSub, Nat.reduceLT, List.cons_append, List.nil_append, Option.some.injEq, reduceCtorEq, reduceIte, Bool.not_true, Bool.not_false, Bool.false_eq_true, List.isEmpty]
          refine ⟨(st.mulW m1.b (by omega)), (st.mul m1.b).mulW m2.b (by omega), m1.a.mulW m2.a (by omega), (m1.a.mul m2.a).mulW sl (by omega), sl.mulW m1.b (by omega), (sl.mul m1.b).mulW m2.b (by omega), ?_⟩
          refine hn3 _ ⟨by simpa using e2, .sh (fQ q.1), .sh (fQ q.2), _, _, ?_, ?_, ?_, ?_, rfl⟩
          · exact Int.mul_ne_zero (Int.mul_ne_zero l0 (den_ne' _)) (den_ne' _)
          · rw [List.map_append, List.sum_append, List.map_singleton, List.sum_singleton]
            have e1 := den_nd q.1
            have e2 := den_nd q.2
            push_cast at *
            rw [← e1, ← e2, ← hs]; grind
          · rw [List.length_append, List.length_singleton]
            exact (((st.mul m1.b).mul m2.b).add (((m1.a.mul m2.a).mul sl).mono (by omega))).mono (by omega)
          · rw [List.length_append, List.length_singleton]
            exact ((sl.mul m1.b).mul m2.b).mono (by omega)
        · rintro done2 s ⟨e2, x, x7, t, l, l0, hs, st, sl, rfl⟩
          rw [List.append_nil] at e2
          subst e2
          rw [hsum] at hs
          have : t = 0 := by
            rw [Rat.zero_mul] at hs
            exact (Rat.intCast_eq_zero_iff.mp hs.symm)
          subst this
          exact hn _ ⟨_, _, _, rfl⟩
      rintro s ⟨x, x7, l, rfl⟩
      simp only [LV.begin, Nat.reduceLeDiff, ne_eq, not_false_eq_true, not_true_eq_false, Int.reduceLE, Int.reduceLT, Nat.zero_le, at_0, at_1, at_2, at_3, at_m1a, at_m1b, at_m1c, at_m1d, at_m2b, at_m2c, decide_true, eq_self, Int.reduceEq, true_and, and_true, false_and, and_false, or_false, false_or, Int.reduceNeg, gIx, decide_false, Bool.and_true, Bool.true_and, Bool.or_true, wSeq, wSet, wAsg, wPar, wIf, wIfS, wTst, LV.wTru, LV.wNot, wAnd, wOr, wAndV, wOrV, wNotV, wOp, wUn, wV, wC, fCI, fAdd, fSub, fMul, fDiv, fMod, fPow, fNeg, fIx, fIs, fIsNot, fEq, fNe, fLt, fLe, fGt, fGe, wCB, wCons, wNil, w1, wApp, wIsi, isiB, bagD, isNonD, fLen, fAbs, fInt, fGcd, fList, fTuple, fRepr, fLz, fLen0, fLrv, fSum, fMax, fMin, fAll, fAny, seqD, rdL, rdW, fzL, fzW, unL, putS, RV.sl, wRet, wRetN, wNever, wNext, wDrop, wTup, wLst, outW, placeW, gN, gTu, gCo, gNi, wFor, zSeq, zr_0, zr_1, zr_2, zr_3, zr_4, nc_0, nc_1, nc_2, nc_3, nc_4, zEnum, zZip, zZip3, ixD, tru, wCall, wCallK, wApp, wAppend, wPopAt, wExtend, wChainE, fIn, fBits, fFac, fComb, fRngL1, fRngL2, owW, wSl, fSl, wONone, wOSome, wLc, wYes, List.map, List.replicate, List.length, List.append, List.set, List.take, List.drop, List.getLast?, List.dropLast, List.filterMap, List.getElem?_cons_zero, List.getElem?_cons_succ, List.getElem?_nil, Nat.reduceAdd, Nat.reduceSub, Nat.reduceLT, List.cons_append, List.nil_append, Option.some.injEq, reduceCtorEq, reduceIte, Bool.not_true, Bool.not_false, Bool.false_eq_true, List.isEmpty]
      exact hn2 _ ⟨by simpa using e, _, _, _, _, _, rfl⟩
    · rintro done s ⟨e, x, x4, x5, x6, x7, rfl⟩
      exact hn _ ⟨_, _, _, _, _, rfl⟩
  rintro s ⟨x, x4, x5, x6, x7, rfl⟩
  simp only [LV.begin, Nat.reduceLeDiff, ne_eq, not_false_eq_true, not_true_eq_false, Int.reduceLE, Int.reduceLT, Nat.zero_le, at_0, at_1, at_2, at_3, at_m1a, at_m1b, at_m1c, at_m1d, at_m2b, at_m2c, decide_true, eq_self, Int.reduceEq, true_and, and_true, false_and, and_false, or_false, false_or, Int.reduceNeg, gIx, decide_false, Bool.and_true, Bool.true_and, Bool.or_true, wSeq, wSet, wAsg, wPar, wIf, wIfS, wTst, LV.wTru, LV.wNot, wAnd, wOr, wAndV, wOrV, wNotV, wOp, wUn, wV, wC, fCI, fAdd, fSub, fMul, fDiv, fMod, fPow, fNeg, fIx, fIs, fIsNot, fEq, fNe, fLt, fLe, fGt, fGe, wCB, wCons, wNil, w1, wApp, wIsi, isiB, bagD, isNonD, fLen, fAbs, fInt, fGcd, fList, fTuple, fRepr, fLz, fLen0, fLrv, fSum, fMax, fMin, fAll, fAny, seqD, rdL, rdW, fzL, fzW, unL, putS, RV.sl, wRet, wRetN, wNever, wNext, wDrop, wTup, wLst, outW, placeW, gN, gTu, gCo, gNi, wFor, zSeq, zr_0, zr_1, zr_2, zr_3, zr_4, nc_0, nc_1, nc_2, nc_3, nc_4, zEnum, zZip, zZip3, ixD, tru, wCall, wCallK, wApp, wAppend, wPopAt, wExtend, wChainE, fIn, fBits, fFac, fComb, fRngL1, fRngL2, owW, wSl, fSl, wONone, wOSome, wLc, wYes, List.map, List.replicate, List.length, List.append, List.set, List.take, List.drop, List.getLast?, List.dropLast, List.filterMap, List.getElem?_cons_zero, List.getElem?_cons_succ, List.getElem?_nil, Nat.reduceAdd, Nat.reduceSub, Nat.reduceLT, List.cons_append, List.nil_append, Option.some.injEq, reduceCtorEq, reduceIte, Bool.not_true, Bool.not_false, Bool.false_eq_true, List.isEmpty]
  exact hq
/-! the own run, in integers -/
def i2r (a : Int) : Rat := (a : Rat)
/-- a row of integers over one integer -/
def Rw (v : List Rat) (row : List Int) (low : Int) : Prop := v.map (fun x => x * (low : Rat)) = row.map i2r
theorem Rw.len {v : List Rat} {row : List Int} {low : Int} (h : Rw v row low) : row.length = v.length := by
  have := congrArg List.length h
  simpa using this.symm
def zpI (t u : Int) (d e : List Int) : List Int := (d.zip e).map fun p => t * p.2 - u * p.1
def dotI (g r : List Int) : Int := ((g.zip r).map fun p => p.1 * p.2).sum
theorem dot_tp {f x : Rat} {W : Nat} {E low : Int} (hx : x ≠ 0) (hE : x * (W : Rat) = (E : Rat)) : ∀ (d e v : List Rat) (row : List Int), (∀ y ∈ d, y.den ∣ W) → (∀ y ∈ e, y.den ∣ W) → Rw v row low →
    ((dotI (zpI f.num f.den (whL W d) (whL W e)) row : Int) : Rat) = ((f.den : Nat) : Rat) * (E : Rat) * (low : Rat) * tpQ (dvR x d) (dvR x e) f v
  | [], _, _, _, _, _, _ => by simp [dotI, zpI, tpQ, tpL, dvR, whL]
  | _ :: _, [], _, _, _, _, _ => by simp [dotI, zpI, tpQ, tpL, dvR, whL]
  | _ :: _, _ :: _, [], row, _, _, h => by
    have : row = [] := by have := h.len; exact List.length_eq_zero_iff.mp this
    subst this
    simp [dotI, zpI, tpQ, tpL, dvR, whL]
  | a :: d, b :: e, y :: v, row, hd, he, h => by
    match row, h with
    | [], h => exact absurd h.len (by simp)
    | r :: row, h =>
      have h1 : y * (low : Rat) = (r : Rat) := by
        have := (List.cons.inj h).1; exact this
      have h2 : Rw v row low := (List.cons.inj h).2
      have ih := dot_tp (f := f) hx hE d e v row (fun z hz => hd z (List.mem_cons_of_mem _ hz)) (fun z hz => he z (List.mem_cons_of_mem _ hz)) h2
      have ea := wN_ok (hd a (List.mem_cons_self ..))
      have eb := wN_ok (he b (List.mem_cons_self ..))
      have ef := LV.den_nd f
      have e1 : dotI (zpI f.num f.den (whL W (a :: d)) (whL W (b :: e))) (r :: row) = (f.num * wN W b - f.den * wN W a) * r + dotI (zpI f.num f.den (whL W d) (whL W e)) row := by
        simp [dotI, zpI, whL]
      have e2 : tpQ (dvR x (a :: d)) (dvR x (b :: e)) f (y :: v) = (f * (b / x) - a / x) * y + tpQ (dvR x d) (dvR x e) f v := by
        simp [tpQ, tpL, dvR]
      rw [e1, e2]
      push_cast at *
      rw [ih, ← ea, ← eb, ← ef, ← h1, ← hE]
      have k1 : b / x * x = b := Rat.div_mul_cancel hx
      have k2 : a / x * x = a := Rat.div_mul_cancel hx
      obtain ⟨B, hB⟩ : ∃ B, B = b / x := ⟨_, rfl⟩
      obtain ⟨A, hA⟩ : ∃ A, A = a / x := ⟨_, rfl⟩
      rw [← hB] at k1 ⊢
      rw [← hA] at k2 ⊢
      rw [← k1, ← k2]
      grind
def mdI (tB uA kn : Int) (p : Int × Int) : Nat → Int × Int
  | 0 => p
  | n + 1 => (tB * (mdI tB uA kn p n).1 + kn * (mdI tB uA kn p n).2, uA * (mdI tB uA kn p n).2)
theorem md_ok {tB uA kn low : Int} {p : Int × Int} {V P sh : Rat} (hv : (p.1 : Rat) = (p.2 : Rat) * (low : Rat) * V) (hk : (kn : Rat) = (uA : Rat) * (low : Rat) * P) (ht : (tB : Rat) = (uA : Rat) * sh) :
    ∀ n, ((mdI tB uA kn p n).1 : Rat) = ((mdI tB uA kn p n).2 : Rat) * (low : Rat) * mdQ P sh V n
  | 0 => hv
  | n + 1 => by
    have ih := md_ok hv hk ht n
    show ((tB * (mdI tB uA kn p n).1 + kn * (mdI tB uA kn p n).2 : Int) : Rat) = ((uA * (mdI tB uA kn p n).2 : Int) : Rat) * (low : Rat) * (P + sh * mdQ P sh V n)
    push_cast at *
    rw [ih, hk, ht]; grind
theorem md_part {tB uA kn : Int} {p : Int × Int} {B1 B2 : Nat} (h1 : sm B1 uA) (h2 : sm B2 p.2) : ∀ n, sm (n * B1 + B2) (mdI tB uA kn p n).2
  | 0 => by rw [Nat.zero_mul, Nat.zero_add]; exact h2
  | n + 1 => (h1.mul (md_part (tB := tB) (kn := kn) h1 h2 n)).mono (by rw [Nat.succ_mul]; omega)
theorem md_part0 {tB uA kn : Int} {p : Int × Int} (h1 : uA ≠ 0) (h2 : p.2 ≠ 0) : ∀ n, (mdI tB uA kn p n).2 ≠ 0
  | 0 => h2
  | n + 1 => Int.mul_ne_zero h1 (md_part0 h1 h2 n)
/-- roughly -/
theorem md_sm {tB uA kn : Int} {p : Int × Int} {c r : Nat} (h1 : sm c uA) (h2 : sm c p.2) (h3 : sm c tB) (h4 : sm r kn) (h5 : sm r p.1) : ∀ n, sm ((c + 1) * n + r + c + n * c) (mdI tB uA kn p n).1 ∧ sm (n * c + c) (mdI tB uA kn p n).2
  | 0 => ⟨h5.mono (by omega), h2.mono (by omega)⟩
  | n + 1 => by
    obtain ⟨i1, i2⟩ := md_sm h1 h2 h3 h4 h5 n
    refine ⟨?_, (h1.mul i2).mono (by rw [Nat.succ_mul]; omega)⟩
    have e1 : sm (c + ((c + 1) * n + r + c + n * c)) (tB * (mdI tB uA kn p n).1) := h3.mul i1
    have e2 : sm (c + ((c + 1) * n + r + c + n * c)) (kn * (mdI tB uA kn p n).2) := (h4.mul i2).mono (by omega)
    have q1 : (n + 1) * c = n * c + c := Nat.succ_mul n c
    have q2 : (c + 1) * (n + 1) = (c + 1) * n + (c + 1) := Nat.mul_succ (c + 1) n
    exact (e1.add e2).mono (by omega)
theorem lastK_snoc {k : Nat} {l : List Rat} {x : Rat} (h1 : 1 ≤ k) (h2 : k ≤ l.length) : lastK k (l ++ [x]) = (lastK k l).tail ++ [x] := by
  unfold lastK
  rw [List.length_append, List.length_singleton, List.drop_append_of_le_length (by omega), List.tail_drop]
  congr 2
  omega
theorem Rw.step {v : List Rat} {row : List Int} {low part value : Int} {m : Rat} (h : Rw v row low) (hm : (value : Rat) = (part : Rat) * (low : Rat) * m) : Rw (v.tail ++ [m]) (row.tail.map (fun x => x * part) ++ [value]) (low * part) := by
  unfold Rw at *
  have ht : v.tail.map (fun x => x * (low : Rat)) = row.tail.map i2r := by rw [List.map_tail, List.map_tail, h]
  rw [List.map_append, List.map_append, List.map_map]
  congr 1
  · have : v.tail.map (fun x => x * ((low * part : Int) : Rat)) = (v.tail.map (fun x => x * (low : Rat))).map (fun y => y * (part : Rat)) := by
      rw [List.map_map]
      refine List.map_congr_left fun x _ => ?_
      show x * ((low * part : Int) : Rat) = x * (low : Rat) * (part : Rat)
      push_cast; grind
    rw [this, ht, List.map_map]
    refine List.map_congr_left fun x _ => ?_
    show (x : Rat) * (part : Rat) = ((x * part : Int) : Rat)
    push_cast; rfl
  · show [m * ((low * part : Int) : Rat)] = [(value : Rat)]
    rw [hm]; push_cast
    congr 1; grind
theorem fdiv_dvd {g x : Int} (h : g ∣ x) (h0 : g ≠ 0) : x.fdiv g * g = x := by
  obtain ⟨k, rfl⟩ := h
  rw [Int.mul_fdiv_cancel_left _ h0, Int.mul_comm]
theorem Rw.div {v : List Rat} {row : List Int} {low g : Int} (h : Rw v row low) (h0 : g ≠ 0) (hl : g ∣ low) (hr : ∀ x ∈ row, g ∣ x) : Rw v (row.map fun x => x.fdiv g) (low.fdiv g) := by
  have hg : (g : Rat) ≠ 0 := by exact_mod_cast h0
  unfold Rw at *
  have e : ∀ x : Rat, x * (low : Rat) = x * ((low.fdiv g : Int) : Rat) * (g : Rat) := fun x => by
    have : (low : Rat) = ((low.fdiv g : Int) : Rat) * (g : Rat) := by
      have := fdiv_dvd hl h0
      rw [← Rat.intCast_mul, this]
    rw [this]; grind
  have e2 : ∀ a ∈ row, i2r a = i2r (a.fdiv g) * (g : Rat) := fun a ha => by
    show (a : Rat) = ((a.fdiv g : Int) : Rat) * (g : Rat)
    rw [← Rat.intCast_mul, fdiv_dvd (hr a ha) h0]
  refine List.ext_getElem (by have := congrArg List.length h; simpa using this) fun i h1 h2 => ?_
  have hi : i < row.length := by simpa using h2
  have hv : i < v.length := by simpa using h1
  have := congrArg (fun l => l[i]?) h
  simp only [List.getElem?_map, List.getElem?_eq_getElem hv, List.getElem?_eq_getElem hi, Option.map_some, Option.some.injEq] at this
  rw [List.getElem_map, List.getElem_map, List.getElem_map]
  rw [e, e2 _ (List.getElem_mem hi)] at this
  obtain ⟨A, hA⟩ : ∃ A, A = v[i] * ((low.fdiv g : Int) : Rat) := ⟨_, rfl⟩
  obtain ⟨B, hB⟩ : ∃ B, B = i2r (row[i].fdiv g) := ⟨_, rfl⟩
  rw [← hA, ← hB] at this ⊢
  have k : A * (g : Rat) / (g : Rat) = B * (g : Rat) / (g : Rat) := by rw [this]
  rwa [Rat.mul_div_cancel hg, Rat.mul_div_cancel hg] at k
theorem Rw.begun (l : List Rat) : Rw l (wI l) (wB l : Int) := by
  unfold Rw wI
  rw [List.map_map]
  refine List.map_congr_left fun x hx => ?_
  have := wN_mem hx
  exact_mod_cast this
abbrev lI (l : List Int) : D := .lst (l.map D.int)
theorem zip_I (xs ys : List Int) : zipD (xs.map D.int) (ys.map D.int) = (xs.zip ys).map fun p => .tup [.int p.1, .int p.2] := zip_map2 D.int D.int xs ys
theorem wh_sm {a b : List Rat} {n : Nat} (h : Cd n (a ++ b)) : (∀ x ∈ whL (wB (a ++ b)) a, sm n x) ∧ ∀ x ∈ whL (wB (a ++ b)) b, sm n x :=
  ⟨fun x hx => by obtain ⟨y, hy, rfl⟩ := List.mem_map.mp hx; exact h.2 y (List.mem_append_left _ hy), fun x hx => by obtain ⟨y, hy, rfl⟩ := List.mem_map.mp hx; exact h.2 y (List.mem_append_right _ hy)⟩
theorem zpI_sm {t u : Int} {d e : List Int} {n : Nat} (ht : sm 10 t) (hu : sm 10 u) (hd : ∀ x ∈ d, sm n x) (he : ∀ x ∈ e, sm n x) : ∀ x ∈ zpI t u d e, sm (n + 11) x := fun x hx => by
  obtain ⟨p, hp, rfl⟩ := List.mem_map.mp hx
  have := List.of_mem_zip hp
  exact (((ht.mul (he _ this.2)).sub ((hu.mul (hd _ this.1)).mono (Nat.le_refl _)))).mono (by omega)
theorem sum_sm {n : Nat} : ∀ {l : List Int}, (∀ x ∈ l, sm n x) → sm (n + l.length) l.sum
  | [], _ => by show (0 : Int).natAbs < 2 ^ _; exact Nat.pow_pos (by decide)
  | x :: l, h => by
    rw [List.sum_cons]
    exact (((h x (List.mem_cons_self ..)).mono (by omega)).add (sum_sm fun y hy => h y (List.mem_cons_of_mem _ hy))).mono (by rw [List.length_cons]; omega)
theorem dot_sm {g r : List Int} {n m : Nat} (hg : ∀ x ∈ g, sm n x) (hr : ∀ x ∈ r, sm m x) (hl : r.length ≤ 8) : sm (n + m + 8) (dotI g r) := by
  refine (sum_sm (n := n + m) fun x hx => ?_).mono (by simp; omega)
  obtain ⟨p, hp, rfl⟩ := List.mem_map.mp hx
  have := List.of_mem_zip hp
  exact (hg _ this.1).mul (hr _ this.2)
theorem nb_le {d e a b : List Rat} {f : Rat} {m n : Nat} (hb : bitsQ d e a b f m ≤ 1407) (h : n = 0 ∨ n * n * bitsQ d e a b f m ≤ 24000) : n * bitsQ d e a b f m ≤ 5700 := by
  obtain ⟨B, hB⟩ : ∃ B, B = bitsQ d e a b f m := ⟨_, rfl⟩
  rw [← hB] at hb h ⊢
  rcases h with rfl | h
  · omega
  · by_cases h4 : n ≤ 4
    · exact Nat.le_trans (Nat.mul_le_mul h4 hb) (by omega)
    · have : 5 * (n * B) ≤ 24000 := Nat.le_trans (by rw [← Nat.mul_assoc]; exact Nat.mul_le_mul_right _ (Nat.mul_le_mul_right _ (by omega))) h
      omega
theorem bits_lt (x : Int) : sm (Builtin.Int.intBits x) x := (PySem.intBits_le_iff).mp (Nat.le_refl _)
theorem cut_tlI (l : List Int) : LV.cutD (l.map D.int) (some 1) none = (l.drop 1).map D.int := by
  have := cut_from (l.map D.int) 1
  rw [List.map_drop]; exact this
theorem bitsQ_le {d e a b : List Rat} {f : Rat} {k m : Nat} (ok : RuleOk d e a b f k) (hm6 : m ≤ 6) : bitsQ d e a b f m ≤ 1407 := by
  have ca := rule_cd ok.la ok.lb ok.k8 ok.sa ok.sb
  have cd := rule_cd ok.ld ok.le ok.k8 ok.sd ok.se
  have zA := ca.2 _ (List.mem_append_left _ (lst_mem (ne_of_len ok.la)))
  have zE := cd.2 _ (List.mem_append_left _ (lst_mem (ne_of_len ok.ld)))
  have zf : sm 10 (f.den : Int) := (Sm3.sz ok.sf).b
  have hB1 := bits_le (sm_nat ((zf.mul zA) : sm (10 + 191) _))
  have hB2 := bits_le (sm_nat ((zf.mul zE) : sm (10 + 191) _))
  unfold bitsQ
  have := Nat.mul_le_mul hm6 hB1
  omega
theorem div_sm {n : Nat} {x g : Int} (h : sm n x) (hg : g ∣ x) (h0 : g ≠ 0) : sm n (x.fdiv g) := by
  refine h.le ?_
  have := fdiv_dvd hg h0
  conv => rhs; rw [← this]
  rw [Int.natAbs_mul]
  exact Nat.le_mul_of_pos_right _ (by omega)
theorem tailK_len {v : List Rat} {m : Rat} {k : Nat} (h : v.length = k) (h1 : 1 ≤ k) : (v.tail ++ [m]).length = k := by simp; omega
theorem lst_dv (x : Rat) (l : List Rat) (h : l ≠ []) : lst (dvR x l) = lst l / x := by
  have := lst_split h
  conv => lhs; rw [this]
  unfold dvR
  rw [List.map_append, List.map_singleton, lst_concat]
theorem bits_nat (x : Int) : sm (Builtin.Int.intBits ((x.natAbs : Nat) : Int)) x := by
  have := bits_lt ((x.natAbs : Nat) : Int)
  have e : (((x.natAbs : Nat) : Int)).natAbs < 2 ^ Builtin.Int.intBits ((x.natAbs : Nat) : Int) := this
  rw [Int.natAbs_natCast] at e; exact e
theorem p__law_own_run {K : PySem.W.Frag} : ∀ ds Qf, F__law_own_run ds Qf → ds.length = 6 ∧ W__law_own_run K { nx := fun _ => Qf (.sh .non), rt := Qf } (begin 25 ds) := by
  intro ds Qf h
  obtain ⟨d, e, a, b, f, m, st, n, rfl, ok, hm6, zst, hn20, hnb, hq⟩ := h
  refine ⟨rfl, ?_⟩
  have k8 := ok.k8
  have ca := rule_cd ok.la ok.lb k8 ok.sa ok.sb
  have cd := rule_cd ok.ld ok.le k8 ok.sd ok.se
  obtain ⟨hw1, hw2⟩ := wh_sm ca
  obtain ⟨hw3, hw4⟩ := wh_sm cd
  have la0 := ok.la
  have lb0 := ok.lb
  have ld0 := ok.ld
  have le0 := ok.le
  obtain ⟨aI, eaI⟩ : ∃ x, x = whL (wB (a ++ b)) a := ⟨_, rfl⟩
  obtain ⟨bI, ebI⟩ : ∃ x, x = whL (wB (a ++ b)) b := ⟨_, rfl⟩
  obtain ⟨dI, edI⟩ : ∃ x, x = whL (wB (d ++ e)) d := ⟨_, rfl⟩
  obtain ⟨eI, eeI⟩ : ∃ x, x = whL (wB (d ++ e)) e := ⟨_, rfl⟩
  rw [← eaI] at hw1; rw [← ebI] at hw2; rw [← edI] at hw3; rw [← eeI] at hw4
  obtain ⟨A, eA⟩ : ∃ x, x = wN (wB (a ++ b)) (lst a) := ⟨_, rfl⟩
  obtain ⟨B, eB⟩ : ∃ x, x = wN (wB (a ++ b)) (lst b) := ⟨_, rfl⟩
  obtain ⟨E, eE⟩ : ∃ x, x = wN (wB (d ++ e)) (lst d) := ⟨_, rfl⟩
  have atA : atI (aI.map D.int) (-1) = some (.int A) := by rw [eaI, eA]; exact at_lstI (ne_of_len la0) _
  have atB : atI (bI.map D.int) (-1) = some (.int B) := by rw [ebI, eB]; exact at_lstI (ne_of_len lb0) _
  have atE : atI (dI.map D.int) (-1) = some (.int E) := by rw [edI, eE]; exact at_lstI (ne_of_len ld0) _
  obtain ⟨g, eg⟩ : ∃ g : D, g = rlD d e := ⟨_, rfl⟩
  obtain ⟨r, er⟩ : ∃ g : D, g = rlD a b := ⟨_, rfl⟩
  obtain ⟨t, et⟩ : ∃ t, t = f.num := ⟨_, rfl⟩
  obtain ⟨u, eu⟩ : ∃ u : Int, u = (f.den : Int) := ⟨_, rfl⟩
  have zt : sm 10 t := by rw [et]; exact (Sm3.sz ok.sf).a
  have zu : sm 10 u := by rw [eu]; exact (Sm3.sz ok.sf).b
  unfold W__law_own_run
  refine seq_cut (fun s => s = [.sh g, .sh r, .sh (fQ f), .sh (.int (m : Nat)), .sh (tQ st), .sh (.int (n : Nat)), .sh (lI aI), .sh (lI bI), .un, .un, .un, .un, .un, .un, .un, .un, .un, .un, .un, .un, .un, .un, .un, .un, .un]) (fun nx hn => ?_) ?_
  · simp only [LV.begin, Nat.reduceLeDiff, ne_eq, not_false_eq_true, not_true_eq_false, Int.reduceLE, Int.reduceLT, Nat.zero_le, at_0, at_1, at_2, at_3, at_m1a, at_m1b, at_m1c, at_m1d, at_m2b, at_m2c, decide_true, eq_self, Int.reduceEq, true_and, and_true, false_and, and_false, or_false, false_or, Int.reduceNeg, gIx, decide_false, Bool.and_true, Bool.true_and, Bool.or_true, wSeq, wSet, wAsg, wPar, wIf, wIfS, wTst, LV.wTru, LV.wNot, wAnd, wOr, wAndV, wOrV, wNotV, wOp, wUn, wV, wC, fCI, fAdd, fSub, fMul, fDiv, fMod, fPow, fNeg, fIx, fIs, fIsNot, fEq, fNe, fLt, fLe, fGt, fGe, wCB, wCons, wNil, w1, wApp, wIsi, isiB, bagD, isNonD, fLen, fAbs, fInt, fGcd, fList, fTuple, fRepr, fLz, fLen0, fLrv, fSum, fMax, fMin, fAll, fAny, seqD, rdL, rdW, fzL, fzW, unL, putS, RV.sl, wRet, wRetN, wNever, wNext, wDrop, wTup, wLst, outW, placeW, gN, gTu, gCo, gNi, wFor, zSeq, zr_0, zr_1, zr_2, zr_3, zr_4, nc_0, nc_1, nc_2, nc_3, nc_4, zEnum, zZip, zZip3, ixD, tru, wCall, wCallK, wApp, wAppend, wPopAt, wExtend, wChainE, fIn, fBits, fFac, fComb, fRngL1, fRngL2, owW, wSl, fSl, wONone, wOSome, wLc, wYes, List.map, List.replicate, List.length, List.append, List.set, List.take, List.drop, List.getLast?, List.dropLast, List.filterMap, List.getElem?_cons_zero, List.getElem?_cons_succ, List.getElem?_nil, Nat.reduceAdd, Nat.reduceSub, Nat.reduceLT, List.cons_append, List.nil_append, Option.some.injEq, reduceCtorEq, reduceIte, Bool.not_true, Bool.not_false, Bool.false_eq_true, List.isEmpty, F__law_whole]
    refine ⟨a, b, rfl, by omega, fun x hx => ?_, ?_⟩
    · rcases List.mem_append.mp hx with h | h
      · exact (Sm3.sz (ok.sa x h)).mono (by omega)
      · exact (Sm3.sz (ok.sb x h)).mono (by omega)
    · rw [← eg, ← er, ← eaI, ← ebI]
      exact hn _ rfl
  rintro s rfl
  refine seq_cut (fun s => s = [.sh g, .sh r, .sh (fQ f), .sh (.int (m : Nat)), .sh (tQ st), .sh (.int (n : Nat)), .sh (lI aI), .sh (lI bI), .sh (lI dI), .sh (lI eI), .un, .un, .un, .un, .un, .un, .un, .un, .un, .un, .un, .un, .un, .un, .un]) (fun nx hn => ?_) ?_
  · simp only [LV.begin, Nat.reduceLeDiff, ne_eq, not_false_eq_true, not_true_eq_false, Int.reduceLE, Int.reduceLT, Nat.zero_le, at_0, at_1, at_2, at_3, at_m1a, at_m1b, at_m1c, at_m1d, at_m2b, at_m2c, decide_true, eq_self, Int.reduceEq, true_and, and_true, false_and, and_false, or_false, false_or, Int.reduceNeg, gIx, decide_false, Bool.and_true, Bool.true_and, Bool.or_true, wSeq, wSet, wAsg, wPar, wIf, wIfS, wTst, LV.wTru, LV.wNot, wAnd, wOr, wAndV, wOrV, wNotV, wOp, wUn, wV, wC, fCI, fAdd, fSub, fMul, fDiv, fMod, fPow, fNeg, fIx, fIs, fIsNot, fEq, fNe, fLt, fLe, fGt, fGe, wCB, wCons, wNil, w1, wApp, wIsi, isiB, bagD, isNonD, fLen, fAbs, fInt, fGcd, fList, fTuple, fRepr, fLz, fLen0, fLrv, fSum, fMax, fMin, fAll, fAny, seqD, rdL, rdW, fzL, fzW, unL, putS, RV.sl, wRet, wRetN, wNever, wNext, wDrop, wTup, wLst, outW, placeW, gN, gTu, gCo, gNi, wFor, zSeq, zr_0, zr_1, zr_2, zr_3, zr_4, nc_0, nc_1, nc_2, nc_3, nc_4, zEnum, zZip, zZip3, ixD, tru, wCall, wCallK, wApp, wAppend, wPopAt, wExtend, wChainE, fIn, fBits, fFac, fComb, fRngL1, fRngL2, owW, wSl, fSl, wONone, wOSome, wLc, wYes, List.map, List.replicate, List.length, List.append, List.set, List.take, List.drop, List.getLast?, List.dropLast, List.filterMap, List.getElem?_cons_zero, List.getElem?_cons_succ, List.getElem?_nil, Nat.reduceAdd, Nat.reduceSub, Nat.reduceLT, List.cons_append, List.nil_append, Option.some.injEq, reduceCtorEq, reduceIte, Bool.not_true, Bool.not_false, Bool.false_eq_true, List.isEmpty, F__law_whole, eg]
    refine ⟨d, e, rfl, by omega, fun x hx => ?_, ?_⟩
    · rcases List.mem_append.mp hx with h | h
      · exact (Sm3.sz (ok.sd x h)).mono (by omega)
      · exact (Sm3.sz (ok.se x h)).mono (by omega)
    · rw [← eg, ← edI, ← eeI]
      exact hn _ rfl
  rintro s rfl
  refine seq_cut (fun s => s = [.sh g, .sh r, .sh (fQ f), .sh (.int (m : Nat)), .sh (tQ st), .sh (.int (n : Nat)), .sh (lI aI), .sh (lI bI), .sh (lI dI), .sh (lI eI), .sh (.int t), .sh (.int u), .un, .un, .un, .un, .un, .un, .un, .un, .un, .un, .un, .un, .un]) (fun nx hn => ?_) ?_
  · simp only [LV.begin, Nat.reduceLeDiff, ne_eq, not_false_eq_true, not_true_eq_false, Int.reduceLE, Int.reduceLT, Nat.zero_le, at_0, at_1, at_2, at_3, at_m1a, at_m1b, at_m1c, at_m1d, at_m2b, at_m2c, decide_true, eq_self, Int.reduceEq, true_and, and_true, false_and, and_false, or_false, false_or, Int.reduceNeg, gIx, decide_false, Bool.and_true, Bool.true_and, Bool.or_true, wSeq, wSet, wAsg, wPar, wIf, wIfS, wTst, LV.wTru, LV.wNot, wAnd, wOr, wAndV, wOrV, wNotV, wOp, wUn, wV, wC, fCI, fAdd, fSub, fMul, fDiv, fMod, fPow, fNeg, fIx, fIs, fIsNot, fEq, fNe, fLt, fLe, fGt, fGe, wCB, wCons, wNil, w1, wApp, wIsi, isiB, bagD, isNonD, fLen, fAbs, fInt, fGcd, fList, fTuple, fRepr, fLz, fLen0, fLrv, fSum, fMax, fMin, fAll, fAny, seqD, rdL, rdW, fzL, fzW, unL, putS, RV.sl, wRet, wRetN, wNever, wNext, wDrop, wTup, wLst, outW, placeW, gN, gTu, gCo, gNi, wFor, zSeq, zr_0, zr_1, zr_2, zr_3, zr_4, nc_0, nc_1, nc_2, nc_3, nc_4, zEnum, zZip, zZip3, ixD, tru, wCall, wCallK, wApp, wAppend, wPopAt, wExtend, wChainE, fIn, fBits, fFac, fComb, fRngL1, fRngL2, owW, wSl, fSl, wONone, wOSome, wLc, wYes, List.map, List.replicate, List.length, List.append, List.set, List.take, List.drop, List.getLast?, List.dropLast, List.filterMap, List.getElem?_cons_zero, List.getElem?_cons_succ, List.getElem?_nil, Nat.reduceAdd, Nat.reduceSub, Nat.reduceLT, List.cons_append, List.nil_append, Option.some.injEq, reduceCtorEq, reduceIte, Bool.not_true, Bool.not_false, Bool.false_eq_true, List.isEmpty, fQ]
    rw [← et, ← eu]
    have e1 : D.tup [.int t, .int u] = fQ f := by rw [et, eu]
    rw [e1]
    exact hn _ rfl
  rintro s rfl
  have lens : aI.length = st.length + 1 ∧ bI.length = st.length + 1 ∧ dI.length = st.length + 1 ∧ eI.length = st.length + 1 := by
    rw [eaI, ebI, edI, eeI]; simp [whL]; omega
  refine seq_cut (fun s => s = [.sh g, .sh r, .sh (fQ f), .sh (.int (m : Nat)), .sh (tQ st), .sh (.int (n : Nat)), .sh (lI aI), .sh (lI bI), .sh (lI dI), .sh (lI eI), .sh (.int t), .sh (.int u), .ow ((zpI t u dI eI).map D.int), .un, .un, .un, .un, .un, .un, .un, .un, .un, .un, .un, .un]) (fun nx hn => ?_) ?_
  · simp only [LV.begin, Nat.reduceLeDiff, ne_eq, not_false_eq_true, not_true_eq_false, Int.reduceLE, Int.reduceLT, Nat.zero_le, at_0, at_1, at_2, at_3, at_m1a, at_m1b, at_m1c, at_m1d, at_m2b, at_m2c, decide_true, eq_self, Int.reduceEq, true_and, and_true, false_and, and_false, or_false, false_or, Int.reduceNeg, gIx, decide_false, Bool.and_true, Bool.true_and, Bool.or_true, wSeq, wSet, wAsg, wPar, wIf, wIfS, wTst, LV.wTru, LV.wNot, wAnd, wOr, wAndV, wOrV, wNotV, wOp, wUn, wV, wC, fCI, fAdd, fSub, fMul, fDiv, fMod, fPow, fNeg, fIx, fIs, fIsNot, fEq, fNe, fLt, fLe, fGt, fGe, wCB, wCons, wNil, w1, wApp, wIsi, isiB, bagD, isNonD, fLen, fAbs, fInt, fGcd, fList, fTuple, fRepr, fLz, fLen0, fLrv, fSum, fMax, fMin, fAll, fAny, seqD, rdL, rdW, fzL, fzW, unL, putS, RV.sl, wRet, wRetN, wNever, wNext, wDrop, wTup, wLst, outW, placeW, gN, gTu, gCo, gNi, wFor, zSeq, zr_0, zr_1, zr_2, zr_3, zr_4, nc_0, nc_1, nc_2, nc_3, nc_4, zEnum, zZip, zZip3, ixD, tru, wCall, wCallK, wApp, wAppend, wPopAt, wExtend, wChainE, fIn, fBits, fFac, fComb, fRngL1, fRngL2, owW, wSl, fSl, wONone, wOSome, wLc, wYes, List.map, List.replicate, List.length, List.append, List.set, List.take, List.drop, List.getLast?, List.dropLast, List.filterMap, List.getElem?_cons_zero, List.getElem?_cons_succ, List.getElem?_nil, Nat.reduceAdd, Nat.reduceSub, Nat.reduceLT, List.cons_append, List.nil_append, Option.some.injEq, reduceCtorEq, reduceIte, Bool.not_true, Bool.not_false, Bool.false_eq_true, List.isEmpty, lI, zip_I]
    refine ⟨_, rfl, ?_⟩
    refine lcMap (fun p : Int × Int => D.tup [.int p.1, .int p.2]) (fun p => .int (t * p.2 - u * p.1)) (dI.zip eI) ?_ (by simp; omega) rfl (fun p hp R hR => ?_) ?_
    · rfl
    · have hz := List.of_mem_zip hp
      simp only [wipeS, LV.begin, Nat.reduceLeDiff, ne_eq, not_false_eq_true, not_true_eq_false, Int.reduceLE, Int.reduceLT, Nat.zero_le, at_0, at_1, at_2, at_3, at_m1a, at_m1b, at_m1c, at_m1d, at_m2b, at_m2c, decide_true, eq_self, Int.reduceEq, true_and, and_true, false_and, and_false, or_false, false_or, Int.reduceNeg, gIx, decide_false, Bool.and_true, Bool.true_and, Bool.or_true, wSeq, wSet, wAsg, wPar, wIf, wIfS, wTst, LV.wTru, LV.wNot, wAnd, wOr, wAndV, wOrV, wNotV, wOp, wUn, wV, wC, fCI, fAdd, fSub, fMul, fDiv, fMod, fPow, fNeg, fIx, fIs, fIsNot, fEq, fNe, fLt, fLe, fGt, fGe, wCB, wCons, wNil, w1, wApp, wIsi, isiB, bagD, isNonD, fLen, fAbs, fInt, fGcd, fList, fTuple, fRepr, fLz, fLen0, fLrv, fSum, fMax, fMin, fAll, fAny, seqD, rdL, rdW, fzL, fzW, unL, putS, RV.sl, wRet, wRetN, wNever, wNext, wDrop, wTup, wLst, outW, placeW, gN, gTu, gCo, gNi, wFor, zSeq, zr_0, zr_1, zr_2, zr_3, zr_4, nc_0, nc_1, nc_2, nc_3, nc_4, zEnum, zZip, zZip3, ixD, tru, wCall, wCallK, wApp, wAppend, wPopAt, wExtend, wChainE, fIn, fBits, fFac, fComb, fRngL1, fRngL2, owW, wSl, fSl, wONone, wOSome, wLc, wYes, List.map, List.replicate, List.length, List.append, List.set, List.take, List.drop, List.getLast?, List.dropLast, List.filterMap, List.getElem?_cons_zero, List.getElem?_cons_succ, List.getElem?_nil, Nat.reduceAdd, Nat.reduceSub, Nat.reduceLT, List.cons_append, List.nil_append, Option.some.injEq, reduceCtorEq, reduceIte, Bool.not_true, Bool.not_false, Bool.false_eq_true, List.isEmpty]
      exact ⟨zt.mulW (hw4 _ hz.2) (by omega), zu.mulW (hw3 _ hz.1) (by omega), hR _ rfl⟩
    · have e1 : ((dI.zip eI).map fun p => D.int (t * p.2 - u * p.1)) = (zpI t u dI eI).map D.int := by unfold zpI; rw [List.map_map]; rfl
      rw [e1]
      exact hn _ rfl
  rintro s rfl
  refine seq_cut (fun s => s = [.sh g, .sh r, .sh (fQ f), .sh (.int (m : Nat)), .sh (tQ st), .sh (.int (n : Nat)), .sh (lI aI), .sh (lI bI), .sh (lI dI), .sh (lI eI), .sh (.int t), .sh (.int u), .ow ((zpI t u dI eI).map D.int), .un, .un, .ow ((zpI t u aI bI).map D.int), .un, .un, .un, .un, .un, .un, .un, .un, .un]) (fun nx hn => ?_) ?_
  · simp only [LV.begin, Nat.reduceLeDiff, ne_eq, not_false_eq_true, not_true_eq_false, Int.reduceLE, Int.reduceLT, Nat.zero_le, at_0, at_1, at_2, at_3, at_m1a, at_m1b, at_m1c, at_m1d, at_m2b, at_m2c, decide_true, eq_self, Int.reduceEq, true_and, and_true, false_and, and_false, or_false, false_or, Int.reduceNeg, gIx, decide_false, Bool.and_true, Bool.true_and, Bool.or_true, wSeq, wSet, wAsg, wPar, wIf, wIfS, wTst, LV.wTru, LV.wNot, wAnd, wOr, wAndV, wOrV, wNotV, wOp, wUn, wV, wC, fCI, fAdd, fSub, fMul, fDiv, fMod, fPow, fNeg, fIx, fIs, fIsNot, fEq, fNe, fLt, fLe, fGt, fGe, wCB, wCons, wNil, w1, wApp, wIsi, isiB, bagD, isNonD, fLen, fAbs, fInt, fGcd, fList, fTuple, fRepr, fLz, fLen0, fLrv, fSum, fMax, fMin, fAll, fAny, seqD, rdL, rdW, fzL, fzW, unL, putS, RV.sl, wRet, wRetN, wNever, wNext, wDrop, wTup, wLst, outW, placeW, gN, gTu, gCo, gNi, wFor, zSeq, zr_0, zr_1, zr_2, zr_3, zr_4, nc_0, nc_1, nc_2, nc_3, nc_4, zEnum, zZip, zZip3, ixD, tru, wCall, wCallK, wApp, wAppend, wPopAt, wExtend, wChainE, fIn, fBits, fFac, fComb, fRngL1, fRngL2, owW, wSl, fSl, wONone, wOSome, wLc, wYes, List.map, List.replicate, List.length, List.append, List.set, List.take, List.drop, List.getLast?, List.dropLast, List.filterMap, List.getElem?_cons_zero, List.getElem?_cons_succ, List.getElem?_nil, Nat.reduceAdd, Nat.reduceSub, Nat.reduceLT, List.cons_append, List.nil_append, Option.some.injEq, reduceCtorEq, reduceIte, Bool.not_true, Bool.not_false, Bool.false_eq_true, List.isEmpty, lI, zip_I]
    refine ⟨_, rfl, ?_⟩
    refine lcMap (fun p : Int × Int => D.tup [.int p.1, .int p.2]) (fun p => .int (t * p.2 - u * p.1)) (aI.zip bI) ?_ (by simp; omega) rfl (fun p hp R hR => ?_) ?_
    · rfl
    · have hz := List.of_mem_zip hp
      simp only [wipeS, LV.begin, Nat.reduceLeDiff, ne_eq, not_false_eq_true, not_true_eq_false, Int.reduceLE, Int.reduceLT, Nat.zero_le, at_0, at_1, at_2, at_3, at_m1a, at_m1b, at_m1c, at_m1d, at_m2b, at_m2c, decide_true, eq_self, Int.reduceEq, true_and, and_true, false_and, and_false, or_false, false_or, Int.reduceNeg, gIx, decide_false, Bool.and_true, Bool.true_and, Bool.or_true, wSeq, wSet, wAsg, wPar, wIf, wIfS, wTst, LV.wTru, LV.wNot, wAnd, wOr, wAndV, wOrV, wNotV, wOp, wUn, wV, wC, fCI, fAdd, fSub, fMul, fDiv, fMod, fPow, fNeg, fIx, fIs, fIsNot, fEq, fNe, fLt, fLe, fGt, fGe, wCB, wCons, wNil, w1, wApp, wIsi, isiB, bagD, isNonD, fLen, fAbs, fInt, fGcd, fList, fTuple, fRepr, fLz, fLen0, fLrv, fSum, fMax, fMin, fAll, fAny, seqD, rdL, rdW, fzL, fzW, unL, putS, RV.sl, wRet, wRetN, wNever, wNext, wDrop, wTup, wLst, outW, placeW, gN, gTu, gCo, gNi, wFor, zSeq, zr_0, zr_1, zr_2, zr_3, zr_4, nc_0, nc_1, nc_2, nc_3, nc_4, zEnum, zZip, zZip3, ixD, tru, wCall, wCallK, wApp, wAppend, wPopAt, wExtend, wChainE, fIn, fBits, fFac, fComb, fRngL1, fRngL2, owW, wSl, fSl, wONone, wOSome, wLc, wYes, List.map, List.replicate, List.length, List.append, List.set, List.take, List.drop, List.getLast?, List.dropLast, List.filterMap, List.getElem?_cons_zero, List.getElem?_cons_succ, List.getElem?_nil, Nat.reduceAdd, Nat.reduceSub, Nat.reduceLT, List.cons_append, List.nil_append, Option.some.injEq, reduceCtorEq, reduceIte, Bool.not_true, Bool.not_false, Bool.false_eq_true, List.isEmpty]
      exact ⟨zt.mulW (hw2 _ hz.2) (by omega), zu.mulW (hw1 _ hz.1) (by omega), hR _ rfl⟩
    · have e1 : ((aI.zip bI).map fun p => D.int (t * p.2 - u * p.1)) = (zpI t u aI bI).map D.int := by unfold zpI; rw [List.map_map]; rfl
      rw [e1]
      exact hn _ rfl
  rintro s rfl
  refine seq_cut (fun s => s = [.sh g, .sh r, .sh (fQ f), .sh (.int (m : Nat)), .sh (tQ st), .sh (.int (n : Nat)), .sh (lI aI), .sh (lI bI), .sh (lI dI), .sh (lI eI), .sh (.int t), .sh (.int u), .ow ((zpI t u dI eI).map D.int), .un, .un, .ow ((zpI t u aI bI).map D.int), .sh (lI (wI st)), .sh (.int ((wB st : Nat) : Int)), .un, .un, .un, .un, .un, .un, .un]) (fun nx hn => ?_) ?_
  · simp only [LV.begin, Nat.reduceLeDiff, ne_eq, not_false_eq_true, not_true_eq_false, Int.reduceLE, Int.reduceLT, Nat.zero_le, at_0, at_1, at_2, at_3, at_m1a, at_m1b, at_m1c, at_m1d, at_m2b, at_m2c, decide_true, eq_self, Int.reduceEq, true_and, and_true, false_and, and_false, or_false, false_or, Int.reduceNeg, gIx, decide_false, Bool.and_true, Bool.true_and, Bool.or_true, wSeq, wSet, wAsg, wPar, wIf, wIfS, wTst, LV.wTru, LV.wNot, wAnd, wOr, wAndV, wOrV, wNotV, wOp, wUn, wV, wC, fCI, fAdd, fSub, fMul, fDiv, fMod, fPow, fNeg, fIx, fIs, fIsNot, fEq, fNe, fLt, fLe, fGt, fGe, wCB, wCons, wNil, w1, wApp, wIsi, isiB, bagD, isNonD, fLen, fAbs, fInt, fGcd, fList, fTuple, fRepr, fLz, fLen0, fLrv, fSum, fMax, fMin, fAll, fAny, seqD, rdL, rdW, fzL, fzW, unL, putS, RV.sl, wRet, wRetN, wNever, wNext, wDrop, wTup, wLst, outW, placeW, gN, gTu, gCo, gNi, wFor, zSeq, zr_0, zr_1, zr_2, zr_3, zr_4, nc_0, nc_1, nc_2, nc_3, nc_4, zEnum, zZip, zZip3, ixD, tru, wCall, wCallK, wApp, wAppend, wPopAt, wExtend, wChainE, fIn, fBits, fFac, fComb, fRngL1, fRngL2, owW, wSl, fSl, wONone, wOSome, wLc, wYes, List.map, List.replicate, List.length, List.append, List.set, List.take, List.drop, List.getLast?, List.dropLast, List.filterMap, List.getElem?_cons_zero, List.getElem?_cons_succ, List.getElem?_nil, Nat.reduceAdd, Nat.reduceSub, Nat.reduceLT, List.cons_append, List.nil_append, Option.some.injEq, reduceCtorEq, reduceIte, Bool.not_true, Bool.not_false, Bool.false_eq_true, List.isEmpty, F__law_begun]
    exact ⟨st, rfl, by omega, fun x hx => (Sm3.sz (zst x hx)).mono (by omega), hn _ rfl⟩
  rintro s rfl
  refine seq_cut (fun s => s = [.sh g, .sh r, .sh (fQ f), .sh (.int (m : Nat)), .sh (tQ st), .sh (.int (n : Nat)), .sh (lI aI), .sh (lI bI), .sh (lI dI), .sh (lI eI), .sh (.int t), .sh (.int u), .ow ((zpI t u dI eI).map D.int), .un, .un, .ow ((zpI t u aI bI).map D.int), .sh (lI (wI st)), .sh (.int ((wB st : Nat) : Int)), .ow (st.map fQ), .un, .un, .un, .un, .un, .un]) (fun nx hn => ?_) ?_
  · simp only [LV.begin, Nat.reduceLeDiff, ne_eq, not_false_eq_true, not_true_eq_false, Int.reduceLE, Int.reduceLT, Nat.zero_le, at_0, at_1, at_2, at_3, at_m1a, at_m1b, at_m1c, at_m1d, at_m2b, at_m2c, decide_true, eq_self, Int.reduceEq, true_and, and_true, false_and, and_false, or_false, false_or, Int.reduceNeg, gIx, decide_false, Bool.and_true, Bool.true_and, Bool.or_true, wSeq, wSet, wAsg, wPar, wIf, wIfS, wTst, LV.wTru, LV.wNot, wAnd, wOr, wAndV, wOrV, wNotV, wOp, wUn, wV, wC, fCI, fAdd, fSub, fMul, fDiv, fMod, fPow, fNeg, fIx, fIs, fIsNot, fEq, fNe, fLt, fLe, fGt, fGe, wCB, wCons, wNil, w1, wApp, wIsi, isiB, bagD, isNonD, fLen, fAbs, fInt, fGcd, fList, fTuple, fRepr, fLz, fLen0, fLrv, fSum, fMax, fMin, fAll, fAny, seqD, rdL, rdW, fzL, fzW, unL, putS, RV.sl, wRet, wRetN, wNever, wNext, wDrop, wTup, wLst, outW, placeW, gN, gTu, gCo, gNi, wFor, zSeq, zr_0, zr_1, zr_2, zr_3, zr_4, nc_0, nc_1, nc_2, nc_3, nc_4, zEnum, zZip, zZip3, ixD, tru, wCall, wCallK, wApp, wAppend, wPopAt, wExtend, wChainE, fIn, fBits, fFac, fComb, fRngL1, fRngL2, owW, wSl, fSl, wONone, wOSome, wLc, wYes, List.map, List.replicate, List.length, List.append, List.set, List.take, List.drop, List.getLast?, List.dropLast, List.filterMap, List.getElem?_cons_zero, List.getElem?_cons_succ, List.getElem?_nil, Nat.reduceAdd, Nat.reduceSub, Nat.reduceLT, List.cons_append, List.nil_append, Option.some.injEq, reduceCtorEq, reduceIte, Bool.not_true, Bool.not_false, Bool.false_eq_true, List.isEmpty, tQ]
    exact hn _ rfl
  rintro s rfl
  have hbq := bitsQ_le ok hm6
  have hnb2 := nb_le hbq hnb
  obtain ⟨bits, ebits⟩ : ∃ x, x = bitsQ d e a b f m := ⟨_, rfl⟩
  rw [← ebits] at hbq hnb2
  have k1 := ok.k1
  have hA0 : A ≠ 0 := fun h => by
    have e1 := wN_ok (wB_dvd (List.mem_append_left b (lst_mem (ne_of_len la0))))
    rw [← eA, h] at e1
    rcases Rat.mul_eq_zero.mp e1 with h | h
    · exact ok.a0 h
    · exact absurd (Rat.natCast_eq_zero_iff.mp h) (Nat.ne_of_gt (wB_pos _))
  have hE0 : E ≠ 0 := fun h => by
    have e1 := wN_ok (wB_dvd (List.mem_append_left e (lst_mem (ne_of_len ld0))))
    rw [← eE, h] at e1
    rcases Rat.mul_eq_zero.mp e1 with h | h
    · exact ok.d0 h
    · exact absurd (Rat.natCast_eq_zero_iff.mp h) (Nat.ne_of_gt (wB_pos _))
  have hu0 : u ≠ 0 := by rw [eu]; exact_mod_cast f.den_nz
  obtain ⟨G, eG⟩ : ∃ x, x = zpI t u dI eI := ⟨_, rfl⟩
  obtain ⟨Kp, eK⟩ : ∃ x, x = zpI t u aI bI := ⟨_, rfl⟩
  have zG : ∀ x ∈ G, sm 202 x := by rw [eG]; exact zpI_sm zt zu hw3 hw4
  have zK : ∀ x ∈ Kp, sm 202 x := by rw [eK]; exact zpI_sm zt zu hw1 hw2
  have zA : sm 191 A := by rw [eA]; exact ca.2 _ (List.mem_append_left _ (lst_mem (ne_of_len la0)))
  have zB : sm 191 B := by rw [eB]; exact ca.2 _ (List.mem_append_right _ (lst_mem (ne_of_len lb0)))
  have zE : sm 191 E := by rw [eE]; exact cd.2 _ (List.mem_append_left _ (lst_mem (ne_of_len ld0)))
  have zuA : sm 201 (u * A) := zu.mul zA
  have ztB : sm 201 (t * B) := zt.mul zB
  have zuE : sm 201 (u * E) := zu.mul zE
  rw [← eG, ← eK]
  unfold runQ at hq
  obtain ⟨a', ea⟩ : ∃ l, l = dvR (lst a) a := ⟨_, rfl⟩
  obtain ⟨b', eb⟩ : ∃ l, l = dvR (lst a) b := ⟨_, rfl⟩
  obtain ⟨d', ed⟩ : ∃ l, l = dvR (lst d) d := ⟨_, rfl⟩
  obtain ⟨e', ee⟩ : ∃ l, l = dvR (lst d) e := ⟨_, rfl⟩
  rw [← ea, ← eb, ← ed, ← ee] at hq
  refine seq_cut (fun s => ∃ low s13 s16 s19 s20 s21 s22 s23 s24, s = [.sh g, .sh r, .sh (fQ f), .sh (.int (m : Nat)), .sh (tQ st), .sh (.int (n : Nat)), .sh (lI aI), .sh (lI bI), .sh (lI dI), .sh (lI eI), .sh (.int t), .sh (.int u), .ow (G.map D.int), s13, .un, .ow (Kp.map D.int), s16, .sh (.int low), .ow ((runN d' e' a' b' f m st.length st n).map fQ), s19, s20, s21, s22, s23, s24]) (fun nx hn => ?_) ?_
  · simp only [LV.begin, Nat.reduceLeDiff, ne_eq, not_false_eq_true, not_true_eq_false, Int.reduceLE, Int.reduceLT, Nat.zero_le, at_0, at_1, at_2, at_3, at_m1a, at_m1b, at_m1c, at_m1d, at_m2b, at_m2c, decide_true, eq_self, Int.reduceEq, true_and, and_true, false_and, and_false, or_false, false_or, Int.reduceNeg, gIx, decide_false, Bool.and_true, Bool.true_and, Bool.or_true, wSeq, wSet, wAsg, wPar, wIf, wIfS, wTst, LV.wTru, LV.wNot, wAnd, wOr, wAndV, wOrV, wNotV, wOp, wUn, wV, wC, fCI, fAdd, fSub, fMul, fDiv, fMod, fPow, fNeg, fIx, fIs, fIsNot, fEq, fNe, fLt, fLe, fGt, fGe, wCB, wCons, wNil, w1, wApp, wIsi, isiB, bagD, isNonD, fLen, fAbs, fInt, fGcd, fList, fTuple, fRepr, fLz, fLen0, fLrv, fSum, fMax, fMin, fAll, fAny, seqD, rdL, rdW, fzL, fzW, unL, putS, RV.sl, wRet, wRetN, wNever, wNext, wDrop, wTup, wLst, outW, placeW, gN, gTu, gCo, gNi, wFor, zSeq, zr_0, zr_1, zr_2, zr_3, zr_4, nc_0, nc_1, nc_2, nc_3, nc_4, zEnum, zZip, zZip3, ixD, tru, wCall, wCallK, wApp, wAppend, wPopAt, wExtend, wChainE, fIn, fBits, fFac, fComb, fRngL1, fRngL2, owW, wSl, fSl, wONone, wOSome, wLc, wYes, List.map, List.replicate, List.length, List.append, List.set, List.take, List.drop, List.getLast?, List.dropLast, List.filterMap, List.getElem?_cons_zero, List.getElem?_cons_succ, List.getElem?_nil, Nat.reduceAdd, Nat.reduceSub, Nat.reduceLT, List.cons_append, List.nil_append, Option.some.injEq, reduceCtorEq, reduceIte, Bool.not_true, Bool.not_false, Bool.false_eq_true, List.isEmpty]
    refine ⟨_, zrng1 n rfl (by omega), ?_⟩
    refine forL (fun (k : Nat) => D.int (0 + (k : Int))) (fun done rest s => done ++ rest = List.range n ∧ ∃ (acc : List Rat) (row : List Int) (low : Int) (s13 s16 s19 s20 s21 s22 s23 s24 : Sl), acc = runN d' e' a' b' f m st.length st done.length ∧ notOw s13 = true ∧ (s16 = .ow (row.map D.int) ∨ s16 = .sh (lI row)) ∧ Rw (lastK st.length acc) row low ∧ 0 < low ∧ sm (91 + done.length * bits) low ∧ (∀ x ∈ row, sm (91 + 3000 * done.length) x) ∧
      s = [.sh g, .sh r, .sh (fQ f), .sh (.int (m : Nat)), .sh (tQ st), .sh (.int (n : Nat)), .sh (lI aI), .sh (lI bI), .sh (lI dI), .sh (lI eI), .sh (.int t), .sh (.int u), .ow (G.map D.int), s13, .un, .ow (Kp.map D.int), s16, .sh (.int low), .ow (acc.map fQ), s19, s20, s21, s22, s23, s24]) ?_ ?_ (List.range n) [] _ ⟨rfl, st, wI st, (wB st : Int), .un, .sh (lI (wI st)), .un, .un, .un, .un, .un, .un, rfl, rfl, .inr rfl, ?_, ?_, ?_, ?_, rfl⟩
    · rintro done k rest s nx2 ⟨e0, acc, row, low, s13, s16, s19, s20, s21, s22, s23, s24, eacc, h13, h16, hR, hlow, zlow, zrow, rfl⟩ hn2
      obtain ⟨hk, hk2, _, _⟩ := rng_len e0
      have hacc : acc.length = st.length + done.length := by rw [eacc]; exact runN_len ..
      obtain ⟨v, ev⟩ : ∃ l, l = lastK st.length acc := ⟨_, rfl⟩
      rw [← ev] at hR
      have hv : v.length = st.length := by rw [ev]; exact lastK_len _ _ (by omega)
      have hrl : row.length = st.length := hR.len.trans hv
      have hbt : done.length * bits + bits ≤ 5700 := by
        have : (done.length + 1) * bits ≤ n * bits := Nat.mul_le_mul_right _ (by omega)
        rw [Nat.succ_mul] at this; omega
      obtain ⟨y19, e19⟩ : ∃ y : Sl, y = .sh (.int (0 + (k : Int))) := ⟨_, rfl⟩
      simp only [gN, List.set]
      rw [← e19]
      obtain ⟨v0, ev0⟩ : ∃ x, x = dotI G row := ⟨_, rfl⟩
      obtain ⟨kn, ekn⟩ : ∃ x, x = dotI Kp row := ⟨_, rfl⟩
      refine seq_cut (fun s => s = [.sh g, .sh r, .sh (fQ f), .sh (.int (m : Nat)), .sh (tQ st), .sh (.int (n : Nat)), .sh (lI aI), .sh (lI bI), .sh (lI dI), .sh (lI eI), .sh (.int t), .sh (.int u), .ow (G.map D.int), s13, .un, .ow (Kp.map D.int), s16, .sh (.int low), .ow (acc.map fQ), y19, (.sh (.int v0)), s21, s22, s23, s24]) (fun nx hn => ?_) ?_
      · rcases h16 with rfl | rfl
        all_goals
          simp only [LV.begin, Nat.reduceLeDiff, ne_eq, not_false_eq_true, not_true_eq_false, Int.reduceLE, Int.reduceLT, Nat.zero_le, at_0, at_1, at_2, at_3, at_m1a, at_m1b, at_m1c, at_m1d, at_m2b, at_m2c, decide_true, eq_self, Int.reduceEq, true_and, and_true, false_and, and_false, or_false, false_or, Int.reduceNeg, gIx, decide_false, Bool.and_true, Bool.true_and, Bool.or_true, wSeq, wSet, wAsg, wPar, wIf, wIfS, wTst, LV.wTru, LV.wNot, wAnd, wOr, wAndV, wOrV, wNotV, wOp, wUn, wV, wC, fCI, fAdd, fSub, fMul, fDiv, fMod, fPow, fNeg, fIx, fIs, fIsNot, fEq, fNe, fLt, fLe, fGt, fGe, wCB, wCons, wNil, w1, wApp, wIsi, isiB, bagD, isNonD, fLen, fAbs, fInt, fGcd, fList, fTuple, fRepr, fLz, fLen0, fLrv, fSum, fMax, fMin, fAll, fAny, seqD, rdL, rdW, fzL, fzW, unL, putS, RV.sl, wRet, wRetN, wNever, wNext, wDrop, wTup, wLst, outW, placeW, gN, gTu, gCo, gNi, wFor, zSeq, zr_0, zr_1, zr_2, zr_3, zr_4, nc_0, nc_1, nc_2, nc_3, nc_4, zEnum, zZip, zZip3, ixD, tru, wCall, wCallK, wApp, wAppend, wPopAt, wExtend, wChainE, fIn, fBits, fFac, fComb, fRngL1, fRngL2, owW, wSl, fSl, wONone, wOSome, wLc, wYes, List.map, List.replicate, List.length, List.append, List.set, List.take, List.drop, List.getLast?, List.dropLast, List.filterMap, List.getElem?_cons_zero, List.getElem?_cons_succ, List.getElem?_nil, Nat.reduceAdd, Nat.reduceSub, Nat.reduceLT, List.cons_append, List.nil_append, Option.some.injEq, reduceCtorEq, reduceIte, Bool.not_true, Bool.not_false, Bool.false_eq_true, List.isEmpty, lI, zip_I]
          refine ⟨_, rfl, ?_⟩
          refine lcMap (fun p : Int × Int => D.tup [.int p.1, .int p.2]) (fun p => .int (p.1 * p.2)) (G.zip row) ?_ (by simp; omega) (by simp [h13]; rfl) (fun p hp R hR => ?_) ?_
          · rfl
          · have hz := List.of_mem_zip hp
            simp only [wipeS, LV.begin, Nat.reduceLeDiff, ne_eq, not_false_eq_true, not_true_eq_false, Int.reduceLE, Int.reduceLT, Nat.zero_le, at_0, at_1, at_2, at_3, at_m1a, at_m1b, at_m1c, at_m1d, at_m2b, at_m2c, decide_true, eq_self, Int.reduceEq, true_and, and_true, false_and, and_false, or_false, false_or, Int.reduceNeg, gIx, decide_false, Bool.and_true, Bool.true_and, Bool.or_true, wSeq, wSet, wAsg, wPar, wIf, wIfS, wTst, LV.wTru, LV.wNot, wAnd, wOr, wAndV, wOrV, wNotV, wOp, wUn, wV, wC, fCI, fAdd, fSub, fMul, fDiv, fMod, fPow, fNeg, fIx, fIs, fIsNot, fEq, fNe, fLt, fLe, fGt, fGe, wCB, wCons, wNil, w1, wApp, wIsi, isiB, bagD, isNonD, fLen, fAbs, fInt, fGcd, fList, fTuple, fRepr, fLz, fLen0, fLrv, fSum, fMax, fMin, fAll, fAny, seqD, rdL, rdW, fzL, fzW, unL, putS, RV.sl, wRet, wRetN, wNever, wNext, wDrop, wTup, wLst, outW, placeW, gN, gTu, gCo, gNi, wFor, zSeq, zr_0, zr_1, zr_2, zr_3, zr_4, nc_0, nc_1, nc_2, nc_3, nc_4, zEnum, zZip, zZip3, ixD, tru, wCall, wCallK, wApp, wAppend, wPopAt, wExtend, wChainE, fIn, fBits, fFac, fComb, fRngL1, fRngL2, owW, wSl, fSl, wONone, wOSome, wLc, wYes, List.map, List.replicate, List.length, List.append, List.set, List.take, List.drop, List.getLast?, List.dropLast, List.filterMap, List.getElem?_cons_zero, List.getElem?_cons_succ, List.getElem?_nil, Nat.reduceAdd, Nat.reduceSub, Nat.reduceLT, List.cons_append, List.nil_append, Option.some.injEq, reduceCtorEq, reduceIte, Bool.not_true, Bool.not_false, Bool.false_eq_true, List.isEmpty]
            exact ⟨(zG _ hz.1).mulW (zrow _ hz.2) (by omega), hR _ rfl⟩
          · simp only [LV.begin, Nat.reduceLeDiff, ne_eq, not_false_eq_true, not_true_eq_false, Int.reduceLE, Int.reduceLT, Nat.zero_le, at_0, at_1, at_2, at_3, at_m1a, at_m1b, at_m1c, at_m1d, at_m2b, at_m2c, decide_true, eq_self, Int.reduceEq, true_and, and_true, false_and, and_false, or_false, false_or, Int.reduceNeg, gIx, decide_false, Bool.and_true, Bool.true_and, Bool.or_true, wSeq, wSet, wAsg, wPar, wIf, wIfS, wTst, LV.wTru, LV.wNot, wAnd, wOr, wAndV, wOrV, wNotV, wOp, wUn, wV, wC, fCI, fAdd, fSub, fMul, fDiv, fMod, fPow, fNeg, fIx, fIs, fIsNot, fEq, fNe, fLt, fLe, fGt, fGe, wCB, wCons, wNil, w1, wApp, wIsi, isiB, bagD, isNonD, fLen, fAbs, fInt, fGcd, fList, fTuple, fRepr, fLz, fLen0, fLrv, fSum, fMax, fMin, fAll, fAny, seqD, rdL, rdW, fzL, fzW, unL, putS, RV.sl, wRet, wRetN, wNever, wNext, wDrop, wTup, wLst, outW, placeW, gN, gTu, gCo, gNi, wFor, zSeq, zr_0, zr_1, zr_2, zr_3, zr_4, nc_0, nc_1, nc_2, nc_3, nc_4, zEnum, zZip, zZip3, ixD, tru, wCall, wCallK, wApp, wAppend, wPopAt, wExtend, wChainE, fIn, fBits, fFac, fComb, fRngL1, fRngL2, owW, wSl, fSl, wONone, wOSome, wLc, wYes, List.map, List.replicate, List.length, List.append, List.set, List.take, List.drop, List.getLast?, List.dropLast, List.filterMap, List.getElem?_cons_zero, List.getElem?_cons_succ, List.getElem?_nil, Nat.reduceAdd, Nat.reduceSub, Nat.reduceLT, List.cons_append, List.nil_append, Option.some.injEq, reduceCtorEq, reduceIte, Bool.not_true, Bool.not_false, Bool.false_eq_true, List.isEmpty, intsOf_mapf]
            have e1 : ((G.zip row).map fun p => p.1 * p.2).sum = v0 := by rw [ev0]; rfl
            rw [e1]
            exact hn _ rfl
      rintro s rfl
      refine seq_cut (fun s => s = [.sh g, .sh r, .sh (fQ f), .sh (.int (m : Nat)), .sh (tQ st), .sh (.int (n : Nat)), .sh (lI aI), .sh (lI bI), .sh (lI dI), .sh (lI eI), .sh (.int t), .sh (.int u), .ow (G.map D.int), s13, .un, .ow (Kp.map D.int), s16, .sh (.int low), .ow (acc.map fQ), y19, (.sh (.int v0)), (.sh (.int kn)), s22, s23, s24]) (fun nx hn => ?_) ?_
      · rcases h16 with rfl | rfl
        all_goals
          simp only [LV.begin, Nat.reduceLeDiff, ne_eq, not_false_eq_true, not_true_eq_false, Int.reduceLE, Int.reduceLT, Nat.zero_le, at_0, at_1, at_2, at_3, at_m1a, at_m1b, at_m1c, at_m1d, at_m2b, at_m2c, decide_true, eq_self, Int.reduceEq, true_and, and_true, false_and, and_false, or_false, false_or, Int.reduceNeg, gIx, decide_false, Bool.and_true, Bool.true_and, Bool.or_true, wSeq, wSet, wAsg, wPar, wIf, wIfS, wTst, LV.wTru, LV.wNot, wAnd, wOr, wAndV, wOrV, wNotV, wOp, wUn, wV, wC, fCI, fAdd, fSub, fMul, fDiv, fMod, fPow, fNeg, fIx, fIs, fIsNot, fEq, fNe, fLt, fLe, fGt, fGe, wCB, wCons, wNil, w1, wApp, wIsi, isiB, bagD, isNonD, fLen, fAbs, fInt, fGcd, fList, fTuple, fRepr, fLz, fLen0, fLrv, fSum, fMax, fMin, fAll, fAny, seqD, rdL, rdW, fzL, fzW, unL, putS, RV.sl, wRet, wRetN, wNever, wNext, wDrop, wTup, wLst, outW, placeW, gN, gTu, gCo, gNi, wFor, zSeq, zr_0, zr_1, zr_2, zr_3, zr_4, nc_0, nc_1, nc_2, nc_3, nc_4, zEnum, zZip, zZip3, ixD, tru, wCall, wCallK, wApp, wAppend, wPopAt, wExtend, wChainE, fIn, fBits, fFac, fComb, fRngL1, fRngL2, owW, wSl, fSl, wONone, wOSome, wLc, wYes, List.map, List.replicate, List.length, List.append, List.set, List.take, List.drop, List.getLast?, List.dropLast, List.filterMap, List.getElem?_cons_zero, List.getElem?_cons_succ, List.getElem?_nil, Nat.reduceAdd, Nat.reduceSub, Nat.reduceLT, List.cons_append, List.nil_append, Option.some.injEq, reduceCtorEq, reduceIte, Bool.not_true, Bool.not_false, Bool.false_eq_true, List.isEmpty, lI, zip_I]
          refine ⟨_, rfl, ?_⟩
          refine lcMap (fun p : Int × Int => D.tup [.int p.1, .int p.2]) (fun p => .int (p.1 * p.2)) (Kp.zip row) ?_ (by simp; omega) (by simp [h13]; rfl) (fun p hp R hR => ?_) ?_
          · rfl
          · have hz := List.of_mem_zip hp
            simp only [wipeS, LV.begin, Nat.reduceLeDiff, ne_eq, not_false_eq_true, not_true_eq_false, Int.reduceLE, Int.reduceLT, Nat.zero_le, at_0, at_1, at_2, at_3, at_m1a, at_m1b, at_m1c, at_m1d, at_m2b, at_m2c, decide_true, eq_self, Int.reduceEq, true_and, and_true, false_and, and_false, or_false, false_or, Int.reduceNeg, gIx, decide_false, Bool.and_true, Bool.true_and, Bool.or_true, wSeq, wSet, wAsg, wPar, wIf, wIfS, wTst, LV.wTru, LV.wNot, wAnd, wOr, wAndV, wOrV, wNotV, wOp, wUn, wV, wC, fCI, fAdd, fSub, fMul, fDiv, fMod, fPow, fNeg, fIx, fIs, fIsNot, fEq, fNe, fLt, fLe, fGt, fGe, wCB, wCons, wNil, w1, wApp, wIsi, isiB, bagD, isNonD, fLen, fAbs, fInt, fGcd, fList, fTuple, fRepr, fLz, fLen0, fLrv, fSum, fMax, fMin, fAll, fAny, seqD, rdL, rdW, fzL, fzW, unL, putS, RV.sl, wRet, wRetN, wNever, wNext, wDrop, wTup, wLst, outW, placeW, gN, gTu, gCo, gNi, wFor, zSeq, zr_0, zr_1, zr_2, zr_3, zr_4, nc_0, nc_1, nc_2, nc_3, nc_4, zEnum, zZip, zZip3, ixD, tru, wCall, wCallK, wApp, wAppend, wPopAt, wExtend, wChainE, fIn, fBits, fFac, fComb, fRngL1, fRngL2, owW, wSl, fSl, wONone, wOSome, wLc, wYes, List.map, List.replicate, List.length, List.append, List.set, List.take, List.drop, List.getLast?, List.dropLast, List.filterMap, List.getElem?_cons_zero, List.getElem?_cons_succ, List.getElem?_nil, Nat.reduceAdd, Nat.reduceSub, Nat.reduceLT, List.cons_append, List.nil_append, Option.some.injEq, reduceCtorEq, reduceIte, Bool.not_true, Bool.not_false, Bool.false_eq_true, List.isEmpty]
            exact ⟨(zK _ hz.1).mulW (zrow _ hz.2) (by omega), hR _ rfl⟩
          · simp only [LV.begin, Nat.reduceLeDiff, ne_eq, not_false_eq_true, not_true_eq_false, Int.reduceLE, Int.reduceLT, Nat.zero_le, at_0, at_1, at_2, at_3, at_m1a, at_m1b, at_m1c, at_m1d, at_m2b, at_m2c, decide_true, eq_self, Int.reduceEq, true_and, and_true, false_and, and_false, or_false, false_or, Int.reduceNeg, gIx, decide_false, Bool.and_true, Bool.true_and, Bool.or_true, wSeq, wSet, wAsg, wPar, wIf, wIfS, wTst, LV.wTru, LV.wNot, wAnd, wOr, wAndV, wOrV, wNotV, wOp, wUn, wV, wC, fCI, fAdd, fSub, fMul, fDiv, fMod, fPow, fNeg, fIx, fIs, fIsNot, fEq, fNe, fLt, fLe, fGt, fGe, wCB, wCons, wNil, w1, wApp, wIsi, isiB, bagD, isNonD, fLen, fAbs, fInt, fGcd, fList, fTuple, fRepr, fLz, fLen0, fLrv, fSum, fMax, fMin, fAll, fAny, seqD, rdL, rdW, fzL, fzW, unL, putS, RV.sl, wRet, wRetN, wNever, wNext, wDrop, wTup, wLst, outW, placeW, gN, gTu, gCo, gNi, wFor, zSeq, zr_0, zr_1, zr_2, zr_3, zr_4, nc_0, nc_1, nc_2, nc_3, nc_4, zEnum, zZip, zZip3, ixD, tru, wCall, wCallK, wApp, wAppend, wPopAt, wExtend, wChainE, fIn, fBits, fFac, fComb, fRngL1, fRngL2, owW, wSl, fSl, wONone, wOSome, wLc, wYes, List.map, List.replicate, List.length, List.append, List.set, List.take, List.drop, List.getLast?, List.dropLast, List.filterMap, List.getElem?_cons_zero, List.getElem?_cons_succ, List.getElem?_nil, Nat.reduceAdd, Nat.reduceSub, Nat.reduceLT, List.cons_append, List.nil_append, Option.some.injEq, reduceCtorEq, reduceIte, Bool.not_true, Bool.not_false, Bool.false_eq_true, List.isEmpty, intsOf_mapf]
            have e1 : ((Kp.zip row).map fun p => p.1 * p.2).sum = kn := by rw [ekn]; rfl
            rw [e1]
            exact hn _ rfl
      rintro s rfl
      refine seq_cut (fun s => s = [.sh g, .sh r, .sh (fQ f), .sh (.int (m : Nat)), .sh (tQ st), .sh (.int (n : Nat)), .sh (lI aI), .sh (lI bI), .sh (lI dI), .sh (lI eI), .sh (.int t), .sh (.int u), .ow (G.map D.int), s13, .un, .ow (Kp.map D.int), s16, .sh (.int low), .ow (acc.map fQ), y19, (.sh (.int v0)), (.sh (.int kn)), (.sh (.int (u * E))), s23, s24]) (fun nx hn => ?_) ?_
      · simp only [LV.begin, Nat.reduceLeDiff, ne_eq, not_false_eq_true, not_true_eq_false, Int.reduceLE, Int.reduceLT, Nat.zero_le, at_0, at_1, at_2, at_3, at_m1a, at_m1b, at_m1c, at_m1d, at_m2b, at_m2c, decide_true, eq_self, Int.reduceEq, true_and, and_true, false_and, and_false, or_false, false_or, Int.reduceNeg, gIx, decide_false, Bool.and_true, Bool.true_and, Bool.or_true, wSeq, wSet, wAsg, wPar, wIf, wIfS, wTst, LV.wTru, LV.wNot, wAnd, wOr, wAndV, wOrV, wNotV, wOp, wUn, wV, wC, fCI, fAdd, fSub, fMul, fDiv, fMod, fPow, fNeg, fIx, fIs, fIsNot, fEq, fNe, fLt, fLe, fGt, fGe, wCB, wCons, wNil, w1, wApp, wIsi, isiB, bagD, isNonD, fLen, fAbs, fInt, fGcd, fList, fTuple, fRepr, fLz, fLen0, fLrv, fSum, fMax, fMin, fAll, fAny, seqD, rdL, rdW, fzL, fzW, unL, putS, RV.sl, wRet, wRetN, wNever, wNext, wDrop, wTup, wLst, outW, placeW, gN, gTu, gCo, gNi, wFor, zSeq, zr_0, zr_1, zr_2, zr_3, zr_4, nc_0, nc_1, nc_2, nc_3, nc_4, zEnum, zZip, zZip3, ixD, tru, wCall, wCallK, wApp, wAppend, wPopAt, wExtend, wChainE, fIn, fBits, fFac, fComb, fRngL1, fRngL2, owW, wSl, fSl, wONone, wOSome, wLc, wYes, List.map, List.replicate, List.length, List.append, List.set, List.take, List.drop, List.getLast?, List.dropLast, List.filterMap, List.getElem?_cons_zero, List.getElem?_cons_succ, List.getElem?_nil, Nat.reduceAdd, Nat.reduceSub, Nat.reduceLT, List.cons_append, List.nil_append, Option.some.injEq, reduceCtorEq, reduceIte, Bool.not_true, Bool.not_false, Bool.false_eq_true, List.isEmpty, lI, atE]
        exact ⟨zu.mulW zE (by omega), hn _ rfl⟩
      rintro s rfl
      have zv0 : sm (301 + 3000 * done.length) v0 := by rw [ev0]; exact (dot_sm zG zrow (by omega)).mono (by omega)
      have zkn : sm (301 + 3000 * done.length) kn := by rw [ekn]; exact (dot_sm zK zrow (by omega)).mono (by omega)
      have zmd := md_sm (p := (v0, u * E)) zuA zuE ztB zkn zv0
      refine seq_cut (fun s => ∃ s23, s = [.sh g, .sh r, .sh (fQ f), .sh (.int (m : Nat)), .sh (tQ st), .sh (.int (n : Nat)), .sh (lI aI), .sh (lI bI), .sh (lI dI), .sh (lI eI), .sh (.int t), .sh (.int u), .ow (G.map D.int), s13, .un, .ow (Kp.map D.int), s16, .sh (.int low), .ow (acc.map fQ), y19, (.sh (.int (mdI (t * B) (u * A) kn (v0, u * E) m).1)), (.sh (.int kn)), (.sh (.int (mdI (t * B) (u * A) kn (v0, u * E) m).2)), s23, s24]) (fun nx hn => ?_) ?_
      · simp only [LV.begin, Nat.reduceLeDiff, ne_eq, not_false_eq_true, not_true_eq_false, Int.reduceLE, Int.reduceLT, Nat.zero_le, at_0, at_1, at_2, at_3, at_m1a, at_m1b, at_m1c, at_m1d, at_m2b, at_m2c, decide_true, eq_self, Int.reduceEq, true_and, and_true, false_and, and_false, or_false, false_or, Int.reduceNeg, gIx, decide_false, Bool.and_true, Bool.true_and, Bool.or_true, wSeq, wSet, wAsg, wPar, wIf, wIfS, wTst, LV.wTru, LV.wNot, wAnd, wOr, wAndV, wOrV, wNotV, wOp, wUn, wV, wC, fCI, fAdd, fSub, fMul, fDiv, fMod, fPow, fNeg, fIx, fIs, fIsNot, fEq, fNe, fLt, fLe, fGt, fGe, wCB, wCons, wNil, w1, wApp, wIsi, isiB, bagD, isNonD, fLen, fAbs, fInt, fGcd, fList, fTuple, fRepr, fLz, fLen0, fLrv, fSum, fMax, fMin, fAll, fAny, seqD, rdL, rdW, fzL, fzW, unL, putS, RV.sl, wRet, wRetN, wNever, wNext, wDrop, wTup, wLst, outW, placeW, gN, gTu, gCo, gNi, wFor, zSeq, zr_0, zr_1, zr_2, zr_3, zr_4, nc_0, nc_1, nc_2, nc_3, nc_4, zEnum, zZip, zZip3, ixD, tru, wCall, wCallK, wApp, wAppend, wPopAt, wExtend, wChainE, fIn, fBits, fFac, fComb, fRngL1, fRngL2, owW, wSl, fSl, wONone, wOSome, wLc, wYes, List.map, List.replicate, List.length, List.append, List.set, List.take, List.drop, List.getLast?, List.dropLast, List.filterMap, List.getElem?_cons_zero, List.getElem?_cons_succ, List.getElem?_nil, Nat.reduceAdd, Nat.reduceSub, Nat.reduceLT, List.cons_append, List.nil_append, Option.some.injEq, reduceCtorEq, reduceIte, Bool.not_true, Bool.not_false, Bool.false_eq_true, List.isEmpty]
        refine ⟨_, zrng1 m rfl (by omega), ?_⟩
        refine forL (fun (k : Nat) => D.int (0 + (k : Int))) (fun done2 rest s => done2 ++ rest = List.range m ∧ ∃ s23, s = [.sh g, .sh r, .sh (fQ f), .sh (.int (m : Nat)), .sh (tQ st), .sh (.int (n : Nat)), .sh (lI aI), .sh (lI bI), .sh (lI dI), .sh (lI eI), .sh (.int t), .sh (.int u), .ow (G.map D.int), s13, .un, .ow (Kp.map D.int), s16, .sh (.int low), .ow (acc.map fQ), y19, (.sh (.int (mdI (t * B) (u * A) kn (v0, u * E) done2.length).1)), (.sh (.int kn)), (.sh (.int (mdI (t * B) (u * A) kn (v0, u * E) done2.length).2)), s23, s24]) ?_ ?_ (List.range m) [] _ ⟨rfl, _, rfl⟩
        · rintro done2 j rest2 s nx3 ⟨e2, y23, rfl⟩ hn3
          obtain ⟨hj, hj2, _, _⟩ := rng_len e2
          obtain ⟨z1, z2⟩ := zmd done2.length
          simp only [LV.begin, Nat.reduceLeDiff, ne_eq, not_false_eq_true, not_true_eq_false, Int.reduceLE, Int.reduceLT, Nat.zero_le, at_0, at_1, at_2, at_3, at_m1a, at_m1b, at_m1c, at_m1d, at_m2b, at_m2c, decide_true, eq_self, Int.reduceEq, true_and, and_true, false_and, and_false, or_false, false_or, Int.reduceNeg, gIx, decide_false, Bool.and_true, Bool.true_and, Bool.or_true, wSeq, wSet, wAsg, wPar, wIf, wIfS, wTst, LV.wTru, LV.wNot, wAnd, wOr, wAndV, wOrV, wNotV, wOp, wUn, wV, wC, fCI, fAdd, fSub, fMul, fDiv, fMod, fPow, fNeg, fIx, fIs, fIsNot, fEq, fNe, fLt, fLe, fGt, fGe, wCB, wCons, wNil, w1, wApp, wIsi, isiB, bagD, isNonD, fLen, fAbs, fInt, fGcd, fList, fTuple, fRepr, fLz, fLen0, fLrv, fSum, fMax, fMin, fAll, fAny, seqD, rdL, rdW, fzL, fzW, unL, putS, RV.sl, wRet, wRetN, wNever, wNext, wDrop, wTup, wLst, outW, placeW, gN, gTu, gCo, gNi, wFor, zSeq, zr_0, zr_1, zr_2, zr_3, zr_4, nc_0, nc_1, nc_2, nc_3, nc_4, zEnum, zZip, zZip3, ixD, tru, wCall, wCallK, wApp, wAppend, wPopAt, wExtend, wChainE, fIn, fBits, fFac, fComb, fRngL1, fRngL2, owW, wSl, fSl, wONone, wOSome, wLc, wYes, List.map, List.replicate, List.length, List.append, List.set, List.take, List.drop, List.getLast?, List.dropLast, List.filterMap, List.getElem?_cons_zero, List.getElem?_cons_succ, List.getElem?_nil, Nat.reduceAdd, Nat.reduceSub, Nat.reduceLT, List.cons_append, List.nil_append, Option.some.injEq, reduceCtorEq, reduceIte, Bool.not_true, Bool.not_false, Bool.false_eq_true, List.isEmpty, lI, atA, atB]
          refine ⟨zt.mulW zB (by omega), ztB.mulW z1 (by omega), zkn.mulW z2 (by omega), zu.mulW zA (by omega), zuA.mulW z2 (by omega), ?_⟩
          exact hn3 _ ⟨by simpa using e2, .sh (.int (0 + (j : Int))), by rw [List.length_append, List.length_singleton]; rfl⟩
        · rintro done2 s ⟨e2, y23, rfl⟩
          rw [List.append_nil] at e2
          subst e2
          rw [List.length_range]
          exact hn _ ⟨_, rfl⟩
      rintro s ⟨y23, rfl⟩
      have hV : (v0 : Rat) = ((u * E : Int) : Rat) * (low : Rat) * tpQ d' e' f v := by
        have := dot_tp (f := f) (low := low) ok.d0 (wN_ok (wB_dvd (List.mem_append_left e (lst_mem (ne_of_len ld0))))) d e v row (fun y hy => wB_dvd (List.mem_append_left _ hy)) (fun y hy => wB_dvd (List.mem_append_right _ hy)) hR
        rw [← edI, ← eeI, ← et, ← eu, ← eG, ← ev0, ← eE, ← ed, ← ee] at this
        rw [this, eu]; push_cast; rfl
      have hP : (kn : Rat) = ((u * A : Int) : Rat) * (low : Rat) * tpQ a' b' f v := by
        have := dot_tp (f := f) (low := low) ok.a0 (wN_ok (wB_dvd (List.mem_append_left b (lst_mem (ne_of_len la0))))) a b v row (fun y hy => wB_dvd (List.mem_append_left _ hy)) (fun y hy => wB_dvd (List.mem_append_right _ hy)) hR
        rw [← eaI, ← ebI, ← et, ← eu, ← eK, ← ekn, ← eA, ← ea, ← eb] at this
        rw [this, eu]; push_cast; rfl
      have hT : ((t * B : Int) : Rat) = ((u * A : Int) : Rat) * (f * lst b') := by
        have e1 := wN_ok (wB_dvd (List.mem_append_left b (lst_mem (ne_of_len la0))))
        have e2 := wN_ok (wB_dvd (List.mem_append_right a (lst_mem (ne_of_len lb0))))
        have e3 := LV.den_nd f
        rw [← eA] at e1
        rw [← eB] at e2
        rw [eb, lst_dv _ _ (ne_of_len lb0)]
        push_cast
        rw [et, eu, ← e1, ← e2, ← e3]
        have k1 : lst b / lst a * lst a = lst b := Rat.div_mul_cancel ok.a0
        obtain ⟨Y, hY⟩ : ∃ Y, Y = lst b / lst a := ⟨_, rfl⟩
        rw [← hY] at k1 ⊢
        rw [← k1]
        push_cast
        grind
      have hM := md_ok (p := (v0, u * E)) hV hP hT m
      obtain ⟨mq, emq⟩ : ∃ x, x = mdQ (tpQ a' b' f v) (f * lst b') (tpQ d' e' f v) m := ⟨_, rfl⟩
      rw [← emq] at hM
      have hP0 := md_part0 (tB := t * B) (kn := kn) (p := (v0, u * E)) (Int.mul_ne_zero hu0 hA0) (Int.mul_ne_zero hu0 hE0) m
      have zP : sm bits (mdI (t * B) (u * A) kn (v0, u * E) m).2 := by
        have := md_part (tB := t * B) (kn := kn) (p := (v0, u * E)) (bits_nat (u * A)) (bits_nat (u * E)) m
        rw [ebits]; unfold bitsQ
        rw [← eA, ← eE, ← eu]; exact this
      have zV : sm (2950 + 3000 * done.length) (mdI (t * B) (u * A) kn (v0, u * E) m).1 := (zmd m).1.mono (by omega)
      obtain ⟨Vm, eVm⟩ : ∃ x, x = (mdI (t * B) (u * A) kn (v0, u * E) m).1 := ⟨_, rfl⟩
      obtain ⟨Pm, ePm⟩ : ∃ x, x = (mdI (t * B) (u * A) kn (v0, u * E) m).2 := ⟨_, rfl⟩
      rw [← eVm, ← ePm] at hM
      rw [← ePm] at hP0 zP
      rw [← eVm] at zV
      rw [← eVm, ← ePm]
      refine seq_cut (fun s => ∃ value part : Int, 0 < part ∧ (value : Rat) = (part : Rat) * (low : Rat) * mq ∧ sm bits part ∧ sm (2950 + 3000 * done.length) value ∧ s = [.sh g, .sh r, .sh (fQ f), .sh (.int (m : Nat)), .sh (tQ st), .sh (.int (n : Nat)), .sh (lI aI), .sh (lI bI), .sh (lI dI), .sh (lI eI), .sh (.int t), .sh (.int u), .ow (G.map D.int), s13, .un, .ow (Kp.map D.int), s16, .sh (.int low), .ow (acc.map fQ), y19, (.sh (.int value)), (.sh (.int kn)), (.sh (.int part)), y23, s24]) (fun nx hn => ?_) ?_
      · by_cases hneg : Pm < 0
        · simp only [LV.begin, Nat.reduceLeDiff, ne_eq, not_false_eq_true, not_true_eq_false, Int.reduceLE, Int.reduceLT, Nat.zero_le, at_0, at_1, at_2, at_3, at_m1a, at_m1b, at_m1c, at_m1d, at_m2b, at_m2c, decide_true, eq_self, Int.reduceEq, true_and, and_true, false_and, and_false, or_false, false_or, Int.reduceNeg, gIx, decide_false, Bool.and_true, Bool.true_and, Bool.or_true, wSeq, wSet, wAsg, wPar, wIf, wIfS, wTst, LV.wTru, LV.wNot, wAnd, wOr, wAndV, wOrV, wNotV, wOp, wUn, wV, wC, fCI, fAdd, fSub, fMul, fDiv, fMod, fPow, fNeg, fIx, fIs, fIsNot, fEq, fNe, fLt, fLe, fGt, fGe, wCB, wCons, wNil, w1, wApp, wIsi, isiB, bagD, isNonD, fLen, fAbs, fInt, fGcd, fList, fTuple, fRepr, fLz, fLen0, fLrv, fSum, fMax, fMin, fAll, fAny, seqD, rdL, rdW, fzL, fzW, unL, putS, RV.sl, wRet, wRetN, wNever, wNext, wDrop, wTup, wLst, outW, placeW, gN, gTu, gCo, gNi, wFor, zSeq, zr_0, zr_1, zr_2, zr_3, zr_4, nc_0, nc_1, nc_2, nc_3, nc_4, zEnum, zZip, zZip3, ixD, tru, wCall, wCallK, wApp, wAppend, wPopAt, wExtend, wChainE, fIn, fBits, fFac, fComb, fRngL1, fRngL2, owW, wSl, fSl, wONone, wOSome, wLc, wYes, List.map, List.replicate, List.length, List.append, List.set, List.take, List.drop, List.getLast?, List.dropLast, List.filterMap, List.getElem?_cons_zero, List.getElem?_cons_succ, List.getElem?_nil, Nat.reduceAdd, Nat.reduceSub, Nat.reduceLT, List.cons_append, List.nil_append, Option.some.injEq, reduceCtorEq, reduceIte, Bool.not_true, Bool.not_false, Bool.false_eq_true, List.isEmpty, decide_eq_true hneg]
          exact hn _ ⟨-Vm, -Pm, by omega, by push_cast; rw [hM]; grind, zP.neg, zV.neg, rfl⟩
        · simp only [LV.begin, Nat.reduceLeDiff, ne_eq, not_false_eq_true, not_true_eq_false, Int.reduceLE, Int.reduceLT, Nat.zero_le, at_0, at_1, at_2, at_3, at_m1a, at_m1b, at_m1c, at_m1d, at_m2b, at_m2c, decide_true, eq_self, Int.reduceEq, true_and, and_true, false_and, and_false, or_false, false_or, Int.reduceNeg, gIx, decide_false, Bool.and_true, Bool.true_and, Bool.or_true, wSeq, wSet, wAsg, wPar, wIf, wIfS, wTst, LV.wTru, LV.wNot, wAnd, wOr, wAndV, wOrV, wNotV, wOp, wUn, wV, wC, fCI, fAdd, fSub, fMul, fDiv, fMod, fPow, fNeg, fIx, fIs, fIsNot, fEq, fNe, fLt, fLe, fGt, fGe, wCB, wCons, wNil, w1, wApp, wIsi, isiB, bagD, isNonD, fLen, fAbs, fInt, fGcd, fList, fTuple, fRepr, fLz, fLen0, fLrv, fSum, fMax, fMin, fAll, fAny, seqD, rdL, rdW, fzL, fzW, unL, putS, RV.sl, wRet, wRetN, wNever, wNext, wDrop, wTup, wLst, outW, placeW, gN, gTu, gCo, gNi, wFor, zSeq, zr_0, zr_1, zr_2, zr_3, zr_4, nc_0, nc_1, nc_2, nc_3, nc_4, zEnum, zZip, zZip3, ixD, tru, wCall, wCallK, wApp, wAppend, wPopAt, wExtend, wChainE, fIn, fBits, fFac, fComb, fRngL1, fRngL2, owW, wSl, fSl, wONone, wOSome, wLc, wYes, List.map, List.replicate, List.length, List.append, List.set, List.take, List.drop, List.getLast?, List.dropLast, List.filterMap, List.getElem?_cons_zero, List.getElem?_cons_succ, List.getElem?_nil, Nat.reduceAdd, Nat.reduceSub, Nat.reduceLT, List.cons_append, List.nil_append, Option.some.injEq, reduceCtorEq, reduceIte, Bool.not_true, Bool.not_false, Bool.false_eq_true, List.isEmpty, decide_eq_false hneg]
          exact hn _ ⟨Vm, Pm, by omega, hM, zP, zV, rfl⟩
      rintro s ⟨value, part, hpart, hval, zpart, zvalue, rfl⟩
      obtain ⟨X, eX⟩ : ∃ X, X = row.tail.map (fun x => x * part) := ⟨_, rfl⟩
      obtain ⟨lw, elw⟩ : ∃ x, x = low * part := ⟨_, rfl⟩
      have hR2 : Rw (v.tail ++ [mq]) (X ++ [value]) lw := by rw [eX, elw]; exact hR.step hval
      have hlw : 0 < lw := by rw [elw]; exact Int.mul_pos hlow hpart
      have zlw : sm (91 + done.length * bits + bits) lw := by rw [elw]; exact zlow.mul zpart
      have zX : ∀ x ∈ X ++ [value], sm (91 + 3000 * (done.length + 1)) x := fun x hx => by
        rcases List.mem_append.mp hx with h | h
        · rw [eX] at h
          obtain ⟨y, hy, rfl⟩ := List.mem_map.mp h
          exact ((zrow y (List.mem_of_mem_tail hy)).mul zpart).mono (by omega)
        · rw [List.mem_singleton.mp h]; exact zvalue.mono (by omega)
      have hXl : X.length + 1 = st.length := by rw [eX, List.length_map, List.length_tail]; omega
      refine seq_cut (fun s => s = [.sh g, .sh r, .sh (fQ f), .sh (.int (m : Nat)), .sh (tQ st), .sh (.int (n : Nat)), .sh (lI aI), .sh (lI bI), .sh (lI dI), .sh (lI eI), .sh (.int t), .sh (.int u), .ow (G.map D.int), s13, .un, .ow (Kp.map D.int), (.ow ((X ++ [value]).map D.int)), .sh (.int lw), .ow (acc.map fQ), y19, (.sh (.int value)), (.sh (.int kn)), (.sh (.int part)), y23, s24]) (fun nx hn => ?_) ?_
      · have e1 : ((row.drop 1).map fun x => D.int (x * part)) ++ [D.int value] = (X ++ [value]).map D.int := by
          rw [eX, List.drop_one, List.map_append, List.map_map]; rfl
        rcases h16 with rfl | rfl
        all_goals
          simp only [LV.begin, Nat.reduceLeDiff, ne_eq, not_false_eq_true, not_true_eq_false, Int.reduceLE, Int.reduceLT, Nat.zero_le, at_0, at_1, at_2, at_3, at_m1a, at_m1b, at_m1c, at_m1d, at_m2b, at_m2c, decide_true, eq_self, Int.reduceEq, true_and, and_true, false_and, and_false, or_false, false_or, Int.reduceNeg, gIx, decide_false, Bool.and_true, Bool.true_and, Bool.or_true, wSeq, wSet, wAsg, wPar, wIf, wIfS, wTst, LV.wTru, LV.wNot, wAnd, wOr, wAndV, wOrV, wNotV, wOp, wUn, wV, wC, fCI, fAdd, fSub, fMul, fDiv, fMod, fPow, fNeg, fIx, fIs, fIsNot, fEq, fNe, fLt, fLe, fGt, fGe, wCB, wCons, wNil, w1, wApp, wIsi, isiB, bagD, isNonD, fLen, fAbs, fInt, fGcd, fList, fTuple, fRepr, fLz, fLen0, fLrv, fSum, fMax, fMin, fAll, fAny, seqD, rdL, rdW, fzL, fzW, unL, putS, RV.sl, wRet, wRetN, wNever, wNext, wDrop, wTup, wLst, outW, placeW, gN, gTu, gCo, gNi, wFor, zSeq, zr_0, zr_1, zr_2, zr_3, zr_4, nc_0, nc_1, nc_2, nc_3, nc_4, zEnum, zZip, zZip3, ixD, tru, wCall, wCallK, wApp, wAppend, wPopAt, wExtend, wChainE, fIn, fBits, fFac, fComb, fRngL1, fRngL2, owW, wSl, fSl, wONone, wOSome, wLc, wYes, List.map, List.replicate, List.length, List.append, List.set, List.take, List.drop, List.getLast?, List.dropLast, List.filterMap, List.getElem?_cons_zero, List.getElem?_cons_succ, List.getElem?_nil, Nat.reduceAdd, Nat.reduceSub, Nat.reduceLT, List.cons_append, List.nil_append, Option.some.injEq, reduceCtorEq, reduceIte, Bool.not_true, Bool.not_false, Bool.false_eq_true, List.isEmpty, lI, cut_tlI]
          refine ⟨_, rfl, ?_⟩
          refine lcMap D.int (fun x => .int (x * part)) (row.drop 1) ?_ (by simp; omega) (by simp [h13]) (fun x hx R hR => ?_) ?_
          · rfl
          · simp only [wipeS, LV.begin, Nat.reduceLeDiff, ne_eq, not_false_eq_true, not_true_eq_false, Int.reduceLE, Int.reduceLT, Nat.zero_le, at_0, at_1, at_2, at_3, at_m1a, at_m1b, at_m1c, at_m1d, at_m2b, at_m2c, decide_true, eq_self, Int.reduceEq, true_and, and_true, false_and, and_false, or_false, false_or, Int.reduceNeg, gIx, decide_false, Bool.and_true, Bool.true_and, Bool.or_true, wSeq, wSet, wAsg, wPar, wIf, wIfS, wTst, LV.wTru, LV.wNot, wAnd, wOr, wAndV, wOrV, wNotV, wOp, wUn, wV, wC, fCI, fAdd, fSub, fMul, fDiv, fMod, fPow, fNeg, fIx, fIs, fIsNot, fEq, fNe, fLt, fLe, fGt, fGe, wCB, wCons, wNil, w1, wApp, wIsi, isiB, bagD, isNonD, fLen, fAbs, fInt, fGcd, fList, fTuple, fRepr, fLz, fLen0, fLrv, fSum, fMax, fMin, fAll, fAny, seqD, rdL, rdW, fzL, fzW, unL, putS, RV.sl, wRet, wRetN, wNever, wNext, wDrop, wTup, wLst, outW, placeW, gN, gTu, gCo, gNi, wFor, zSeq, zr_0, zr_1, zr_2, zr_3, zr_4, nc_0, nc_1, nc_2, nc_3, nc_4, zEnum, zZip, zZip3, ixD, tru, wCall, wCallK, wApp, wAppend, wPopAt, wExtend, wChainE, fIn, fBits, fFac, fComb, fRngL1, fRngL2, owW, wSl, fSl, wONone, wOSome, wLc, wYes, List.map, List.replicate, List.length, List.append, List.set, List.take, List.drop, List.getLast?, List.dropLast, List.filterMap, List.getElem?_cons_zero, List.getElem?_cons_succ, List.getElem?_nil, Nat.reduceAdd, Nat.reduceSub, Nat.reduceLT, List.cons_append, List.nil_append, Option.some.injEq, reduceCtorEq, reduceIte, Bool.not_true, Bool.not_false, Bool.false_eq_true, List.isEmpty]
            exact ⟨(zrow _ (List.mem_of_mem_drop hx)).mulW zpart (by omega), hR _ rfl⟩
          · simp only [LV.begin, Nat.reduceLeDiff, ne_eq, not_false_eq_true, not_true_eq_false, Int.reduceLE, Int.reduceLT, Nat.zero_le, at_0, at_1, at_2, at_3, at_m1a, at_m1b, at_m1c, at_m1d, at_m2b, at_m2c, decide_true, eq_self, Int.reduceEq, true_and, and_true, false_and, and_false, or_false, false_or, Int.reduceNeg, gIx, decide_false, Bool.and_true, Bool.true_and, Bool.or_true, wSeq, wSet, wAsg, wPar, wIf, wIfS, wTst, LV.wTru, LV.wNot, wAnd, wOr, wAndV, wOrV, wNotV, wOp, wUn, wV, wC, fCI, fAdd, fSub, fMul, fDiv, fMod, fPow, fNeg, fIx, fIs, fIsNot, fEq, fNe, fLt, fLe, fGt, fGe, wCB, wCons, wNil, w1, wApp, wIsi, isiB, bagD, isNonD, fLen, fAbs, fInt, fGcd, fList, fTuple, fRepr, fLz, fLen0, fLrv, fSum, fMax, fMin, fAll, fAny, seqD, rdL, rdW, fzL, fzW, unL, putS, RV.sl, wRet, wRetN, wNever, wNext, wDrop, wTup, wLst, outW, placeW, gN, gTu, gCo, gNi, wFor, zSeq, zr_0, zr_1, zr_2, zr_3, zr_4, nc_0, nc_1, nc_2, nc_3, nc_4, zEnum, zZip, zZip3, ixD, tru, wCall, wCallK, wApp, wAppend, wPopAt, wExtend, wChainE, fIn, fBits, fFac, fComb, fRngL1, fRngL2, owW, wSl, fSl, wONone, wOSome, wLc, wYes, List.map, List.replicate, List.length, List.append, List.set, List.take, List.drop, List.getLast?, List.dropLast, List.filterMap, List.getElem?_cons_zero, List.getElem?_cons_succ, List.getElem?_nil, Nat.reduceAdd, Nat.reduceSub, Nat.reduceLT, List.cons_append, List.nil_append, Option.some.injEq, reduceCtorEq, reduceIte, Bool.not_true, Bool.not_false, Bool.false_eq_true, List.isEmpty]
            rw [e1]
            refine ⟨by rw [sizeLine_eq]; simp; omega, zlow.mulW zpart (by omega), ?_⟩
            rw [← elw]
            exact hn _ rfl
      rintro s rfl
      obtain ⟨gg, egg⟩ : ∃ x, x = Int.gcd lw value := ⟨_, rfl⟩
      have hgg : 0 < gg := by rw [egg]; exact Int.gcd_pos_of_ne_zero_left _ (by omega)
      have d1 : (gg : Int) ∣ lw := by rw [egg]; exact Int.gcd_dvd_left ..
      have d2 : (gg : Int) ∣ value := by rw [egg]; exact Int.gcd_dvd_right ..
      have zgg : sm 5800 (gg : Int) := by
        refine (zlw.mono (by omega)).le ?_
        exact Nat.le_of_dvd (by omega) (Int.natAbs_dvd_natAbs.mpr d1)
      refine seq_cut (fun s => s = [.sh g, .sh r, .sh (fQ f), .sh (.int (m : Nat)), .sh (tQ st), .sh (.int (n : Nat)), .sh (lI aI), .sh (lI bI), .sh (lI dI), .sh (lI eI), .sh (.int t), .sh (.int u), .ow (G.map D.int), s13, .un, .ow (Kp.map D.int), (.ow ((X ++ [value]).map D.int)), .sh (.int lw), .ow (acc.map fQ), y19, (.sh (.int value)), (.sh (.int kn)), (.sh (.int part)), y23, (.sh (.int (gg : Nat)))]) (fun nx hn => ?_) ?_
      · simp only [LV.begin, Nat.reduceLeDiff, ne_eq, not_false_eq_true, not_true_eq_false, Int.reduceLE, Int.reduceLT, Nat.zero_le, at_0, at_1, at_2, at_3, at_m1a, at_m1b, at_m1c, at_m1d, at_m2b, at_m2c, decide_true, eq_self, Int.reduceEq, true_and, and_true, false_and, and_false, or_false, false_or, Int.reduceNeg, gIx, decide_false, Bool.and_true, Bool.true_and, Bool.or_true, wSeq, wSet, wAsg, wPar, wIf, wIfS, wTst, LV.wTru, LV.wNot, wAnd, wOr, wAndV, wOrV, wNotV, wOp, wUn, wV, wC, fCI, fAdd, fSub, fMul, fDiv, fMod, fPow, fNeg, fIx, fIs, fIsNot, fEq, fNe, fLt, fLe, fGt, fGe, wCB, wCons, wNil, w1, wApp, wIsi, isiB, bagD, isNonD, fLen, fAbs, fInt, fGcd, fList, fTuple, fRepr, fLz, fLen0, fLrv, fSum, fMax, fMin, fAll, fAny, seqD, rdL, rdW, fzL, fzW, unL, putS, RV.sl, wRet, wRetN, wNever, wNext, wDrop, wTup, wLst, outW, placeW, gN, gTu, gCo, gNi, wFor, zSeq, zr_0, zr_1, zr_2, zr_3, zr_4, nc_0, nc_1, nc_2, nc_3, nc_4, zEnum, zZip, zZip3, ixD, tru, wCall, wCallK, wApp, wAppend, wPopAt, wExtend, wChainE, fIn, fBits, fFac, fComb, fRngL1, fRngL2, owW, wSl, fSl, wONone, wOSome, wLc, wYes, List.map, List.replicate, List.length, List.append, List.set, List.take, List.drop, List.getLast?, List.dropLast, List.filterMap, List.getElem?_cons_zero, List.getElem?_cons_succ, List.getElem?_nil, Nat.reduceAdd, Nat.reduceSub, Nat.reduceLT, List.cons_append, List.nil_append, Option.some.injEq, reduceCtorEq, reduceIte, Bool.not_true, Bool.not_false, Bool.false_eq_true, List.isEmpty, F__law_gcd]
        rw [← egg]
        exact hn _ rfl
      rintro s rfl
      have hfr : D.tup [.int (value.fdiv (gg : Int)), .int (lw.fdiv (gg : Int))] = fQ mq := by
        have e1 : mq = (value : Rat) / (lw : Rat) := by
          have h0 : (lw : Rat) ≠ 0 := by exact_mod_cast (Int.ne_of_gt hlw)
          have e2 : (value : Rat) = mq * (lw : Rat) := by rw [hval, elw]; push_cast; grind
          rw [e2, Rat.mul_div_cancel h0]
        have e3 := low_q (a := value) (b := lw) (Int.ne_of_gt hlw)
        unfold LV.low at e3
        rw [if_pos hlw, Int.gcd_comm, ← egg] at e3
        rw [e1]
        show D.tup [.int (value.fdiv (gg : Int)), .int (lw.fdiv (gg : Int))] = D.tup [.int ((value : Rat) / (lw : Rat)).num, .int ((((value : Rat) / (lw : Rat)).den : Nat) : Int)]
        have e4 := (Prod.mk.inj e3).1
        have e5 := (Prod.mk.inj e3).2
        rw [← e4, ← e5]
      refine seq_cut (fun s => s = [.sh g, .sh r, .sh (fQ f), .sh (.int (m : Nat)), .sh (tQ st), .sh (.int (n : Nat)), .sh (lI aI), .sh (lI bI), .sh (lI dI), .sh (lI eI), .sh (.int t), .sh (.int u), .ow (G.map D.int), s13, .un, .ow (Kp.map D.int), (.ow ((X ++ [value]).map D.int)), .sh (.int lw), .ow ((acc ++ [mq]).map fQ), y19, (.sh (.int value)), (.sh (.int kn)), (.sh (.int part)), y23, (.sh (.int (gg : Nat)))]) (fun nx hn => ?_) ?_
      · simp only [LV.begin, Nat.reduceLeDiff, ne_eq, not_false_eq_true, not_true_eq_false, Int.reduceLE, Int.reduceLT, Nat.zero_le, at_0, at_1, at_2, at_3, at_m1a, at_m1b, at_m1c, at_m1d, at_m2b, at_m2c, decide_true, eq_self, Int.reduceEq, true_and, and_true, false_and, and_false, or_false, false_or, Int.reduceNeg, gIx, decide_false, Bool.and_true, Bool.true_and, Bool.or_true, wSeq, wSet, wAsg, wPar, wIf, wIfS, wTst, LV.wTru, LV.wNot, wAnd, wOr, wAndV, wOrV, wNotV, wOp, wUn, wV, wC, fCI, fAdd, fSub, fMul, fDiv, fMod, fPow, fNeg, fIx, fIs, fIsNot, fEq, fNe, fLt, fLe, fGt, fGe, wCB, wCons, wNil, w1, wApp, wIsi, isiB, bagD, isNonD, fLen, fAbs, fInt, fGcd, fList, fTuple, fRepr, fLz, fLen0, fLrv, fSum, fMax, fMin, fAll, fAny, seqD, rdL, rdW, fzL, fzW, unL, putS, RV.sl, wRet, wRetN, wNever, wNext, wDrop, wTup, wLst, outW, placeW, gN, gTu, gCo, gNi, wFor, zSeq, zr_0, zr_1, zr_2, zr_3, zr_4, nc_0, nc_1, nc_2, nc_3, nc_4, zEnum, zZip, zZip3, ixD, tru, wCall, wCallK, wApp, wAppend, wPopAt, wExtend, wChainE, fIn, fBits, fFac, fComb, fRngL1, fRngL2, owW, wSl, fSl, wONone, wOSome, wLc, wYes, List.map, List.replicate, List.length, List.append, List.set, List.take, List.drop, List.getLast?, List.dropLast, List.filterMap, List.getElem?_cons_zero, List.getElem?_cons_succ, List.getElem?_nil, Nat.reduceAdd, Nat.reduceSub, Nat.reduceLT, List.cons_append, List.nil_append, Option.some.injEq, reduceCtorEq, reduceIte, Bool.not_true, Bool.not_false, Bool.false_eq_true, List.isEmpty]
        rw [hfr]
        refine ⟨zgg.divA (by omega) (by omega), zgg.divA (by omega) (by omega), by rw [List.length_map]; omega, ?_⟩
        have e1 : acc.map fQ ++ [fQ mq] = (acc ++ [mq]).map fQ := by rw [List.map_append]; rfl
        rw [e1]
        exact hn _ rfl
      rintro s rfl
      refine seq_cut (fun s => ∃ (s13 : Sl) (g2 : Nat), notOw s13 = true ∧ 0 < g2 ∧ (g2 : Int) ∣ lw ∧ (∀ x ∈ X ++ [value], (g2 : Int) ∣ x) ∧ sm 5800 (g2 : Int) ∧ s = [.sh g, .sh r, .sh (fQ f), .sh (.int (m : Nat)), .sh (tQ st), .sh (.int (n : Nat)), .sh (lI aI), .sh (lI bI), .sh (lI dI), .sh (lI eI), .sh (.int t), .sh (.int u), .ow (G.map D.int), s13, .un, .ow (Kp.map D.int), (.ow ((X ++ [value]).map D.int)), .sh (.int lw), .ow ((acc ++ [mq]).map fQ), y19, (.sh (.int value)), (.sh (.int kn)), (.sh (.int part)), y23, (.sh (.int (g2 : Nat)))]) (fun nx hn => ?_) ?_
      · have e1 : (X ++ [value]).map D.int = X.map D.int ++ [.int value] := by rw [List.map_append]; rfl
        rw [e1]
        simp only [LV.begin, Nat.reduceLeDiff, ne_eq, not_false_eq_true, not_true_eq_false, Int.reduceLE, Int.reduceLT, Nat.zero_le, at_0, at_1, at_2, at_3, at_m1a, at_m1b, at_m1c, at_m1d, at_m2b, at_m2c, decide_true, eq_self, Int.reduceEq, true_and, and_true, false_and, and_false, or_false, false_or, Int.reduceNeg, gIx, decide_false, Bool.and_true, Bool.true_and, Bool.or_true, wSeq, wSet, wAsg, wPar, wIf, wIfS, wTst, LV.wTru, LV.wNot, wAnd, wOr, wAndV, wOrV, wNotV, wOp, wUn, wV, wC, fCI, fAdd, fSub, fMul, fDiv, fMod, fPow, fNeg, fIx, fIs, fIsNot, fEq, fNe, fLt, fLe, fGt, fGe, wCB, wCons, wNil, w1, wApp, wIsi, isiB, bagD, isNonD, fLen, fAbs, fInt, fGcd, fList, fTuple, fRepr, fLz, fLen0, fLrv, fSum, fMax, fMin, fAll, fAny, seqD, rdL, rdW, fzL, fzW, unL, putS, RV.sl, wRet, wRetN, wNever, wNext, wDrop, wTup, wLst, outW, placeW, gN, gTu, gCo, gNi, wFor, zSeq, zr_0, zr_1, zr_2, zr_3, zr_4, nc_0, nc_1, nc_2, nc_3, nc_4, zEnum, zZip, zZip3, ixD, tru, wCall, wCallK, wApp, wAppend, wPopAt, wExtend, wChainE, fIn, fBits, fFac, fComb, fRngL1, fRngL2, owW, wSl, fSl, wONone, wOSome, wLc, wYes, List.map, List.replicate, List.length, List.append, List.set, List.take, List.drop, List.getLast?, List.dropLast, List.filterMap, List.getElem?_cons_zero, List.getElem?_cons_succ, List.getElem?_nil, Nat.reduceAdd, Nat.reduceSub, Nat.reduceLT, List.cons_append, List.nil_append, Option.some.injEq, reduceCtorEq, reduceIte, Bool.not_true, Bool.not_false, Bool.false_eq_true, List.isEmpty, cut_m1]
        refine ⟨_, rfl, ?_⟩
        refine forL D.int (fun done3 rest s => done3 ++ rest = X ∧ ∃ (s13 : Sl) (g2 : Nat), notOw s13 = true ∧ 0 < g2 ∧ (g2 : Int) ∣ lw ∧ (g2 : Int) ∣ value ∧ (∀ x ∈ done3, (g2 : Int) ∣ x) ∧ sm 5800 (g2 : Int) ∧ s = [.sh g, .sh r, .sh (fQ f), .sh (.int (m : Nat)), .sh (tQ st), .sh (.int (n : Nat)), .sh (lI aI), .sh (lI bI), .sh (lI dI), .sh (lI eI), .sh (.int t), .sh (.int u), .ow (G.map D.int), s13, .un, .ow (Kp.map D.int), (.ow (X.map D.int ++ [.int value])), .sh (.int lw), .ow ((acc ++ [mq]).map fQ), y19, (.sh (.int value)), (.sh (.int kn)), (.sh (.int part)), y23, (.sh (.int (g2 : Nat)))]) ?_ ?_ X [] _ ⟨rfl, s13, gg, h13, hgg, d1, d2, (fun _ h => nomatch h), zgg, rfl⟩
        · rintro done3 x rest3 s nx4 ⟨e3, s13, g2, q13, hg2, q1, q2, q3, q4, rfl⟩ hn4
          simp only [LV.begin, Nat.reduceLeDiff, ne_eq, not_false_eq_true, not_true_eq_false, Int.reduceLE, Int.reduceLT, Nat.zero_le, at_0, at_1, at_2, at_3, at_m1a, at_m1b, at_m1c, at_m1d, at_m2b, at_m2c, decide_true, eq_self, Int.reduceEq, true_and, and_true, false_and, and_false, or_false, false_or, Int.reduceNeg, gIx, decide_false, Bool.and_true, Bool.true_and, Bool.or_true, wSeq, wSet, wAsg, wPar, wIf, wIfS, wTst, LV.wTru, LV.wNot, wAnd, wOr, wAndV, wOrV, wNotV, wOp, wUn, wV, wC, fCI, fAdd, fSub, fMul, fDiv, fMod, fPow, fNeg, fIx, fIs, fIsNot, fEq, fNe, fLt, fLe, fGt, fGe, wCB, wCons, wNil, w1, wApp, wIsi, isiB, bagD, isNonD, fLen, fAbs, fInt, fGcd, fList, fTuple, fRepr, fLz, fLen0, fLrv, fSum, fMax, fMin, fAll, fAny, seqD, rdL, rdW, fzL, fzW, unL, putS, RV.sl, wRet, wRetN, wNever, wNext, wDrop, wTup, wLst, outW, placeW, gN, gTu, gCo, gNi, wFor, zSeq, zr_0, zr_1, zr_2, zr_3, zr_4, nc_0, nc_1, nc_2, nc_3, nc_4, zEnum, zZip, zZip3, ixD, tru, wCall, wCallK, wApp, wAppend, wPopAt, wExtend, wChainE, fIn, fBits, fFac, fComb, fRngL1, fRngL2, owW, wSl, fSl, wONone, wOSome, wLc, wYes, List.map, List.replicate, List.length, List.append, List.set, List.take, List.drop, List.getLast?, List.dropLast, List.filterMap, List.getElem?_cons_zero, List.getElem?_cons_succ, List.getElem?_nil, Nat.reduceAdd, Nat.reduceSub, Nat.reduceLT, List.cons_append, List.nil_append, Option.some.injEq, reduceCtorEq, reduceIte, Bool.not_true, Bool.not_false, Bool.false_eq_true, List.isEmpty, F__law_gcd, gcdN]
          have hx : (X ++ [value]).length < 100 := by simp; omega
          by_cases hg1 : (1 : Int) < (g2 : Int)
          · simp only [decide_eq_true hg1, ↓reduceIte]
            have w1' : 0 < Int.gcd (g2 : Int) x := Int.gcd_pos_of_ne_zero_left _ (by omega)
            have w2' : ((Int.gcd (g2 : Int) x : Nat) : Int) ∣ (g2 : Int) := Int.gcd_dvd_left ..
            refine hn4 _ ⟨by simpa using e3, .sh (.int x), Int.gcd (g2 : Int) x, rfl, w1', Int.dvd_trans w2' q1, Int.dvd_trans w2' q2, fun y hy => ?_, ?_, rfl⟩
            · rcases List.mem_append.mp hy with h | h
              · exact Int.dvd_trans w2' (q3 y h)
              · rw [List.mem_singleton.mp h]; exact Int.gcd_dvd_right ..
            · refine q4.le ?_
              exact Nat.le_of_dvd (by omega) (Int.natAbs_dvd_natAbs.mpr w2')
          · simp only [decide_eq_false hg1, Bool.false_eq_true, ↓reduceIte]
            refine hn4 _ ⟨by simpa using e3, .sh (.int x), 1, rfl, by omega, Int.one_dvd _, Int.one_dvd _, fun y hy => Int.one_dvd _, ?_, rfl⟩
            exact (show sm 1 (1 : Int) from by show (1 : Int).natAbs < 2; decide).mono (by omega)
        · rintro done3 s ⟨e3, s13, g2, q13, hg2, q1, q2, q3, q4, rfl⟩
          rw [List.append_nil] at e3
          subst e3
          refine hn _ ⟨s13, g2, q13, hg2, q1, fun x hx => ?_, q4, by rw [e1]⟩
          rcases List.mem_append.mp hx with h | h
          · exact q3 x h
          · rw [List.mem_singleton.mp h]; exact q2
      rintro s ⟨s13, g2, h13', hg2, q1, q2, q4, rfl⟩
      have hR3 := hR2.div (g := (g2 : Int)) (by omega) q1 q2
      have g20 : (g2 : Int) ≠ 0 := by omega
      simp only [LV.begin, Nat.reduceLeDiff, ne_eq, not_false_eq_true, not_true_eq_false, Int.reduceLE, Int.reduceLT, Nat.zero_le, at_0, at_1, at_2, at_3, at_m1a, at_m1b, at_m1c, at_m1d, at_m2b, at_m2c, decide_true, eq_self, Int.reduceEq, true_and, and_true, false_and, and_false, or_false, false_or, Int.reduceNeg, gIx, decide_false, Bool.and_true, Bool.true_and, Bool.or_true, wSeq, wSet, wAsg, wPar, wIf, wIfS, wTst, LV.wTru, LV.wNot, wAnd, wOr, wAndV, wOrV, wNotV, wOp, wUn, wV, wC, fCI, fAdd, fSub, fMul, fDiv, fMod, fPow, fNeg, fIx, fIs, fIsNot, fEq, fNe, fLt, fLe, fGt, fGe, wCB, wCons, wNil, w1, wApp, wIsi, isiB, bagD, isNonD, fLen, fAbs, fInt, fGcd, fList, fTuple, fRepr, fLz, fLen0, fLrv, fSum, fMax, fMin, fAll, fAny, seqD, rdL, rdW, fzL, fzW, unL, putS, RV.sl, wRet, wRetN, wNever, wNext, wDrop, wTup, wLst, outW, placeW, gN, gTu, gCo, gNi, wFor, zSeq, zr_0, zr_1, zr_2, zr_3, zr_4, nc_0, nc_1, nc_2, nc_3, nc_4, zEnum, zZip, zZip3, ixD, tru, wCall, wCallK, wApp, wAppend, wPopAt, wExtend, wChainE, fIn, fBits, fFac, fComb, fRngL1, fRngL2, owW, wSl, fSl, wONone, wOSome, wLc, wYes, List.map, List.replicate, List.length, List.append, List.set, List.take, List.drop, List.getLast?, List.dropLast, List.filterMap, List.getElem?_cons_zero, List.getElem?_cons_succ, List.getElem?_nil, Nat.reduceAdd, Nat.reduceSub, Nat.reduceLT, List.cons_append, List.nil_append, Option.some.injEq, reduceCtorEq, reduceIte, Bool.not_true, Bool.not_false, Bool.false_eq_true, List.isEmpty]
      refine ⟨_, rfl, ?_⟩
      refine lcMap D.int (fun x => .int (x.fdiv (g2 : Int))) (X ++ [value]) ?_ (by simp; omega) (by simp [h13']) (fun x hx R hR => ?_) ?_
      · rfl
      · simp only [wipeS, LV.begin, Nat.reduceLeDiff, ne_eq, not_false_eq_true, not_true_eq_false, Int.reduceLE, Int.reduceLT, Nat.zero_le, at_0, at_1, at_2, at_3, at_m1a, at_m1b, at_m1c, at_m1d, at_m2b, at_m2c, decide_true, eq_self, Int.reduceEq, true_and, and_true, false_and, and_false, or_false, false_or, Int.reduceNeg, gIx, decide_false, Bool.and_true, Bool.true_and, Bool.or_true, wSeq, wSet, wAsg, wPar, wIf, wIfS, wTst, LV.wTru, LV.wNot, wAnd, wOr, wAndV, wOrV, wNotV, wOp, wUn, wV, wC, fCI, fAdd, fSub, fMul, fDiv, fMod, fPow, fNeg, fIx, fIs, fIsNot, fEq, fNe, fLt, fLe, fGt, fGe, wCB, wCons, wNil, w1, wApp, wIsi, isiB, bagD, isNonD, fLen, fAbs, fInt, fGcd, fList, fTuple, fRepr, fLz, fLen0, fLrv, fSum, fMax, fMin, fAll, fAny, seqD, rdL, rdW, fzL, fzW, unL, putS, RV.sl, wRet, wRetN, wNever, wNext, wDrop, wTup, wLst, outW, placeW, gN, gTu, gCo, gNi, wFor, zSeq, zr_0, zr_1, zr_2, zr_3, zr_4, nc_0, nc_1, nc_2, nc_3, nc_4, zEnum, zZip, zZip3, ixD, tru, wCall, wCallK, wApp, wAppend, wPopAt, wExtend, wChainE, fIn, fBits, fFac, fComb, fRngL1, fRngL2, owW, wSl, fSl, wONone, wOSome, wLc, wYes, List.map, List.replicate, List.length, List.append, List.set, List.take, List.drop, List.getLast?, List.dropLast, List.filterMap, List.getElem?_cons_zero, List.getElem?_cons_succ, List.getElem?_nil, Nat.reduceAdd, Nat.reduceSub, Nat.reduceLT, List.cons_append, List.nil_append, Option.some.injEq, reduceCtorEq, reduceIte, Bool.not_true, Bool.not_false, Bool.false_eq_true, List.isEmpty]
        exact ⟨q4.divA g20 (by omega), hR _ rfl⟩
      · simp only [LV.begin, Nat.reduceLeDiff, ne_eq, not_false_eq_true, not_true_eq_false, Int.reduceLE, Int.reduceLT, Nat.zero_le, at_0, at_1, at_2, at_3, at_m1a, at_m1b, at_m1c, at_m1d, at_m2b, at_m2c, decide_true, eq_self, Int.reduceEq, true_and, and_true, false_and, and_false, or_false, false_or, Int.reduceNeg, gIx, decide_false, Bool.and_true, Bool.true_and, Bool.or_true, wSeq, wSet, wAsg, wPar, wIf, wIfS, wTst, LV.wTru, LV.wNot, wAnd, wOr, wAndV, wOrV, wNotV, wOp, wUn, wV, wC, fCI, fAdd, fSub, fMul, fDiv, fMod, fPow, fNeg, fIx, fIs, fIsNot, fEq, fNe, fLt, fLe, fGt, fGe, wCB, wCons, wNil, w1, wApp, wIsi, isiB, bagD, isNonD, fLen, fAbs, fInt, fGcd, fList, fTuple, fRepr, fLz, fLen0, fLrv, fSum, fMax, fMin, fAll, fAny, seqD, rdL, rdW, fzL, fzW, unL, putS, RV.sl, wRet, wRetN, wNever, wNext, wDrop, wTup, wLst, outW, placeW, gN, gTu, gCo, gNi, wFor, zSeq, zr_0, zr_1, zr_2, zr_3, zr_4, nc_0, nc_1, nc_2, nc_3, nc_4, zEnum, zZip, zZip3, ixD, tru, wCall, wCallK, wApp, wAppend, wPopAt, wExtend, wChainE, fIn, fBits, fFac, fComb, fRngL1, fRngL2, owW, wSl, fSl, wONone, wOSome, wLc, wYes, List.map, List.replicate, List.length, List.append, List.set, List.take, List.drop, List.getLast?, List.dropLast, List.filterMap, List.getElem?_cons_zero, List.getElem?_cons_succ, List.getElem?_nil, Nat.reduceAdd, Nat.reduceSub, Nat.reduceLT, List.cons_append, List.nil_append, Option.some.injEq, reduceCtorEq, reduceIte, Bool.not_true, Bool.not_false, Bool.false_eq_true, List.isEmpty]
        refine ⟨q4.divA g20 (by omega), ?_⟩
        have e1 : ((X ++ [value]).map fun x => D.int (x.fdiv (g2 : Int))) = ((X ++ [value]).map fun x => x.fdiv (g2 : Int)).map D.int := by rw [List.map_map]; rfl
        rw [e1]
        have enx : mq = nxQ d' e' a' b' f m v := emq
        refine hn2 _ ⟨by simpa using e0, acc ++ [mq], (X ++ [value]).map (fun x => x.fdiv (g2 : Int)), lw.fdiv (g2 : Int), s13, _, y19, _, _, _, y23, _, ?_, h13', .inl rfl, ?_, ?_, ?_, ?_, rfl⟩
        · rw [List.length_append, List.length_singleton, runN, ← eacc, ← ev, enx]
        · rw [lastK_snoc ok.k1 (by omega), ← ev]; exact hR3
        · have := fdiv_dvd q1 g20
          have hg : (0 : Int) < (g2 : Int) := by omega
          exact Int.pos_of_mul_pos_left (by rw [this]; exact hlw) hg
        · rw [List.length_append, List.length_singleton, Nat.succ_mul]
          exact (div_sm zlw q1 g20).mono (by omega)
        · intro y hy
          obtain ⟨x, hx, rfl⟩ := List.mem_map.mp hy
          rw [List.length_append, List.length_singleton]
          exact div_sm (zX x hx) (q2 x hx) g20
    · rintro done s ⟨e0, acc, row, low, s13, s16, s19, s20, s21, s22, s23, s24, eacc, h13, h16, hR, hlow, zlow, zrow, rfl⟩
      rw [List.append_nil] at e0
      subst e0
      rw [List.length_range] at eacc
      rw [eacc]
      exact hn _ ⟨_, _, _, _, _, _, _, _, _, rfl⟩
    · have : lastK st.length st = st := by unfold lastK; rw [Nat.sub_self]; rfl
      rw [this]; exact Rw.begun st
    · have := wB_pos st; omega
    · exact (Cd.of (n := 10) (m := 91) (fun x hx => Sm3.sz (zst x hx)) (by omega)).1.mono (by omega)
    · intro x hx
      obtain ⟨y, hy, rfl⟩ := List.mem_map.mp hx
      exact ((Cd.of (n := 10) (m := 91) (fun x hx => Sm3.sz (zst x hx)) (by omega)).2 y hy).mono (by omega)
  rintro s ⟨low, s13, s16, s19, s20, s21, s22, s23, s24, rfl⟩
  simp only [LV.begin, Nat.reduceLeDiff, ne_eq, not_false_eq_true, not_true_eq_false, Int.reduceLE, Int.reduceLT, Nat.zero_le, at_0, at_1, at_2, at_3, at_m1a, at_m1b, at_m1c, at_m1d, at_m2b, at_m2c, decide_true, eq_self, Int.reduceEq, true_and, and_true, false_and, and_false, or_false, false_or, Int.reduceNeg, gIx, decide_false, Bool.and_true, Bool.true_and, Bool.or_true, wSeq, wSet, wAsg, wPar, wIf, wIfS, wTst, LV.wTru, LV.wNot, wAnd, wOr, wAndV, wOrV, wNotV, wOp, wUn, wV, wC, fCI, fAdd, fSub, fMul, fDiv, fMod, fPow, fNeg, fIx, fIs, fIsNot, fEq, fNe, fLt, fLe, fGt, fGe, wCB, wCons, wNil, w1, wApp, wIsi, isiB, bagD, isNonD, fLen, fAbs, fInt, fGcd, fList, fTuple, fRepr, fLz, fLen0, fLrv, fSum, fMax, fMin, fAll, fAny, seqD, rdL, rdW, fzL, fzW, unL, putS, RV.sl, wRet, wRetN, wNever, wNext, wDrop, wTup, wLst, outW, placeW, gN, gTu, gCo, gNi, wFor, zSeq, zr_0, zr_1, zr_2, zr_3, zr_4, nc_0, nc_1, nc_2, nc_3, nc_4, zEnum, zZip, zZip3, ixD, tru, wCall, wCallK, wApp, wAppend, wPopAt, wExtend, wChainE, fIn, fBits, fFac, fComb, fRngL1, fRngL2, owW, wSl, fSl, wONone, wOSome, wLc, wYes, List.map, List.replicate, List.length, List.append, List.set, List.take, List.drop, List.getLast?, List.dropLast, List.filterMap, List.getElem?_cons_zero, List.getElem?_cons_succ, List.getElem?_nil, Nat.reduceAdd, Nat.reduceSub, Nat.reduceLT, List.cons_append, List.nil_append, Option.some.injEq, reduceCtorEq, reduceIte, Bool.not_true, Bool.not_false, Bool.false_eq_true, List.isEmpty]
  exact hq
/-! sizes along the run -/
def In2 (L X : Nat) (q : Rat) : Prop := ∃ a : Int, q * (L : Rat) = (a : Rat) ∧ a.natAbs ≤ L * X
theorem In2.mono {L X Y : Nat} {q : Rat} (h : In2 L X q) (hXY : X ≤ Y) : In2 L Y q := let ⟨a, e, b⟩ := h; ⟨a, e, Nat.le_trans b (Nat.mul_le_mul_left _ hXY)⟩
theorem In2.add {L X Y : Nat} {p q : Rat} (h : In2 L X p) (k : In2 L Y q) : In2 L (X + Y) (p + q) := by
  obtain ⟨a, e1, b1⟩ := h
  obtain ⟨c, e2, b2⟩ := k
  refine ⟨a + c, by push_cast; rw [← e1, ← e2]; grind, ?_⟩
  rw [Nat.mul_add]
  exact Nat.le_trans (Int.natAbs_add_le _ _) (Nat.add_le_add b1 b2)
theorem In2.mul {L L' X Y : Nat} {p q : Rat} (h : In2 L X p) (k : In2 L' Y q) : In2 (L * L') (X * Y) (p * q) := by
  obtain ⟨a, e1, b1⟩ := h
  obtain ⟨c, e2, b2⟩ := k
  refine ⟨a * c, by push_cast; rw [← e1, ← e2]; grind, ?_⟩
  rw [Int.natAbs_mul]
  have : L * L' * (X * Y) = L * X * (L' * Y) := by grind
  rw [this]
  exact Nat.mul_le_mul b1 b2
theorem In2.scale {L X : Nat} {q : Rat} (c : Nat) (h : In2 L X q) : In2 (L * c) X q := by
  obtain ⟨a, e1, b1⟩ := h
  refine ⟨a * (c : Int), by push_cast; rw [← e1]; grind, ?_⟩
  rw [Int.natAbs_mul, Int.natAbs_natCast]
  have : L * c * X = L * X * c := by grind
  rw [this]
  exact Nat.mul_le_mul_right _ b1
theorem In2.sz {L X l x : Nat} {q : Rat} (h : In2 L X q) (h0 : 0 < L) (hL : L < 2 ^ l) (hX : X ≤ 2 ^ x) : Sz (l + x) q := by
  obtain ⟨a, e1, b1⟩ := h
  refine .of (a := a) (b := (L : Int)) (by push_cast; exact e1) (by omega) ?_ ?_
  · show a.natAbs < 2 ^ (l + x)
    refine Nat.lt_of_le_of_lt b1 ?_
    rw [Nat.pow_add]
    exact Nat.lt_of_le_of_lt (Nat.mul_le_mul_left _ hX) (Nat.mul_lt_mul_of_pos_right hL (Nat.pow_pos (by decide)))
  · show (L : Int).natAbs < 2 ^ (l + x)
    rw [Int.natAbs_natCast]
    exact Nat.lt_of_lt_of_le hL (Nat.pow_le_pow_right (by decide) (by omega))
theorem In2.sum {L X : Nat} : ∀ {l : List Rat}, (∀ x ∈ l, In2 L X x) → In2 L (X * l.length) l.sum
  | [], _ => ⟨0, by simp, by simp⟩
  | x :: l, h => by
    rw [List.sum_cons, List.length_cons, Nat.mul_succ, Nat.add_comm]
    exact (h x (List.mem_cons_self ..)).add (In2.sum fun y hy => h y (List.mem_cons_of_mem _ hy))
/-- the sums of a row whose items are so small -/
theorem In2.sums {L X k : Nat} {l : List Rat} (h : ∀ x ∈ l, In2 L X x) (hl : l.length ≤ k) (i : Nat) : In2 L (X * k) (l.take i).sum := by
  refine (In2.sum fun x hx => h x (List.mem_of_mem_take hx)).mono (Nat.mul_le_mul_left _ ?_)
  rw [List.length_take]; omega
/-- mending: what lies under, and how great -/
theorem In2.md {A D L X : Nat} {P V s : Rat} (hV : In2 (D * L) (2 ^ 34 * X) V) (hP : In2 (A * L) (2 ^ 34 * X) P) (hs : In2 A (2 ^ 30) s) : ∀ i, In2 (D * A ^ i * L) (2 ^ (34 + 31 * i) * X) (mdQ P s V i) ∧ In2 (D * A ^ (i + 1) * L) (2 ^ (64 + 31 * i) * X) (s * mdQ P s V i)
  | 0 => by
    have h1 : In2 (D * A ^ 0 * L) (2 ^ (34 + 31 * 0) * X) (mdQ P s V 0) := by simpa [mdQ] using hV
    refine ⟨h1, ?_⟩
    have := hs.mul h1
    have e1 : A * (D * A ^ 0 * L) = D * A ^ (0 + 1) * L := by grind
    have e2 : 2 ^ 30 * (2 ^ (34 + 31 * 0) * X) = 2 ^ (64 + 31 * 0) * X := by grind
    rw [e1, e2] at this; exact this
  | i + 1 => by
    obtain ⟨_, h2⟩ := In2.md hV hP hs i
    have h1 : In2 (D * A ^ (i + 1) * L) (2 ^ (34 + 31 * (i + 1)) * X) (mdQ P s V (i + 1)) := by
      have hp : In2 (A * L * (D * A ^ i)) (2 ^ 34 * X) P := hP.scale _
      have e1 : A * L * (D * A ^ i) = D * A ^ (i + 1) * L := by rw [Nat.pow_succ]; grind
      rw [e1] at hp
      refine (hp.add h2).mono ?_
      have e3 : (2 : Nat) ^ (34 + 31 * (i + 1)) = 2 * 2 ^ (64 + 31 * i) := by
        rw [show 34 + 31 * (i + 1) = (64 + 31 * i) + 1 by omega, Nat.pow_succ, Nat.mul_comm]
      have e4 : (2 : Nat) ^ 34 ≤ 2 ^ (64 + 31 * i) := Nat.pow_le_pow_right (by decide) (by omega)
      rw [e3]
      have := Nat.mul_le_mul_right X e4
      have e5 : 2 * 2 ^ (64 + 31 * i) * X = 2 ^ (64 + 31 * i) * X + 2 ^ (64 + 31 * i) * X := by grind
      rw [e5]
      exact Nat.add_le_add_right this _
    refine ⟨h1, ?_⟩
    have := hs.mul h1
    have e1 : A * (D * A ^ (i + 1) * L) = D * A ^ (i + 1 + 1) * L := by rw [Nat.pow_succ A (i + 1)]; grind
    have e2 : 2 ^ 30 * (2 ^ (34 + 31 * (i + 1)) * X) = 2 ^ (64 + 31 * (i + 1)) * X := by
      rw [← Nat.mul_assoc, ← Nat.pow_add]
      congr 2; omega
    rw [e1, e2] at this; exact this
theorem wN_le {W : Nat} {y : Rat} (h : Sm3 y) : (wN W y).natAbs ≤ 1000 * W := by
  unfold wN
  rw [Int.natAbs_mul, Int.natAbs_natCast]
  exact Nat.mul_le_mul h.1 (Nat.div_le_self _ _)
theorem W_le {W : Nat} {x : Rat} (h : Sm3 x) (h0 : x ≠ 0) (hd : x.den ∣ W) : W ≤ 1000 * (wN W x).natAbs := by
  unfold wN
  rw [Int.natAbs_mul, Int.natAbs_natCast]
  have hn : 1 ≤ x.num.natAbs := by
    have : x.num ≠ 0 := fun e => h0 (Rat.num_eq_zero.mp e)
    omega
  have e : x.den * (W / x.den) = W := Nat.mul_div_cancel' hd
  calc W = x.den * (W / x.den) := e.symm
    _ ≤ 1000 * (W / x.den) := Nat.mul_le_mul_right _ h.2
    _ ≤ 1000 * (x.num.natAbs * (W / x.den)) := Nat.mul_le_mul_left _ (Nat.le_mul_of_pos_left _ hn)
/-- an integer under a fraction, whatever the sign below -/
theorem In2.of {u E c : Int} {X : Nat} {q : Rat} (he : q * ((u * E : Int) : Rat) = (c : Rat)) (hc : c.natAbs ≤ (u * E).natAbs * X) : In2 (u * E).natAbs X q := by
  rcases Int.le_total 0 (u * E) with h | h
  · refine ⟨c, ?_, hc⟩
    have : (((u * E).natAbs : Nat) : Rat) = ((u * E : Int) : Rat) := by
      have : (((u * E).natAbs : Nat) : Int) = u * E := Int.natAbs_of_nonneg h
      exact_mod_cast congrArg (fun x : Int => (x : Rat)) this
    rw [this, he]
  · refine ⟨-c, ?_, by rw [Int.natAbs_neg]; exact hc⟩
    have : (((u * E).natAbs : Nat) : Rat) = -((u * E : Int) : Rat) := by
      have : (((u * E).natAbs : Nat) : Int) = -(u * E) := Int.ofNat_natAbs_of_nonpos h
      have := congrArg (fun x : Int => (x : Rat)) this
      push_cast at this ⊢
      exact this
    rw [this]
    push_cast at *
    rw [← he]; grind
theorem coef {f x p q : Rat} {W : Nat} (hf : Sm3 f) (hx : Sm3 x) (hp : Sm3 p) (hq : Sm3 q) (h0 : x ≠ 0) (dx : x.den ∣ W) (dp : p.den ∣ W) (dq : q.den ∣ W) : In2 ((f.den : Int) * wN W x).natAbs (2 ^ 31) (f * (q / x) - p / x) := by
  have ex := wN_ok dx
  have ep := wN_ok dp
  have eq := wN_ok dq
  have ef := LV.den_nd f
  have k1 : q / x * x = q := Rat.div_mul_cancel h0
  have k2 : p / x * x = p := Rat.div_mul_cancel h0
  obtain ⟨Y, hY⟩ : ∃ Y, Y = q / x := ⟨_, rfl⟩
  obtain ⟨Z, hZ⟩ : ∃ Z, Z = p / x := ⟨_, rfl⟩
  rw [← hY] at k1 ⊢
  rw [← hZ] at k2 ⊢
  refine In2.of (c := f.num * wN W q - (f.den : Int) * wN W p) ?_ ?_
  · push_cast at *
    rw [← ex, ← ep, ← eq, ← ef, ← k1, ← k2]; grind
  · have hW := W_le hx h0 dx
    have h1 : (f.num * wN W q).natAbs ≤ 1000 * (1000 * W) := by rw [Int.natAbs_mul]; exact Nat.mul_le_mul hf.1 (wN_le hq)
    have h2 : ((f.den : Int) * wN W p).natAbs ≤ 1000 * (1000 * W) := by rw [Int.natAbs_mul, Int.natAbs_natCast]; exact Nat.mul_le_mul hf.2 (wN_le hp)
    have h3 : (wN W x).natAbs ≤ ((f.den : Int) * wN W x).natAbs := by
      rw [Int.natAbs_mul, Int.natAbs_natCast]
      exact Nat.le_mul_of_pos_left _ (Nat.pos_of_ne_zero f.den_nz)
    have h4 := Int.natAbs_sub_le (f.num * wN W q) ((f.den : Int) * wN W p)
    omega
theorem shareIn {f x q : Rat} {W : Nat} (hf : Sm3 f) (hx : Sm3 x) (hq : Sm3 q) (h0 : x ≠ 0) (dx : x.den ∣ W) (dq : q.den ∣ W) : In2 ((f.den : Int) * wN W x).natAbs (2 ^ 30) (f * (q / x)) := by
  have ex := wN_ok dx
  have eq := wN_ok dq
  have ef := LV.den_nd f
  have k1 : q / x * x = q := Rat.div_mul_cancel h0
  obtain ⟨Y, hY⟩ : ∃ Y, Y = q / x := ⟨_, rfl⟩
  rw [← hY] at k1 ⊢
  refine In2.of (c := f.num * wN W q) ?_ ?_
  · push_cast at *
    rw [← ex, ← eq, ← ef, ← k1]; grind
  · have hW := W_le hx h0 dx
    have h1 : (f.num * wN W q).natAbs ≤ 1000 * (1000 * W) := by rw [Int.natAbs_mul]; exact Nat.mul_le_mul hf.1 (wN_le hq)
    have h3 : (wN W x).natAbs ≤ ((f.den : Int) * wN W x).natAbs := by
      rw [Int.natAbs_mul, Int.natAbs_natCast]
      exact Nat.le_mul_of_pos_left _ (Nat.pos_of_ne_zero f.den_nz)
    omega
theorem tp_in {a b v : List Rat} {f : Rat} {D L X : Nat} (hc : ∀ p ∈ a, ∀ q ∈ b, In2 D (2 ^ 31) (f * q - p)) (hv : ∀ y ∈ v, In2 L X y) : ∀ z ∈ tpL f a b v, In2 (D * L) (2 ^ 31 * X) z := fun z hz => by
  rw [tpL_tri] at hz
  obtain ⟨p, hp, rfl⟩ := List.mem_map.mp hz
  obtain ⟨h1, h2, h3⟩ := tri_mem hp
  exact (hc _ h1 _ h2).mul (hv _ h3)
theorem tpL_len (f : Rat) (a b v : List Rat) : (tpL f a b v).length ≤ v.length := by rw [tpL_tri, List.length_map]; exact tri_len a b v
theorem pow_lt2 {D A L B1 B2 l i m : Nat} (hD : D < 2 ^ B2) (hA : A < 2 ^ B1) (hL : L < 2 ^ l) (hi : i ≤ m) : D * A ^ i * L < 2 ^ (m * B1 + B2 + l) := by
  have h1 : A ^ i ≤ 2 ^ (m * B1) := by
    have : A ^ i ≤ (2 ^ B1) ^ i := Nat.pow_le_pow_left (Nat.le_of_lt hA) i
    rw [← Nat.pow_mul] at this
    exact Nat.le_trans this (Nat.pow_le_pow_right (by decide) (by rw [Nat.mul_comm]; exact Nat.mul_le_mul_right _ hi))
  have h2 : D * A ^ i ≤ 2 ^ B2 * 2 ^ (m * B1) := Nat.mul_le_mul (Nat.le_of_lt hD) h1
  have h3 : D * A ^ i * L ≤ 2 ^ B2 * 2 ^ (m * B1) * L := Nat.mul_le_mul_right _ h2
  refine Nat.lt_of_le_of_lt h3 ?_
  rw [show m * B1 + B2 + l = B2 + m * B1 + l by omega, Nat.pow_add, Nat.pow_add]
  exact Nat.mul_lt_mul_of_pos_left hL (Nat.mul_pos (Nat.pow_pos (by decide)) (Nat.pow_pos (by decide)))
theorem step_ok {d e a b v : List Rat} {f : Rat} {m D A L B1 B2 l x : Nat} (hm : m ≤ 6) (D0 : 0 < D) (A0 : 0 < A) (L0 : 0 < L) (hD : D < 2 ^ B2) (hA : A < 2 ^ B1) (hL : L < 2 ^ l) (hB : B1 ≤ 201)
    (hcd : ∀ p ∈ d, ∀ q ∈ e, In2 D (2 ^ 31) (f * q - p)) (hca : ∀ p ∈ a, ∀ q ∈ b, In2 A (2 ^ 31) (f * q - p)) (hs : In2 A (2 ^ 30) (f * lst b)) (hv : ∀ y ∈ v, In2 L (2 ^ x) y) (hv8 : v.length ≤ 8)
    (hb : m * B1 + B2 + l + x + 220 ≤ 6650) : StepOk d e a b f m v ∧ In2 (D * A ^ m * L) (2 ^ (x + 220)) (nxQ d e a b f m v) := by
  have t1 := tp_in hcd hv
  have t2 := tp_in hca hv
  have x8 : 2 ^ 31 * 2 ^ x * 8 = 2 ^ 34 * 2 ^ x := by grind
  have V : In2 (D * L) (2 ^ 34 * 2 ^ x) (tpQ d e f v) := by
    refine (In2.sum t1).mono ?_
    rw [← x8]; exact Nat.mul_le_mul_left _ (Nat.le_trans (tpL_len f d e v) hv8)
  have P : In2 (A * L) (2 ^ 34 * 2 ^ x) (tpQ a b f v) := by
    refine (In2.sum t2).mono ?_
    rw [← x8]; exact Nat.mul_le_mul_left _ (Nat.le_trans (tpL_len f a b v) hv8)
  have hDL : D * L < 2 ^ (B2 + l) := by rw [Nat.pow_add]; exact Nat.mul_lt_mul'' hD hL
  have hAL : A * L < 2 ^ (B1 + l) := by rw [Nat.pow_add]; exact Nat.mul_lt_mul'' hA hL
  have md := In2.md V P hs
  have pos : ∀ i, 0 < D * A ^ i * L := fun i => Nat.mul_pos (Nat.mul_pos D0 (Nat.pow_pos A0)) L0
  refine ⟨⟨fun y hy => ((hv y hy).sz L0 hL (Nat.le_refl _)).mono (by omega), ⟨6660, 6660, by omega, fun i => ?_, fun z hz => ?_⟩, ⟨6690, 6690, by omega, fun i => ?_, fun z hz => ?_⟩, ⟨6690, 6650, by omega, ?_, fun i hi => ?_, fun i hi => ?_⟩⟩, ?_⟩
  · have := In2.sums t1 (Nat.le_trans (tpL_len f d e v) hv8) i
    rw [x8] at this
    exact (this.sz (x := 34 + x) (Nat.mul_pos D0 L0) hDL (by rw [Nat.pow_add]; exact Nat.le_refl _)).mono (by omega)
  · exact ((t1 z hz).sz (x := 31 + x) (Nat.mul_pos D0 L0) hDL (by rw [Nat.pow_add]; exact Nat.le_refl _)).mono (by omega)
  · have := In2.sums t2 (Nat.le_trans (tpL_len f a b v) hv8) i
    rw [x8] at this
    exact (this.sz (x := 34 + x) (Nat.mul_pos A0 L0) hAL (by rw [Nat.pow_add]; exact Nat.le_refl _)).mono (by omega)
  · exact ((t2 z hz).sz (x := 31 + x) (Nat.mul_pos A0 L0) hAL (by rw [Nat.pow_add]; exact Nat.le_refl _)).mono (by omega)
  · exact (P.sz (x := 34 + x) (Nat.mul_pos A0 L0) hAL (by rw [Nat.pow_add]; exact Nat.le_refl _)).mono (by omega)
  · exact (((md i).1).sz (x := 34 + 31 * i + x) (pos i) (pow_lt2 hD hA hL hi) (by rw [Nat.pow_add (2 : Nat) (34 + 31 * i)]; exact Nat.le_refl _)).mono (by omega)
  · exact (((md i).2).sz (x := 64 + 31 * i + x) (pos (i + 1)) (pow_lt2 hD hA hL hi) (by rw [Nat.pow_add (2 : Nat) (64 + 31 * i)]; exact Nat.le_refl _)).mono (by omega)
  · refine ((md m).1).mono ?_
    rw [← Nat.pow_add]
    exact Nat.pow_le_pow_right (by decide) (by omega)
theorem sz_ok {bits n T : Nat} (hb : bits ≤ 1407) (h : n = 0 ∨ n * n * bits ≤ 24000) (hn : n ≤ 20) (hT : T ≤ n) : T * bits + 220 * T + 101 ≤ 6650 := by
  by_cases h4 : T ≤ 4
  · have := Nat.mul_le_mul h4 hb
    omega
  · have h2 : T * T * bits ≤ 24000 := by
      rcases h with rfl | h
      · omega
      · exact Nat.le_trans (Nat.mul_le_mul_right _ (Nat.mul_le_mul hT hT)) h
    have : T = 5 ∨ T = 6 ∨ T = 7 ∨ T = 8 ∨ T = 9 ∨ T = 10 ∨ T = 11 ∨ T = 12 ∨ T = 13 ∨ T = 14 ∨ T = 15 ∨ T = 16 ∨ T = 17 ∨ T = 18 ∨ T = 19 ∨ T = 20 := by omega
    rcases this with rfl | rfl | rfl | rfl | rfl | rfl | rfl | rfl | rfl | rfl | rfl | rfl | rfl | rfl | rfl | rfl <;> omega
def LQ (st : List Rat) (D A m : Nat) : Nat → Nat
  | 0 => wB st
  | t + 1 => D * A ^ m * LQ st D A m t
theorem lastK_mem {k : Nat} {l : List Rat} {y : Rat} (h : y ∈ lastK k l) : y ∈ l := List.mem_of_mem_drop h
theorem run_ok {d e a b st : List Rat} {f : Rat} {m n D A B1 B2 : Nat} (hm : m ≤ 6) (D0 : 0 < D) (A0 : 0 < A) (hD : D < 2 ^ B2) (hA : A < 2 ^ B1) (hB : B1 ≤ 201)
    (hcd : ∀ p ∈ d, ∀ q ∈ e, In2 D (2 ^ 31) (f * q - p)) (hca : ∀ p ∈ a, ∀ q ∈ b, In2 A (2 ^ 31) (f * q - p)) (hs : In2 A (2 ^ 30) (f * lst b)) (hst : ∀ y ∈ st, Sm3 y) (hk : st.length ≤ 8)
    (hb : m * B1 + B2 ≤ 1407) (hn : n = 0 ∨ n * n * (m * B1 + B2) ≤ 24000) (hn20 : n ≤ 20) :
    ∀ t, t ≤ n → 0 < LQ st D A m t ∧ LQ st D A m t < 2 ^ (91 + t * (m * B1 + B2)) ∧ (∀ y ∈ runN d e a b f m st.length st t, In2 (LQ st D A m t) (2 ^ (10 + 220 * t)) y) ∧ ∀ i, i < t → StepOk d e a b f m (lastK st.length (runN d e a b f m st.length st i))
  | 0, _ => by
    refine ⟨wB_pos st, ?_, fun y hy => ?_, fun i hi => absurd hi (Nat.not_lt_zero _)⟩
    · have := nat_sm (Cd.of (n := 10) (m := 91) (fun x hx => Sm3.sz (hst x hx)) (by omega)).1
      rw [Nat.zero_mul, Nat.add_zero]; exact this
    · have hy' : y ∈ st := hy
      refine ⟨wN (wB st) y, wN_mem hy', ?_⟩
      have := wN_le (W := wB st) (hst y hy')
      show (wN (wB st) y).natAbs ≤ wB st * 2 ^ 10
      omega
  | t + 1, ht => by
    obtain ⟨L0, hL, hy, hi⟩ := run_ok hm D0 A0 hD hA hB hcd hca hs hst hk hb hn hn20 t (by omega)
    have hz := sz_ok hb hn hn20 ht
    rw [Nat.succ_mul] at hz
    have hlen : (lastK st.length (runN d e a b f m st.length st t)).length ≤ 8 := by
      rw [lastK_len _ _ (by rw [runN_len]; omega)]; exact hk
    obtain ⟨so, sn⟩ := step_ok (l := 91 + t * (m * B1 + B2)) (x := 10 + 220 * t) hm D0 A0 L0 hD hA hL hB hcd hca hs (fun y h => hy y (lastK_mem h)) hlen (by omega)
    have hlt := pow_lt2 (i := m) hD hA hL (Nat.le_refl m)
    refine ⟨Nat.mul_pos (Nat.mul_pos D0 (Nat.pow_pos A0)) L0, ?_, fun y h => ?_, fun i h => ?_⟩
    · refine Nat.lt_of_lt_of_le hlt (Nat.pow_le_pow_right (by decide) ?_)
      rw [Nat.succ_mul]; omega
    · rcases List.mem_append.mp h with h | h
      · have := (hy y h).scale (D * A ^ m)
        rw [Nat.mul_comm] at this
        exact this.mono (Nat.pow_le_pow_right (by decide) (by omega))
      · rw [List.mem_singleton.mp h]
        exact sn.mono (Nat.pow_le_pow_right (by decide) (by omega))
    · by_cases h2 : i < t
      · exact hi i h2
      · have : i = t := by omega
        subst this; exact so
/-- all turns are small enough -/
theorem all_ok {d e a b st : List Rat} {f : Rat} {m n : Nat} (ok : RuleOk d e a b f st.length) (hm : m ≤ 6) (hst : ∀ y ∈ st, Sm3 y) (hn20 : n ≤ 20) (hn : n = 0 ∨ n * n * bitsQ d e a b f m ≤ 24000) :
    (∀ i, i < n → StepOk (dvR (lst d) d) (dvR (lst d) e) (dvR (lst a) a) (dvR (lst a) b) f m (lastK st.length (runQ d e a b f m st i))) ∧ ∀ y ∈ runQ d e a b f m st n, Sz 6800 y := by
  have na := ne_of_len ok.la
  have nb := ne_of_len ok.lb
  have nd := ne_of_len ok.ld
  have hcd : ∀ p ∈ dvR (lst d) d, ∀ q ∈ dvR (lst d) e, In2 ((f.den : Int) * wN (wB (d ++ e)) (lst d)).natAbs (2 ^ 31) (f * q - p) := fun p hp q hq => by
    obtain ⟨p', hp', rfl⟩ := List.mem_map.mp hp
    obtain ⟨q', hq', rfl⟩ := List.mem_map.mp hq
    exact coef ok.sf (ok.sd _ (lst_mem nd)) (ok.sd _ hp') (ok.se _ hq') ok.d0 (wB_dvd (List.mem_append_left _ (lst_mem nd))) (wB_dvd (List.mem_append_left _ hp')) (wB_dvd (List.mem_append_right _ hq'))
  have hca : ∀ p ∈ dvR (lst a) a, ∀ q ∈ dvR (lst a) b, In2 ((f.den : Int) * wN (wB (a ++ b)) (lst a)).natAbs (2 ^ 31) (f * q - p) := fun p hp q hq => by
    obtain ⟨p', hp', rfl⟩ := List.mem_map.mp hp
    obtain ⟨q', hq', rfl⟩ := List.mem_map.mp hq
    exact coef ok.sf (ok.sa _ (lst_mem na)) (ok.sa _ hp') (ok.sb _ hq') ok.a0 (wB_dvd (List.mem_append_left _ (lst_mem na))) (wB_dvd (List.mem_append_left _ hp')) (wB_dvd (List.mem_append_right _ hq'))
  have hs : In2 ((f.den : Int) * wN (wB (a ++ b)) (lst a)).natAbs (2 ^ 30) (f * lst (dvR (lst a) b)) := by
    rw [lst_dv _ _ nb]
    exact shareIn ok.sf (ok.sa _ (lst_mem na)) (ok.sb _ (lst_mem nb)) ok.a0 (wB_dvd (List.mem_append_left _ (lst_mem na))) (wB_dvd (List.mem_append_right _ (lst_mem nb)))
  have pos : ∀ (x : Rat) (W : Nat), x ≠ 0 → x.den ∣ W → 0 < W → 0 < ((f.den : Int) * wN W x).natAbs := fun x W h0 hd hW => by
    have : wN W x ≠ 0 := fun h => by
      have e1 := wN_ok hd
      rw [h] at e1
      rcases Rat.mul_eq_zero.mp e1 with h | h
      · exact h0 h
      · exact absurd (Rat.natCast_eq_zero_iff.mp h) (Nat.ne_of_gt hW)
    have h1 : (f.den : Int) ≠ 0 := by exact_mod_cast f.den_nz
    have := Int.mul_ne_zero h1 this
    omega
  have hbq := bitsQ_le ok hm
  have ca := rule_cd ok.la ok.lb ok.k8 ok.sa ok.sb
  have zA := ca.2 _ (List.mem_append_left _ (lst_mem na))
  have zf : sm 10 (f.den : Int) := (Sm3.sz ok.sf).b
  have hB1 := bits_le (sm_nat ((zf.mul zA) : sm (10 + 191) _))
  have r := run_ok (n := n) hm (pos _ _ ok.d0 (wB_dvd (List.mem_append_left e (lst_mem nd))) (wB_pos _)) (pos _ _ ok.a0 (wB_dvd (List.mem_append_left b (lst_mem na))) (wB_pos _)) (bits_nat _) (bits_nat _) hB1 hcd hca hs hst ok.k8 hbq hn hn20 n (Nat.le_refl _)
  obtain ⟨L0, hL, hy, hi⟩ := r
  refine ⟨hi, fun y h => ?_⟩
  have hz := sz_ok hbq hn hn20 (Nat.le_refl n)
  exact ((hy y h).sz L0 hL (Nat.le_refl _)).mono (by
    have : n * (m * Builtin.Int.intBits (((f.den : Int) * wN (wB (a ++ b)) (lst a)).natAbs : Nat) + Builtin.Int.intBits (((f.den : Int) * wN (wB (d ++ e)) (lst d)).natAbs : Nat)) = n * bitsQ d e a b f m := rfl
    omega)
/-! the polynomial of the mended rule is kept -/
def geo (s : Rat) (n : Nat) : Rat := ((List.range n).map (pwQ s)).sum
theorem geo_succ (s : Rat) (n : Nat) : geo s (n + 1) = geo s n + pwQ s n := by
  unfold geo
  rw [map_range_succ, List.sum_append, List.sum_singleton]
theorem geo_step (s : Rat) : ∀ n, 1 + s * geo s n = geo s (n + 1)
  | 0 => by simp [geo, pwQ]
  | n + 1 => by
    have := geo_step s n
    rw [geo_succ s (n + 1), geo_succ s n]
    rw [geo_succ s n] at this
    have e : pwQ s (n + 1) = pwQ s n * s := rfl
    rw [e]; grind
theorem geo_one (s : Rat) (n : Nat) : geo s n * (1 - s) + pwQ s n = 1 := by
  have h1 := geo_step s n
  rw [geo_succ] at h1
  grind
theorem md_closed (P s V : Rat) : ∀ n, mdQ P s V n = geo s n * P + pwQ s n * V
  | 0 => by simp [mdQ, geo, pwQ]; grind
  | n + 1 => by
    have := geo_step s n
    rw [mdQ, md_closed P s V n, ← this]
    have e : pwQ s (n + 1) = pwQ s n * s := rfl
    rw [e]; grind
/-- the items below the last -/
theorem kept_sum (S T f : Rat) : ∀ (a b d e v : List Rat), v.length ≤ a.length → v.length ≤ b.length → v.length ≤ d.length → v.length ≤ e.length →
    ((List.zip ((List.range v.length).map fun j => S * (a.getD j 0 - f * b.getD j 0) + T * (d.getD j 0 - f * e.getD j 0)) v).map fun q => q.1 * q.2).sum = -(S * tpQ a b f v) - T * tpQ d e f v
  | a, b, d, e, [], _, _, _, _ => by simp [tpQ]; cases a <;> cases b <;> cases d <;> cases e <;> simp_all [tpL] <;> grind
  | [], _, _, _, _ :: _, h, _, _, _ => absurd h (by simp)
  | _ :: _, [], _, _, _ :: _, _, h, _, _ => absurd h (by simp)
  | _ :: _, _ :: _, [], _, _ :: _, _, _, h, _ => absurd h (by simp)
  | _ :: _, _ :: _, _ :: _, [], _ :: _, _, _, _, h => absurd h (by simp)
  | a :: as, b :: bs, d :: ds, e :: es, y :: v, h1, h2, h3, h4 => by
    have ih := kept_sum S T f as bs ds es v (by simpa using h1) (by simpa using h2) (by simpa using h3) (by simpa using h4)
    have e1 : (List.range (y :: v).length).map (fun j => S * ((a :: as).getD j 0 - f * (b :: bs).getD j 0) + T * ((d :: ds).getD j 0 - f * (e :: es).getD j 0)) =
        (S * (a - f * b) + T * (d - f * e)) :: (List.range v.length).map fun j => S * (as.getD j 0 - f * bs.getD j 0) + T * (ds.getD j 0 - f * es.getD j 0) := by
      rw [List.length_cons, List.range_succ_eq_map, List.map_cons, List.map_map]; rfl
    rw [e1, List.zip_cons_cons, List.map_cons, List.sum_cons, ih]
    have e2 : tpQ (a :: as) (b :: bs) f (y :: v) = (f * b - a) * y + tpQ as bs f v := by simp [tpQ, tpL]
    have e3 : tpQ (d :: ds) (e :: es) f (y :: v) = (f * e - d) * y + tpQ ds es f v := by simp [tpQ, tpL]
    rw [e2, e3]; grind
theorem dv_last {l : List Rat} {k : Nat} (h : l.length = k + 1) (x : Rat) : (dvR x l).getD k 0 = lst l / x := by
  have e := lst_split (ne_of_len h)
  have hd : l.dropLast.length = k := by rw [List.length_dropLast, h]; rfl
  conv => lhs; rw [e]
  unfold dvR
  rw [List.map_append, List.getD_eq_getElem?_getD, List.getElem?_append_right (by rw [List.length_map, hd]; exact Nat.le_refl _), List.length_map, hd, Nat.sub_self]
  rfl
theorem div_one' {x : Rat} (h : x ≠ 0) : x / x = 1 := by
  have := Rat.mul_div_cancel (a := 1) h
  rwa [Rat.one_mul] at this
def plJ (d e a b : List Rat) (f : Rat) (m j : Nat) : Rat := geo (f * lst b) m * (a.getD j 0 - f * b.getD j 0) + pwQ (f * lst b) m * (d.getD j 0 - f * e.getD j 0)
theorem pl_last {d e a b : List Rat} {f : Rat} {k m : Nat} (ok : RuleOk d e a b f k) : plJ (dvR (lst d) d) (dvR (lst d) e) (dvR (lst a) a) (dvR (lst a) b) f m k = 1 := by
  unfold plJ
  rw [dv_last ok.la, dv_last ok.lb, dv_last ok.ld, dv_last ok.le, ok.e0, lst_dv _ _ (ne_of_len ok.lb), div_one' ok.a0, div_one' ok.d0]
  have := geo_one (f * (lst b / lst a)) m
  have z : (0 : Rat) / lst d = 0 := by rw [Rat.div_def, Rat.zero_mul]
  rw [z]
  grind
theorem run_pre (d e a b : List Rat) (f : Rat) (m k : Nat) (st : List Rat) : ∀ n i, i ≤ n → (runN d e a b f m k st n).take (st.length + i) = runN d e a b f m k st i
  | 0, i, h => by
    have : i = 0 := by omega
    subst this
    exact List.take_of_length_le (by rw [runN_len]; omega)
  | n + 1, i, h => by
    by_cases h2 : i ≤ n
    · rw [runN, List.take_append_of_le_length (by rw [runN_len]; omega)]
      exact run_pre d e a b f m k st n i h2
    · have : i = n + 1 := by omega
      subst this
      exact List.take_of_length_le (by rw [runN_len]; omega)
theorem run_cut (d e a b : List Rat) (f : Rat) (m : Nat) (st : List Rat) (n i : Nat) (h : i < n) :
    ((runN d e a b f m st.length st n).drop i).take (st.length + 1) = lastK st.length (runN d e a b f m st.length st i) ++ [nxQ d e a b f m (lastK st.length (runN d e a b f m st.length st i))] := by
  rw [List.take_drop, show i + (st.length + 1) = st.length + (i + 1) by omega, run_pre d e a b f m st.length st n (i + 1) h, runN, List.drop_append_of_le_length (by rw [runN_len]; omega)]
  congr 1
  unfold lastK
  rw [runN_len]
  congr 1; omega
theorem kept_at {d e a b : List Rat} {f : Rat} {m k : Nat} {y : List Rat} (hy : y.length = k) (la : k ≤ a.length) (lb : k ≤ b.length) (ld : k ≤ d.length) (le : k ≤ e.length) (h1 : plJ d e a b f m k = 1) :
    ((((List.range (k + 1)).map (plJ d e a b f m)).zip (y ++ [nxQ d e a b f m y])).map fun q => q.1 * q.2).sum = 0 := by
  rw [map_range_succ, List.zip_append (by simp [hy]), List.map_append, List.sum_append, h1]
  have := kept_sum (geo (f * lst b) m) (pwQ (f * lst b) m) f a b d e y (by omega) (by omega) (by omega) (by omega)
  rw [hy] at this
  have e1 : (((List.range k).map (plJ d e a b f m)).zip y |>.map fun q => q.1 * q.2).sum = -(geo (f * lst b) m * tpQ a b f y) - pwQ (f * lst b) m * tpQ d e f y := this
  rw [e1]
  have e2 : nxQ d e a b f m y = geo (f * lst b) m * tpQ a b f y + pwQ (f * lst b) m * tpQ d e f y := md_closed _ _ _ m
  rw [e2]
  simp only [List.zip_cons_cons, List.zip_nil_left, List.map_cons, List.map_nil, List.sum_cons, List.sum_nil]
  grind
theorem p_law1 {K : PySem.W.Frag} : W_law1 K { nx := fun s => ∃ (cells : List Int) (mixed : Int), (∀ c ∈ cells, 0 ≤ c) ∧ 0 ≤ mixed ∧ mixed < 2147483647 ∧ s[1]? = some (.ow [.lst (cells.map D.int), .int 0, .int mixed]), rt := fun _ => False } (begin 17 [.scr K]) := by
  simp only [W_law1, FOwn, LV.begin, Nat.reduceLeDiff, ne_eq, not_false_eq_true, not_true_eq_false, Int.reduceLE, Int.reduceLT, Nat.zero_le, at_0, at_1, at_2, at_3, at_m1a, at_m1b, at_m1c, at_m1d, at_m2b, at_m2c, decide_true, eq_self, Int.reduceEq, true_and, and_true, false_and, and_false, or_false, false_or, Int.reduceNeg, gIx, decide_false, Bool.and_true, Bool.true_and, Bool.or_true, wSeq, wSet, wAsg, wPar, wIf, wIfS, wTst, LV.wTru, LV.wNot, wAnd, wOr, wAndV, wOrV, wNotV, wOp, wUn, wV, wC, fCI, fAdd, fSub, fMul, fDiv, fMod, fPow, fNeg, fIx, fIs, fIsNot, fEq, fNe, fLt, fLe, fGt, fGe, wCB, wCons, wNil, w1, wApp, wIsi, isiB, bagD, isNonD, fLen, fAbs, fInt, fGcd, fList, fTuple, fRepr, fLz, fLen0, fLrv, fSum, fMax, fMin, fAll, fAny, seqD, rdL, rdW, fzL, fzW, unL, putS, RV.sl, wRet, wRetN, wNever, wNext, wDrop, wTup, wLst, outW, placeW, gN, gTu, gCo, gNi, wFor, zSeq, zr_0, zr_1, zr_2, zr_3, zr_4, nc_0, nc_1, nc_2, nc_3, nc_4, zEnum, zZip, zZip3, ixD, tru, wCall, wCallK, wApp, wAppend, wPopAt, wExtend, wChainE, fIn, fBits, fFac, fComb, fRngL1, fRngL2, owW, wSl, fSl, wONone, wOSome, wLc, wYes, List.map, List.replicate, List.length, List.append, List.set, List.take, List.drop, List.getLast?, List.dropLast, List.filterMap, List.getElem?_cons_zero, List.getElem?_cons_succ, List.getElem?_nil, Nat.reduceAdd, Nat.reduceSub, Nat.reduceLT, List.cons_append, List.nil_append, Option.some.injEq, reduceCtorEq, reduceIte, Bool.not_true, Bool.not_false, Bool.false_eq_true, List.isEmpty]
  exact fun cells mixed h1 h2 h3 => ⟨cells, mixed, h1, h2, h3, rfl⟩
/-- a case: what is drawn -/
structure Case where
  d : List Rat
  e : List Rat
  a : List Rat
  b : List Rat
  f : Rat
  m : Nat
  s : List Rat
  n : Nat
def Case.dD (c : Case) : D := .tup [rlD c.d c.e, rlD c.a c.b, fQ c.f, .int (c.m : Nat), tQ c.s, tQ (runQ c.d c.e c.a c.b c.f c.m c.s c.n)]
structure Case.Ok (c : Case) : Prop where
  ok : RuleOk c.d c.e c.a c.b c.f c.s.length
  m6 : c.m ≤ 6
  st : ∀ x ∈ c.s, Sm3 x
  n20 : c.n ≤ 20
  nb : c.n = 0 ∨ c.n * c.n * bitsQ c.d c.e c.a c.b c.f c.m ≤ 24000
theorem Case.len {c : Case} : (runQ c.d c.e c.a c.b c.f c.m c.s c.n).length = c.s.length + c.n := runN_len ..
theorem Case.run {c : Case} (h : c.Ok) {j : Nat} (hj : j ≤ c.n) {Q : RV → Prop} (q : Q (.sh (tQ (runQ c.d c.e c.a c.b c.f c.m c.s j)))) :
    F_mended_run [rlD c.d c.e, rlD c.a c.b, fQ c.f, .int (c.m : Nat), tQ c.s, .int ((c.s.length + j : Nat) : Int)] Q :=
  ⟨c.d, c.e, c.a, c.b, c.f, c.m, c.s, j, rfl, h.ok, h.m6, Nat.le_trans hj h.n20, fun i hi => (all_ok h.ok h.m6 h.st h.n20 h.nb).1 i (by omega), q⟩
theorem Case.same {c : Case} (h : c.Ok) {Q : RV → Prop} (j : Nat) (hj : j ≤ c.n) (q : Q (.sh (.bl true))) : F__law_same [tQ (runQ c.d c.e c.a c.b c.f c.m c.s j), tQ (runQ c.d c.e c.a c.b c.f c.m c.s j)] Q :=
  ⟨_, rfl, by have : (runQ c.d c.e c.a c.b c.f c.m c.s j).length = c.s.length + j := runN_len ..; have := h.ok.k8; have := h.n20; omega, q⟩
theorem pl2_eq {d e a b : List Rat} {f : Rat} {k m : Nat} (ok : RuleOk d e a b f k) : pl2 d e a b f m = (List.range (k + 1)).map (plJ (dvR (lst d) d) (dvR (lst d) e) (dvR (lst a) a) (dvR (lst a) b) f m) := by
  unfold pl2 plQ
  rw [dv_len, ok.la]; rfl
theorem pl2_sz {d e a b : List Rat} {f : Rat} {k m : Nat} (ok : RuleOk d e a b f k) (hm : m ≤ 6) : ∀ x ∈ pl2 d e a b f m, Sz 6800 x := fun x hx => by
  rw [pl2_eq ok] at hx
  obtain ⟨j, hj, rfl⟩ := List.mem_map.mp hx
  have hj : j < k + 1 := by simpa using hj
  have za := dv_sz ok.sa (ok.sa _ (lst_mem (ne_of_len ok.la))) ok.a0
  have zb := dv_sz ok.sb (ok.sa _ (lst_mem (ne_of_len ok.la))) ok.a0
  have zd := dv_sz ok.sd (ok.sd _ (lst_mem (ne_of_len ok.ld))) ok.d0
  have ze := dv_sz ok.se (ok.sd _ (lst_mem (ne_of_len ok.ld))) ok.d0
  have zf : Sz 10 f := Sm3.sz ok.sf
  have zx : Sz 30 (f * lst (dvR (lst a) b)) := (zf.mul (zb _ (lst_mem (ne_of_len ((dv_len _ _).trans ok.lb))))).mono (by omega)
  have zp : ∀ i ≤ 6, Sz 181 (pwQ (f * lst (dvR (lst a) b)) i) := fun i hi => (pwQ_sz zx i).mono (by omega)
  have zs : Sz 1100 (geo (f * lst (dvR (lst a) b)) m) := (sum_sz (s := 181) fun y hy => by
    obtain ⟨i, hi, rfl⟩ := List.mem_map.mp hy
    have : i < m := by simpa using hi
    exact zp i (by omega)).mono (by rw [List.length_map, List.length_range]; omega)
  have A := za _ (fQ_get (l := dvR (lst a) a) (j := j) (by rw [dv_len, ok.la]; exact hj))
  have B := zb _ (fQ_get (l := dvR (lst a) b) (j := j) (by rw [dv_len, ok.lb]; exact hj))
  have C := zd _ (fQ_get (l := dvR (lst d) d) (j := j) (by rw [dv_len, ok.ld]; exact hj))
  have E := ze _ (fQ_get (l := dvR (lst d) e) (j := j) (by rw [dv_len, ok.le]; exact hj))
  unfold plJ
  exact ((zs.mul (A.sub (zf.mul B))).add ((zp m hm).mul (C.sub (zf.mul E)))).mono (by omega)
theorem Case.kept {c : Case} (h : c.Ok) {Q : RV → Prop} (q : Q (.sh (.bl true))) : F__law_is_kept [tQ (pl2 c.d c.e c.a c.b c.f c.m), tQ (runQ c.d c.e c.a c.b c.f c.m c.s c.n)] Q := by
  have k8 := h.ok.k8
  have n20 := h.n20
  have hp : (pl2 c.d c.e c.a c.b c.f c.m).length = c.s.length + 1 := by rw [pl2_eq h.ok]; simp
  have hl := Case.len (c := c)
  refine ⟨_, _, rfl, by omega, ?_, ne_of_len hp, by omega, by omega, pl2_sz h.ok h.m6, (all_ok h.ok h.m6 h.st h.n20 h.nb).2, fun i hi => ?_, q⟩
  · rw [pl2_eq h.ok, map_range_succ, lst_concat]; exact pl_last h.ok
  · rw [hp] at hi ⊢
    rw [hl] at hi
    have := run_cut (dvR (lst c.d) c.d) (dvR (lst c.d) c.e) (dvR (lst c.a) c.a) (dvR (lst c.a) c.b) c.f c.m c.s c.n i (by omega)
    unfold runQ
    rw [this, pl2_eq h.ok]
    refine kept_at (lastK_len _ _ (by rw [runN_len]; omega)) ?_ ?_ ?_ ?_ (pl_last h.ok)
    · rw [dv_len, h.ok.la]; omega
    · rw [dv_len, h.ok.lb]; omega
    · rw [dv_len, h.ok.ld]; omega
    · rw [dv_len, h.ok.le]; omega
theorem p_law2 {K : PySem.W.Frag} : W_law2 K { nx := fun _ => False, rt := fun r => r = .sh (.bl true) } ((List.replicate 17 .un).set 1 (.sh (.bag 1))) := by
  unfold W_law2
  refine seq_cut (fun s => s = [.un, .sh (.bag 1), .ow [], .un, .un, .un, .un, .un, .un, .un, .un, .un, .un, .un, .un, .un, .un]) (fun nx hn => by simp only [LV.begin, Nat.reduceLeDiff, ne_eq, not_false_eq_true, not_true_eq_false, Int.reduceLE, Int.reduceLT, Nat.zero_le, at_0, at_1, at_2, at_3, at_m1a, at_m1b, at_m1c, at_m1d, at_m2b, at_m2c, decide_true, eq_self, Int.reduceEq, true_and, and_true, false_and, and_false, or_false, false_or, Int.reduceNeg, gIx, decide_false, Bool.and_true, Bool.true_and, Bool.or_true, wSeq, wSet, wAsg, wPar, wIf, wIfS, wTst, LV.wTru, LV.wNot, wAnd, wOr, wAndV, wOrV, wNotV, wOp, wUn, wV, wC, fCI, fAdd, fSub, fMul, fDiv, fMod, fPow, fNeg, fIx, fIs, fIsNot, fEq, fNe, fLt, fLe, fGt, fGe, wCB, wCons, wNil, w1, wApp, wIsi, isiB, bagD, isNonD, fLen, fAbs, fInt, fGcd, fList, fTuple, fRepr, fLz, fLen0, fLrv, fSum, fMax, fMin, fAll, fAny, seqD, rdL, rdW, fzL, fzW, unL, putS, RV.sl, wRet, wRetN, wNever, wNext, wDrop, wTup, wLst, outW, placeW, gN, gTu, gCo, gNi, wFor, zSeq, zr_0, zr_1, zr_2, zr_3, zr_4, nc_0, nc_1, nc_2, nc_3, nc_4, zEnum, zZip, zZip3, ixD, tru, wCall, wCallK, wApp, wAppend, wPopAt, wExtend, wChainE, fIn, fBits, fFac, fComb, fRngL1, fRngL2, owW, wSl, fSl, wONone, wOSome, wLc, wYes, List.map, List.replicate, List.length, List.append, List.set, List.take, List.drop, List.getLast?, List.dropLast, List.filterMap, List.getElem?_cons_zero, List.getElem?_cons_succ, List.getElem?_nil, Nat.reduceAdd, Nat.reduceSub, Nat.reduceLT, List.cons_append, List.nil_append, Option.some.injEq, reduceCtorEq, reduceIte, Bool.not_true, Bool.not_false, Bool.false_eq_true, List.isEmpty]; exact hn _ rfl) ?_
  rintro s rfl
  refine seq_cut (fun s => ∃ (cs : List Case) (s3 s4 s5 s6 s7 s8 s9 s10 s11 : Sl), (∀ c ∈ cs, c.Ok) ∧ cs.length ≤ 2 ∧ s = [.un, .sh (.bag 1), .ow (cs.map Case.dD), s3, s4, s5, s6, s7, s8, s9, s10, s11, .un, .un, .un, .un, .un]) (fun nx hn => ?_) ?_
  · simp only [LV.begin, Nat.reduceLeDiff, ne_eq, not_false_eq_true, not_true_eq_false, Int.reduceLE, Int.reduceLT, Nat.zero_le, at_0, at_1, at_2, at_3, at_m1a, at_m1b, at_m1c, at_m1d, at_m2b, at_m2c, decide_true, eq_self, Int.reduceEq, true_and, and_true, false_and, and_false, or_false, false_or, Int.reduceNeg, gIx, decide_false, Bool.and_true, Bool.true_and, Bool.or_true, wSeq, wSet, wAsg, wPar, wIf, wIfS, wTst, LV.wTru, LV.wNot, wAnd, wOr, wAndV, wOrV, wNotV, wOp, wUn, wV, wC, fCI, fAdd, fSub, fMul, fDiv, fMod, fPow, fNeg, fIx, fIs, fIsNot, fEq, fNe, fLt, fLe, fGt, fGe, wCB, wCons, wNil, w1, wApp, wIsi, isiB, bagD, isNonD, fLen, fAbs, fInt, fGcd, fList, fTuple, fRepr, fLz, fLen0, fLrv, fSum, fMax, fMin, fAll, fAny, seqD, rdL, rdW, fzL, fzW, unL, putS, RV.sl, wRet, wRetN, wNever, wNext, wDrop, wTup, wLst, outW, placeW, gN, gTu, gCo, gNi, wFor, zSeq, zr_0, zr_1, zr_2, zr_3, zr_4, nc_0, nc_1, nc_2, nc_3, nc_4, zEnum, zZip, zZip3, ixD, tru, wCall, wCallK, wApp, wAppend, wPopAt, wExtend, wChainE, fIn, fBits, fFac, fComb, fRngL1, fRngL2, owW, wSl, fSl, wONone, wOSome, wLc, wYes, List.map, List.replicate, List.length, List.append, List.set, List.take, List.drop, List.getLast?, List.dropLast, List.filterMap, List.getElem?_cons_zero, List.getElem?_cons_succ, List.getElem?_nil, Nat.reduceAdd, Nat.reduceSub, Nat.reduceLT, List.cons_append, List.nil_append, Option.some.injEq, reduceCtorEq, reduceIte, Bool.not_true, Bool.not_false, Bool.false_eq_true, List.isEmpty]
    refine ⟨_, rfl, ?_⟩
    refine forL (fun (k : Nat) => D.int (k : Int)) (fun done rest s => done ++ rest = [0, 1] ∧ ∃ (cs : List Case) (s3 s4 s5 s6 s7 s8 s9 s10 s11 : Sl), (∀ c ∈ cs, c.Ok) ∧ cs.length = done.length ∧ s = [.un, .sh (.bag 1), .ow (cs.map Case.dD), s3, s4, s5, s6, s7, s8, s9, s10, s11, .un, .un, .un, .un, .un]) ?_ ?_ [0, 1] [] _ ⟨rfl, [], _, _, _, _, _, _, _, _, _, (fun _ h => nomatch h), rfl, rfl⟩
    · rintro done k rest s nx2 ⟨e, cs, s3, s4, s5, s6, s7, s8, s9, s10, s11, hcs, hl, rfl⟩ hn2
      simp only [gN, List.set]
      refine seq_cut (fun s => ∃ (c : Case) (s3 : Sl), c.n = 0 ∧ c.Ok ∧ 1 ≤ c.m ∧ s = [.un, .sh (.bag 1), .ow (cs.map Case.dD), s3, .sh (rlD c.d c.e), .sh (rlD c.a c.b), .sh (fQ c.f), .sh (.int (c.m : Nat)), .sh (tQ c.s), s9, s10, s11, .un, .un, .un, .un, .un]) (fun nx hn => ?_) ?_
      · simp only [LV.begin, Nat.reduceLeDiff, ne_eq, not_false_eq_true, not_true_eq_false, Int.reduceLE, Int.reduceLT, Nat.zero_le, at_0, at_1, at_2, at_3, at_m1a, at_m1b, at_m1c, at_m1d, at_m2b, at_m2c, decide_true, eq_self, Int.reduceEq, true_and, and_true, false_and, and_false, or_false, false_or, Int.reduceNeg, gIx, decide_false, Bool.and_true, Bool.true_and, Bool.or_true, wSeq, wSet, wAsg, wPar, wIf, wIfS, wTst, LV.wTru, LV.wNot, wAnd, wOr, wAndV, wOrV, wNotV, wOp, wUn, wV, wC, fCI, fAdd, fSub, fMul, fDiv, fMod, fPow, fNeg, fIx, fIs, fIsNot, fEq, fNe, fLt, fLe, fGt, fGe, wCB, wCons, wNil, w1, wApp, wIsi, isiB, bagD, isNonD, fLen, fAbs, fInt, fGcd, fList, fTuple, fRepr, fLz, fLen0, fLrv, fSum, fMax, fMin, fAll, fAny, seqD, rdL, rdW, fzL, fzW, unL, putS, RV.sl, wRet, wRetN, wNever, wNext, wDrop, wTup, wLst, outW, placeW, gN, gTu, gCo, gNi, wFor, zSeq, zr_0, zr_1, zr_2, zr_3, zr_4, nc_0, nc_1, nc_2, nc_3, nc_4, zEnum, zZip, zZip3, ixD, tru, wCall, wCallK, wApp, wAppend, wPopAt, wExtend, wChainE, fIn, fBits, fFac, fComb, fRngL1, fRngL2, owW, wSl, fSl, wONone, wOSome, wLc, wYes, List.map, List.replicate, List.length, List.append, List.set, List.take, List.drop, List.getLast?, List.dropLast, List.filterMap, List.getElem?_cons_zero, List.getElem?_cons_succ, List.getElem?_nil, Nat.reduceAdd, Nat.reduceSub, Nat.reduceLT, List.cons_append, List.nil_append, Option.some.injEq, reduceCtorEq, reduceIte, Bool.not_true, Bool.not_false, Bool.false_eq_true, List.isEmpty, F__law_some_case, csD]
        refine fun d e a b f m st ok m1 m6 zst => ?_
        exact hn _ ⟨⟨d, e, a, b, f, m, st, 0⟩, _, rfl, ⟨ok, m6, zst, Nat.zero_le _, .inl rfl⟩, m1, rfl⟩
      rintro s ⟨c, s3, c0, hc, m1, rfl⟩
      refine seq_cut (fun s => ∃ r : Nat, r ≤ 20 ∧ (r = 0 ∨ r * r * bitsQ c.d c.e c.a c.b c.f c.m ≤ 24000) ∧ s = [.un, .sh (.bag 1), .ow (cs.map Case.dD), s3, .sh (rlD c.d c.e), .sh (rlD c.a c.b), .sh (fQ c.f), .sh (.int (c.m : Nat)), .sh (tQ c.s), .sh (.int (r : Nat)), .sh (.int (c.s.length : Nat)), s11, .un, .un, .un, .un, .un]) (fun nx hn => ?_) ?_
      · simp only [LV.begin, Nat.reduceLeDiff, ne_eq, not_false_eq_true, not_true_eq_false, Int.reduceLE, Int.reduceLT, Nat.zero_le, at_0, at_1, at_2, at_3, at_m1a, at_m1b, at_m1c, at_m1d, at_m2b, at_m2c, decide_true, eq_self, Int.reduceEq, true_and, and_true, false_and, and_false, or_false, false_or, Int.reduceNeg, gIx, decide_false, Bool.and_true, Bool.true_and, Bool.or_true, wSeq, wSet, wAsg, wPar, wIf, wIfS, wTst, LV.wTru, LV.wNot, wAnd, wOr, wAndV, wOrV, wNotV, wOp, wUn, wV, wC, fCI, fAdd, fSub, fMul, fDiv, fMod, fPow, fNeg, fIx, fIs, fIsNot, fEq, fNe, fLt, fLe, fGt, fGe, wCB, wCons, wNil, w1, wApp, wIsi, isiB, bagD, isNonD, fLen, fAbs, fInt, fGcd, fList, fTuple, fRepr, fLz, fLen0, fLrv, fSum, fMax, fMin, fAll, fAny, seqD, rdL, rdW, fzL, fzW, unL, putS, RV.sl, wRet, wRetN, wNever, wNext, wDrop, wTup, wLst, outW, placeW, gN, gTu, gCo, gNi, wFor, zSeq, zr_0, zr_1, zr_2, zr_3, zr_4, nc_0, nc_1, nc_2, nc_3, nc_4, zEnum, zZip, zZip3, ixD, tru, wCall, wCallK, wApp, wAppend, wPopAt, wExtend, wChainE, fIn, fBits, fFac, fComb, fRngL1, fRngL2, owW, wSl, fSl, wONone, wOSome, wLc, wYes, List.map, List.replicate, List.length, List.append, List.set, List.take, List.drop, List.getLast?, List.dropLast, List.filterMap, List.getElem?_cons_zero, List.getElem?_cons_succ, List.getElem?_nil, Nat.reduceAdd, Nat.reduceSub, Nat.reduceLT, List.cons_append, List.nil_append, Option.some.injEq, reduceCtorEq, reduceIte, Bool.not_true, Bool.not_false, Bool.false_eq_true, List.isEmpty, F__law_room, tQ, List.length_map]
        refine ⟨c.d, c.e, c.a, c.b, c.f, c.s.length, c.m, rfl, hc.ok, hc.m6, fun r h1 h2 => ?_⟩
        exact hn _ ⟨r, h1, h2, rfl⟩
      rintro s ⟨r, r20, hr, rfl⟩
      refine seq_cut (fun s => ∃ n : Nat, n ≤ r ∧ s = [.un, .sh (.bag 1), .ow (cs.map Case.dD), s3, .sh (rlD c.d c.e), .sh (rlD c.a c.b), .sh (fQ c.f), .sh (.int (c.m : Nat)), .sh (tQ c.s), .sh (.int (r : Nat)), .sh (.int (c.s.length : Nat)), .sh (.int (n : Nat)), .un, .un, .un, .un, .un]) (fun nx hn => ?_) ?_
      · simp only [LV.begin, Nat.reduceLeDiff, ne_eq, not_false_eq_true, not_true_eq_false, Int.reduceLE, Int.reduceLT, Nat.zero_le, at_0, at_1, at_2, at_3, at_m1a, at_m1b, at_m1c, at_m1d, at_m2b, at_m2c, decide_true, eq_self, Int.reduceEq, true_and, and_true, false_and, and_false, or_false, false_or, Int.reduceNeg, gIx, decide_false, Bool.and_true, Bool.true_and, Bool.or_true, wSeq, wSet, wAsg, wPar, wIf, wIfS, wTst, LV.wTru, LV.wNot, wAnd, wOr, wAndV, wOrV, wNotV, wOp, wUn, wV, wC, fCI, fAdd, fSub, fMul, fDiv, fMod, fPow, fNeg, fIx, fIs, fIsNot, fEq, fNe, fLt, fLe, fGt, fGe, wCB, wCons, wNil, w1, wApp, wIsi, isiB, bagD, isNonD, fLen, fAbs, fInt, fGcd, fList, fTuple, fRepr, fLz, fLen0, fLrv, fSum, fMax, fMin, fAll, fAny, seqD, rdL, rdW, fzL, fzW, unL, putS, RV.sl, wRet, wRetN, wNever, wNext, wDrop, wTup, wLst, outW, placeW, gN, gTu, gCo, gNi, wFor, zSeq, zr_0, zr_1, zr_2, zr_3, zr_4, nc_0, nc_1, nc_2, nc_3, nc_4, zEnum, zZip, zZip3, ixD, tru, wCall, wCallK, wApp, wAppend, wPopAt, wExtend, wChainE, fIn, fBits, fFac, fComb, fRngL1, fRngL2, owW, wSl, fSl, wONone, wOSome, wLc, wYes, List.map, List.replicate, List.length, List.append, List.set, List.take, List.drop, List.getLast?, List.dropLast, List.filterMap, List.getElem?_cons_zero, List.getElem?_cons_succ, List.getElem?_nil, Nat.reduceAdd, Nat.reduceSub, Nat.reduceLT, List.cons_append, List.nil_append, Option.some.injEq, reduceCtorEq, reduceIte, Bool.not_true, Bool.not_false, Bool.false_eq_true, List.isEmpty, FDraw]
        refine ⟨3, rfl, by omega, log_small (by omega) (by omega), fun q h5 h6 => ?_⟩
        by_cases h0 : 0 < q
        · simp only [decide_eq_true h0, if_true]
          exact hn _ ⟨r, Nat.le_refl _, rfl⟩
        · simp only [decide_eq_false h0, Bool.false_eq_true, if_false]
          refine ⟨_, rfl, by omega, log_small (by omega) (by omega), fun q2 h7 h8 => hn _ ⟨q2.toNat, by omega, ?_⟩⟩
          rw [show ((q2.toNat : Nat) : Int) = q2 by omega]
      rintro s ⟨n, hnr, rfl⟩
      have hnb : n = 0 ∨ n * n * bitsQ c.d c.e c.a c.b c.f c.m ≤ 24000 := by
        rcases hr with rfl | hr
        · exact .inl (by omega)
        · exact .inr (Nat.le_trans (Nat.mul_le_mul_right _ (Nat.mul_le_mul hnr hnr)) hr)
      simp only [LV.begin, Nat.reduceLeDiff, ne_eq, not_false_eq_true, not_true_eq_false, Int.reduceLE, Int.reduceLT, Nat.zero_le, at_0, at_1, at_2, at_3, at_m1a, at_m1b, at_m1c, at_m1d, at_m2b, at_m2c, decide_true, eq_self, Int.reduceEq, true_and, and_true, false_and, and_false, or_false, false_or, Int.reduceNeg, gIx, decide_false, Bool.and_true, Bool.true_and, Bool.or_true, wSeq, wSet, wAsg, wPar, wIf, wIfS, wTst, LV.wTru, LV.wNot, wAnd, wOr, wAndV, wOrV, wNotV, wOp, wUn, wV, wC, fCI, fAdd, fSub, fMul, fDiv, fMod, fPow, fNeg, fIx, fIs, fIsNot, fEq, fNe, fLt, fLe, fGt, fGe, wCB, wCons, wNil, w1, wApp, wIsi, isiB, bagD, isNonD, fLen, fAbs, fInt, fGcd, fList, fTuple, fRepr, fLz, fLen0, fLrv, fSum, fMax, fMin, fAll, fAny, seqD, rdL, rdW, fzL, fzW, unL, putS, RV.sl, wRet, wRetN, wNever, wNext, wDrop, wTup, wLst, outW, placeW, gN, gTu, gCo, gNi, wFor, zSeq, zr_0, zr_1, zr_2, zr_3, zr_4, nc_0, nc_1, nc_2, nc_3, nc_4, zEnum, zZip, zZip3, ixD, tru, wCall, wCallK, wApp, wAppend, wPopAt, wExtend, wChainE, fIn, fBits, fFac, fComb, fRngL1, fRngL2, owW, wSl, fSl, wONone, wOSome, wLc, wYes, List.map, List.replicate, List.length, List.append, List.set, List.take, List.drop, List.getLast?, List.dropLast, List.filterMap, List.getElem?_cons_zero, List.getElem?_cons_succ, List.getElem?_nil, Nat.reduceAdd, Nat.reduceSub, Nat.reduceLT, List.cons_append, List.nil_append, Option.some.injEq, reduceCtorEq, reduceIte, Bool.not_true, Bool.not_false, Bool.false_eq_true, List.isEmpty, F__law_own_run]
      refine ⟨c.d, c.e, c.a, c.b, c.f, c.m, c.s, n, rfl, hc.ok, hc.m6, hc.st, by omega, hnb, ?_⟩
      refine ⟨by rw [List.length_map]; have := congrArg List.length e; simp at this; omega, ?_⟩
      refine hn2 _ ⟨by simpa using e, cs ++ [⟨c.d, c.e, c.a, c.b, c.f, c.m, c.s, n⟩], _, _, _, _, _, _, _, _, _, fun x hx => ?_, by simp [hl], by rw [List.map_append]; rfl⟩
      rcases List.mem_append.mp hx with h | h
      · exact hcs x h
      · rw [List.mem_singleton.mp h]
        exact ⟨hc.ok, hc.m6, hc.st, by show n ≤ 20; omega, hnb⟩
    · rintro done s ⟨e, cs, s3, s4, s5, s6, s7, s8, s9, s10, s11, hcs, hl, rfl⟩
      rw [List.append_nil] at e
      subst e
      exact hn _ ⟨cs, _, _, _, _, _, _, _, _, _, hcs, by simp at hl; omega, rfl⟩
  rintro s ⟨cs, s3, s4, s5, s6, s7, s8, s9, s10, s11, hcs, hl, rfl⟩
  refine seq_cut (fun s => ∃ (s2 : Sl) (s3 s4 s5 s6 s7 s8 s9 s10 s11 s12 s13 s14 s15 s16 : Sl), (s2 = .ow (cs.map Case.dD) ∨ s2 = .sh (.lst (cs.map Case.dD))) ∧ s = [.un, .sh (.bag 1), s2, s3, s4, s5, s6, s7, s8, s9, s10, s11, s12, s13, s14, s15, s16]) (fun nx hn => ?_) ?_
  · simp only [LV.begin, Nat.reduceLeDiff, ne_eq, not_false_eq_true, not_true_eq_false, Int.reduceLE, Int.reduceLT, Nat.zero_le, at_0, at_1, at_2, at_3, at_m1a, at_m1b, at_m1c, at_m1d, at_m2b, at_m2c, decide_true, eq_self, Int.reduceEq, true_and, and_true, false_and, and_false, or_false, false_or, Int.reduceNeg, gIx, decide_false, Bool.and_true, Bool.true_and, Bool.or_true, wSeq, wSet, wAsg, wPar, wIf, wIfS, wTst, LV.wTru, LV.wNot, wAnd, wOr, wAndV, wOrV, wNotV, wOp, wUn, wV, wC, fCI, fAdd, fSub, fMul, fDiv, fMod, fPow, fNeg, fIx, fIs, fIsNot, fEq, fNe, fLt, fLe, fGt, fGe, wCB, wCons, wNil, w1, wApp, wIsi, isiB, bagD, isNonD, fLen, fAbs, fInt, fGcd, fList, fTuple, fRepr, fLz, fLen0, fLrv, fSum, fMax, fMin, fAll, fAny, seqD, rdL, rdW, fzL, fzW, unL, putS, RV.sl, wRet, wRetN, wNever, wNext, wDrop, wTup, wLst, outW, placeW, gN, gTu, gCo, gNi, wFor, zSeq, zr_0, zr_1, zr_2, zr_3, zr_4, nc_0, nc_1, nc_2, nc_3, nc_4, zEnum, zZip, zZip3, ixD, tru, wCall, wCallK, wApp, wAppend, wPopAt, wExtend, wChainE, fIn, fBits, fFac, fComb, fRngL1, fRngL2, owW, wSl, fSl, wONone, wOSome, wLc, wYes, List.map, List.replicate, List.length, List.append, List.set, List.take, List.drop, List.getLast?, List.dropLast, List.filterMap, List.getElem?_cons_zero, List.getElem?_cons_succ, List.getElem?_nil, Nat.reduceAdd, Nat.reduceSub, Nat.reduceLT, List.cons_append, List.nil_append, Option.some.injEq, reduceCtorEq, reduceIte, Bool.not_true, Bool.not_false, Bool.false_eq_true, List.isEmpty]
    refine ⟨_, rfl, ?_⟩
    refine forL (fun (k : Nat) => D.int (k : Int)) (fun done rest s => done ++ rest = [0, 1, 2, 3] ∧ ∃ (s2 : Sl) (s3 s4 s5 s6 s7 s8 s9 s10 s11 s12 s13 s14 s15 s16 : Sl), (s2 = .ow (cs.map Case.dD) ∨ s2 = .sh (.lst (cs.map Case.dD))) ∧ s = [.un, .sh (.bag 1), s2, s3, s4, s5, s6, s7, s8, s9, s10, s11, s12, s13, s14, s15, s16]) ?_ ?_ [0, 1, 2, 3] [] _ ⟨rfl, _, _, _, _, _, _, _, _, _, _, _, _, _, _, _, .inl rfl, rfl⟩
    · rintro done k rest s nx2 ⟨e, s2, s3, s4, s5, s6, s7, s8, s9, s10, s11, s12, s13, s14, s15, s16, h2, rfl⟩ hn2
      simp only [gN, List.set]
      have start : wForL (gTu (gCo (gN 4) (gCo (gN 5) (gCo (gN 6) (gCo (gN 7) (gCo (gN 8) (gCo (gN 13) gNi)))))) 6) (wSeq (wIfS (wTst (wOp fEq (wV 12) (wC (.int 1)))) (wSet 14 (wCallK F_mended_run 0 [5, 4, 3, 2, 1, 0] (wApp (wNil) (wCons (wCB fLen (wCons (wV 13) wNil)) (wCons (wV 8) (wCons (wV 7) (wCons (wV 6) (wCons (wV 5) (wCons (wV 4) wNil))))))))) (wIfS (wTst (wOp fEq (wV 12) (wC (.int 2)))) (wSeq (wSet 15 (wCall F_mended_poly (wCons (wV 4) (wCons (wV 5) (wCons (wV 6) (wCons (wV 7) wNil))))))
    (wSeq (wSet 14 (wV 13))
    (wIfS (wOr (wNot (wTru (wIsi .tuple (wV 15)))) (wOr (wTst (wOp fNe (wCB fLen (wCons (wV 15) wNil)) (wOp fAdd (wCB fLen (wCons (wV 8) wNil)) (wC (.int 1))))) (wNot (wTru (wCall F__law_is_kept (wCons (wV 15) (wCons (wV 13) wNil))))))) (wRet (wC (.bl false))) (wNext)))) (wSet 14 (wCall F_mended_run (wCons (wV 4) (wCons (wV 5) (wCons (wV 6) (wCons (wV 7) (wCons (wV 8) (wCons (wCB fLen (wCons (wV 13) wNil)) wNil))))))))))
    (wIfS (wNot (wTru (wCall F__law_same (wCons (wV 14) (wCons (wV 13) wNil))))) (wRet (wC (.bl false))) (wNext))) { nx := nx2, rt := fun r => r = .sh (.bl true), bk := nx, ct := nx2 } (cs.map Case.dD) [.un, .sh (.bag 1), .sh (.lst (cs.map Case.dD)), s3, s4, s5, s6, s7, s8, s9, s10, s11, .sh (.int (k : Int)), s13, s14, s15, s16] := by
        refine forL Case.dD (fun done' rest' s => done' ++ rest' = cs ∧ ∃ (s3 s4 s5 s6 s7 s8 s9 s10 s11 s13 s14 s15 s16 : Sl), s = [.un, .sh (.bag 1), .sh (.lst (cs.map Case.dD)), s3, s4, s5, s6, s7, s8, s9, s10, s11, .sh (.int (k : Int)), s13, s14, s15, s16]) ?_ ?_ cs [] _ ⟨rfl, _, _, _, _, _, _, _, _, _, _, _, _, _, rfl⟩
        · rintro done' c rest' s nx3 ⟨e', s3, s4, s5, s6, s7, s8, s9, s10, s11, s13, s14, s15, s16, rfl⟩ hn3
          have hc : c.Ok := hcs c (by rw [← e']; simp)
          simp only [Case.dD, gTu, gCo, gNi, gN, List.set, List.length, true_and]
          refine seq_cut (fun s => ∃ s15, s = [.un, .sh (.bag 1), .sh (.lst (cs.map Case.dD)), s3, .sh (rlD c.d c.e), .sh (rlD c.a c.b), .sh (fQ c.f), .sh (.int (c.m : Nat)), .sh (tQ c.s), s9, s10, s11, .sh (.int (k : Int)), .sh (tQ (runQ c.d c.e c.a c.b c.f c.m c.s c.n)), .sh (tQ (runQ c.d c.e c.a c.b c.f c.m c.s c.n)), s15, s16]) (fun nx hn => ?_) ?_
          · by_cases k1 : (k : Int) = 1
            · simp only [LV.begin, Nat.reduceLeDiff, ne_eq, not_false_eq_true, not_true_eq_false, Int.reduceLE, Int.reduceLT, Nat.zero_le, at_0, at_1, at_2, at_3, at_m1a, at_m1b, at_m1c, at_m1d, at_m2b, at_m2c, decide_true, eq_self, Int.reduceEq, true_and, and_true, false_and, and_false, or_false, false_or, Int.reduceNeg, gIx, decide_false, Bool.and_true, Bool.true_and, Bool.or_true, wSeq, wSet, wAsg, wPar, wIf, wIfS, wTst, LV.wTru, LV.wNot, wAnd, wOr, wAndV, wOrV, wNotV, wOp, wUn, wV, wC, fCI, fAdd, fSub, fMul, fDiv, fMod, fPow, fNeg, fIx, fIs, fIsNot, fEq, fNe, fLt, fLe, fGt, fGe, wCB, wCons, wNil, w1, wApp, wIsi, isiB, bagD, isNonD, fLen, fAbs, fInt, fGcd, fList, fTuple, fRepr, fLz, fLen0, fLrv, fSum, fMax, fMin, fAll, fAny, seqD, rdL, rdW, fzL, fzW, unL, putS, RV.sl, wRet, wRetN, wNever, wNext, wDrop, wTup, wLst, outW, placeW, gN, gTu, gCo, gNi, wFor, zSeq, zr_0, zr_1, zr_2, zr_3, zr_4, nc_0, nc_1, nc_2, nc_3, nc_4, zEnum, zZip, zZip3, ixD, tru, wCall, wCallK, wApp, wAppend, wPopAt, wExtend, wChainE, fIn, fBits, fFac, fComb, fRngL1, fRngL2, owW, wSl, fSl, wONone, wOSome, wLc, wYes, List.map, List.replicate, List.length, List.append, List.set, List.take, List.drop, List.getLast?, List.dropLast, List.filterMap, List.getElem?_cons_zero, List.getElem?_cons_succ, List.getElem?_nil, Nat.reduceAdd, Nat.reduceSub, Nat.reduceLT, List.cons_append, List.nil_append, Option.some.injEq, reduceCtorEq, reduceIte, Bool.not_true, Bool.not_false, Bool.false_eq_true, List.isEmpty, k1]
              rw [List.length_map, Case.len]
              refine Case.run hc (Nat.le_refl _) ?_
              exact hn _ ⟨_, by rw [k1]⟩
            · by_cases k2 : (k : Int) = 2
              · simp only [LV.begin, Nat.reduceLeDiff, ne_eq, not_false_eq_true, not_true_eq_false, Int.reduceLE, Int.reduceLT, Nat.zero_le, at_0, at_1, at_2, at_3, at_m1a, at_m1b, at_m1c, at_m1d, at_m2b, at_m2c, decide_true, eq_self, Int.reduceEq, true_and, and_true, false_and, and_false, or_false, false_or, Int.reduceNeg, gIx, decide_false, Bool.and_true, Bool.true_and, Bool.or_true, wSeq, wSet, wAsg, wPar, wIf, wIfS, wTst, LV.wTru, LV.wNot, wAnd, wOr, wAndV, wOrV, wNotV, wOp, wUn, wV, wC, fCI, fAdd, fSub, fMul, fDiv, fMod, fPow, fNeg, fIx, fIs, fIsNot, fEq, fNe, fLt, fLe, fGt, fGe, wCB, wCons, wNil, w1, wApp, wIsi, isiB, bagD, isNonD, fLen, fAbs, fInt, fGcd, fList, fTuple, fRepr, fLz, fLen0, fLrv, fSum, fMax, fMin, fAll, fAny, seqD, rdL, rdW, fzL, fzW, unL, putS, RV.sl, wRet, wRetN, wNever, wNext, wDrop, wTup, wLst, outW, placeW, gN, gTu, gCo, gNi, wFor, zSeq, zr_0, zr_1, zr_2, zr_3, zr_4, nc_0, nc_1, nc_2, nc_3, nc_4, zEnum, zZip, zZip3, ixD, tru, wCall, wCallK, wApp, wAppend, wPopAt, wExtend, wChainE, fIn, fBits, fFac, fComb, fRngL1, fRngL2, owW, wSl, fSl, wONone, wOSome, wLc, wYes, List.map, List.replicate, List.length, List.append, List.set, List.take, List.drop, List.getLast?, List.dropLast, List.filterMap, List.getElem?_cons_zero, List.getElem?_cons_succ, List.getElem?_nil, Nat.reduceAdd, Nat.reduceSub, Nat.reduceLT, List.cons_append, List.nil_append, Option.some.injEq, reduceCtorEq, reduceIte, Bool.not_true, Bool.not_false, Bool.false_eq_true, List.isEmpty, k1, k2, F_mended_poly]
                refine ⟨c.d, c.e, c.a, c.b, c.f, c.s.length, c.m, rfl, hc.ok, hc.m6, ?_⟩
                have hp : (pl2 c.d c.e c.a c.b c.f c.m).length = c.s.length + 1 := by rw [pl2_eq hc.ok]; simp
                simp only [LV.begin, Nat.reduceLeDiff, ne_eq, not_false_eq_true, not_true_eq_false, Int.reduceLE, Int.reduceLT, Nat.zero_le, at_0, at_1, at_2, at_3, at_m1a, at_m1b, at_m1c, at_m1d, at_m2b, at_m2c, decide_true, eq_self, Int.reduceEq, true_and, and_true, false_and, and_false, or_false, false_or, Int.reduceNeg, gIx, decide_false, Bool.and_true, Bool.true_and, Bool.or_true, wSeq, wSet, wAsg, wPar, wIf, wIfS, wTst, LV.wTru, LV.wNot, wAnd, wOr, wAndV, wOrV, wNotV, wOp, wUn, wV, wC, fCI, fAdd, fSub, fMul, fDiv, fMod, fPow, fNeg, fIx, fIs, fIsNot, fEq, fNe, fLt, fLe, fGt, fGe, wCB, wCons, wNil, w1, wApp, wIsi, isiB, bagD, isNonD, fLen, fAbs, fInt, fGcd, fList, fTuple, fRepr, fLz, fLen0, fLrv, fSum, fMax, fMin, fAll, fAny, seqD, rdL, rdW, fzL, fzW, unL, putS, RV.sl, wRet, wRetN, wNever, wNext, wDrop, wTup, wLst, outW, placeW, gN, gTu, gCo, gNi, wFor, zSeq, zr_0, zr_1, zr_2, zr_3, zr_4, nc_0, nc_1, nc_2, nc_3, nc_4, zEnum, zZip, zZip3, ixD, tru, wCall, wCallK, wApp, wAppend, wPopAt, wExtend, wChainE, fIn, fBits, fFac, fComb, fRngL1, fRngL2, owW, wSl, fSl, wONone, wOSome, wLc, wYes, List.map, List.replicate, List.length, List.append, List.set, List.take, List.drop, List.getLast?, List.dropLast, List.filterMap, List.getElem?_cons_zero, List.getElem?_cons_succ, List.getElem?_nil, Nat.reduceAdd, Nat.reduceSub, Nat.reduceLT, List.cons_append, List.nil_append, Option.some.injEq, reduceCtorEq, reduceIte, Bool.not_true, Bool.not_false, Bool.false_eq_true, List.isEmpty, tQ, List.length_map, hp, Int.natCast_add, Int.cast_ofNat_Int]
                refine Case.kept hc ?_
                simp only [LV.begin, Nat.reduceLeDiff, ne_eq, not_false_eq_true, not_true_eq_false, Int.reduceLE, Int.reduceLT, Nat.zero_le, at_0, at_1, at_2, at_3, at_m1a, at_m1b, at_m1c, at_m1d, at_m2b, at_m2c, decide_true, eq_self, Int.reduceEq, true_and, and_true, false_and, and_false, or_false, false_or, Int.reduceNeg, gIx, decide_false, Bool.and_true, Bool.true_and, Bool.or_true, wSeq, wSet, wAsg, wPar, wIf, wIfS, wTst, LV.wTru, LV.wNot, wAnd, wOr, wAndV, wOrV, wNotV, wOp, wUn, wV, wC, fCI, fAdd, fSub, fMul, fDiv, fMod, fPow, fNeg, fIx, fIs, fIsNot, fEq, fNe, fLt, fLe, fGt, fGe, wCB, wCons, wNil, w1, wApp, wIsi, isiB, bagD, isNonD, fLen, fAbs, fInt, fGcd, fList, fTuple, fRepr, fLz, fLen0, fLrv, fSum, fMax, fMin, fAll, fAny, seqD, rdL, rdW, fzL, fzW, unL, putS, RV.sl, wRet, wRetN, wNever, wNext, wDrop, wTup, wLst, outW, placeW, gN, gTu, gCo, gNi, wFor, zSeq, zr_0, zr_1, zr_2, zr_3, zr_4, nc_0, nc_1, nc_2, nc_3, nc_4, zEnum, zZip, zZip3, ixD, tru, wCall, wCallK, wApp, wAppend, wPopAt, wExtend, wChainE, fIn, fBits, fFac, fComb, fRngL1, fRngL2, owW, wSl, fSl, wONone, wOSome, wLc, wYes, List.map, List.replicate, List.length, List.append, List.set, List.take, List.drop, List.getLast?, List.dropLast, List.filterMap, List.getElem?_cons_zero, List.getElem?_cons_succ, List.getElem?_nil, Nat.reduceAdd, Nat.reduceSub, Nat.reduceLT, List.cons_append, List.nil_append, Option.some.injEq, reduceCtorEq, reduceIte, Bool.not_true, Bool.not_false, Bool.false_eq_true, List.isEmpty]
                exact hn _ ⟨_, by rw [k2]⟩
              · simp only [LV.begin, Nat.reduceLeDiff, ne_eq, not_false_eq_true, not_true_eq_false, Int.reduceLE, Int.reduceLT, Nat.zero_le, at_0, at_1, at_2, at_3, at_m1a, at_m1b, at_m1c, at_m1d, at_m2b, at_m2c, decide_true, eq_self, Int.reduceEq, true_and, and_true, false_and, and_false, or_false, false_or, Int.reduceNeg, gIx, decide_false, Bool.and_true, Bool.true_and, Bool.or_true, wSeq, wSet, wAsg, wPar, wIf, wIfS, wTst, LV.wTru, LV.wNot, wAnd, wOr, wAndV, wOrV, wNotV, wOp, wUn, wV, wC, fCI, fAdd, fSub, fMul, fDiv, fMod, fPow, fNeg, fIx, fIs, fIsNot, fEq, fNe, fLt, fLe, fGt, fGe, wCB, wCons, wNil, w1, wApp, wIsi, isiB, bagD, isNonD, fLen, fAbs, fInt, fGcd, fList, fTuple, fRepr, fLz, fLen0, fLrv, fSum, fMax, fMin, fAll, fAny, seqD, rdL, rdW, fzL, fzW, unL, putS, RV.sl, wRet, wRetN, wNever, wNext, wDrop, wTup, wLst, outW, placeW, gN, gTu, gCo, gNi, wFor, zSeq, zr_0, zr_1, zr_2, zr_3, zr_4, nc_0, nc_1, nc_2, nc_3, nc_4, zEnum, zZip, zZip3, ixD, tru, wCall, wCallK, wApp, wAppend, wPopAt, wExtend, wChainE, fIn, fBits, fFac, fComb, fRngL1, fRngL2, owW, wSl, fSl, wONone, wOSome, wLc, wYes, List.map, List.replicate, List.length, List.append, List.set, List.take, List.drop, List.getLast?, List.dropLast, List.filterMap, List.getElem?_cons_zero, List.getElem?_cons_succ, List.getElem?_nil, Nat.reduceAdd, Nat.reduceSub, Nat.reduceLT, List.cons_append, List.nil_append, Option.some.injEq, reduceCtorEq, reduceIte, Bool.not_true, Bool.not_false, Bool.false_eq_true, List.isEmpty, k1, k2]
                rw [List.length_map, Case.len]
                refine Case.run hc (Nat.le_refl _) ?_
                exact hn _ ⟨_, rfl⟩
          · rintro s ⟨s15, rfl⟩
            simp only [LV.begin, Nat.reduceLeDiff, ne_eq, not_false_eq_true, not_true_eq_false, Int.reduceLE, Int.reduceLT, Nat.zero_le, at_0, at_1, at_2, at_3, at_m1a, at_m1b, at_m1c, at_m1d, at_m2b, at_m2c, decide_true, eq_self, Int.reduceEq, true_and, and_true, false_and, and_false, or_false, false_or, Int.reduceNeg, gIx, decide_false, Bool.and_true, Bool.true_and, Bool.or_true, wSeq, wSet, wAsg, wPar, wIf, wIfS, wTst, LV.wTru, LV.wNot, wAnd, wOr, wAndV, wOrV, wNotV, wOp, wUn, wV, wC, fCI, fAdd, fSub, fMul, fDiv, fMod, fPow, fNeg, fIx, fIs, fIsNot, fEq, fNe, fLt, fLe, fGt, fGe, wCB, wCons, wNil, w1, wApp, wIsi, isiB, bagD, isNonD, fLen, fAbs, fInt, fGcd, fList, fTuple, fRepr, fLz, fLen0, fLrv, fSum, fMax, fMin, fAll, fAny, seqD, rdL, rdW, fzL, fzW, unL, putS, RV.sl, wRet, wRetN, wNever, wNext, wDrop, wTup, wLst, outW, placeW, gN, gTu, gCo, gNi, wFor, zSeq, zr_0, zr_1, zr_2, zr_3, zr_4, nc_0, nc_1, nc_2, nc_3, nc_4, zEnum, zZip, zZip3, ixD, tru, wCall, wCallK, wApp, wAppend, wPopAt, wExtend, wChainE, fIn, fBits, fFac, fComb, fRngL1, fRngL2, owW, wSl, fSl, wONone, wOSome, wLc, wYes, List.map, List.replicate, List.length, List.append, List.set, List.take, List.drop, List.getLast?, List.dropLast, List.filterMap, List.getElem?_cons_zero, List.getElem?_cons_succ, List.getElem?_nil, Nat.reduceAdd, Nat.reduceSub, Nat.reduceLT, List.cons_append, List.nil_append, Option.some.injEq, reduceCtorEq, reduceIte, Bool.not_true, Bool.not_false, Bool.false_eq_true, List.isEmpty]
            refine Case.same hc _ (Nat.le_refl _) ?_
            simp only [LV.begin, Nat.reduceLeDiff, ne_eq, not_false_eq_true, not_true_eq_false, Int.reduceLE, Int.reduceLT, Nat.zero_le, at_0, at_1, at_2, at_3, at_m1a, at_m1b, at_m1c, at_m1d, at_m2b, at_m2c, decide_true, eq_self, Int.reduceEq, true_and, and_true, false_and, and_false, or_false, false_or, Int.reduceNeg, gIx, decide_false, Bool.and_true, Bool.true_and, Bool.or_true, wSeq, wSet, wAsg, wPar, wIf, wIfS, wTst, LV.wTru, LV.wNot, wAnd, wOr, wAndV, wOrV, wNotV, wOp, wUn, wV, wC, fCI, fAdd, fSub, fMul, fDiv, fMod, fPow, fNeg, fIx, fIs, fIsNot, fEq, fNe, fLt, fLe, fGt, fGe, wCB, wCons, wNil, w1, wApp, wIsi, isiB, bagD, isNonD, fLen, fAbs, fInt, fGcd, fList, fTuple, fRepr, fLz, fLen0, fLrv, fSum, fMax, fMin, fAll, fAny, seqD, rdL, rdW, fzL, fzW, unL, putS, RV.sl, wRet, wRetN, wNever, wNext, wDrop, wTup, wLst, outW, placeW, gN, gTu, gCo, gNi, wFor, zSeq, zr_0, zr_1, zr_2, zr_3, zr_4, nc_0, nc_1, nc_2, nc_3, nc_4, zEnum, zZip, zZip3, ixD, tru, wCall, wCallK, wApp, wAppend, wPopAt, wExtend, wChainE, fIn, fBits, fFac, fComb, fRngL1, fRngL2, owW, wSl, fSl, wONone, wOSome, wLc, wYes, List.map, List.replicate, List.length, List.append, List.set, List.take, List.drop, List.getLast?, List.dropLast, List.filterMap, List.getElem?_cons_zero, List.getElem?_cons_succ, List.getElem?_nil, Nat.reduceAdd, Nat.reduceSub, Nat.reduceLT, List.cons_append, List.nil_append, Option.some.injEq, reduceCtorEq, reduceIte, Bool.not_true, Bool.not_false, Bool.false_eq_true, List.isEmpty]
            exact hn3 _ ⟨by simpa using e', _, _, _, _, _, _, _, _, _, _, _, _, _, rfl⟩
        · rintro done' s ⟨e', s3, s4, s5, s6, s7, s8, s9, s10, s11, s13, s14, s15, s16, rfl⟩
          refine hn2 _ ⟨by simpa using e, _, _, _, _, _, _, _, _, _, _, _, _, _, _, _, .inr rfl, rfl⟩
      rcases h2 with rfl | rfl
      all_goals
        simp only [wFor, w1, wV, rdL, rdW, zSeq, fzL, fzW, List.getElem?_cons_zero, List.getElem?_cons_succ, List.set]
        exact ⟨_, rfl, trivial, start⟩
    · rintro done s ⟨e, s2, s3, s4, s5, s6, s7, s8, s9, s10, s11, s12, s13, s14, s15, s16, h2, rfl⟩
      exact hn _ ⟨_, _, _, _, _, _, _, _, _, _, _, _, _, _, _, h2, rfl⟩
  rintro s ⟨s2, s3, s4, s5, s6, s7, s8, s9, s10, s11, s12, s13, s14, s15, s16, h2, rfl⟩
  refine seq_cut (fun s => True) (fun nx hn => ?_) ?_
  · have hz : ∀ (Q : Prop), Q → Q := fun _ h => h
    rcases h2 with rfl | rfl
    all_goals
      simp only [LV.begin, Nat.reduceLeDiff, ne_eq, not_false_eq_true, not_true_eq_false, Int.reduceLE, Int.reduceLT, Nat.zero_le, at_0, at_1, at_2, at_3, at_m1a, at_m1b, at_m1c, at_m1d, at_m2b, at_m2c, decide_true, eq_self, Int.reduceEq, true_and, and_true, false_and, and_false, or_false, false_or, Int.reduceNeg, gIx, decide_false, Bool.and_true, Bool.true_and, Bool.or_true, wSeq, wSet, wAsg, wPar, wIf, wIfS, wTst, LV.wTru, LV.wNot, wAnd, wOr, wAndV, wOrV, wNotV, wOp, wUn, wV, wC, fCI, fAdd, fSub, fMul, fDiv, fMod, fPow, fNeg, fIx, fIs, fIsNot, fEq, fNe, fLt, fLe, fGt, fGe, wCB, wCons, wNil, w1, wApp, wIsi, isiB, bagD, isNonD, fLen, fAbs, fInt, fGcd, fList, fTuple, fRepr, fLz, fLen0, fLrv, fSum, fMax, fMin, fAll, fAny, seqD, rdL, rdW, fzL, fzW, unL, putS, RV.sl, wRet, wRetN, wNever, wNext, wDrop, wTup, wLst, outW, placeW, gN, gTu, gCo, gNi, wFor, zSeq, zr_0, zr_1, zr_2, zr_3, zr_4, nc_0, nc_1, nc_2, nc_3, nc_4, zEnum, zZip, zZip3, ixD, tru, wCall, wCallK, wApp, wAppend, wPopAt, wExtend, wChainE, fIn, fBits, fFac, fComb, fRngL1, fRngL2, owW, wSl, fSl, wONone, wOSome, wLc, wYes, List.map, List.replicate, List.length, List.append, List.set, List.take, List.drop, List.getLast?, List.dropLast, List.filterMap, List.getElem?_cons_zero, List.getElem?_cons_succ, List.getElem?_nil, Nat.reduceAdd, Nat.reduceSub, Nat.reduceLT, List.cons_append, List.nil_append, Option.some.injEq, reduceCtorEq, reduceIte, Bool.not_true, Bool.not_false, Bool.false_eq_true, List.isEmpty]
      refine ⟨_, rfl, ?_⟩
      refine forL Case.dD (fun done rest s => done ++ rest = cs ∧ ∃ (s2 : Sl) (s3 s4 s5 s6 s7 s8 s9 s10 s11 s12 s13 s14 s15 s16 : Sl), (s2 = .ow (cs.map Case.dD) ∨ s2 = .sh (.lst (cs.map Case.dD))) ∧ s = [.un, .sh (.bag 1), s2, s3, s4, s5, s6, s7, s8, s9, s10, s11, s12, s13, s14, s15, s16]) ?_ ?_ cs [] _ ⟨rfl, _, _, _, _, _, _, _, _, _, _, _, _, _, _, _, by first | exact .inl rfl | exact .inr rfl, rfl⟩
      · rintro done c rest s nx2 ⟨e, s2, s3, s4, s5, s6, s7, s8, s9, s10, s11, s12, s13, s14, s15, s16, h2, rfl⟩ hn2
        have hc : c.Ok := hcs c (by rw [← e]; simp)
        simp only [Case.dD, gTu, gCo, gNi, gN, List.set, List.length, true_and]
        refine seq_cut (fun s => ∃ (j : Nat), j ≤ c.n ∧ s = [.un, .sh (.bag 1), s2, s3, .sh (rlD c.d c.e), .sh (rlD c.a c.b), .sh (fQ c.f), .sh (.int (c.m : Nat)), .sh (tQ c.s), s9, s10, s11, s12, .sh (tQ (runQ c.d c.e c.a c.b c.f c.m c.s c.n)), s14, s15, .sh (.int ((c.s.length + j : Nat) : Int))]) (fun nx hn => ?_) ?_
        · simp only [LV.begin, Nat.reduceLeDiff, ne_eq, not_false_eq_true, not_true_eq_false, Int.reduceLE, Int.reduceLT, Nat.zero_le, at_0, at_1, at_2, at_3, at_m1a, at_m1b, at_m1c, at_m1d, at_m2b, at_m2c, decide_true, eq_self, Int.reduceEq, true_and, and_true, false_and, and_false, or_false, false_or, Int.reduceNeg, gIx, decide_false, Bool.and_true, Bool.true_and, Bool.or_true, wSeq, wSet, wAsg, wPar, wIf, wIfS, wTst, LV.wTru, LV.wNot, wAnd, wOr, wAndV, wOrV, wNotV, wOp, wUn, wV, wC, fCI, fAdd, fSub, fMul, fDiv, fMod, fPow, fNeg, fIx, fIs, fIsNot, fEq, fNe, fLt, fLe, fGt, fGe, wCB, wCons, wNil, w1, wApp, wIsi, isiB, bagD, isNonD, fLen, fAbs, fInt, fGcd, fList, fTuple, fRepr, fLz, fLen0, fLrv, fSum, fMax, fMin, fAll, fAny, seqD, rdL, rdW, fzL, fzW, unL, putS, RV.sl, wRet, wRetN, wNever, wNext, wDrop, wTup, wLst, outW, placeW, gN, gTu, gCo, gNi, wFor, zSeq, zr_0, zr_1, zr_2, zr_3, zr_4, nc_0, nc_1, nc_2, nc_3, nc_4, zEnum, zZip, zZip3, ixD, tru, wCall, wCallK, wApp, wAppend, wPopAt, wExtend, wChainE, fIn, fBits, fFac, fComb, fRngL1, fRngL2, owW, wSl, fSl, wONone, wOSome, wLc, wYes, List.map, List.replicate, List.length, List.append, List.set, List.take, List.drop, List.getLast?, List.dropLast, List.filterMap, List.getElem?_cons_zero, List.getElem?_cons_succ, List.getElem?_nil, Nat.reduceAdd, Nat.reduceSub, Nat.reduceLT, List.cons_append, List.nil_append, Option.some.injEq, reduceCtorEq, reduceIte, Bool.not_true, Bool.not_false, Bool.false_eq_true, List.isEmpty, FDraw]
          refine ⟨2, rfl, by omega, log_small (by omega) (by omega), fun q h5 h6 => ?_⟩
          rw [List.length_map, List.length_map, Case.len]
          refine hn _ ⟨min q.toNat c.n, Nat.min_le_right _ _, ?_⟩
          have : (if (c.s.length : Int) + q < ((c.s.length + c.n : Nat) : Int) then (c.s.length : Int) + q else ((c.s.length + c.n : Nat) : Int)) = ((c.s.length + min q.toNat c.n : Nat) : Int) := by
            split <;> omega
          rw [this]
        · rintro s ⟨j, hj, rfl⟩
          have hcut : LV.cutD ((runQ c.d c.e c.a c.b c.f c.m c.s c.n).map fQ) none (some ((c.s.length + j : Nat) : Int)) = (runQ c.d c.e c.a c.b c.f c.m c.s j).map fQ := by
            unfold LV.cutD
            rw [HT.sIx_none, HT.sIx_nat, List.drop_zero, Nat.sub_zero, List.length_map, Case.len, Nat.min_eq_left (by omega), ← List.map_take]
            unfold runQ
            rw [run_pre _ _ _ _ _ _ _ _ _ _ hj]
          simp only [LV.begin, Nat.reduceLeDiff, ne_eq, not_false_eq_true, not_true_eq_false, Int.reduceLE, Int.reduceLT, Nat.zero_le, at_0, at_1, at_2, at_3, at_m1a, at_m1b, at_m1c, at_m1d, at_m2b, at_m2c, decide_true, eq_self, Int.reduceEq, true_and, and_true, false_and, and_false, or_false, false_or, Int.reduceNeg, gIx, decide_false, Bool.and_true, Bool.true_and, Bool.or_true, wSeq, wSet, wAsg, wPar, wIf, wIfS, wTst, LV.wTru, LV.wNot, wAnd, wOr, wAndV, wOrV, wNotV, wOp, wUn, wV, wC, fCI, fAdd, fSub, fMul, fDiv, fMod, fPow, fNeg, fIx, fIs, fIsNot, fEq, fNe, fLt, fLe, fGt, fGe, wCB, wCons, wNil, w1, wApp, wIsi, isiB, bagD, isNonD, fLen, fAbs, fInt, fGcd, fList, fTuple, fRepr, fLz, fLen0, fLrv, fSum, fMax, fMin, fAll, fAny, seqD, rdL, rdW, fzL, fzW, unL, putS, RV.sl, wRet, wRetN, wNever, wNext, wDrop, wTup, wLst, outW, placeW, gN, gTu, gCo, gNi, wFor, zSeq, zr_0, zr_1, zr_2, zr_3, zr_4, nc_0, nc_1, nc_2, nc_3, nc_4, zEnum, zZip, zZip3, ixD, tru, wCall, wCallK, wApp, wAppend, wPopAt, wExtend, wChainE, fIn, fBits, fFac, fComb, fRngL1, fRngL2, owW, wSl, fSl, wONone, wOSome, wLc, wYes, List.map, List.replicate, List.length, List.append, List.set, List.take, List.drop, List.getLast?, List.dropLast, List.filterMap, List.getElem?_cons_zero, List.getElem?_cons_succ, List.getElem?_nil, Nat.reduceAdd, Nat.reduceSub, Nat.reduceLT, List.cons_append, List.nil_append, Option.some.injEq, reduceCtorEq, reduceIte, Bool.not_true, Bool.not_false, Bool.false_eq_true, List.isEmpty, hcut]
          refine Case.run hc hj ?_
          simp only [LV.begin, Nat.reduceLeDiff, ne_eq, not_false_eq_true, not_true_eq_false, Int.reduceLE, Int.reduceLT, Nat.zero_le, at_0, at_1, at_2, at_3, at_m1a, at_m1b, at_m1c, at_m1d, at_m2b, at_m2c, decide_true, eq_self, Int.reduceEq, true_and, and_true, false_and, and_false, or_false, false_or, Int.reduceNeg, gIx, decide_false, Bool.and_true, Bool.true_and, Bool.or_true, wSeq, wSet, wAsg, wPar, wIf, wIfS, wTst, LV.wTru, LV.wNot, wAnd, wOr, wAndV, wOrV, wNotV, wOp, wUn, wV, wC, fCI, fAdd, fSub, fMul, fDiv, fMod, fPow, fNeg, fIx, fIs, fIsNot, fEq, fNe, fLt, fLe, fGt, fGe, wCB, wCons, wNil, w1, wApp, wIsi, isiB, bagD, isNonD, fLen, fAbs, fInt, fGcd, fList, fTuple, fRepr, fLz, fLen0, fLrv, fSum, fMax, fMin, fAll, fAny, seqD, rdL, rdW, fzL, fzW, unL, putS, RV.sl, wRet, wRetN, wNever, wNext, wDrop, wTup, wLst, outW, placeW, gN, gTu, gCo, gNi, wFor, zSeq, zr_0, zr_1, zr_2, zr_3, zr_4, nc_0, nc_1, nc_2, nc_3, nc_4, zEnum, zZip, zZip3, ixD, tru, wCall, wCallK, wApp, wAppend, wPopAt, wExtend, wChainE, fIn, fBits, fFac, fComb, fRngL1, fRngL2, owW, wSl, fSl, wONone, wOSome, wLc, wYes, List.map, List.replicate, List.length, List.append, List.set, List.take, List.drop, List.getLast?, List.dropLast, List.filterMap, List.getElem?_cons_zero, List.getElem?_cons_succ, List.getElem?_nil, Nat.reduceAdd, Nat.reduceSub, Nat.reduceLT, List.cons_append, List.nil_append, Option.some.injEq, reduceCtorEq, reduceIte, Bool.not_true, Bool.not_false, Bool.false_eq_true, List.isEmpty, hcut]
          refine Case.same hc _ hj ?_
          simp only [LV.begin, Nat.reduceLeDiff, ne_eq, not_false_eq_true, not_true_eq_false, Int.reduceLE, Int.reduceLT, Nat.zero_le, at_0, at_1, at_2, at_3, at_m1a, at_m1b, at_m1c, at_m1d, at_m2b, at_m2c, decide_true, eq_self, Int.reduceEq, true_and, and_true, false_and, and_false, or_false, false_or, Int.reduceNeg, gIx, decide_false, Bool.and_true, Bool.true_and, Bool.or_true, wSeq, wSet, wAsg, wPar, wIf, wIfS, wTst, LV.wTru, LV.wNot, wAnd, wOr, wAndV, wOrV, wNotV, wOp, wUn, wV, wC, fCI, fAdd, fSub, fMul, fDiv, fMod, fPow, fNeg, fIx, fIs, fIsNot, fEq, fNe, fLt, fLe, fGt, fGe, wCB, wCons, wNil, w1, wApp, wIsi, isiB, bagD, isNonD, fLen, fAbs, fInt, fGcd, fList, fTuple, fRepr, fLz, fLen0, fLrv, fSum, fMax, fMin, fAll, fAny, seqD, rdL, rdW, fzL, fzW, unL, putS, RV.sl, wRet, wRetN, wNever, wNext, wDrop, wTup, wLst, outW, placeW, gN, gTu, gCo, gNi, wFor, zSeq, zr_0, zr_1, zr_2, zr_3, zr_4, nc_0, nc_1, nc_2, nc_3, nc_4, zEnum, zZip, zZip3, ixD, tru, wCall, wCallK, wApp, wAppend, wPopAt, wExtend, wChainE, fIn, fBits, fFac, fComb, fRngL1, fRngL2, owW, wSl, fSl, wONone, wOSome, wLc, wYes, List.map, List.replicate, List.length, List.append, List.set, List.take, List.drop, List.getLast?, List.dropLast, List.filterMap, List.getElem?_cons_zero, List.getElem?_cons_succ, List.getElem?_nil, Nat.reduceAdd, Nat.reduceSub, Nat.reduceLT, List.cons_append, List.nil_append, Option.some.injEq, reduceCtorEq, reduceIte, Bool.not_true, Bool.not_false, Bool.false_eq_true, List.isEmpty]
          exact hn2 _ ⟨by simpa using e, _, _, _, _, _, _, _, _, _, _, _, _, _, _, _, h2, rfl⟩
      · rintro done s ⟨e, s2, s3, s4, s5, s6, s7, s8, s9, s10, s11, s12, s13, s14, s15, s16, h2, rfl⟩
        exact hn _ trivial
  rintro s _
  simp only [LV.begin, Nat.reduceLeDiff, ne_eq, not_false_eq_true, not_true_eq_false, Int.reduceLE, Int.reduceLT, Nat.zero_le, at_0, at_1, at_2, at_3, at_m1a, at_m1b, at_m1c, at_m1d, at_m2b, at_m2c, decide_true, eq_self, Int.reduceEq, true_and, and_true, false_and, and_false, or_false, false_or, Int.reduceNeg, gIx, decide_false, Bool.and_true, Bool.true_and, Bool.or_true, wSeq, wSet, wAsg, wPar, wIf, wIfS, wTst, LV.wTru, LV.wNot, wAnd, wOr, wAndV, wOrV, wNotV, wOp, wUn, wV, wC, fCI, fAdd, fSub, fMul, fDiv, fMod, fPow, fNeg, fIx, fIs, fIsNot, fEq, fNe, fLt, fLe, fGt, fGe, wCB, wCons, wNil, w1, wApp, wIsi, isiB, bagD, isNonD, fLen, fAbs, fInt, fGcd, fList, fTuple, fRepr, fLz, fLen0, fLrv, fSum, fMax, fMin, fAll, fAny, seqD, rdL, rdW, fzL, fzW, unL, putS, RV.sl, wRet, wRetN, wNever, wNext, wDrop, wTup, wLst, outW, placeW, gN, gTu, gCo, gNi, wFor, zSeq, zr_0, zr_1, zr_2, zr_3, zr_4, nc_0, nc_1, nc_2, nc_3, nc_4, zEnum, zZip, zZip3, ixD, tru, wCall, wCallK, wApp, wAppend, wPopAt, wExtend, wChainE, fIn, fBits, fFac, fComb, fRngL1, fRngL2, owW, wSl, fSl, wONone, wOSome, wLc, wYes, List.map, List.replicate, List.length, List.append, List.set, List.take, List.drop, List.getLast?, List.dropLast, List.filterMap, List.getElem?_cons_zero, List.getElem?_cons_succ, List.getElem?_nil, Nat.reduceAdd, Nat.reduceSub, Nat.reduceLT, List.cons_append, List.nil_append, Option.some.injEq, reduceCtorEq, reduceIte, Bool.not_true, Bool.not_false, Bool.false_eq_true, List.isEmpty]
section
variable {P : Program} {w : World} {K : PySem.W.Frag} {mg : Str → Option Value} {base : Heap}
def C_fraction_of (K : PySem.W.Frag) : Cxt := { N := ["a", "b", "divisor"], sc := defScope s_fraction_of, fnb := fun _ => true, fns := [], kws := [], bl := [], md := [("gcd", "math.gcd")], K := K, gc := [] }
theorem sc_fraction_of : FnScope ["a", "b", "divisor"] ["a", "b"] (defScope s_fraction_of) := ⟨rfl, rfl, rfl, by decide +kernel, rfl, by decide +kernel, by decide +kernel⟩
theorem c_fraction_of (K : PySem.W.Frag) : cSs (C_fraction_of K) 60 (defBody s_fraction_of) = some (W_fraction_of K) := by kernel_rfl
theorem b_fraction_of : BindOk "fraction_of" s_fraction_of ["a", "b"] := fun _ _ _ _ _ _ us hl => match us, hl with | [_, _], _ => rfl
theorem q_fraction_of : KwsOk "fraction_of" s_fraction_of ["a", "b"] [] := fun _ _ _ _ _ _ => fun _ h => nomatch h
theorem ok_fraction_of (T : Tp K DS ZS MS GS) (XK : K.In base) (G : base.Ns mainGlobals mg) : Kn P w K mg base 1 "fraction_of" ["a", "b"] (F_fraction_of) [] :=
  kn_of T (List.mem_iff_getElem?.mpr ⟨0, rfl⟩) XK G sc_fraction_of (c_fraction_of K) rfl rfl rfl (gf_of T XK G (by kernel_rfl) (by kernel_rfl) (by kernel_rfl) fns_nil) b_fraction_of q_fraction_of p_fraction_of
def C_fraction_sum (K : PySem.W.Frag) : Cxt := { N := ["x", "y"], sc := defScope s_fraction_sum, fnb := fun _ => true, fns := [("fraction_of", ["a", "b"], F_fraction_of)], kws := [], bl := [], md := [], K := K, gc := [] }
theorem sc_fraction_sum : FnScope ["x", "y"] ["x", "y"] (defScope s_fraction_sum) := ⟨rfl, rfl, rfl, by decide +kernel, rfl, by decide +kernel, by decide +kernel⟩
theorem c_fraction_sum (K : PySem.W.Frag) : cSs (C_fraction_sum K) 60 (defBody s_fraction_sum) = some (W_fraction_sum K) := by kernel_rfl
theorem b_fraction_sum : BindOk "fraction_sum" s_fraction_sum ["x", "y"] := fun _ _ _ _ _ _ us hl => match us, hl with | [_, _], _ => rfl
theorem q_fraction_sum : KwsOk "fraction_sum" s_fraction_sum ["x", "y"] [] := fun _ _ _ _ _ _ => fun _ h => nomatch h
theorem ok_fraction_sum (T : Tp K DS ZS MS GS) (XK : K.In base) (G : base.Ns mainGlobals mg) : Kn P w K mg base 2 "fraction_sum" ["x", "y"] (F_fraction_sum) [] :=
  kn_of T (List.mem_iff_getElem?.mpr ⟨1, rfl⟩) XK G sc_fraction_sum (c_fraction_sum K) rfl rfl rfl (gf_of T XK G (by kernel_rfl) (by kernel_rfl) (by kernel_rfl) (fns_cons (ok_fraction_of T XK G) (by decide) (by kernel_rfl) fns_nil)) b_fraction_sum q_fraction_sum p_fraction_sum
def C_fraction_less (K : PySem.W.Frag) : Cxt := { N := ["x", "y"], sc := defScope s_fraction_less, fnb := fun _ => true, fns := [("fraction_of", ["a", "b"], F_fraction_of)], kws := [], bl := [], md := [], K := K, gc := [] }
theorem sc_fraction_less : FnScope ["x", "y"] ["x", "y"] (defScope s_fraction_less) := ⟨rfl, rfl, rfl, by decide +kernel, rfl, by decide +kernel, by decide +kernel⟩
theorem c_fraction_less (K : PySem.W.Frag) : cSs (C_fraction_less K) 60 (defBody s_fraction_less) = some (W_fraction_less K) := by kernel_rfl
theorem b_fraction_less : BindOk "fraction_less" s_fraction_less ["x", "y"] := fun _ _ _ _ _ _ us hl => match us, hl with | [_, _], _ => rfl
theorem q_fraction_less : KwsOk "fraction_less" s_fraction_less ["x", "y"] [] := fun _ _ _ _ _ _ => fun _ h => nomatch h
theorem ok_fraction_less (T : Tp K DS ZS MS GS) (XK : K.In base) (G : base.Ns mainGlobals mg) : Kn P w K mg base 2 "fraction_less" ["x", "y"] (F_fraction_less) [] :=
  kn_of T (List.mem_iff_getElem?.mpr ⟨2, rfl⟩) XK G sc_fraction_less (c_fraction_less K) rfl rfl rfl (gf_of T XK G (by kernel_rfl) (by kernel_rfl) (by kernel_rfl) (fns_cons (ok_fraction_of T XK G) (by decide) (by kernel_rfl) fns_nil)) b_fraction_less q_fraction_less p_fraction_less
def C_fraction_times (K : PySem.W.Frag) : Cxt := { N := ["x", "y"], sc := defScope s_fraction_times, fnb := fun _ => true, fns := [("fraction_of", ["a", "b"], F_fraction_of)], kws := [], bl := [], md := [], K := K, gc := [] }
theorem sc_fraction_times : FnScope ["x", "y"] ["x", "y"] (defScope s_fraction_times) := ⟨rfl, rfl, rfl, by decide +kernel, rfl, by decide +kernel, by decide +kernel⟩
theorem c_fraction_times (K : PySem.W.Frag) : cSs (C_fraction_times K) 60 (defBody s_fraction_times) = some (W_fraction_times K) := by kernel_rfl
theorem b_fraction_times : BindOk "fraction_times" s_fraction_times ["x", "y"] := fun _ _ _ _ _ _ us hl => match us, hl with | [_, _], _ => rfl
theorem q_fraction_times : KwsOk "fraction_times" s_fraction_times ["x", "y"] [] := fun _ _ _ _ _ _ => fun _ h => nomatch h
theorem ok_fraction_times (T : Tp K DS ZS MS GS) (XK : K.In base) (G : base.Ns mainGlobals mg) : Kn P w K mg base 2 "fraction_times" ["x", "y"] (F_fraction_times) [] :=
  kn_of T (List.mem_iff_getElem?.mpr ⟨3, rfl⟩) XK G sc_fraction_times (c_fraction_times K) rfl rfl rfl (gf_of T XK G (by kernel_rfl) (by kernel_rfl) (by kernel_rfl) (fns_cons (ok_fraction_of T XK G) (by decide) (by kernel_rfl) fns_nil)) b_fraction_times q_fraction_times p_fraction_times
def C_fraction_over (K : PySem.W.Frag) : Cxt := { N := ["x", "y"], sc := defScope s_fraction_over, fnb := fun _ => true, fns := [("fraction_of", ["a", "b"], F_fraction_of)], kws := [], bl := [], md := [], K := K, gc := [] }
theorem sc_fraction_over : FnScope ["x", "y"] ["x", "y"] (defScope s_fraction_over) := ⟨rfl, rfl, rfl, by decide +kernel, rfl, by decide +kernel, by decide +kernel⟩
theorem c_fraction_over (K : PySem.W.Frag) : cSs (C_fraction_over K) 60 (defBody s_fraction_over) = some (W_fraction_over K) := by kernel_rfl
theorem b_fraction_over : BindOk "fraction_over" s_fraction_over ["x", "y"] := fun _ _ _ _ _ _ us hl => match us, hl with | [_, _], _ => rfl
theorem q_fraction_over : KwsOk "fraction_over" s_fraction_over ["x", "y"] [] := fun _ _ _ _ _ _ => fun _ h => nomatch h
theorem ok_fraction_over (T : Tp K DS ZS MS GS) (XK : K.In base) (G : base.Ns mainGlobals mg) : Kn P w K mg base 2 "fraction_over" ["x", "y"] (F_fraction_over) [] :=
  kn_of T (List.mem_iff_getElem?.mpr ⟨4, rfl⟩) XK G sc_fraction_over (c_fraction_over K) rfl rfl rfl (gf_of T XK G (by kernel_rfl) (by kernel_rfl) (by kernel_rfl) (fns_cons (ok_fraction_of T XK G) (by decide) (by kernel_rfl) fns_nil)) b_fraction_over q_fraction_over p_fraction_over
def C_evened (K : PySem.W.Frag) : Cxt := { N := ["rule", "last", "item", "row"], sc := defScope s_evened, fnb := fun _ => true, fns := [("fraction_over", ["x", "y"], F_fraction_over)], kws := [], bl := [], md := [], K := K, gc := [] }
theorem sc_evened : FnScope ["rule", "last", "item", "row"] ["rule"] (defScope s_evened) := ⟨rfl, rfl, rfl, by decide +kernel, rfl, by decide +kernel, by decide +kernel⟩
theorem c_evened (K : PySem.W.Frag) : cSs (C_evened K) 60 (defBody s_evened) = some (W_evened K) := by kernel_rfl
theorem b_evened : BindOk "evened" s_evened ["rule"] := fun _ _ _ _ _ _ us hl => match us, hl with | [_], _ => rfl
theorem q_evened : KwsOk "evened" s_evened ["rule"] [] := fun _ _ _ _ _ _ => fun _ h => nomatch h
theorem ok_evened (T : Tp K DS ZS MS GS) (XK : K.In base) (G : base.Ns mainGlobals mg) : Kn P w K mg base 3 "evened" ["rule"] (F_evened) [] :=
  kn_of T (List.mem_iff_getElem?.mpr ⟨5, rfl⟩) XK G sc_evened (c_evened K) rfl rfl rfl (gf_of T XK G (by kernel_rfl) (by kernel_rfl) (by kernel_rfl) (fns_cons (ok_fraction_over T XK G) (by decide) (by kernel_rfl) fns_nil)) b_evened q_evened p_evened
def C_powers_of (K : PySem.W.Frag) : Cxt := { N := ["number", "many", "found", "turn"], sc := defScope s_powers_of, fnb := fun _ => true, fns := [("fraction_times", ["x", "y"], F_fraction_times)], kws := [], bl := ["range"], md := [], K := K, gc := [] }
theorem sc_powers_of : FnScope ["number", "many", "found", "turn"] ["number", "many"] (defScope s_powers_of) := ⟨rfl, rfl, rfl, by decide +kernel, rfl, by decide +kernel, by decide +kernel⟩
theorem c_powers_of (K : PySem.W.Frag) : cSs (C_powers_of K) 60 (defBody s_powers_of) = some (W_powers_of K) := by kernel_rfl
theorem b_powers_of : BindOk "powers_of" s_powers_of ["number", "many"] := fun _ _ _ _ _ _ us hl => match us, hl with | [_, _], _ => rfl
theorem q_powers_of : KwsOk "powers_of" s_powers_of ["number", "many"] [] := fun _ _ _ _ _ _ => fun _ h => nomatch h
theorem ok_powers_of (T : Tp K DS ZS MS GS) (XK : K.In base) (G : base.Ns mainGlobals mg) : Kn P w K mg base 3 "powers_of" ["number", "many"] (F_powers_of) [] :=
  kn_of T (List.mem_iff_getElem?.mpr ⟨6, rfl⟩) XK G sc_powers_of (c_powers_of K) rfl rfl rfl (gf_of T XK G (by kernel_rfl) (by kernel_rfl) (by kernel_rfl) (fns_cons (ok_fraction_times T XK G) (by decide) (by kernel_rfl) fns_nil)) b_powers_of q_powers_of p_powers_of
def C_added (K : PySem.W.Frag) : Cxt := { N := ["fractions", "found", "item"], sc := defScope s_added, fnb := fun _ => true, fns := [("fraction_sum", ["x", "y"], F_fraction_sum)], kws := [], bl := [], md := [], K := K, gc := [] }
theorem sc_added : FnScope ["fractions", "found", "item"] ["fractions"] (defScope s_added) := ⟨rfl, rfl, rfl, by decide +kernel, rfl, by decide +kernel, by decide +kernel⟩
theorem c_added (K : PySem.W.Frag) : cSs (C_added K) 60 (defBody s_added) = some (W_added K) := by kernel_rfl
theorem b_added : BindOk "added" s_added ["fractions"] := fun _ _ _ _ _ _ us hl => match us, hl with | [_], _ => rfl
theorem q_added : KwsOk "added" s_added ["fractions"] [] := fun _ _ _ _ _ _ => fun _ h => nomatch h
theorem ok_added (T : Tp K DS ZS MS GS) (XK : K.In base) (G : base.Ns mainGlobals mg) : Kn P w K mg base 3 "added" ["fractions"] (F_added) [] :=
  kn_of T (List.mem_iff_getElem?.mpr ⟨7, rfl⟩) XK G sc_added (c_added K) rfl rfl rfl (gf_of T XK G (by kernel_rfl) (by kernel_rfl) (by kernel_rfl) (fns_cons (ok_fraction_sum T XK G) (by decide) (by kernel_rfl) fns_nil)) b_added q_added p_added
def C_mended_poly (K : PySem.W.Frag) : Cxt := { N := ["guess", "rule", "factor", "many", "a", "b", "d", "e", "powers", "share", "found", "j", "own", "other"], sc := defScope s_mended_poly, fnb := fun _ => true, fns := [("fraction_sum", ["x", "y"], F_fraction_sum), ("fraction_times", ["x", "y"], F_fraction_times), ("fraction_less", ["x", "y"], F_fraction_less), ("added", ["fractions"], F_added), ("powers_of", ["number", "many"], F_powers_of), ("evened", ["rule"], F_evened)], kws := [], bl := ["tuple", "range", "len"], md := [], K := K, gc := [] }
theorem sc_mended_poly : FnScope ["guess", "rule", "factor", "many", "a", "b", "d", "e", "powers", "share", "found", "j", "own", "other"] ["guess", "rule", "factor", "many"] (defScope s_mended_poly) := ⟨rfl, rfl, rfl, by decide +kernel, rfl, by decide +kernel, by decide +kernel⟩
theorem c_mended_poly (K : PySem.W.Frag) : cSs (C_mended_poly K) 60 (defBody s_mended_poly) = some (W_mended_poly K) := by kernel_rfl
theorem b_mended_poly : BindOk "mended_poly" s_mended_poly ["guess", "rule", "factor", "many"] := fun _ _ _ _ _ _ us hl => match us, hl with | [_, _, _, _], _ => rfl
theorem q_mended_poly : KwsOk "mended_poly" s_mended_poly ["guess", "rule", "factor", "many"] [] := fun _ _ _ _ _ _ => fun _ h => nomatch h
theorem ok_mended_poly (T : Tp K DS ZS MS GS) (XK : K.In base) (G : base.Ns mainGlobals mg) : Kn P w K mg base 4 "mended_poly" ["guess", "rule", "factor", "many"] (F_mended_poly) [] :=
  kn_of T (List.mem_iff_getElem?.mpr ⟨8, rfl⟩) XK G sc_mended_poly (c_mended_poly K) rfl rfl rfl (gf_of T XK G (by kernel_rfl) (by kernel_rfl) (by kernel_rfl) (fns_cons (ok_fraction_sum T XK G) (by decide) (by kernel_rfl) (fns_cons (ok_fraction_times T XK G) (by decide) (by kernel_rfl) (fns_cons (ok_fraction_less T XK G) (by decide) (by kernel_rfl) (fns_cons (ok_added T XK G) (by decide) (by kernel_rfl) (fns_cons (ok_powers_of T XK G) (by decide) (by kernel_rfl) (fns_cons (ok_evened T XK G) (by decide) (by kernel_rfl) fns_nil))))))) b_mended_poly q_mended_poly p_mended_poly
def C_told_part (K : PySem.W.Frag) : Cxt := { N := ["rows", "factor", "last", "found", "a", "b", "value"], sc := defScope s_told_part, fnb := fun _ => true, fns := [("added", ["fractions"], F_added), ("fraction_times", ["x", "y"], F_fraction_times), ("fraction_less", ["x", "y"], F_fraction_less)], kws := [], bl := ["zip"], md := [], K := K, gc := [] }
theorem sc_told_part : FnScope ["rows", "factor", "last", "found", "a", "b", "value"] ["rows", "factor", "last"] (defScope s_told_part) := ⟨rfl, rfl, rfl, by decide +kernel, rfl, by decide +kernel, by decide +kernel⟩
theorem c_told_part (K : PySem.W.Frag) : cSs (C_told_part K) 60 (defBody s_told_part) = some (W_told_part K) := by kernel_rfl
theorem b_told_part : BindOk "told_part" s_told_part ["rows", "factor", "last"] := fun _ _ _ _ _ _ us hl => match us, hl with | [_, _, _], _ => rfl
theorem q_told_part : KwsOk "told_part" s_told_part ["rows", "factor", "last"] [] := fun _ _ _ _ _ _ => fun _ h => nomatch h
theorem ok_told_part (T : Tp K DS ZS MS GS) (XK : K.In base) (G : base.Ns mainGlobals mg) : Kn P w K mg base 4 "told_part" ["rows", "factor", "last"] (F_told_part) [] :=
  kn_of T (List.mem_iff_getElem?.mpr ⟨9, rfl⟩) XK G sc_told_part (c_told_part K) rfl rfl rfl (gf_of T XK G (by kernel_rfl) (by kernel_rfl) (by kernel_rfl) (fns_cons (ok_added T XK G) (by decide) (by kernel_rfl) (fns_cons (ok_fraction_times T XK G) (by decide) (by kernel_rfl) (fns_cons (ok_fraction_less T XK G) (by decide) (by kernel_rfl) fns_nil)))) b_told_part q_told_part p_told_part
def C_mended_run (K : PySem.W.Frag) : Cxt := { N := ["guess", "rule", "factor", "many", "start", "places", "own", "other", "found", "share", "turn", "last", "value", "part", "mend"], sc := defScope s_mended_run, fnb := fun _ => true, fns := [("fraction_sum", ["x", "y"], F_fraction_sum), ("fraction_times", ["x", "y"], F_fraction_times), ("told_part", ["rows", "factor", "last"], F_told_part), ("evened", ["rule"], F_evened)], kws := [], bl := ["tuple", "range", "len", "list"], md := [], K := K, gc := [] }
theorem sc_mended_run : FnScope ["guess", "rule", "factor", "many", "start", "places", "own", "other", "found", "share", "turn", "last", "value", "part", "mend"] ["guess", "rule", "factor", "many", "start", "places"] (defScope s_mended_run) := ⟨rfl, rfl, rfl, by decide +kernel, rfl, by decide +kernel, by decide +kernel⟩
theorem c_mended_run (K : PySem.W.Frag) : cSs (C_mended_run K) 60 (defBody s_mended_run) = some (W_mended_run K) := by kernel_rfl
theorem b_mended_run : BindOk "mended_run" s_mended_run ["guess", "rule", "factor", "many", "start", "places"] := fun _ _ _ _ _ _ us hl => match us, hl with | [_, _, _, _, _, _], _ => rfl
theorem q_mended_run : KwsOk "mended_run" s_mended_run ["guess", "rule", "factor", "many", "start", "places"] [(0, ["places", "start", "many", "factor", "rule", "guess"])] := fun _ _ _ _ _ _ => List.forall_mem_cons.mpr ⟨fun us ws h1 h2 => match us, ws, h1, h2 with | [], [_, _, _, _, _, _], _, _ => rfl, fun _ h => nomatch h⟩
theorem ok_mended_run (T : Tp K DS ZS MS GS) (XK : K.In base) (G : base.Ns mainGlobals mg) : Kn P w K mg base 5 "mended_run" ["guess", "rule", "factor", "many", "start", "places"] (F_mended_run) [(0, ["places", "start", "many", "factor", "rule", "guess"])] :=
  kn_of T (List.mem_iff_getElem?.mpr ⟨10, rfl⟩) XK G sc_mended_run (c_mended_run K) rfl rfl rfl (gf_of T XK G (by kernel_rfl) (by kernel_rfl) (by kernel_rfl) (fns_cons (ok_fraction_sum T XK G) (by decide) (by kernel_rfl) (fns_cons (ok_fraction_times T XK G) (by decide) (by kernel_rfl) (fns_cons (ok_told_part T XK G) (by decide) (by kernel_rfl) (fns_cons (ok_evened T XK G) (by decide) (by kernel_rfl) fns_nil))))) b_mended_run q_mended_run p_mended_run
def C__law_own_bag (K : PySem.W.Frag) : Cxt := { N := ["script", "cells", "cell", "mixed"], sc := defScope s__law_own_bag, fnb := fun _ => true, fns := [], kws := [], bl := ["list", "reversed", "int", "len", "abs"], md := [], K := K, gc := [] }
theorem sc__law_own_bag : FnScope ["script", "cells", "cell", "mixed"] ["script"] (defScope s__law_own_bag) := ⟨rfl, rfl, rfl, by decide +kernel, rfl, by decide +kernel, by decide +kernel⟩
theorem c__law_own_bag (K : PySem.W.Frag) : cSs (C__law_own_bag K) 60 (defBody s__law_own_bag) = some (W__law_own_bag K) := by kernel_rfl
theorem b__law_own_bag : BindOk "_law_own_bag" s__law_own_bag ["script"] := fun _ _ _ _ _ _ us hl => match us, hl with | [_], _ => rfl
theorem q__law_own_bag : KwsOk "_law_own_bag" s__law_own_bag ["script"] [] := fun _ _ _ _ _ _ => fun _ h => nomatch h
theorem ok__law_own_bag (T : Tp K DS ZS MS GS) (XK : K.In base) (G : base.Ns mainGlobals mg) : Kn P w K mg base 1 "_law_own_bag" ["script"] (F__law_own_bag K) [] :=
  kn_of T (List.mem_iff_getElem?.mpr ⟨11, rfl⟩) XK G sc__law_own_bag (c__law_own_bag K) rfl rfl rfl (gf_of T XK G (by kernel_rfl) (by kernel_rfl) (by kernel_rfl) fns_nil) b__law_own_bag q__law_own_bag p__law_own_bag
def C__law_draw (K : PySem.W.Frag) : Cxt := { N := ["bag", "below", "cell", "found"], sc := defScope s__law_draw, fnb := fun _ => true, fns := [], kws := [], bl := ["int"], md := [], K := K, gc := [] }
theorem sc__law_draw : FnScope ["bag", "below", "cell", "found"] ["bag", "below"] (defScope s__law_draw) := ⟨rfl, rfl, rfl, by decide +kernel, rfl, by decide +kernel, by decide +kernel⟩
theorem c__law_draw (K : PySem.W.Frag) : cSs (C__law_draw K) 60 (defBody s__law_draw) = some (W__law_draw K) := by kernel_rfl
theorem b__law_draw : BindOk "_law_draw" s__law_draw ["bag", "below"] := fun _ _ _ _ _ _ us hl => match us, hl with | [_, _], _ => rfl
theorem q__law_draw : KwsOk "_law_draw" s__law_draw ["bag", "below"] [] := fun _ _ _ _ _ _ => fun _ h => nomatch h
theorem ok__law_draw (T : Tp K DS ZS MS GS) (XK : K.In base) (G : base.Ns mainGlobals mg) : Kn P w K mg base 1 "_law_draw" ["bag", "below"] (F__law_draw) [] :=
  kn_of T (List.mem_iff_getElem?.mpr ⟨12, rfl⟩) XK G sc__law_draw (c__law_draw K) rfl rfl rfl (gf_of T XK G (by kernel_rfl) (by kernel_rfl) (by kernel_rfl) fns_nil) b__law_draw q__law_draw p__law_draw
def C__law_pick (K : PySem.W.Frag) : Cxt := { N := ["bag", "some"], sc := defScope s__law_pick, fnb := fun _ => true, fns := [("_law_draw", ["bag", "below"], F__law_draw)], kws := [], bl := ["len"], md := [], K := K, gc := [] }
theorem sc__law_pick : FnScope ["bag", "some"] ["bag", "some"] (defScope s__law_pick) := ⟨rfl, rfl, rfl, by decide +kernel, rfl, by decide +kernel, by decide +kernel⟩
theorem c__law_pick (K : PySem.W.Frag) : cSs (C__law_pick K) 60 (defBody s__law_pick) = some (W__law_pick K) := by kernel_rfl
theorem b__law_pick : BindOk "_law_pick" s__law_pick ["bag", "some"] := fun _ _ _ _ _ _ us hl => match us, hl with | [_, _], _ => rfl
theorem q__law_pick : KwsOk "_law_pick" s__law_pick ["bag", "some"] [] := fun _ _ _ _ _ _ => fun _ h => nomatch h
theorem ok__law_pick (T : Tp K DS ZS MS GS) (XK : K.In base) (G : base.Ns mainGlobals mg) : Kn P w K mg base 2 "_law_pick" ["bag", "some"] (F__law_pick) [] :=
  kn_of T (List.mem_iff_getElem?.mpr ⟨13, rfl⟩) XK G sc__law_pick (c__law_pick K) rfl rfl rfl (gf_of T XK G (by kernel_rfl) (by kernel_rfl) (by kernel_rfl) (fns_cons (ok__law_draw T XK G) (by decide) (by kernel_rfl) fns_nil)) b__law_pick q__law_pick p__law_pick
def C__law_gcd (K : PySem.W.Frag) : Cxt := { N := ["one", "other"], sc := defScope s__law_gcd, fnb := fun _ => true, fns := [], kws := [], bl := ["int", "abs"], md := [], K := K, gc := [] }
theorem sc__law_gcd : FnScope ["one", "other"] ["one", "other"] (defScope s__law_gcd) := ⟨rfl, rfl, rfl, by decide +kernel, rfl, by decide +kernel, by decide +kernel⟩
theorem c__law_gcd (K : PySem.W.Frag) : cSs (C__law_gcd K) 60 (defBody s__law_gcd) = some (W__law_gcd K) := by kernel_rfl
theorem b__law_gcd : BindOk "_law_gcd" s__law_gcd ["one", "other"] := fun _ _ _ _ _ _ us hl => match us, hl with | [_, _], _ => rfl
theorem q__law_gcd : KwsOk "_law_gcd" s__law_gcd ["one", "other"] [] := fun _ _ _ _ _ _ => fun _ h => nomatch h
theorem ok__law_gcd (T : Tp K DS ZS MS GS) (XK : K.In base) (G : base.Ns mainGlobals mg) : Kn P w K mg base 1 "_law_gcd" ["one", "other"] (F__law_gcd) [] :=
  kn_of T (List.mem_iff_getElem?.mpr ⟨14, rfl⟩) XK G sc__law_gcd (c__law_gcd K) rfl rfl rfl (gf_of T XK G (by kernel_rfl) (by kernel_rfl) (by kernel_rfl) fns_nil) b__law_gcd q__law_gcd p__law_gcd
def C__law_frac (K : PySem.W.Frag) : Cxt := { N := ["top", "low", "part"], sc := defScope s__law_frac, fnb := fun _ => true, fns := [("_law_gcd", ["one", "other"], F__law_gcd)], kws := [], bl := [], md := [], K := K, gc := [] }
theorem sc__law_frac : FnScope ["top", "low", "part"] ["top", "low"] (defScope s__law_frac) := ⟨rfl, rfl, rfl, by decide +kernel, rfl, by decide +kernel, by decide +kernel⟩
theorem c__law_frac (K : PySem.W.Frag) : cSs (C__law_frac K) 60 (defBody s__law_frac) = some (W__law_frac K) := by kernel_rfl
theorem b__law_frac : BindOk "_law_frac" s__law_frac ["top", "low"] := fun _ _ _ _ _ _ us hl => match us, hl with | [_, _], _ => rfl
theorem q__law_frac : KwsOk "_law_frac" s__law_frac ["top", "low"] [] := fun _ _ _ _ _ _ => fun _ h => nomatch h
theorem ok__law_frac (T : Tp K DS ZS MS GS) (XK : K.In base) (G : base.Ns mainGlobals mg) : Kn P w K mg base 2 "_law_frac" ["top", "low"] (F__law_frac) [] :=
  kn_of T (List.mem_iff_getElem?.mpr ⟨15, rfl⟩) XK G sc__law_frac (c__law_frac K) rfl rfl rfl (gf_of T XK G (by kernel_rfl) (by kernel_rfl) (by kernel_rfl) (fns_cons (ok__law_gcd T XK G) (by decide) (by kernel_rfl) fns_nil)) b__law_frac q__law_frac p__law_frac
def C__law_same (K : PySem.W.Frag) (Fr : VS) : Cxt := { N := ["told", "due", "alike", "one", "other"], sc := defScope s__law_same, fnb := fun _ => true, fns := [("_law_same", ["told", "due"], Fr)], kws := [], bl := ["isinstance", "bool", "int", "str", "tuple", "all", "list", "zip", "len"], md := [], K := K, gc := [] }
theorem sc__law_same : FnScope ["told", "due", "alike", "one", "other"] ["told", "due"] (defScope s__law_same) := ⟨rfl, rfl, rfl, by decide +kernel, rfl, by decide +kernel, by decide +kernel⟩
theorem c__law_same (K : PySem.W.Frag) (Fr : VS) : cSs (C__law_same K Fr) 60 (defBody s__law_same) = some (W__law_same K Fr) := by kernel_rfl
theorem b__law_same : BindOk "_law_same" s__law_same ["told", "due"] := fun _ _ _ _ _ _ us hl => match us, hl with | [_, _], _ => rfl
theorem q__law_same : KwsOk "_law_same" s__law_same ["told", "due"] [] := fun _ _ _ _ _ _ => fun _ h => nomatch h
theorem okr__law_same (T : Tp K DS ZS MS GS) (XK : K.In base) (G : base.Ns mainGlobals mg) : ∀ i, Kn P w K mg base (0 + i) "_law_same" ["told", "due"] (FR__law_same i) []
  | 0 => kn_none T (List.mem_iff_getElem?.mpr ⟨16, rfl⟩) XK G b__law_same q__law_same
  | i + 1 => kn_of T (List.mem_iff_getElem?.mpr ⟨16, rfl⟩) XK G sc__law_same (c__law_same K (FR__law_same i)) rfl rfl rfl (gf_of T XK G (by kernel_rfl) (by kernel_rfl) (by kernel_rfl) (fns_cons (okr__law_same T XK G i) (by first | exact Nat.le_refl _ | omega) (by kernel_rfl) fns_nil)) b__law_same q__law_same (p__law_same i)
theorem ok__law_same (T : Tp K DS ZS MS GS) (XK : K.In base) (G : base.Ns mainGlobals mg) : Kn P w K mg base 3 "_law_same" ["told", "due"] (F__law_same) [] := okr__law_same T XK G 3
def C__law_some_fraction (K : PySem.W.Frag) : Cxt := { N := ["bag", "most", "top", "low"], sc := defScope s__law_some_fraction, fnb := fun _ => true, fns := [("_law_frac", ["top", "low"], F__law_frac), ("_law_draw", ["bag", "below"], F__law_draw)], kws := [], bl := [], md := [], K := K, gc := [] }
theorem sc__law_some_fraction : FnScope ["bag", "most", "top", "low"] ["bag", "most"] (defScope s__law_some_fraction) := ⟨rfl, rfl, rfl, by decide +kernel, rfl, by decide +kernel, by decide +kernel⟩
theorem c__law_some_fraction (K : PySem.W.Frag) : cSs (C__law_some_fraction K) 60 (defBody s__law_some_fraction) = some (W__law_some_fraction K) := by kernel_rfl
theorem b__law_some_fraction : BindOk "_law_some_fraction" s__law_some_fraction ["bag", "most"] := fun _ _ _ _ _ _ us hl => match us, hl with | [_, _], _ => rfl
theorem q__law_some_fraction : KwsOk "_law_some_fraction" s__law_some_fraction ["bag", "most"] [] := fun _ _ _ _ _ _ => fun _ h => nomatch h
theorem ok__law_some_fraction (T : Tp K DS ZS MS GS) (XK : K.In base) (G : base.Ns mainGlobals mg) : Kn P w K mg base 3 "_law_some_fraction" ["bag", "most"] (F__law_some_fraction) [] :=
  kn_of T (List.mem_iff_getElem?.mpr ⟨17, rfl⟩) XK G sc__law_some_fraction (c__law_some_fraction K) rfl rfl rfl (gf_of T XK G (by kernel_rfl) (by kernel_rfl) (by kernel_rfl) (fns_cons (ok__law_frac T XK G) (by decide) (by kernel_rfl) (fns_cons (ok__law_draw T XK G) (by decide) (by kernel_rfl) fns_nil))) b__law_some_fraction q__law_some_fraction p__law_some_fraction
def C__law_some_row (K : PySem.W.Frag) : Cxt := { N := ["bag", "k", "kind", "found", "j", "most"], sc := defScope s__law_some_row, fnb := fun _ => true, fns := [("_law_some_fraction", ["bag", "most"], F__law_some_fraction), ("_law_pick", ["bag", "some"], F__law_pick), ("_law_draw", ["bag", "below"], F__law_draw)], kws := [], bl := ["range"], md := [], K := K, gc := [] }
theorem sc__law_some_row : FnScope ["bag", "k", "kind", "found", "j", "most"] ["bag", "k", "kind"] (defScope s__law_some_row) := ⟨rfl, rfl, rfl, by decide +kernel, rfl, by decide +kernel, by decide +kernel⟩
theorem c__law_some_row (K : PySem.W.Frag) : cSs (C__law_some_row K) 60 (defBody s__law_some_row) = some (W__law_some_row K) := by kernel_rfl
theorem b__law_some_row : BindOk "_law_some_row" s__law_some_row ["bag", "k", "kind"] := fun _ _ _ _ _ _ us hl => match us, hl with | [_, _, _], _ => rfl
theorem q__law_some_row : KwsOk "_law_some_row" s__law_some_row ["bag", "k", "kind"] [] := fun _ _ _ _ _ _ => fun _ h => nomatch h
theorem ok__law_some_row (T : Tp K DS ZS MS GS) (XK : K.In base) (G : base.Ns mainGlobals mg) : Kn P w K mg base 4 "_law_some_row" ["bag", "k", "kind"] (F__law_some_row) [] :=
  kn_of T (List.mem_iff_getElem?.mpr ⟨18, rfl⟩) XK G sc__law_some_row (c__law_some_row K) rfl rfl rfl (gf_of T XK G (by kernel_rfl) (by kernel_rfl) (by kernel_rfl) (fns_cons (ok__law_some_fraction T XK G) (by decide) (by kernel_rfl) (fns_cons (ok__law_pick T XK G) (by decide) (by kernel_rfl) (fns_cons (ok__law_draw T XK G) (by decide) (by kernel_rfl) fns_nil)))) b__law_some_row q__law_some_row p__law_some_row
def C__law_some_case (K : PySem.W.Frag) : Cxt := { N := ["bag", "k", "kind", "first", "second", "guess", "factor", "many", "start", "j"], sc := defScope s__law_some_case, fnb := fun _ => true, fns := [("_law_some_fraction", ["bag", "most"], F__law_some_fraction), ("_law_draw", ["bag", "below"], F__law_draw), ("_law_pick", ["bag", "some"], F__law_pick), ("_law_some_row", ["bag", "k", "kind"], F__law_some_row)], kws := [], bl := ["tuple", "range"], md := [], K := K, gc := [] }
theorem sc__law_some_case : FnScope ["bag", "k", "kind", "first", "second", "guess", "factor", "many", "start", "j"] ["bag"] (defScope s__law_some_case) := ⟨rfl, rfl, rfl, by decide +kernel, rfl, by decide +kernel, by decide +kernel⟩
theorem c__law_some_case (K : PySem.W.Frag) : cSs (C__law_some_case K) 60 (defBody s__law_some_case) = some (W__law_some_case K) := by kernel_rfl
theorem b__law_some_case : BindOk "_law_some_case" s__law_some_case ["bag"] := fun _ _ _ _ _ _ us hl => match us, hl with | [_], _ => rfl
theorem q__law_some_case : KwsOk "_law_some_case" s__law_some_case ["bag"] [] := fun _ _ _ _ _ _ => fun _ h => nomatch h
theorem ok__law_some_case (T : Tp K DS ZS MS GS) (XK : K.In base) (G : base.Ns mainGlobals mg) : Kn P w K mg base 5 "_law_some_case" ["bag"] (F__law_some_case) [] :=
  kn_of T (List.mem_iff_getElem?.mpr ⟨19, rfl⟩) XK G sc__law_some_case (c__law_some_case K) rfl rfl rfl (gf_of T XK G (by kernel_rfl) (by kernel_rfl) (by kernel_rfl) (fns_cons (ok__law_some_fraction T XK G) (by decide) (by kernel_rfl) (fns_cons (ok__law_draw T XK G) (by decide) (by kernel_rfl) (fns_cons (ok__law_pick T XK G) (by decide) (by kernel_rfl) (fns_cons (ok__law_some_row T XK G) (by decide) (by kernel_rfl) fns_nil))))) b__law_some_case q__law_some_case p__law_some_case
def C__law_whole (K : PySem.W.Frag) : Cxt := { N := ["rule", "low", "x"], sc := defScope s__law_whole, fnb := fun _ => true, fns := [("_law_gcd", ["one", "other"], F__law_gcd)], kws := [], bl := [], md := [], K := K, gc := [] }
theorem sc__law_whole : FnScope ["rule", "low", "x"] ["rule"] (defScope s__law_whole) := ⟨rfl, rfl, rfl, by decide +kernel, rfl, by decide +kernel, by decide +kernel⟩
theorem c__law_whole (K : PySem.W.Frag) : cSs (C__law_whole K) 60 (defBody s__law_whole) = some (W__law_whole K) := by kernel_rfl
theorem b__law_whole : BindOk "_law_whole" s__law_whole ["rule"] := fun _ _ _ _ _ _ us hl => match us, hl with | [_], _ => rfl
theorem q__law_whole : KwsOk "_law_whole" s__law_whole ["rule"] [] := fun _ _ _ _ _ _ => fun _ h => nomatch h
theorem ok__law_whole (T : Tp K DS ZS MS GS) (XK : K.In base) (G : base.Ns mainGlobals mg) : Kn P w K mg base 2 "_law_whole" ["rule"] (F__law_whole) [] :=
  kn_of T (List.mem_iff_getElem?.mpr ⟨20, rfl⟩) XK G sc__law_whole (c__law_whole K) rfl rfl rfl (gf_of T XK G (by kernel_rfl) (by kernel_rfl) (by kernel_rfl) (fns_cons (ok__law_gcd T XK G) (by decide) (by kernel_rfl) fns_nil)) b__law_whole q__law_whole p__law_whole
def C__law_room (K : PySem.W.Frag) : Cxt := { N := ["guess", "rule", "factor", "many", "least", "a", "b", "d", "e", "bits", "room"], sc := defScope s__law_room, fnb := fun _ => true, fns := [("_law_whole", ["rule"], F__law_whole)], kws := [], bl := ["int", "abs"], md := [], K := K, gc := [] }
theorem sc__law_room : FnScope ["guess", "rule", "factor", "many", "least", "a", "b", "d", "e", "bits", "room"] ["guess", "rule", "factor", "many", "least"] (defScope s__law_room) := ⟨rfl, rfl, rfl, by decide +kernel, rfl, by decide +kernel, by decide +kernel⟩
theorem c__law_room (K : PySem.W.Frag) : cSs (C__law_room K) 60 (defBody s__law_room) = some (W__law_room K) := by kernel_rfl
theorem b__law_room : BindOk "_law_room" s__law_room ["guess", "rule", "factor", "many", "least"] := fun _ _ _ _ _ _ us hl => match us, hl with | [_, _, _, _, _], _ => rfl
theorem q__law_room : KwsOk "_law_room" s__law_room ["guess", "rule", "factor", "many", "least"] [] := fun _ _ _ _ _ _ => fun _ h => nomatch h
theorem ok__law_room (T : Tp K DS ZS MS GS) (XK : K.In base) (G : base.Ns mainGlobals mg) : Kn P w K mg base 3 "_law_room" ["guess", "rule", "factor", "many", "least"] (F__law_room) [] :=
  kn_of T (List.mem_iff_getElem?.mpr ⟨21, rfl⟩) XK G sc__law_room (c__law_room K) rfl rfl rfl (gf_of T XK G (by kernel_rfl) (by kernel_rfl) (by kernel_rfl) (fns_cons (ok__law_whole T XK G) (by decide) (by kernel_rfl) fns_nil)) b__law_room q__law_room p__law_room
def C__law_begun (K : PySem.W.Frag) : Cxt := { N := ["start", "low", "x"], sc := defScope s__law_begun, fnb := fun _ => true, fns := [("_law_gcd", ["one", "other"], F__law_gcd)], kws := [], bl := [], md := [], K := K, gc := [] }
theorem sc__law_begun : FnScope ["start", "low", "x"] ["start"] (defScope s__law_begun) := ⟨rfl, rfl, rfl, by decide +kernel, rfl, by decide +kernel, by decide +kernel⟩
theorem c__law_begun (K : PySem.W.Frag) : cSs (C__law_begun K) 60 (defBody s__law_begun) = some (W__law_begun K) := by kernel_rfl
theorem b__law_begun : BindOk "_law_begun" s__law_begun ["start"] := fun _ _ _ _ _ _ us hl => match us, hl with | [_], _ => rfl
theorem q__law_begun : KwsOk "_law_begun" s__law_begun ["start"] [] := fun _ _ _ _ _ _ => fun _ h => nomatch h
theorem ok__law_begun (T : Tp K DS ZS MS GS) (XK : K.In base) (G : base.Ns mainGlobals mg) : Kn P w K mg base 2 "_law_begun" ["start"] (F__law_begun) [] :=
  kn_of T (List.mem_iff_getElem?.mpr ⟨22, rfl⟩) XK G sc__law_begun (c__law_begun K) rfl rfl rfl (gf_of T XK G (by kernel_rfl) (by kernel_rfl) (by kernel_rfl) (fns_cons (ok__law_gcd T XK G) (by decide) (by kernel_rfl) fns_nil)) b__law_begun q__law_begun p__law_begun
def C__law_own_run (K : PySem.W.Frag) : Cxt := { N := ["guess", "rule", "factor", "many", "start", "more", "a", "b", "d", "e", "top", "under", "guessed", "x", "y", "kept", "row", "low", "found", "turn", "value", "known", "part", "again", "share"], sc := defScope s__law_own_run, fnb := fun _ => true, fns := [("_law_gcd", ["one", "other"], F__law_gcd), ("_law_begun", ["start"], F__law_begun), ("_law_whole", ["rule"], F__law_whole)], kws := [], bl := ["tuple", "range", "sum", "list", "zip"], md := [], K := K, gc := [] }
theorem sc__law_own_run : FnScope ["guess", "rule", "factor", "many", "start", "more", "a", "b", "d", "e", "top", "under", "guessed", "x", "y", "kept", "row", "low", "found", "turn", "value", "known", "part", "again", "share"] ["guess", "rule", "factor", "many", "start", "more"] (defScope s__law_own_run) := ⟨rfl, rfl, rfl, by decide +kernel, rfl, by decide +kernel, by decide +kernel⟩
theorem c__law_own_run (K : PySem.W.Frag) : cSs (C__law_own_run K) 60 (defBody s__law_own_run) = some (W__law_own_run K) := by kernel_rfl
theorem b__law_own_run : BindOk "_law_own_run" s__law_own_run ["guess", "rule", "factor", "many", "start", "more"] := fun _ _ _ _ _ _ us hl => match us, hl with | [_, _, _, _, _, _], _ => rfl
theorem q__law_own_run : KwsOk "_law_own_run" s__law_own_run ["guess", "rule", "factor", "many", "start", "more"] [] := fun _ _ _ _ _ _ => fun _ h => nomatch h
theorem ok__law_own_run (T : Tp K DS ZS MS GS) (XK : K.In base) (G : base.Ns mainGlobals mg) : Kn P w K mg base 3 "_law_own_run" ["guess", "rule", "factor", "many", "start", "more"] (F__law_own_run) [] :=
  kn_of T (List.mem_iff_getElem?.mpr ⟨23, rfl⟩) XK G sc__law_own_run (c__law_own_run K) rfl rfl rfl (gf_of T XK G (by kernel_rfl) (by kernel_rfl) (by kernel_rfl) (fns_cons (ok__law_gcd T XK G) (by decide) (by kernel_rfl) (fns_cons (ok__law_begun T XK G) (by decide) (by kernel_rfl) (fns_cons (ok__law_whole T XK G) (by decide) (by kernel_rfl) fns_nil)))) b__law_own_run q__law_own_run p__law_own_run
def C__law_is_kept (K : PySem.W.Frag) : Cxt := { N := ["poly", "values", "x", "part", "n", "top", "low", "y"], sc := defScope s__law_is_kept, fnb := fun _ => true, fns := [], kws := [], bl := ["range", "len", "list", "zip", "all", "isinstance", "bool", "int", "tuple"], md := [], K := K, gc := [] }
theorem sc__law_is_kept : FnScope ["poly", "values", "x", "part", "n", "top", "low", "y"] ["poly", "values"] (defScope s__law_is_kept) := ⟨rfl, rfl, rfl, by decide +kernel, rfl, by decide +kernel, by decide +kernel⟩
theorem c__law_is_kept (K : PySem.W.Frag) : cSs (C__law_is_kept K) 60 (defBody s__law_is_kept) = some (W__law_is_kept K) := by kernel_rfl
theorem b__law_is_kept : BindOk "_law_is_kept" s__law_is_kept ["poly", "values"] := fun _ _ _ _ _ _ us hl => match us, hl with | [_, _], _ => rfl
theorem q__law_is_kept : KwsOk "_law_is_kept" s__law_is_kept ["poly", "values"] [] := fun _ _ _ _ _ _ => fun _ h => nomatch h
theorem ok__law_is_kept (T : Tp K DS ZS MS GS) (XK : K.In base) (G : base.Ns mainGlobals mg) : Kn P w K mg base 1 "_law_is_kept" ["poly", "values"] (F__law_is_kept) [] :=
  kn_of T (List.mem_iff_getElem?.mpr ⟨24, rfl⟩) XK G sc__law_is_kept (c__law_is_kept K) rfl rfl rfl (gf_of T XK G (by kernel_rfl) (by kernel_rfl) (by kernel_rfl) fns_nil) b__law_is_kept q__law_is_kept p__law_is_kept
def C_law (K : PySem.W.Frag) : Cxt := { N := ["script", "bag", "cases", "turn", "guess", "rule", "factor", "many", "start", "room", "k", "more", "way", "due", "told", "poly", "least"], sc := defScope s_law, fnb := fun _ => true, fns := [("_law_own_bag", ["script"], F__law_own_bag K), ("_law_same", ["told", "due"], F__law_same), ("mended_run", ["guess", "rule", "factor", "many", "start", "places"], F_mended_run), ("_law_draw", ["bag", "below"], F__law_draw), ("_law_is_kept", ["poly", "values"], F__law_is_kept), ("mended_poly", ["guess", "rule", "factor", "many"], F_mended_poly), ("_law_own_run", ["guess", "rule", "factor", "many", "start", "more"], F__law_own_run), ("_law_room", ["guess", "rule", "factor", "many", "least"], F__law_room), ("_law_some_case", ["bag"], F__law_some_case)], kws := [("mended_run", 0, ["places", "start", "many", "factor", "rule", "guess"])], bl := ["min", "len", "range", "isinstance", "tuple"], md := [], K := K, gc := [] }
theorem sc_law : FnScope ["script", "bag", "cases", "turn", "guess", "rule", "factor", "many", "start", "room", "k", "more", "way", "due", "told", "poly", "least"] ["script"] (defScope s_law) := ⟨rfl, rfl, rfl, by decide +kernel, rfl, by decide +kernel, by decide +kernel⟩
theorem c_law1 (K : PySem.W.Frag) : cSs (C_law K) 60 ((defBody s_law).take 1) = some (W_law1 K) := by kernel_rfl
theorem c_law2 (K : PySem.W.Frag) : cSs (C_law K) 60 ((defBody s_law).drop 1) = some (W_law2 K) := by kernel_rfl
theorem gf_law (T : Tp K DS ZS MS GS) (XK : K.In base) (G : base.Ns mainGlobals mg) : GF P w K mg base (C_law K) 5 := (gf_of T XK G (by kernel_rfl) (by kernel_rfl) (by kernel_rfl) (fns_cons (ok__law_own_bag T XK G) (by decide) (by kernel_rfl) (fns_cons (ok__law_same T XK G) (by decide) (by kernel_rfl) (fns_cons (ok_mended_run T XK G) (by decide) (by kernel_rfl) (fns_cons (ok__law_draw T XK G) (by decide) (by kernel_rfl) (fns_cons (ok__law_is_kept T XK G) (by decide) (by kernel_rfl) (fns_cons (ok_mended_poly T XK G) (by decide) (by kernel_rfl) (fns_cons (ok__law_own_run T XK G) (by decide) (by kernel_rfl) (fns_cons (ok__law_room T XK G) (by decide) (by kernel_rfl) (fns_cons (ok__law_some_case T XK G) (by decide) (by kernel_rfl) fns_nil))))))))))
end
theorem all_mk {P : Program} {w : World} {K : PySem.W.Frag} {h : Heap} {mg : Str → Option Value} {fa fL : Addr} (X : K.In h) (G : h.Ns mainGlobals mg) (hfa : mg "law" = some (.ref fa))
    {f0 : Addr} {od0 an0 : Option Addr} {sl0 : Array (Option Value)} {oc0 kV0 dc0 pm0 cd0 ct0 : Value} (a0 : PySem.W.nsIn K mainGlobals "fraction_of" = some (some (.ref f0))) (l0 : K.lookup f0 = some ⟨oc0, od0, .func (PySem.W.fnOf "fraction_of" "fraction_of" (defArgs s_fraction_of) (defBody s_fraction_of) (defScope s_fraction_of) .none kV0 dc0 pm0 an0 cd0 ct0), sl0⟩) (c0 : PySem.W.codeIn K cd0 "fraction_of" = true) (k0 : PySem.W.keepIn K (.ref f0) = true)
    {f1 : Addr} {od1 an1 : Option Addr} {sl1 : Array (Option Value)} {oc1 kV1 dc1 pm1 cd1 ct1 : Value} (a1 : PySem.W.nsIn K mainGlobals "fraction_sum" = some (some (.ref f1))) (l1 : K.lookup f1 = some ⟨oc1, od1, .func (PySem.W.fnOf "fraction_sum" "fraction_sum" (defArgs s_fraction_sum) (defBody s_fraction_sum) (defScope s_fraction_sum) .none kV1 dc1 pm1 an1 cd1 ct1), sl1⟩) (c1 : PySem.W.codeIn K cd1 "fraction_sum" = true) (k1 : PySem.W.keepIn K (.ref f1) = true)
    {f2 : Addr} {od2 an2 : Option Addr} {sl2 : Array (Option Value)} {oc2 kV2 dc2 pm2 cd2 ct2 : Value} (a2 : PySem.W.nsIn K mainGlobals "fraction_less" = some (some (.ref f2))) (l2 : K.lookup f2 = some ⟨oc2, od2, .func (PySem.W.fnOf "fraction_less" "fraction_less" (defArgs s_fraction_less) (defBody s_fraction_less) (defScope s_fraction_less) .none kV2 dc2 pm2 an2 cd2 ct2), sl2⟩) (c2 : PySem.W.codeIn K cd2 "fraction_less" = true) (k2 : PySem.W.keepIn K (.ref f2) = true)
    {f3 : Addr} {od3 an3 : Option Addr} {sl3 : Array (Option Value)} {oc3 kV3 dc3 pm3 cd3 ct3 : Value} (a3 : PySem.W.nsIn K mainGlobals "fraction_times" = some (some (.ref f3))) (l3 : K.lookup f3 = some ⟨oc3, od3, .func (PySem.W.fnOf "fraction_times" "fraction_times" (defArgs s_fraction_times) (defBody s_fraction_times) (defScope s_fraction_times) .none kV3 dc3 pm3 an3 cd3 ct3), sl3⟩) (c3 : PySem.W.codeIn K cd3 "fraction_times" = true) (k3 : PySem.W.keepIn K (.ref f3) = true)
    {f4 : Addr} {od4 an4 : Option Addr} {sl4 : Array (Option Value)} {oc4 kV4 dc4 pm4 cd4 ct4 : Value} (a4 : PySem.W.nsIn K mainGlobals "fraction_over" = some (some (.ref f4))) (l4 : K.lookup f4 = some ⟨oc4, od4, .func (PySem.W.fnOf "fraction_over" "fraction_over" (defArgs s_fraction_over) (defBody s_fraction_over) (defScope s_fraction_over) .none kV4 dc4 pm4 an4 cd4 ct4), sl4⟩) (c4 : PySem.W.codeIn K cd4 "fraction_over" = true) (k4 : PySem.W.keepIn K (.ref f4) = true)
    {f5 : Addr} {od5 an5 : Option Addr} {sl5 : Array (Option Value)} {oc5 kV5 dc5 pm5 cd5 ct5 : Value} (a5 : PySem.W.nsIn K mainGlobals "evened" = some (some (.ref f5))) (l5 : K.lookup f5 = some ⟨oc5, od5, .func (PySem.W.fnOf "evened" "evened" (defArgs s_evened) (defBody s_evened) (defScope s_evened) .none kV5 dc5 pm5 an5 cd5 ct5), sl5⟩) (c5 : PySem.W.codeIn K cd5 "evened" = true) (k5 : PySem.W.keepIn K (.ref f5) = true)
    {f6 : Addr} {od6 an6 : Option Addr} {sl6 : Array (Option Value)} {oc6 kV6 dc6 pm6 cd6 ct6 : Value} (a6 : PySem.W.nsIn K mainGlobals "powers_of" = some (some (.ref f6))) (l6 : K.lookup f6 = some ⟨oc6, od6, .func (PySem.W.fnOf "powers_of" "powers_of" (defArgs s_powers_of) (defBody s_powers_of) (defScope s_powers_of) .none kV6 dc6 pm6 an6 cd6 ct6), sl6⟩) (c6 : PySem.W.codeIn K cd6 "powers_of" = true) (k6 : PySem.W.keepIn K (.ref f6) = true)
    {f7 : Addr} {od7 an7 : Option Addr} {sl7 : Array (Option Value)} {oc7 kV7 dc7 pm7 cd7 ct7 : Value} (a7 : PySem.W.nsIn K mainGlobals "added" = some (some (.ref f7))) (l7 : K.lookup f7 = some ⟨oc7, od7, .func (PySem.W.fnOf "added" "added" (defArgs s_added) (defBody s_added) (defScope s_added) .none kV7 dc7 pm7 an7 cd7 ct7), sl7⟩) (c7 : PySem.W.codeIn K cd7 "added" = true) (k7 : PySem.W.keepIn K (.ref f7) = true)
    {f8 : Addr} {od8 an8 : Option Addr} {sl8 : Array (Option Value)} {oc8 kV8 dc8 pm8 cd8 ct8 : Value} (a8 : PySem.W.nsIn K mainGlobals "mended_poly" = some (some (.ref f8))) (l8 : K.lookup f8 = some ⟨oc8, od8, .func (PySem.W.fnOf "mended_poly" "mended_poly" (defArgs s_mended_poly) (defBody s_mended_poly) (defScope s_mended_poly) .none kV8 dc8 pm8 an8 cd8 ct8), sl8⟩) (c8 : PySem.W.codeIn K cd8 "mended_poly" = true) (k8 : PySem.W.keepIn K (.ref f8) = true)
    {f9 : Addr} {od9 an9 : Option Addr} {sl9 : Array (Option Value)} {oc9 kV9 dc9 pm9 cd9 ct9 : Value} (a9 : PySem.W.nsIn K mainGlobals "told_part" = some (some (.ref f9))) (l9 : K.lookup f9 = some ⟨oc9, od9, .func (PySem.W.fnOf "told_part" "told_part" (defArgs s_told_part) (defBody s_told_part) (defScope s_told_part) .none kV9 dc9 pm9 an9 cd9 ct9), sl9⟩) (c9 : PySem.W.codeIn K cd9 "told_part" = true) (k9 : PySem.W.keepIn K (.ref f9) = true)
    {f10 : Addr} {od10 an10 : Option Addr} {sl10 : Array (Option Value)} {oc10 kV10 dc10 pm10 cd10 ct10 : Value} (a10 : PySem.W.nsIn K mainGlobals "mended_run" = some (some (.ref f10))) (l10 : K.lookup f10 = some ⟨oc10, od10, .func (PySem.W.fnOf "mended_run" "mended_run" (defArgs s_mended_run) (defBody s_mended_run) (defScope s_mended_run) .none kV10 dc10 pm10 an10 cd10 ct10), sl10⟩) (c10 : PySem.W.codeIn K cd10 "mended_run" = true) (k10 : PySem.W.keepIn K (.ref f10) = true)
    {f11 : Addr} {od11 an11 : Option Addr} {sl11 : Array (Option Value)} {oc11 kV11 dc11 pm11 cd11 ct11 : Value} (a11 : PySem.W.nsIn K mainGlobals "_law_own_bag" = some (some (.ref f11))) (l11 : K.lookup f11 = some ⟨oc11, od11, .func (PySem.W.fnOf "_law_own_bag" "_law_own_bag" (defArgs s__law_own_bag) (defBody s__law_own_bag) (defScope s__law_own_bag) .none kV11 dc11 pm11 an11 cd11 ct11), sl11⟩) (c11 : PySem.W.codeIn K cd11 "_law_own_bag" = true) (k11 : PySem.W.keepIn K (.ref f11) = true)
    {f12 : Addr} {od12 an12 : Option Addr} {sl12 : Array (Option Value)} {oc12 kV12 dc12 pm12 cd12 ct12 : Value} (a12 : PySem.W.nsIn K mainGlobals "_law_draw" = some (some (.ref f12))) (l12 : K.lookup f12 = some ⟨oc12, od12, .func (PySem.W.fnOf "_law_draw" "_law_draw" (defArgs s__law_draw) (defBody s__law_draw) (defScope s__law_draw) .none kV12 dc12 pm12 an12 cd12 ct12), sl12⟩) (c12 : PySem.W.codeIn K cd12 "_law_draw" = true) (k12 : PySem.W.keepIn K (.ref f12) = true)
    {f13 : Addr} {od13 an13 : Option Addr} {sl13 : Array (Option Value)} {oc13 kV13 dc13 pm13 cd13 ct13 : Value} (a13 : PySem.W.nsIn K mainGlobals "_law_pick" = some (some (.ref f13))) (l13 : K.lookup f13 = some ⟨oc13, od13, .func (PySem.W.fnOf "_law_pick" "_law_pick" (defArgs s__law_pick) (defBody s__law_pick) (defScope s__law_pick) .none kV13 dc13 pm13 an13 cd13 ct13), sl13⟩) (c13 : PySem.W.codeIn K cd13 "_law_pick" = true) (k13 : PySem.W.keepIn K (.ref f13) = true)
    {f14 : Addr} {od14 an14 : Option Addr} {sl14 : Array (Option Value)} {oc14 kV14 dc14 pm14 cd14 ct14 : Value} (a14 : PySem.W.nsIn K mainGlobals "_law_gcd" = some (some (.ref f14))) (l14 : K.lookup f14 = some ⟨oc14, od14, .func (PySem.W.fnOf "_law_gcd" "_law_gcd" (defArgs s__law_gcd) (defBody s__law_gcd) (defScope s__law_gcd) .none kV14 dc14 pm14 an14 cd14 ct14), sl14⟩) (c14 : PySem.W.codeIn K cd14 "_law_gcd" = true) (k14 : PySem.W.keepIn K (.ref f14) = true)
    {f15 : Addr} {od15 an15 : Option Addr} {sl15 : Array (Option Value)} {oc15 kV15 dc15 pm15 cd15 ct15 : Value} (a15 : PySem.W.nsIn K mainGlobals "_law_frac" = some (some (.ref f15))) (l15 : K.lookup f15 = some ⟨oc15, od15, .func (PySem.W.fnOf "_law_frac" "_law_frac" (defArgs s__law_frac) (defBody s__law_frac) (defScope s__law_frac) .none kV15 dc15 pm15 an15 cd15 ct15), sl15⟩) (c15 : PySem.W.codeIn K cd15 "_law_frac" = true) (k15 : PySem.W.keepIn K (.ref f15) = true)
    {f16 : Addr} {od16 an16 : Option Addr} {sl16 : Array (Option Value)} {oc16 kV16 dc16 pm16 cd16 ct16 : Value} (a16 : PySem.W.nsIn K mainGlobals "_law_same" = some (some (.ref f16))) (l16 : K.lookup f16 = some ⟨oc16, od16, .func (PySem.W.fnOf "_law_same" "_law_same" (defArgs s__law_same) (defBody s__law_same) (defScope s__law_same) .none kV16 dc16 pm16 an16 cd16 ct16), sl16⟩) (c16 : PySem.W.codeIn K cd16 "_law_same" = true) (k16 : PySem.W.keepIn K (.ref f16) = true)
    {f17 : Addr} {od17 an17 : Option Addr} {sl17 : Array (Option Value)} {oc17 kV17 dc17 pm17 cd17 ct17 : Value} (a17 : PySem.W.nsIn K mainGlobals "_law_some_fraction" = some (some (.ref f17))) (l17 : K.lookup f17 = some ⟨oc17, od17, .func (PySem.W.fnOf "_law_some_fraction" "_law_some_fraction" (defArgs s__law_some_fraction) (defBody s__law_some_fraction) (defScope s__law_some_fraction) .none kV17 dc17 pm17 an17 cd17 ct17), sl17⟩) (c17 : PySem.W.codeIn K cd17 "_law_some_fraction" = true) (k17 : PySem.W.keepIn K (.ref f17) = true)
    {f18 : Addr} {od18 an18 : Option Addr} {sl18 : Array (Option Value)} {oc18 kV18 dc18 pm18 cd18 ct18 : Value} (a18 : PySem.W.nsIn K mainGlobals "_law_some_row" = some (some (.ref f18))) (l18 : K.lookup f18 = some ⟨oc18, od18, .func (PySem.W.fnOf "_law_some_row" "_law_some_row" (defArgs s__law_some_row) (defBody s__law_some_row) (defScope s__law_some_row) .none kV18 dc18 pm18 an18 cd18 ct18), sl18⟩) (c18 : PySem.W.codeIn K cd18 "_law_some_row" = true) (k18 : PySem.W.keepIn K (.ref f18) = true)
    {f19 : Addr} {od19 an19 : Option Addr} {sl19 : Array (Option Value)} {oc19 kV19 dc19 pm19 cd19 ct19 : Value} (a19 : PySem.W.nsIn K mainGlobals "_law_some_case" = some (some (.ref f19))) (l19 : K.lookup f19 = some ⟨oc19, od19, .func (PySem.W.fnOf "_law_some_case" "_law_some_case" (defArgs s__law_some_case) (defBody s__law_some_case) (defScope s__law_some_case) .none kV19 dc19 pm19 an19 cd19 ct19), sl19⟩) (c19 : PySem.W.codeIn K cd19 "_law_some_case" = true) (k19 : PySem.W.keepIn K (.ref f19) = true)
    {f20 : Addr} {od20 an20 : Option Addr} {sl20 : Array (Option Value)} {oc20 kV20 dc20 pm20 cd20 ct20 : Value} (a20 : PySem.W.nsIn K mainGlobals "_law_whole" = some (some (.ref f20))) (l20 : K.lookup f20 = some ⟨oc20, od20, .func (PySem.W.fnOf "_law_whole" "_law_whole" (defArgs s__law_whole) (defBody s__law_whole) (defScope s__law_whole) .none kV20 dc20 pm20 an20 cd20 ct20), sl20⟩) (c20 : PySem.W.codeIn K cd20 "_law_whole" = true) (k20 : PySem.W.keepIn K (.ref f20) = true)
    {f21 : Addr} {od21 an21 : Option Addr} {sl21 : Array (Option Value)} {oc21 kV21 dc21 pm21 cd21 ct21 : Value} (a21 : PySem.W.nsIn K mainGlobals "_law_room" = some (some (.ref f21))) (l21 : K.lookup f21 = some ⟨oc21, od21, .func (PySem.W.fnOf "_law_room" "_law_room" (defArgs s__law_room) (defBody s__law_room) (defScope s__law_room) .none kV21 dc21 pm21 an21 cd21 ct21), sl21⟩) (c21 : PySem.W.codeIn K cd21 "_law_room" = true) (k21 : PySem.W.keepIn K (.ref f21) = true)
    {f22 : Addr} {od22 an22 : Option Addr} {sl22 : Array (Option Value)} {oc22 kV22 dc22 pm22 cd22 ct22 : Value} (a22 : PySem.W.nsIn K mainGlobals "_law_begun" = some (some (.ref f22))) (l22 : K.lookup f22 = some ⟨oc22, od22, .func (PySem.W.fnOf "_law_begun" "_law_begun" (defArgs s__law_begun) (defBody s__law_begun) (defScope s__law_begun) .none kV22 dc22 pm22 an22 cd22 ct22), sl22⟩) (c22 : PySem.W.codeIn K cd22 "_law_begun" = true) (k22 : PySem.W.keepIn K (.ref f22) = true)
    {f23 : Addr} {od23 an23 : Option Addr} {sl23 : Array (Option Value)} {oc23 kV23 dc23 pm23 cd23 ct23 : Value} (a23 : PySem.W.nsIn K mainGlobals "_law_own_run" = some (some (.ref f23))) (l23 : K.lookup f23 = some ⟨oc23, od23, .func (PySem.W.fnOf "_law_own_run" "_law_own_run" (defArgs s__law_own_run) (defBody s__law_own_run) (defScope s__law_own_run) .none kV23 dc23 pm23 an23 cd23 ct23), sl23⟩) (c23 : PySem.W.codeIn K cd23 "_law_own_run" = true) (k23 : PySem.W.keepIn K (.ref f23) = true)
    {f24 : Addr} {od24 an24 : Option Addr} {sl24 : Array (Option Value)} {oc24 kV24 dc24 pm24 cd24 ct24 : Value} (a24 : PySem.W.nsIn K mainGlobals "_law_is_kept" = some (some (.ref f24))) (l24 : K.lookup f24 = some ⟨oc24, od24, .func (PySem.W.fnOf "_law_is_kept" "_law_is_kept" (defArgs s__law_is_kept) (defBody s__law_is_kept) (defScope s__law_is_kept) .none kV24 dc24 pm24 an24 cd24 ct24), sl24⟩) (c24 : PySem.W.codeIn K cd24 "_law_is_kept" = true) (k24 : PySem.W.keepIn K (.ref f24) = true)
    {od25 an25 : Option Addr} {sl25 : Array (Option Value)} {oc25 kV25 dc25 pm25 cd25 ct25 : Value} (a25 : PySem.W.nsIn K mainGlobals "law" = some (some (.ref fL))) (l25 : K.lookup fL = some ⟨oc25, od25, .func (PySem.W.fnOf "law" "law" (defArgs s_law) (defBody s_law) (defScope s_law) .none kV25 dc25 pm25 an25 cd25 ct25), sl25⟩) (c25 : PySem.W.codeIn K cd25 "law" = true) (k25 : PySem.W.keepIn K (.ref fL) = true)
    (z0 : PySem.W.nsIn K mainGlobals "range" = some none)
    (z1 : PySem.W.nsIn K mainGlobals "tuple" = some none)
    (z2 : PySem.W.nsIn K mainGlobals "len" = some none)
    (z3 : PySem.W.nsIn K mainGlobals "zip" = some none)
    (z4 : PySem.W.nsIn K mainGlobals "list" = some none)
    (z5 : PySem.W.nsIn K mainGlobals "reversed" = some none)
    (z6 : PySem.W.nsIn K mainGlobals "int" = some none)
    (z7 : PySem.W.nsIn K mainGlobals "abs" = some none)
    (z8 : PySem.W.nsIn K mainGlobals "isinstance" = some none)
    (z9 : PySem.W.nsIn K mainGlobals "bool" = some none)
    (z10 : PySem.W.nsIn K mainGlobals "str" = some none)
    (z11 : PySem.W.nsIn K mainGlobals "all" = some none)
    (z12 : PySem.W.nsIn K mainGlobals "sum" = some none)
    (z13 : PySem.W.nsIn K mainGlobals "min" = some none)
    (m0 : PySem.W.nsIn K mainGlobals "gcd" = some (some (.builtin "math.gcd")))
    : ∃ fd : FuncData, (∀ (s : Shared) (v : Value), BindsTo s fd ⟨[v], []⟩ [("script", v)]) ∧ ∀ base : Heap, K.In base → base.Ns mainGlobals mg → FnG P w K mg base CX0 6 fa fd ["script"] (lawSp K) := by
  have e := hfa.symm.trans (PySem.W.mg_of X G a25)
  cases e
  have T : Tp K DS ZS MS GS := ⟨List.forall_mem_cons.mpr ⟨⟨⟨f0, _, _, _, _, _, _, _, _, _, a0, l0, c0, k0⟩⟩, List.forall_mem_cons.mpr ⟨⟨⟨f1, _, _, _, _, _, _, _, _, _, a1, l1, c1, k1⟩⟩, List.forall_mem_cons.mpr ⟨⟨⟨f2, _, _, _, _, _, _, _, _, _, a2, l2, c2, k2⟩⟩, List.forall_mem_cons.mpr ⟨⟨⟨f3, _, _, _, _, _, _, _, _, _, a3, l3, c3, k3⟩⟩, List.forall_mem_cons.mpr ⟨⟨⟨f4, _, _, _, _, _, _, _, _, _, a4, l4, c4, k4⟩⟩, List.forall_mem_cons.mpr ⟨⟨⟨f5, _, _, _, _, _, _, _, _, _, a5, l5, c5, k5⟩⟩, List.forall_mem_cons.mpr ⟨⟨⟨f6, _, _, _, _, _, _, _, _, _, a6, l6, c6, k6⟩⟩, List.forall_mem_cons.mpr ⟨⟨⟨f7, _, _, _, _, _, _, _, _, _, a7, l7, c7, k7⟩⟩, List.forall_mem_cons.mpr ⟨⟨⟨f8, _, _, _, _, _, _, _, _, _, a8, l8, c8, k8⟩⟩, List.forall_mem_cons.mpr ⟨⟨⟨f9, _, _, _, _, _, _, _, _, _, a9, l9, c9, k9⟩⟩, List.forall_mem_cons.mpr ⟨⟨⟨f10, _, _, _, _, _, _, _, _, _, a10, l10, c10, k10⟩⟩, List.forall_mem_cons.mpr ⟨⟨⟨f11, _, _, _, _, _, _, _, _, _, a11, l11, c11, k11⟩⟩, List.forall_mem_cons.mpr ⟨⟨⟨f12, _, _, _, _, _, _, _, _, _, a12, l12, c12, k12⟩⟩, List.forall_mem_cons.mpr ⟨⟨⟨f13, _, _, _, _, _, _, _, _, _, a13, l13, c13, k13⟩⟩, List.forall_mem_cons.mpr ⟨⟨⟨f14, _, _, _, _, _, _, _, _, _, a14, l14, c14, k14⟩⟩, List.forall_mem_cons.mpr ⟨⟨⟨f15, _, _, _, _, _, _, _, _, _, a15, l15, c15, k15⟩⟩, List.forall_mem_cons.mpr ⟨⟨⟨f16, _, _, _, _, _, _, _, _, _, a16, l16, c16, k16⟩⟩, List.forall_mem_cons.mpr ⟨⟨⟨f17, _, _, _, _, _, _, _, _, _, a17, l17, c17, k17⟩⟩, List.forall_mem_cons.mpr ⟨⟨⟨f18, _, _, _, _, _, _, _, _, _, a18, l18, c18, k18⟩⟩, List.forall_mem_cons.mpr ⟨⟨⟨f19, _, _, _, _, _, _, _, _, _, a19, l19, c19, k19⟩⟩, List.forall_mem_cons.mpr ⟨⟨⟨f20, _, _, _, _, _, _, _, _, _, a20, l20, c20, k20⟩⟩, List.forall_mem_cons.mpr ⟨⟨⟨f21, _, _, _, _, _, _, _, _, _, a21, l21, c21, k21⟩⟩, List.forall_mem_cons.mpr ⟨⟨⟨f22, _, _, _, _, _, _, _, _, _, a22, l22, c22, k22⟩⟩, List.forall_mem_cons.mpr ⟨⟨⟨f23, _, _, _, _, _, _, _, _, _, a23, l23, c23, k23⟩⟩, List.forall_mem_cons.mpr ⟨⟨⟨f24, _, _, _, _, _, _, _, _, _, a24, l24, c24, k24⟩⟩, fun _ h => nomatch h⟩⟩⟩⟩⟩⟩⟩⟩⟩⟩⟩⟩⟩⟩⟩⟩⟩⟩⟩⟩⟩⟩⟩⟩⟩, List.forall_mem_cons.mpr ⟨z0, List.forall_mem_cons.mpr ⟨z1, List.forall_mem_cons.mpr ⟨z2, List.forall_mem_cons.mpr ⟨z3, List.forall_mem_cons.mpr ⟨z4, List.forall_mem_cons.mpr ⟨z5, List.forall_mem_cons.mpr ⟨z6, List.forall_mem_cons.mpr ⟨z7, List.forall_mem_cons.mpr ⟨z8, List.forall_mem_cons.mpr ⟨z9, List.forall_mem_cons.mpr ⟨z10, List.forall_mem_cons.mpr ⟨z11, List.forall_mem_cons.mpr ⟨z12, List.forall_mem_cons.mpr ⟨z13, fun _ h => nomatch h⟩⟩⟩⟩⟩⟩⟩⟩⟩⟩⟩⟩⟩⟩, List.forall_mem_cons.mpr ⟨m0, fun _ h => nomatch h⟩, fun _ h => nomatch h⟩
  have FL := fun_mk (st := s_law) l25 c25 k25
  exact ⟨PySem.W.fnOf "law" "law" (defArgs s_law) (defBody s_law) (defScope s_law) .none kV25 dc25 pm25 an25 cd25 ct25, fun s v => .of_eq rfl, fun base XB GB => law_ok FL sc_law (c_law1 K) (c_law2 K) rfl rfl rfl (gf_law T XB GB) p_law1 p_law2⟩
end Q
open PySem PySem.W PyProof.Rows
set_option maxHeartbeats 0 in
theorem PySem.Challenge.cw_stepsstaycalm_k39_whole_mended_runs_holds : PySem.Challenge.rw_stepsstaycalm_k39_whole_mended_runs.Holds := by
  w_on; o_law; k_head; (case hw => w_witness2)
  k_fill
  refine LV.walkG (l := PySem.Challenge.rw_stepsstaycalm_k39_whole_mended_runs) (n := 63) (k := 6) (x := "script") (CX := fun _ => L2.CX0) (sp := fun w => LV.lawSp _) rfl (by decide) rfl ⟨rfl, by decide, by decide⟩ (fun w h Y => PySem.W.kIn_of Y) ?F (fun _ _ a ns hl ho hS => ⟨a, ns, rfl, hl, ho, hS, fun _ => rfl⟩) (fun _ _ _ _ _ h => h)
  case F =>
    intro w mg fa h KX G hmg
    refine' Q.all_mk KX G hmg ?a0 ?l0 ?c0 ?k0 ?a1 ?l1 ?c1 ?k1 ?a2 ?l2 ?c2 ?k2 ?a3 ?l3 ?c3 ?k3 ?a4 ?l4 ?c4 ?k4 ?a5 ?l5 ?c5 ?k5 ?a6 ?l6 ?c6 ?k6 ?a7 ?l7 ?c7 ?k7 ?a8 ?l8 ?c8 ?k8 ?a9 ?l9 ?c9 ?k9 ?a10 ?l10 ?c10 ?k10 ?a11 ?l11 ?c11 ?k11 ?a12 ?l12 ?c12 ?k12 ?a13 ?l13 ?c13 ?k13 ?a14 ?l14 ?c14 ?k14 ?a15 ?l15 ?c15 ?k15 ?a16 ?l16 ?c16 ?k16 ?a17 ?l17 ?c17 ?k17 ?a18 ?l18 ?c18 ?k18 ?a19 ?l19 ?c19 ?k19 ?a20 ?l20 ?c20 ?k20 ?a21 ?l21 ?c21 ?k21 ?a22 ?l22 ?c22 ?k22 ?a23 ?l23 ?c23 ?k23 ?a24 ?l24 ?c24 ?k24 ?a25 ?l25 ?c25 ?k25 ?z0 ?z1 ?z2 ?z3 ?z4 ?z5 ?z6 ?z7 ?z8 ?z9 ?z10 ?z11 ?z12 ?z13 ?m0
    (case a0 => k_is); (case l0 => k_is); (case c0 => k_is); (case k0 => k_is); (case a1 => k_is); (case l1 => k_is); (case c1 => k_is); (case k1 => k_is); (case a2 => k_is); (case l2 => k_is); (case c2 => k_is); (case k2 => k_is); (case a3 => k_is); (case l3 => k_is); (case c3 => k_is); (case k3 => k_is); (case a4 => k_is); (case l4 => k_is); (case c4 => k_is); (case k4 => k_is); (case a5 => k_is); (case l5 => k_is); (case c5 => k_is); (case k5 => k_is); (case a6 => k_is); (case l6 => k_is); (case c6 => k_is); (case k6 => k_is); (case a7 => k_is); (case l7 => k_is); (case c7 => k_is); (case k7 => k_is); (case a8 => k_is); (case l8 => k_is); (case c8 => k_is); (case k8 => k_is); (case a9 => k_is); (case l9 => k_is); (case c9 => k_is); (case k9 => k_is); (case a10 => k_is); (case l10 => k_is); (case c10 => k_is); (case k10 => k_is); (case a11 => k_is); (case l11 => k_is); (case c11 => k_is); (case k11 => k_is); (case a12 => k_is); (case l12 => k_is); (case c12 => k_is); (case k12 => k_is); (case a13 => k_is); (case l13 => k_is); (case c13 => k_is); (case k13 => k_is); (case a14 => k_is); (case l14 => k_is); (case c14 => k_is); (case k14 => k_is); (case a15 => k_is); (case l15 => k_is); (case c15 => k_is); (case k15 => k_is); (case a16 => k_is); (case l16 => k_is); (case c16 => k_is); (case k16 => k_is); (case a17 => k_is); (case l17 => k_is); (case c17 => k_is); (case k17 => k_is); (case a18 => k_is); (case l18 => k_is); (case c18 => k_is); (case k18 => k_is); (case a19 => k_is); (case l19 => k_is); (case c19 => k_is); (case k19 => k_is); (case a20 => k_is); (case l20 => k_is); (case c20 => k_is); (case k20 => k_is); (case a21 => k_is); (case l21 => k_is); (case c21 => k_is); (case k21 => k_is); (case a22 => k_is); (case l22 => k_is); (case c22 => k_is); (case k22 => k_is); (case a23 => k_is); (case l23 => k_is); (case c23 => k_is); (case k23 => k_is); (case a24 => k_is); (case l24 => k_is); (case c24 => k_is); (case k24 => k_is); (case a25 => k_is); (case l25 => k_is); (case c25 => k_is); (case k25 => k_is); (case z0 => k_is); (case z1 => k_is); (case z2 => k_is); (case z3 => k_is); (case z4 => k_is); (case z5 => k_is); (case z6 => k_is); (case z7 => k_is); (case z8 => k_is); (case z9 => k_is); (case z10 => k_is); (case z11 => k_is); (case z12 => k_is); (case z13 => k_is); (case m0 => k_is)
